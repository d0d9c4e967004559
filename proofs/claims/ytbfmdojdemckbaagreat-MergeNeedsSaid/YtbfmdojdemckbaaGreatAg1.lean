/- The evaluator: values, heap, operations; what its values stand for in memory; its operations are sound. -/
import Derived.Calls
import Derived.Laws.Sem
import Derived.Laws.World
import Derived.Laws.Cells
import Derived.Laws.StructEq
import Derived.Laws.Concat
import Derived.IntWalk
open Array renaming ext'→mf,getElem?_eq_none→vh,getElem?_modify→B0,getElem?_setIfInBounds→w9,getElem?_toList→yX,length_toList→tZ
open Bool renaming and_eq_true→df,false_eq_true→rB,or_eq_true→t6,rec→n8,true_and→iq
open Go.Builtin renaming append_→sG,clear_→t7,copy_→xa,firstCells→pR,lenOf→t8,len_→sH,nextslicecap→B4
open List renaming all_cons→li,all_eq_true→oc,drop_zero→nH,filter_cons→yY,getElem?_append_left→pS,getElem?_append_right→qF,getElem?_drop→sI,getElem?_eq_getElem→j2,getElem?_eq_none→jS,getElem?_take→vl,length_append→dw,length_cons→aR,length_drop→ua,length_nil→aY,length_take→qG,mem_of_getElem?→kE,mem_of_mem_drop→vn,mem_of_mem_take→sM,nil_append→cy,range'_succ→ub,take_append_drop→oe,take_of_length_le→xe
open List.cons renaming injEq→od
open Nat renaming add_assoc→o0,add_mul→nI,add_zero→cQ,beq→bo,ble→cK,blt→cg,eq_of_beq_eq_true→iI,eq_zero_or_pos→uc,le_of_ble_eq_true→iu,le_refl→bK,le_trans→gN,lt_irrefl→ff,lt_of_lt_of_le→iv,lt_or_ge→iJ,min_eq_left→xg,mul_le_mul_right→vr,succ_mul→vu,zero_add→aQ,zero_le→iK
open Go.Op renaming bytesLess→iE,equalIn→ue
open Option renaming bind_eq_some_iff→aN,map_some→rI
open Option.some renaming injEq→bp
open Prod.mk renaming injEq→bX
open Go.Result renaming andThen_ok→je
namespace Go.Ag
theorem cT.{u} {α:Sort u} (a b:α):cond true a b=a:=rfl
theorem cF.{u} {α:Sort u} (a b:α):cond false a b=b:=rfl
theorem bS.{u} {α:Type u} [BEq α] [ReflBEq α] (a:α):(a==a)=true:=beq_self_eq_true a
theorem tA(p:Prop):(True∧p)=p:=true_and p
theorem dT(h:Decidable True):@decide True h=true:=decide_true h
noncomputable section
inductive fZ where
 |full
 |own (n:Nat)
 |no
 deriving Inhabited
inductive aj where
 |bool (b:Bool)
 |int (k:IntKind) (n:Int)
 |str (s:List UInt8)
 |agg (cs:List aj)
 |tup (vs:List aj)
 |nilp
 |ptr (n off:Nat)
 |lref (t g off:Nat)
 |ro (cs:List aj)
 |nils
 |list (sz:Nat) (xs:List aj) (r:fZ)
 |arr (sz n off len lcap:Nat)
 |nilm
 |map (n:Nat)
 |nilf
 |func (fn:Fn) (first captured:List aj)
 |nili
 |iface (t:TypeId) (v:aj)
 |yld (n:Nat)
 |roz (cs:List aj)
 deriving Inhabited
def aj.cells:aj->List aj
 | .agg cs=>cs
 |v=>[v]
def aj.clean:aj->Bool
 | .lref _ _ _=>false
 | .tup _=>false
 |_=>true
def iB:aj:=.tup []
structure dx where
 key:aj
 val:aj
 born:Nat
 deriving Inhabited
inductive bD (α:Type) where
 |nil
 |node (l:bD α) (v:Option α) (r:bD α)
 deriving Inhabited
inductive Ex where
 |normal
 |exit (id:Nat)
 |ret
 deriving Inhabited
inductive bR where
 |cells (cs:List aj)
 |tok
 |map (es:List dx) (clock:Nat)
 |iter (m:Option Nat) (since:Nat) (seen:List Nat) (stepped:Nat)
 |loop (f:FuncId) (env:bD aj) (size:Nat) (ps:List Tmp) (a b:Code) (p:Option Ex)
 deriving Inhabited
namespace bD
variable {α:Type}
def get (t:bD α):Nat->Option α:=
 @bD.rec α (fun _=>Nat->Option α) (fun _=>none)
  (fun _ v _ il ir n=> @n8 (fun _=>Option α) (@n8 (fun _=>Option α) (ir (n / 2-1)) (il (n / 2)) (bo (n % 2) 1)) v (bo n 0)) t
def one (x:Option α) (f:Nat):Nat->bD α:=
 @Nat.rec (fun _=>Nat->bD α) (fun _=>.node .nil x .nil)
  (fun _ ih n=> @n8 (fun _=>bD α) (@n8 (fun _=>bD α) (.node .nil none (ih (n / 2-1))) (.node (ih (n / 2)) none .nil) (bo (n % 2) 1)) (.node .nil x .nil) (bo n 0)) f
def set (t:bD α) (n:Nat) (x:Option α):bD α:=
 @bD.rec α (fun _=>Nat->bD α) (fun n=>one x n n)
  (fun l v r il ir n=> @n8 (fun _=>bD α) (@n8 (fun _=>bD α) (.node l v (ir (n / 2-1))) (.node (il (n / 2)) v r) (bo (n % 2) 1)) (.node l x r) (bo n 0)) t n
def all (p:α->Bool) (t:bD α):Bool:=
 @bD.rec α (fun _=>Bool) true (fun _ v _ il ir=>(match v with|none=>true|some x=>p x)&&(il&&ir)) t
end bD
structure St where
 heap:bD bR
 next:Nat
 minw:Nat
 ci:Nat
 deriving Inhabited
abbrev bt:=List (Nat×Nat)
def eA:bt->Nat->Bool
 | [],_=>false
 |(a,b)::m,n=>(cK a n&&cg n b)||eA m n
def St.get (s:St) (mk:bt) (n:Nat):Option bR:=bif eA mk n then none else s.heap.get n
def St.put (s:St) (n:Nat) (o:Option bR):St:= {heap:=s.heap.set n o,next:=s.next,minw:=bif cK s.minw n then s.minw else n,ci:=s.ci }
def St.new (s:St) (o:bR):St:= {heap:=s.heap.set s.next (some o),next:=s.next+1,minw:=s.minw,ci:=s.ci }
abbrev Loc:=List (Nat×Nat×List aj)
def Loc.gen:Loc->Nat->Nat
 | [],_=>0
 |(k,g,_)::l,n=>bif bo k n then g else Loc.gen l n
def Loc.get:Loc->Nat->Nat->Option (List aj)
 | [],_,_=>none
 |(k,g,c)::l,n,h=>bif bo k n then bif bo g h then some c else none else Loc.get l n h
def Loc.set:Loc->Nat->Nat->List aj->Loc
 | [],n,h,c=>[(n,h,c)]
 |(k,g,d)::l,n,h,c=>bif bo k n then(k,h,c)::l else(k,g,d)::Loc.set l n h c
abbrev bq:=bD aj
structure Fr where
 env:bq
 size:Nat
 loc:Loc
 deriving Inhabited
def Gz:Option aj->aj
 |some v=>v
 |none=>iB
def ay (e:bq) (t:Nat):aj:=Gz (e.get t)
def iX:List aj->Nat->aj
 | [],_=>iB
 |x::_,0=>x
 |_::l,n+1=>iX l n
def cZ:Nat->List aj->bq
 |_,[]=>.nil
 |n,v::l=>(cZ (n+1) l).set n (some v)
def gD:Value->Option aj
 | .bool b=>some (.bool b)
 | .int k n=>some (.int k n)
 | .string s=>some (.str s.data.toList)
 | .pointer none=>some .nilp
 | .slice none 0 0=>some .nils
 | .map none=>some .nilm
 | .nilFunc=>some .nilf
 | .nilIface=>some .nili
 |_=>none
def yw:List Value->Option (List aj)
 | []=>some []
 |v::l=>(gD v).bind fun a=>(yw l).bind fun r=>some (a::r)
def ofValue:Value->Option aj
 | .agg cs=>(yw cs.toList).bind fun l=>some (.agg l)
 |v=>gD v
def ev (env:bq):Operand->Option aj
 | .tmp t=>some (ay env t)
 | .const v=>ofValue v
 | .func f=>some (.func (.func f) [] [])
 | .global _=>none
def evc (env:bq) (x:Operand):Option aj:=(ev env x).bind fun v=>bif v.clean then some v else none
def evcs (env:bq):List Operand->Option (List aj)
 | []=>some []
 |x::l=>(evc env x).bind fun v=>(evcs env l).bind fun r=>some (v::r)
section
variable (P:Program)
def xT (t:TypeId):Option Bool:=
 (P.underlying t).bind fun
  | .struct _=>some true
  | .array _ _=>some true
  |_=>some false
def fQ (t:TypeId):Option Nat:=(P.info? t).bind fun i=>some i.size
def CI (t:TypeId):Option Nat:=(P.info? t).bind fun i=>some i.bytes
def fF (t:TypeId):Option aj:=(P.info? t).bind fun i=>i.zero.bind ofValue
def cut (cs:List aj) (off n:Nat):Option (List aj):=
 let r:=(cs.drop off).take n
 bif bo r.length n then some r else none
def fK (t:TypeId) (cs:List aj) (off:Nat):Option aj:=
 (xT P t).bind fun b=>bif b then(fQ P t).bind fun n=>(cut cs off n).bind fun r=>some (.agg r)
  else match cs.drop off with
   |v::_=>some v
   | []=>none
def dl (cs:List aj) (off:Nat) (new:List aj):Option (List aj):=
 bif cK (off+new.length) cs.length then some (cs.take off++(new++cs.drop (off+new.length))) else none
end
section
variable (P:Program) (mk:bt) (ch:Nat->Nat) (kmax:Nat->Nat)
def lY (t:TypeId) (a:aj) (loc:Loc) (s:St):Option aj:=
 match a with
 | .lref l g off=>(loc.get l g).bind fun cs=>fK P t cs off
 | .ptr n off=>(s.get mk n).bind fun
   | .cells cs=>fK P t cs off
   |_=>none
 | .ro cs=>fK P t cs 0
 |_=>none
def qC (t:TypeId) (a v:aj) (loc:Loc) (s:St):Option (Loc×St):=
 (fQ P t).bind fun n=>bif bo v.cells.length n&&cg 0 n then
  match a with
  | .lref l g off=>(loc.get l g).bind fun cs=>(dl cs off v.cells).bind fun cs'=>some (loc.set l g cs',s)
  | .ptr m off=>(s.get mk m).bind fun
    | .cells cs=>(dl cs off v.cells).bind fun cs'=>some (loc,s.put m (some (.cells cs')))
    |_=>none
  |_=>none
 else none
def ee (place:Nat->Option (Nat×Nat)) (env:bq) (cells:List aj):List (Nat×Operand)->Option (List aj)
 | []=>some cells
 |(i,x)::rest=>(evc env x).bind fun v=>(place i).bind fun(off,size)=>
  bif bo v.cells.length size then(dl cells off v.cells).bind fun c=>ee place env c rest else none
def yy:List Field->Option (List (Nat×Nat))
 | []=>some []
 |f::fs=>(fQ P f.type).bind fun n=>(yy fs).bind fun r=>some ((f.offset,n)::r)
def gQ (t:TypeId) (parts:List (Nat×Operand)) (env:bq):Option aj:=
 (fF P t).bind fun z=>(P.underlying t).bind fun
  | .struct fields=>(yy P fields.toList).bind fun pl=>(ee (fun i=>pl[i]?) env z.cells parts).bind fun c=>some (.agg c)
  | .array _ e=>(fQ P e).bind fun n=>(ee (fun i=>some (i*n,n)) env z.cells parts).bind fun c=>some (.agg c)
  |_=>none
def iL (agg:Bool) (size:Nat):Nat->List aj->Option (List aj)
 |0,[]=>some []
 |0,_=>none
 |n+1,cs=>
  bif agg then(cut cs 0 size).bind fun e=>(iL agg size n (cs.drop size)).bind fun r=>some (.agg e::r)
  else match cs with
   |v::rest=>(iL agg size n rest).bind fun r=>some (v::r)
   | []=>none
def cj:List aj->List aj
 | []=>[]
 |v::l=>v.cells++cj l
def gU (z:List aj):Nat->List aj
 |0=>[]
 |n+1=>z++gU z n
structure EI where
 n:Nat
 b:Nat
 g:Bool
 z:aj
 deriving Inhabited
def uu (e:TypeId):Option EI:=
 (fQ P e).bind fun n=>(CI P e).bind fun b=>(xT P e).bind fun g=>(fF P e).bind fun z=>
  bif cg 0 n&&bo z.cells.length n&&(g||bo n 1)&&cg 0 b then some ⟨n,b,g,z⟩ else none
def jG (t:TypeId):Option EI:=
 (P.underlying t).bind fun
  | .slice e=>uu P e
  |_=>none
def ey (t:TypeId) (len:Nat) (parts:List (Nat×Operand)) (mu:Bool) (env:bq) (s:St):Option (aj×St):=
 (jG P t).bind fun E=>bif cK (len*E.n) 16777216 then
  (ee (fun i=>some (i*E.n,E.n)) env (gU E.z.cells len) parts).bind fun cs=>
   bif mu then some (.arr E.n s.next 0 len len,s.new (.cells cs))
   else(iL E.g E.n len cs).bind fun xs=>some (.list E.n xs .full,s)
  else none
def fV:aj->Option Nat
 | .int _ (.ofNat n)=>some n
 |_=>none
def jX (env:bq) (x:Option Operand) (d:Nat):Option Nat:=
 match x with
 |none=>some d
 |some x=>(ev env x).bind fV
def iU (loc:Loc) (t:TypeId) (x i:aj):Option aj:=
 (fV i).bind fun i=>(P.underlying t).bind fun
  | .array len e=>(fQ P e).bind fun n=>bif cg i len then
   match x with
   | .lref l g off=>bif bo (loc.gen l) g then some (.lref l g (off+i*n)) else none
   | .ptr m off=>some (.ptr m (off+i*n))
   | .ro cs=>some (.ro (cs.drop (i*n)))
   |_=>none
    else none
  | .slice e=>(fQ P e).bind fun n=>
   match x with
   | .list sz xs _=>bif bo sz n&&cg i xs.length then some (.ro (iX xs i).cells) else none
   | .arr sz m off len _=>bif bo sz n&&cg i len then some (.ptr m (off+i*n)) else none
   |_=>none
  |_=>none
def fO (loc:Loc) (t:TypeId) (x:aj) (f:Nat):Option aj:=
 (P.underlying t).bind fun
  | .struct fields=>(fields[f]?).bind fun fd=>(fQ P fd.type).bind fun n=>bif bo n 0 then none else
   match x with
   | .lref l g off=>bif bo (loc.gen l) g then some (.lref l g (off+fd.offset)) else none
   | .ptr m off=>some (.ptr m (off+fd.offset))
   | .ro cs=>some (.ro (cs.drop fd.offset))
   |_=>none
  |_=>none
def zu (t:TypeId) (x:aj) (f:Nat):Option aj:=
 (P.underlying t).bind fun
  | .struct fields=>(fields[f]?).bind fun fd=>match x with
   | .agg cs=>fK P fd.type cs fd.offset
   |_=>none
  |_=>none
def qT (t:TypeId) (x i:aj):Option aj:=
 (fV i).bind fun i=>(P.underlying t).bind fun
  | .array len e=>(fQ P e).bind fun n=>bif cg i len then match x with
   | .agg cs=>fK P e cs (i*n)
   |_=>none
    else none
  | .string=>match x with
   | .str s=>match s.drop i with
     |b::_=>some (.int .u8 b.toNat)
     | []=>none
   |_=>none
  |_=>none
def kg (t:TypeId) (x:aj) (low high max:Option Operand) (env:bq) (s:St):Option aj:=
 (P.underlying t).bind fun
  | .string=>match x,max with
    | .str b,none=>(jX env high b.length).bind fun h=>(jX env low 0).bind fun l=>
     bif cK l h&&cK h b.length then some (.str ((b.take h).drop l)) else none
    |_,_=>none
  | .slice e=>(fQ P e).bind fun n=>
    match x with
    | .nils=>(jX env high 0).bind fun h=>(jX env low 0).bind fun l=>(jX env max 0).bind fun m=>
     bif bo h 0&&bo l 0&&bo m 0&&(max.isNone||high.isSome) then some .nils else none
    | .list sz xs r=>(jX env high xs.length).bind fun h=>(jX env low 0).bind fun l=>
     bif bo sz n&&cK l h&&cK h xs.length then
      match max with
      |none=>some (.list sz ((xs.take h).drop l) (bif bo h xs.length&&(cg l h||bo l 0) then r else .no))
      |some _=>(jX env max 0).bind fun m=>bif bo m h&&high.isSome then some (.list sz ((xs.take h).drop l) .full) else none
     else none
    | .arr sz m off len lcap=>(jX env high len).bind fun h=>(jX env low 0).bind fun l=>
     bif bo sz n&&cK l h&&cK h len&&max.isNone then some (.arr sz m (off+l*n) (h-l) (lcap-l)) else none
    |_=>none
  | .array len e=>(fQ P e).bind fun n=>
    match x with
    | .ptr m off=>(jX env high len).bind fun h=>(jX env low 0).bind fun l=>(s.get mk m).bind fun
      | .cells cs=>bif cK l h&&cK h len&&max.isNone&&cg 0 (len*n)&&cK (off+len*n) cs.length then some (.arr n m (off+l*n) (h-l) (len-l)) else none
      |_=>none
    |_=>none
  |_=>none
def di (a b:Int):Bool:=decide (a<b)
def gX (a b:Int):Bool:=decide (a<=b)
def bz (a b:Int):Bool:=a==b
def leBytes:List UInt8->List UInt8->Bool:=fun x y=>iE x y||x==y
def wU:aj->aj->Bool
 | .bool a,.bool b=>a==b
 | .int k a,.int k' b=>k==k'&&bz a b
 | .str a,.str b=>a==b
 |_,_=>false
def ur:List aj->List aj->Bool
 | [],[]=>true
 |a::x,b::y=>wU a b&&ur x y
 |_,_=>false
def tC:aj->aj->Bool
 | .agg a,.agg b=>ur a b
 |x,y=>wU x y
def vQ (rec:TypeId->aj->aj->Option Bool) (xs ys:List aj):List Field->Option Bool
 | []=>some true
 |f::fs=>bif f.name== "_" then vQ rec xs ys fs else
  (fK P f.type xs f.offset).bind fun a=>(fK P f.type ys f.offset).bind fun b=>(rec f.type a b).bind fun r=>
   bif r then vQ rec xs ys fs else some false
def xI (rec:TypeId->aj->aj->Option Bool) (e:TypeId) (n:Nat) (xs ys:List aj):Nat->Nat->Option Bool
 |0,_=>some true
 |k+1,i=>(fK P e xs (i*n)).bind fun a=>(fK P e ys (i*n)).bind fun b=>(rec e a b).bind fun r=>
   bif r then xI rec e n xs ys k (i+1) else some false
def kL:Nat->TypeId->aj->aj->Option Bool
 |0,_,_,_=>none
 |d+1,t,x,y=>(P.underlying t).bind fun D=>match D,x,y with
  | .bool,.bool a,.bool b=>some (a==b)
  | .int _,.int k a,.int k' b=>bif k==k' then some (bz a b) else none
  | .string,.str a,.str b=>some (a==b)
  | .struct fs,.agg xs,.agg ys=>bif P.stoodInHeld t then none else vQ P (kL d) xs ys fs.toList
  | .array len e,.agg xs,.agg ys=>(fQ P e).bind fun n=>xI P (kL d) e n xs ys len 0
  | .slice _,.nils,.nils=>some true
  | .slice _,.nils,.list _ _ _=>some false
  | .slice _,.list _ _ _,.nils=>some false
  | .slice _,.nils,.arr _ _ _ _ _=>some false
  | .slice _,.arr _ _ _ _ _,.nils=>some false
  | .map _ _,.nilm,.nilm=>some true
  | .map _ _,.nilm,.map _=>some false
  | .map _ _,.map _,.nilm=>some false
  | .func _ _ _,.nilf,.nilf=>some true
  | .func _ _ _,.nilf,.func _ _ _=>some false
  | .func _ _ _,.func _ _ _,.nilf=>some false
  | .pointer _,.nilp,.nilp=>some true
  | .pointer _,.nilp,.ptr _ _=>some false
  | .pointer _,.ptr _ _,.nilp=>some false
  |_,_,_=>none
def td (t:TypeId) (x y:aj):Option Bool:=
 match x,y with
 | .agg _,.agg _=>bif P.eqGuardType P.depth t then none else kL P 8 t x y
 |_,_=>kL P 8 t x y
def yb (rec:TypeId->aj->Bool) (xs:List aj):List Field->Bool
 | []=>true
 |f::fs=>bif f.name== "_" then yb rec xs fs else
  match fK P f.type xs f.offset with
  |some a=>rec f.type a&&yb rec xs fs
  |none=>false
def AM (rec:TypeId->aj->Bool) (e:TypeId) (n:Nat) (xs:List aj):Nat->Nat->Bool
 |0,_=>true
 |k+1,i=>match fK P e xs (i*n) with
  |some a=>rec e a&&AM rec e n xs k (i+1)
  |none=>false
def tB:Nat->TypeId->aj->Bool
 |0,_,_=>false
 |d+1,t,x=>match P.underlying t,x with
  |some .bool,.bool _=>true
  |some (.int _),.int _ _=>true
  |some .string,.str _=>true
  |some (.struct fs),.agg xs=>yb P (tB d) xs fs.toList
  |some (.array len e),.agg xs=>match fQ P e with
   |some n=>AM P (tB d) e n xs len 0
   |none=>false
  |_,_=>false
def D1 (op:BinOp) (k:IntKind) (a b:Int):Option aj:=
 match op with
 | .add=>some (.int k (k.wrap (a+b)))
 | .sub=>some (.int k (k.wrap (a-b)))
 | .mul=>some (.int k (k.wrap (a*b)))
 | .quo=>bif bz b 0 then none else some (.int k (k.wrap (a.tdiv b)))
 | .rem=>bif bz b 0 then none else some (.int k (a.tmod b))
 | .and=>some (.int k (k.wrap ((BitVec.ofInt k.bits a) &&& (BitVec.ofInt k.bits b)).toNat))
 | .or=>some (.int k (k.wrap ((BitVec.ofInt k.bits a) ||| (BitVec.ofInt k.bits b)).toNat))
 | .xor=>some (.int k (k.wrap ((BitVec.ofInt k.bits a) ^^^ (BitVec.ofInt k.bits b)).toNat))
 | .andNot=>some (.int k (k.wrap ((BitVec.ofInt k.bits a) &&& ~~~(BitVec.ofInt k.bits b)).toNat))
 | .eql=>some (.bool (bz a b))
 | .neq=>some (.bool (!bz a b))
 | .lss=>some (.bool (di a b))
 | .leq=>some (.bool (gX a b))
 | .gtr=>some (.bool (di b a))
 | .geq=>some (.bool (gX b a))
 |_=>none
def G8 (op:BinOp) (a b:List UInt8):Option aj:=
 match op with
 | .add=>bif cK (a.length+b.length) 1073741824 then some (.str (a++b)) else none
 | .eql=>some (.bool (a==b))
 | .neq=>some (.bool (!(a==b)))
 | .lss=>some (.bool (iE a b))
 | .leq=>some (.bool (leBytes a b))
 | .gtr=>some (.bool (!leBytes a b))
 | .geq=>some (.bool (!iE a b))
 |_=>none
def gf (op:BinOp) (t:TypeId) (x y:aj):Option aj:=
 match x,y with
 | .int k a,.int k' b=>match op with
   | .shl=>bif di b 0 then none else some (.int k (k.wrap (a*2 ^ (min b.toNat k.bits))))
   | .shr=>bif di b 0 then none else some (.int k (a.fdiv (2 ^ (min b.toNat k.bits))))
   |_=>bif k==k' then D1 op k a b else none
 | .str a,.str b=>G8 op a b
 |x,y=>match op with
  | .eql=>(td P t x y).bind fun b=>some (.bool b)
  | .neq=>(td P t x y).bind fun b=>some (.bool (!b))
  |_=>none
def w4 (op:UnOp) (x:aj):Option aj:=
 match op,x with
 | .neg,.int k n=>some (.int k (k.wrap (0-n)))
 | .not,.bool b=>some (.bool !b)
 |_,_=>none
def zo (src dst:TypeId) (x:aj):Option aj:=
 (P.underlying src).bind fun _=>(P.underlying dst).bind fun d=>match d,x with
  | .int k,.int _ n=>some (.int k (k.wrap n))
  | .string,.str s=>some (.str s)
  |_,_=>none
def kN (kt:TypeId) (k:aj):List dx->Nat->Option (Option (Nat×dx))
 | [],_=>some none
 |e::es,i=>(kL P 8 kt k e.key).bind fun b=>bif b then some (some (i,e)) else kN kt k es (i+1)
def oO (t:TypeId) (k:aj):Option (TypeId×TypeId):=
 (P.underlying t).bind fun
  | .map kt e=>bif tB P 8 kt k then some (kt,e) else none
  |_=>none
def yj (kt:TypeId) (m k:aj) (s:St):Option (Option (Nat×dx)):=
 match m with
 | .nilm=>some none
 | .map n=>(s.get mk n).bind fun
   | .map es _=>kN P kt k es 0
   |_=>none
 |_=>none
def lZ (t:TypeId) (m k:aj) (ok:Bool) (s:St):Option aj:=
 (oO P t k).bind fun ke=>(fF P ke.2).bind fun z=>(yj P mk ke.1 m k s).bind fun
  |some x=>some (bif ok then .tup [x.2.val,.bool true] else x.2.val)
  |none=>some (bif ok then .tup [z,.bool false] else z)
def mR (t:TypeId) (m k v:aj) (s:St):Option St:=
 (oO P t k).bind fun ke=>match m with
  | .map n=>(s.get mk n).bind fun
    | .map es clock=>(kN P ke.1 k es 0).bind fun
      |some x=>bif tC x.2.key k then some (s.put n (some (.map (es.set x.1 ⟨k,v,x.2.born⟩) clock))) else none
      |none=>some (s.put n (some (.map (es++[⟨k,v,clock⟩]) (clock+1))))
    |_=>none
  |_=>none
def uH (t:TypeId) (m k:aj) (s:St):Option (aj×St):=
 (oO P t k).bind fun ke=>(fF P ke.2).bind fun z=>match m with
  | .map n=>(s.get mk n).bind fun
    | .map es clock=>(kN P ke.1 k es 0).bind fun
      |some x=>bif tC x.2.key k then some (.tup [x.2.val,.int .i64 x.2.born],s.put n (some (.map (es.set x.1 ⟨k,x.2.val,x.2.born⟩) clock))) else none
      |none=>some (.tup [z,.int .i64 clock],s.put n (some (.map (es++[⟨k,z,clock⟩]) (clock+1))))
    |_=>none
  |_=>none
def yK (b:Nat) (v:aj):List dx->Option (List dx)
 | []=>none
 |e::es=>bif bo e.born b then some (⟨e.key,v,e.born⟩::es) else(yK b v es).bind fun r=>some (e::r)
def vO (m stamp v:aj) (s:St):Option St:=
 (fV stamp).bind fun b=>match m with
  | .map n=>(s.get mk n).bind fun
    | .map es clock=>(yK b v es).bind fun es'=>some (s.put n (some (.map es' clock)))
    |_=>none
  |_=>none
def l6 (t:TypeId) (x:aj) (s:St):Option (aj×St):=
 (P.underlying t).bind fun
  | .map _ _=>match x with
    | .nilm=>some (.ptr s.next 0,s.new (.iter none 0 [] 0))
    | .map m=>(s.get mk m).bind fun
      | .map _ clock=>some (.ptr s.next 0,s.new (.iter (some m) clock [] clock))
      |_=>none
    |_=>none
  |_=>none
def dK (seen:List Nat) (es:List dx):List dx:=es.filter (fun e=> !seen.any (bo e.born))
def pL (n m since clock:Nat) (seen:List Nat) (e:dx) (s:St):aj×St:=
 (.tup [.bool true,e.key,e.val],s.put n (some (.iter (some m) since (seen++[e.born]) clock)))
def nV (n m since:Nat) (seen:List Nat) (clock:Nat) (l:List dx) (s:St):Option (aj×St):=
 match l with
 | []=>some (.tup [.bool false],s)
 |e::r=>bif(e::r).all (fun e=>cg e.born since) then
   match r with
   | []=>some (pL n m since clock seen e s)
   |_::_=>bif cK (e::r).length (kmax s.ci) then
     ((e::r)[ch s.ci % (e::r).length]?).bind fun e=>some ((pL n m since clock seen e s).1, { (pL n m since clock seen e s).2 with ci:=s.ci+1 })
    else none
  else none
def kR (it:aj) (isString:Bool) (s:St):Option (aj×St):=
 match it with
 | .ptr n 0=>(s.get mk n).bind fun
   | .iter none _ _ _=>bif isString then none else some (.tup [.bool false],s)
   | .iter (some m) since seen stepped=>bif isString then none else(s.get mk m).bind fun
     | .map es clock=>bif !seen.isEmpty&& !es.isEmpty&&es.all (fun e=>cK stepped e.born) then none
       else nV ch kmax n m since seen clock (dK seen es) s
     |_=>none
   |_=>none
 |_=>none
def se (b:Nat):List dx->Option dx
 | []=>none
 |e::es=>bif bo e.born b then some e else se b es
def qa (it:aj) (s:St):Option aj:=
 match it with
 | .ptr n 0=>(s.get mk n).bind fun
   | .iter (some m) _ seen stepped=>(s.get mk m).bind fun
     | .map es clock=>bif bo clock stepped then
      (seen.getLast?).bind fun b=>(se b es).bind fun e=>some (.tup [e.key,e.val])
       else none
     |_=>none
   |_=>none
 |_=>none
def tD (t:TypeId) (l c:aj) (mu:Bool) (s:St):Option (aj×St):=
 (jG P t).bind fun E=>(fV l).bind fun l=>(fV c).bind fun c=>
  bif cK l c&&cK (c*E.b) 1099511627776&&cK c 1099511627776 then
   bif bo l 0&& !mu then some (.list E.n [] (.own s.next),s.new .tok)
   else some (.arr E.n s.next 0 l l,s.new (.cells (gU E.z.cells l)))
  else none
def ku (agg:Bool) (n:Nat) (x:aj) (s:St):Option (List aj):=
 match x with
 | .nils=>some []
 | .list sz xs _=>bif bo sz n then some xs else none
 | .arr sz m off len _=>bif bo sz n then(s.get mk m).bind fun
   | .cells cs=>(cut cs off (len*n)).bind fun c=>iL agg n len c
   |_=>none
   else none
 |_=>none
def l7 (need bytes:Nat):Bool:=cK ((need*2+1024)*bytes) 140737488355328
def kP (E:EI) (mu:Bool) (xs:List aj) (s:St):Option (aj×St):=
 bif l7 xs.length E.b then
  bif mu then some (.arr E.n s.next 0 xs.length xs.length,s.new (.cells (cj xs)))
  else some (.list E.n xs (.own s.next),s.new .tok)
 else none
def mp (E:EI) (x:aj) (ys:List aj) (mu:Bool) (s:St):Option (aj×St):=
 match x with
 | .nils=>kP E mu ys s
 | .list sz xs .full=>bif bo sz E.n then kP E mu (xs++ys) s else none
 | .list sz xs (.own k)=>(s.get mk k).bind fun
   | .tok=>bif l7 (xs.length+ys.length) E.b&&bo sz E.n then some (.list E.n (xs++ys) (.own s.next),(s.put k none).new .tok) else none
   |_=>none
 | .arr sz m off len lcap=>(s.get mk m).bind fun
   | .cells cs=>bif l7 (len+ys.length) E.b&&bo sz E.n then
    bif bo (off+len*E.n) cs.length then
     some (.arr E.n s.next 0 (len+ys.length) (len+ys.length),(s.put m none).new (.cells (cs.drop off++cj ys)))
    else bif cK (len+ys.length) lcap then
     (dl cs (off+len*E.n) (cj ys)).bind fun cs'=>some (.arr E.n m off (len+ys.length) lcap,s.put m (some (.cells cs')))
    else none
     else none
   |_=>none
 |_=>none
def xV:aj->Bool
 | .nils=>true
 | .list _ _ _=>true
 | .arr _ _ _ _ _=>true
 |_=>false
def j6 (t:TypeId) (x y:aj) (mu:Bool) (s:St):Option (aj×St):=
 (jG P t).bind fun E=>(ku mk E.g E.n y s).bind fun ys=>
  match ys with
  | []=>bif xV x then some (x,s) else none
  |_::_=>mp mk E x ys mu s
def xD (t:TypeId) (x y:aj) (s:St):Option (aj×St):=
 (jG P t).bind fun E=>(ku mk E.g E.n y s).bind fun ys=>
  match x with
  | .nils=>some (.int .i64 0,s)
  | .list _ [] _=>some (.int .i64 0,s)
  | .arr sz m off len _=>bif bo sz E.n then(s.get mk m).bind fun
    | .cells cs=>(dl cs off (cj (ys.take len))).bind fun cs'=>some (.int .i64 (ys.take len).length,s.put m (some (.cells cs')))
    |_=>none
    else none
  |_=>none
def ie (t:TypeId) (x:aj) (s:St):Option aj:=
 (P.underlying t).bind fun d=>match d,x with
  | .string,.str b=>some (.int .i64 b.length)
  | .array n _,_=>some (.int .i64 n)
  | .slice _,.nils=>some (.int .i64 0)
  | .slice _,.list _ xs _=>some (.int .i64 xs.length)
  | .slice _,.arr _ _ _ len _=>some (.int .i64 len)
  | .map _ _,.nilm=>some (.int .i64 0)
  | .map _ _,.map n=>(s.get mk n).bind fun
    | .map es _=>some (.int .i64 es.length)
    |_=>none
  |_,_=>none
def sZ (t:TypeId) (x:aj) (s:St):Option St:=
 match x with
 | .nilm=>some s
 | .nils=>some s
 | .map n=>(s.get mk n).bind fun
   | .map _ clock=>some (s.put n (some (.map [] clock)))
   |_=>none
 | .list _ [] _=>some s
 | .arr sz m off len _=>bif bo len 0 then some s else(jG P t).bind fun E=>
   bif bo sz E.n then(s.get mk m).bind fun
    | .cells cs=>(dl cs off (gU E.z.cells len)).bind fun cs'=>some (s.put m (some (.cells cs')))
    |_=>none
   else none
 |_=>none
def sm (isMax:Bool):aj->List aj->Option aj
 | .int k a,[]=>some (.int k a)
 | .int k a,.int k' b::l=>bif k==k' then sm isMax (.int k (bif isMax then bif di a b then b else a else bif di b a then b else a)) l else none
 | .str a,[]=>some (.str a)
 | .str a,.str b::l=>sm isMax (.str (bif isMax then bif iE a b then b else a else bif leBytes a b then a else b)) l
 |_,_=>none
def mH (t:TypeId):Bool:=
 match P.underlying t with
 |some (.slice _)=>true
 |_=>false
def my (b:Builtin) (argTypes:List TypeId) (mu:Bool) (args:List aj) (s:St):Option (aj×St):=
 match b,argTypes,args with
 | .len,[t],[x]=>(ie P mk t x s).bind fun v=>some (v,s)
 | .append,[t,t2],[x,y]=>bif mH P t2 then j6 P mk t x y mu s else none
 | .copy,[t,_],[x,y]=>xD P mk t x y s
 | .clear,[t],[x]=>(P.underlying t).bind fun _=>(sZ P mk t x s).bind fun s'=>some (.tup [],s')
 | .min,_,x::l=>(sm false x l).bind fun v=>some (v,s)
 | .max,_,x::l=>(sm true x l).bind fun v=>some (v,s)
 |_,_,_=>none
def pj (h:Nat) (dst:Option Tmp) (cs:List aj) (loc:Loc) (s:St):Option (aj×Loc×St):=
 bif bo h 1 then dst.bind fun t=>some (.lref t (loc.gen t+1) 0,loc.set t (loc.gen t+1) cs,s)
 else some (.ptr s.next 0,loc,s.new (.cells cs))
def gi (x:Option aj) (l:Loc) (s:St):Option (aj×Loc×St):=x.bind fun a=>some (a,l,s)
def ii (x:Option (aj×St)) (l:Loc):Option (aj×Loc×St):=x.bind fun r=>some (r.1,l,r.2)
def mN (x:Option St) (l:Loc):Option (aj×Loc×St):=x.bind fun s=>some (iB,l,s)
def nR (hint:Tmp->Nat):Option Tmp->Nat
 |some t=>hint t
 |none=>0
def tJ (env:bq) (c a b:Operand):Option aj:=
 (ev env c).bind fun
  | .bool true=>ev env a
  | .bool false=>ev env b
  |_=>none
def tF (loc:Loc):aj->Option aj
 | .lref a g b=>bif bo (loc.gen a) g then some (.lref a g b) else none
 | .ptr a b=>some (.ptr a b)
 | .ro c=>some (.ro c)
 | .func (.func f) a b=>some (.func (.func f) a b)
 |_=>none
def iy (i:Nat):aj->Option aj
 | .tup l=>l[i]?
 |_=>none
def pz (env:bq) (fn:Fn) (first captured:Array Operand):Option aj:=
 match fn with
 | .func f=>(evcs env first.toList).bind fun a=>(evcs env captured.toList).bind fun b=>some (.func (.func f) a b)
 |_=>none
def nl (t:TypeId) (env:bq) (r:Option Operand) (s:St):Option (aj×St):=
 match r with
 |none=>some (.map s.next,s.new (.map [] 0))
 |some x=>(P.underlying t).bind fun
  | .map _ _=>(ev env x).bind fun
    | .int _ _=>some (.map s.next,s.new (.map [] 0))
    |_=>none
  |_=>none
def Ba (hint:Tmp->Nat) (dst:Option Tmp) (e:TypeId) (fr:Fr) (s:St):Option (aj×Loc×St):=
 (fF P e).bind fun z=>pj (nR hint dst) dst z.cells fr.loc s
def Bc (hint:Tmp->Nat) (dst:Option Tmp) (x:Operand) (fr:Fr) (s:St):Option (aj×Loc×St):=
 (evc fr.env x).bind fun a=>pj (nR hint dst) dst a.cells fr.loc s
def wG (t:TypeId) (a:Operand) (fr:Fr) (s:St):Option (aj×Loc×St):=
 (ev fr.env a).bind fun a=>gi (lY P mk t a fr.loc s) fr.loc s
def wH (t:TypeId) (a x:Operand) (fr:Fr) (s:St):Option (aj×Loc×St):=
 (ev fr.env a).bind fun a=>(evc fr.env x).bind fun x=>(qC P mk t a x fr.loc s).bind fun r=>some (iB,r.1,r.2)
def Bb (op:BinOp) (t:TypeId) (x y:Operand) (fr:Fr) (s:St):Option (aj×Loc×St):=
 (evc fr.env x).bind fun x=>(evc fr.env y).bind fun y=>gi (gf P op t x y) fr.loc s
def yx (t:TypeId) (m k x:Operand) (fr:Fr) (s:St):Option (aj×Loc×St):=
 (evc fr.env m).bind fun m=>(evc fr.env k).bind fun k=>(evc fr.env x).bind fun x=>mN (mR P mk t m k x s) fr.loc
def Bf (t:TypeId) (x i:Operand) (ok:Bool) (fr:Fr) (s:St):Option (aj×Loc×St):=
 (evc fr.env x).bind fun x=>(evc fr.env i).bind fun i=>gi (lZ P mk t x i ok s) fr.loc s
def Bg (hint:Tmp->Nat) (dst:Option Tmp) (t:TypeId) (l c:Operand) (fr:Fr) (s:St):Option (aj×Loc×St):=
 (ev fr.env l).bind fun l=>(ev fr.env c).bind fun c=>ii (tD P t l c (bo (nR hint dst) 2) s) fr.loc
def wF (t:TypeId) (x i:Operand) (fr:Fr) (s:St):Option (aj×Loc×St):=
 (ev fr.env x).bind fun x=>(ev fr.env i).bind fun i=>gi (iU P fr.loc t x i) fr.loc s
def Be (t:TypeId) (x i:Operand) (fr:Fr) (s:St):Option (aj×Loc×St):=
 (evc fr.env x).bind fun x=>(ev fr.env i).bind fun i=>gi (qT P t x i) fr.loc s
def Bh (t:TypeId) (m k:Operand) (fr:Fr) (s:St):Option (aj×Loc×St):=
 (evc fr.env m).bind fun m=>(evc fr.env k).bind fun k=>ii (uH P mk t m k s) fr.loc
def Bd (m st x:Operand) (fr:Fr) (s:St):Option (aj×Loc×St):=
 (evc fr.env m).bind fun m=>(evc fr.env st).bind fun st=>(evc fr.env x).bind fun x=>mN (vO mk m st x s) fr.loc
def qZ (hint:Tmp->Nat) (dst:Option Tmp) (c:Call) (fr:Fr) (s:St):Option (aj×Loc×St):=
 match c.callee with
 | .builtin b=>(evcs fr.env c.args.toList).bind fun args=>ii (my P mk b c.argTypes.toList (bo (nR hint dst) 2) args s) fr.loc
 |_=>none
def oS (x:Operand) (g:aj->Option aj) (fr:Fr) (s:St):Option (aj×Loc×St):=
 (ev fr.env x).bind fun a=>gi (g a) fr.loc s
def lI (x:Operand) (g:aj->Option aj) (fr:Fr) (s:St):Option (aj×Loc×St):=
 (evc fr.env x).bind fun a=>gi (g a) fr.loc s
def kJ (hint:Tmp->Nat) (dst:Option Tmp) (op:Op) (fr:Fr) (s:St):Option (aj×Loc×St):=
 match op with
 | .move x=>gi (ev fr.env x) fr.loc s
 | .assign x=>gi (ev fr.env x) fr.loc s
 | .pick c a b=>gi (tJ fr.env c a b) fr.loc s
 | .alloc e=>Ba P hint dst e fr s
 | .box _ x=>Bc hint dst x fr s
 | .build t parts=>gi (gQ P t parts.toList fr.env) fr.loc s
 | .buildSlice t len parts=>ii (ey P t len parts.toList (bo (nR hint dst) 2) fr.env s) fr.loc
 | .load t a=>wG P mk t a fr s
 | .store t a x=>wH P mk t a x fr s
 | .nilCheck x=>oS x (tF fr.loc) fr s
 | .binOp op t x y _=>Bb P op t x y fr s
 | .unOp op _ x=>lI x (w4 op) fr s
 | .convert src dst x=>lI x (zo P src dst) fr s
 | .makeFunc fn first captured=>gi (pz fr.env fn first captured) fr.loc s
 | .makeMap t r=>ii (nl P t fr.env r s) fr.loc
 | .makeSlice t l c=>Bg P hint dst t l c fr s
 | .slice t x lo hi mx=>lI x (fun x=>kg P mk t x lo hi mx fr.env s) fr s
 | .fieldAddr t x f=>oS x (fun x=>fO P fr.loc t x f) fr s
 | .field t x f=>lI x (fun x=>zu P t x f) fr s
 | .indexAddr t x i=>wF P t x i fr s
 | .index t x i=>Be P t x i fr s
 | .lookup t x i ok=>Bf P mk t x i ok fr s
 | .mapUpdate t m k x=>yx P mk t m k x fr s
 | .insert t m k x=>yx P mk t m k x fr s
 | .mapEntry t m k=>Bh P mk t m k fr s
 | .entryStore _ m st x=>Bd mk m st x fr s
 | .range t x=>(evc fr.env x).bind fun x=>ii (l6 P mk t x s) fr.loc
 | .next it isString=>(evc fr.env it).bind fun it=>ii (kR mk ch kmax it isString s) fr.loc
 | .entry it=>lI it (fun it=>qa mk it s) fr s
 | .extract x i=>oS x (iy i) fr s
 | .call c=>qZ P mk hint dst c fr s
 |_=>none
end
def callee (env:bq) (c:Call):Option (FuncId×List aj):=
 match c.callee with
 | .value f=>(ev env f).bind fun
   | .func (.func f) first captured=>(evcs env c.args.toList).bind fun args=>some (f,first++(args++captured))
   |_=>none
 |_=>none
inductive gl where
 |all
 |obj (n:Nat)
 |loc (t:Nat)
 |none
 deriving Inhabited
def tl (env:bq) (a:Operand):gl:=
 match ev env a with
 |some (.lref t _ _)=>.loc t
 |some (.ptr n _)=>.obj n
 |some (.ro _)=>.none
 |_=>.all
def qe (env:bq) (a:Operand):gl:=
 match ev env a with
 |some (.lref t _ _)=>.loc t
 |_=>.none
def xO (hint:Tmp->Nat) (dst:Option Tmp):gl:=
 match dst with
 |some t=>bif bo (hint t) 1 then .loc t else .none
 |none=>.none
def dL (hint:Tmp->Nat) (dst:Option Tmp) (env:bq):Op->gl
 | .load _ a=>tl env a
 | .store _ a _=>tl env a
 | .fieldAddr _ x _=>qe env x
 | .indexAddr _ x _=>qe env x
 | .nilCheck x=>qe env x
 | .move _| .assign _| .pick .. | .build .. | .field .. | .index .. | .binOp .. | .unOp .. | .convert .. | .makeFunc .. | .extract .. =>.none
 | .slice _ x _ _ _=>match ev env x with
   |some (.ptr n _)=>.obj n
   |_=>.none
 | .alloc _=>xO hint dst
 | .box _ _=>xO hint dst
 | .buildSlice .. | .makeMap .. | .makeSlice .. =>.none
 | .call {callee:=.builtin .min, .. }=>.none
 | .call {callee:=.builtin .max, .. }=>.none
 | .call {callee:=.builtin .len,args, .. }=>match args[0]? with
   |some x=>match ev env x with
    |some (.map _)=>.all
    |_=>.none
   |none=>.none
 |_=>.all
def isStore:Op->Bool
 | .store .. =>true
 | .alloc _=>true
 | .box _ _=>true
 |_=>false
def gl.meets:gl->gl->Bool
 | .none,_=>false
 |_,.none=>false
 | .all,.all=>true
 | .all,.obj _=>true
 | .obj _,.all=>true
 | .obj n,.obj m=>bo n m
 | .loc t,.loc u=>bo t u
 |_,_=>false
structure eY where
 i:Nat
 c0:Nat
 c1:Nat
 foot:gl
 loud:Bool
 deriving Inhabited
inductive Rd where
 |ret (v:Option aj)
 |ask (n:Nat) (k:bR->Rd)
def oW (g:Nat->Option bR):Rd->Option aj
 | .ret v=>v
 | .ask n k=>(g n).bind fun o=>oW g (k o)
abbrev uj:=Option (Nat×(List aj->Option (List aj)))
structure cI where
 P:Program
 hint:FuncId->Tmp->Nat
 spec:FuncId->Option (List aj->Option aj)
 ch:Nat->Nat
 kmax:Nat->Nat
 specH:FuncId->Option (List aj->Rd):=fun _=>none
 specW:FuncId->Option (List aj->Option uj):=fun _=>none
def fE (ops:Array Oper) (env:bq) (o:Oper):Bool:=
 match o.guard with
 |none=>true
 |some (j,want)=>match(ops[j]?).bind (·.dst) with
  |some d=>match ay env d with
   | .bool b=>b==want
   |_=>false
  |none=>false
def eZ (fr:Fr) (dst:Option Tmp) (v:aj) (loc:Loc):Option Fr:=
 match dst with
 |some d=>bif cg d fr.size then some ⟨fr.env.set d (some v),fr.size,loc⟩ else none
 |none=>some ⟨fr.env,fr.size,loc⟩
def apN:Operand->Option Nat
 | .tmp t=>some t
 |_=>none
def uG (ops:Array Oper) (o:Oper):List Nat:=
 o.op.operands.toList.filterMap apN++(match o.guard with
  |some (g,_)=>match(ops[g]?).bind (·.dst) with|some d=>[d]|none=>[]
  |none=>[])
def xF (ops:Array Oper) (x y:Oper):Bool:=
 (match x.dst with
  |some d=> !(uG ops y).any (bo d)&&(match y.dst with|some e=> !bo d e|none=>true)
  |none=>true)&&
 (match y.dst with
  |some d=> !(uG ops x).any (bo d)
  |none=>true)
def zk (ops:Array Oper) (x:Oper) (i:Nat):List Oper->List Nat->Bool
 | [],_=>true
 |y::l,bs=>((bs.headD 0).testBit i||xF ops x y)&&zk ops x i l bs.tail
def lR (ops:Array Oper):Nat->List Oper->List Nat->Bool
 |_,[],_=>true
 |i,x::l,bs=>x.after.toList.all (fun e=> !Region.binds .any e||cg e.on i)&&(zk ops x i l bs.tail&&lR ops (i+1) l bs.tail)
def jE (bi:Nat) (rs:List eY) (mk:bt):bt:=
 match rs with
 | []=>mk
 |r::rs=>bif bi.testBit r.i||bo r.c0 r.c1 then jE bi rs mk else(r.c0,r.c1)::jE bi rs mk
def fits (bi:Nat) (foot:gl) (loud:Bool) (rs:List eY):Bool:=
 rs.all fun r=>bi.testBit r.i|| !((loud||r.loud)&&foot.meets r.foot)
section
variable (Q:cI)
def wP (mk:bt) (fr:Fr) (s:St):ResultVar->Option aj
 | .tmp t=>evc fr.env (.tmp t)
 | .cell a t=>lY Q.P mk t (ay fr.env a) fr.loc s
def gL (mk:bt) (fr:Fr) (s:St):List ResultVar->Option (List aj)
 | []=>some []
 |r::l=>(wP Q mk fr s r).bind fun v=>(gL mk fr s l).bind fun vs=>bif v.clean then some (v::vs) else none
def jO:List aj->aj
 | [v]=>v
 |vs=>.tup vs
structure mV where
 ops:FuncId->Array Oper->bt->List Oper->Fr->St->Option (Fr×St)
 draw:FuncId->Array Oper->List Nat->bt->List eY->Nat->List Oper->Fr->St->Option (Fr×St)
 code:FuncId->Code->bt->Fr->St->Option (Ex×Fr×St)
 call:FuncId->List aj->bt->St->Option (aj×St)
def mV.none:mV:=⟨fun _ _ _ _ _ _=>.none,fun _ _ _ _ _ _ _ _ _=>.none,fun _ _ _ _ _=>.none,fun _ _ _ _=>.none⟩
variable (r:mV)
def mz (c:Call) (mk:bt) (fr:Fr) (s:St):Option (aj×Loc×St):=
 (callee fr.env c).bind fun g=>(r.call g.1 g.2 mk s).bind fun v=>some (v.1,fr.loc,v.2)
def yL:List Tmp->List aj->bq->Option bq
 | [],[],e=>some e
 |t::ts,v::vs,e=>yL ts vs (e.set t (some v))
 |_,_,_=>none
def ve (f:FuncId) (env:bq) (size:Nat) (ps:List Tmp) (a b:Code):Ex×Fr×St->Option (aj×bR×St)
 |(.normal,_,s)=>some (.bool true,.loop f env size ps a b none,s)
 |(x,_,s)=>some (.bool false,.loop f env size ps a b (some x),s)
def tY (f:FuncId) (env:bq) (size:Nat) (ps:List Tmp) (a b:Code) (mk:bt):Ex×Fr×St->Option (aj×bR×St)
 |(.normal,fr,s)=>(r.code f b mk fr s).bind (ve f env size ps a b)
 |_=>none
def vf (o:bR) (args:List aj) (mk:bt) (s:St):Option (aj×bR×St):=
 match o with
 | .loop f env size ps a b none=>bif ps.all (fun t=>cg t size) then
  (yL ps args env).bind fun env'=>(r.code f a mk ⟨env',size,[]⟩ s).bind (tY r f env size ps a b mk)
   else none
 |_=>none
def mc (n:Nat) (args:List aj) (mk:bt) (s:St):Option (aj×St):=
 (s.get mk n).bind fun o=>(vf r o args mk (s.put n none)).bind fun x=>some (x.1,x.2.2.put n (some x.2.1))
def yieldee (env:bq) (c:Call):Option (Nat×List aj):=
 match c.callee with
 | .value f=>(ev env f).bind fun
   | .yld n=>(evcs env c.args.toList).bind fun args=>some (n,args)
   |_=>none
 |_=>none
def pO (c:Call) (mk:bt) (fr:Fr) (s:St):Option (aj×Loc×St):=
 (yieldee fr.env c).bind fun g=>(mc r g.1 g.2 mk s).bind fun v=>some (v.1,fr.loc,v.2)
def nh (env:bq) (c:Call):Bool:=
 match c.callee with
 | .value f=>match ev env f with
   |some (.yld _)=>true
   |_=>false
 |_=>false
def fW (f:FuncId) (o:Oper) (mk:bt) (fr:Fr) (s:St):Option (aj×Loc×St):=
 match o.op with
 | .call c=>match c.callee with
   | .builtin _=>qZ Q.P mk (Q.hint f) o.dst c fr s
   |_=>bif nh fr.env c then pO r c mk fr s else mz r c mk fr s
 |op=>kJ Q.P mk Q.ch Q.kmax (Q.hint f) o.dst op fr s
def lJ (f:FuncId) (all:Array Oper) (mk:bt) (l:List Oper) (fr:Fr) (s:St):Option (Fr×St):=
 match l with
 | []=>some (fr,s)
 |o::rest=>
  bif fE all fr.env o then
   (fW Q r f o mk fr s).bind fun x=>(eZ fr o.dst x.1 x.2.1).bind fun fr'=>r.ops f all mk rest fr' x.2.2
  else(eZ fr o.dst iB fr.loc).bind fun fr'=>r.ops f all mk rest fr' s
def St.least (s s':St):St:=⟨s'.heap,s'.next,bif cK s.minw s'.minw then s.minw else s'.minw,s'.ci⟩
def mE (f:FuncId) (all:Array Oper) (bs:List Nat) (mk:bt) (rs:List eY) (i:Nat) (l:List Oper) (fr:Fr) (s:St):Option (Fr×St):=
 match l with
 | []=>some (fr,s)
 |o::rest=>
  bif fE all fr.env o then
   (fW Q r f o (jE (bs.headD 0) rs mk) fr ⟨s.heap,s.next,s.next,s.ci⟩).bind fun x=>
    bif fits (bs.headD 0) (dL (Q.hint f) o.dst fr.env o.op) (cg x.2.2.minw s.next||isStore o.op) rs&&bo s.ci x.2.2.ci then
     (eZ fr o.dst x.1 x.2.1).bind fun fr'=>
      r.draw f all bs.tail mk (⟨i,s.next,x.2.2.next,dL (Q.hint f) o.dst fr.env o.op,cg x.2.2.minw s.next||isStore o.op⟩::rs) (i+1) rest fr' (s.least x.2.2)
    else none
  else(eZ fr o.dst iB fr.loc).bind fun fr'=>r.draw f all bs.tail mk rs (i+1) rest fr' s
def nZ (f:FuncId) (b:Code) (mk:bt):Ex×Fr×St->Option (Ex×Fr×St)
 |(.normal,fr,s)=>r.code f b mk fr s
 |x=>some x
def vL (f:FuncId) (a b:Code) (mk:bt) (fr:Fr) (s:St):aj->Option (Ex×Fr×St)
 | .bool true=>r.code f a mk fr s
 | .bool false=>r.code f b mk fr s
 |_=>none
def oD (id:Nat):Ex×Fr×St->Ex×Fr×St
 |(.exit i,fr,s)=>bif bo i id then(.normal,fr,s) else(.exit i,fr,s)
 |x=>x
def Bt (f:FuncId) (ops:Array Oper) (draw:Bool) (mk:bt) (fr:Fr) (s:St):Option (Ex×Fr×St):=
 (bif draw then bif lR ops 0 ops.toList (Region.before ops).toList then r.draw f ops (Region.before ops).toList mk [] 0 ops.toList fr s else none
  else r.ops f ops mk ops.toList fr s).bind fun x=>some (.normal,x.1,x.2)
def fP:Code->Bool
 | .seq a b=>fP a&&fP b
 | .cond _ a b=>fP a&&fP b
 | .block _ a=>fP a
 | .loop a=>fP a
 | .scope _=>false
 | .rangeFunc _ _ _ _=>false
 |_=>true
def sq:aj->Bool
 | .lref _ _ _=>false
 |_=>true
def uN:Option Ex->Ex
 |none=>.normal
 |some x=>x
def uS (mk:bt) (n:Nat) (fr:Fr) (s:St):Option (Ex×Fr×St):=
 (s.get mk n).bind fun
  | .loop _ _ _ _ _ _ p=>some (uN p,fr,s.put n none)
  |_=>none
def nc (P:Program) (h:FuncId):Bool:=
 match P.funcs[h]? with
 |some fn=>fn.body.isSome
 |none=>false
def sE (f:FuncId) (ps:List Tmp) (a b:Code) (mk:bt) (fr:Fr) (s:St):aj->Option (Ex×Fr×St)
 | .func (.func h) first captured=>bif nc Q.P h&&(fr.env.all sq&&(fP a&&fP b)) then
  (r.call h (first++(.yld s.next::captured)) mk (s.new (.loop f fr.env fr.size ps a b none))).bind fun x=>uS mk s.next fr x.2
   else none
 |_=>none
def s9 (f:FuncId) (c:Code) (mk:bt) (fr:Fr) (s:St):Option (Ex×Fr×St):=
 match c with
 | .skip=>some (.normal,fr,s)
 | .label _=>some (.normal,fr,s)
 | .ret=>some (.ret,fr,s)
 | .exit id=>some (.exit id,fr,s)
 | .seq a b=>(r.code f a mk fr s).bind (nZ r f b mk)
 | .cond x a b=>(ev fr.env x).bind (vL r f a b mk fr s)
 | .block id b=>(r.code f b mk fr s).bind fun x=>some (oD id x)
 | .scope b=>r.code f b mk fr s
 | .loop b=>(r.code f b mk fr s).bind (nZ r f (.loop b) mk)
 | .region _ ops draw=>Bt r f ops draw mk fr s
 | .rangeFunc g ps a b=>(ev fr.env g).bind (sE Q r f ps.toList a b mk fr s)
 |_=>none
def oK (fn:Func) (mk:bt):Ex×Fr×St->Option (aj×St)
 |(.exit _,_,_)=>none
 |(_,fr,s)=>(gL Q mk fr s fn.results.toList).bind fun vs=>some (jO vs,s)
def wQ (s:St) (p:Nat×(List aj->Option (List aj))):bR->Option (aj×St)
 | .cells cs=>(p.2 cs).bind fun cs'=>some (.tup [],s.put p.1 (some (.cells cs')))
 |_=>none
def rc (mk:bt) (s:St):uj->Option (aj×St)
 |none=>some (.tup [],s)
 |some p=>(s.get mk p.1).bind (wQ s p)
def j8 (f:FuncId) (args:List aj) (mk:bt) (s:St):Option (aj×St):=
 match Q.spec f with
 |some sp=>(sp args).bind fun v=>some (v,s)
 |none=>match Q.specH f with
  |some sp=>(oW (s.get mk) (sp args)).bind fun v=>some (v,s)
  |none=>match Q.specW f with
  |some sp=>(sp args).bind (rc mk s)
  |none=>(Q.P.funcs[f]?).bind fun fn=>fn.body.bind fun c=>
   (r.code f c mk ⟨cZ 0 args,bif cK args.length fn.ntmps then fn.ntmps else args.length,[]⟩ s).bind (oK Q fn mk)
def Du:mV:=⟨lJ Q r,mE Q r,s9 Q r,j8 Q r⟩
end
def db (Q:cI):Nat->mV
 |0=>.none
 |n+1=>Du Q (db Q n)
end
namespace bD
variable {α:Type}
theorem get_nil (n:Nat):(bD.nil:bD α).get n=none:=rfl
theorem get_node (l:bD α) (v:Option α) (r:bD α) (n:Nat):
 (bD.node l v r).get n=if n=0 then v else if n % 2=1 then l.get (n / 2) else r.get (n / 2-1):=by
 show @n8 (fun _=>Option α) (@n8 (fun _=>Option α) (r.get (n / 2-1)) (l.get (n / 2)) (bo (n % 2) 1)) v (bo n 0)=_
 by_cases h0:n=0
 ·subst h0;rfl
 ·have e0:bo n 0=false:=by
   cases h:bo n 0
   ·rfl
   ·exact absurd (iI h) h0
  rw[if_neg h0,e0]
  by_cases h1:n % 2=1
  ·rw[if_pos h1,h1];rfl
  ·have e1:bo (n % 2) 1=false:=by
    cases h:bo (n % 2) 1
    ·rfl
    ·exact absurd (iI h) h1
   rw[if_neg h1,e1]
theorem one_zero (x:Option α) (n:Nat):one x 0 n= .node .nil x .nil:=rfl
theorem one_succ (x:Option α) (f n:Nat):
 one x (f+1) n=if n=0 then .node .nil x .nil else if n % 2=1 then .node (one x f (n / 2)) none .nil else .node .nil none (one x f (n / 2-1)):=by
 show @n8 (fun _=>bD α) (@n8 (fun _=>bD α) (.node .nil none (one x f (n / 2-1))) (.node (one x f (n / 2)) none .nil) (bo (n % 2) 1)) (.node .nil x .nil) (bo n 0)=_
 by_cases h0:n=0
 ·subst h0;rfl
 ·have e0:bo n 0=false:=by
   cases h:bo n 0
   ·rfl
   ·exact absurd (iI h) h0
  rw[if_neg h0,e0]
  by_cases h1:n % 2=1
  ·rw[if_pos h1,h1];rfl
  ·have e1:bo (n % 2) 1=false:=by
    cases h:bo (n % 2) 1
    ·rfl
    ·exact absurd (iI h) h1
   rw[if_neg h1,e1]
theorem get_one (x:Option α): ∀(f n m:Nat),n<=f->(one x f n).get m=if m=n then x else none:=by
 intro f
 induction f with
 |zero=>
  intro n m h
  obtain rfl:n=0:=by omega
  rw[one_zero,get_node,get_nil,get_nil]
  by_cases h:m=0<;>simp[h]
 |succ f ih=>
  intro n m h
  rw[one_succ]
  by_cases h0:n=0
  ·subst h0
   rw[if_pos rfl,get_node,get_nil,get_nil]
   by_cases h:m=0<;>simp[h]
  ·rw[if_neg h0]
   by_cases h1:n % 2=1
   ·rw[if_pos h1,get_node,ih _ _ (by omega),get_nil]
    by_cases hm:m=n
    ·subst hm;simp[h0,h1]
    ·rw[if_neg hm]
     by_cases m0:m=0
     ·simp[m0]
     ·by_cases m1:m % 2=1
      ·rw[if_neg m0,if_pos m1,if_neg (by omega)]
      ·simp[m0,m1]
   ·rw[if_neg h1,get_node,ih _ _ (by omega),get_nil]
    by_cases hm:m=n
    ·subst hm;simp[h0,h1]
    ·rw[if_neg hm]
     by_cases m0:m=0
     ·simp[m0]
     ·by_cases m1:m % 2=1
      ·simp[m0,m1]
      ·rw[if_neg m0,if_neg m1,if_neg (by omega)]
theorem set_nil (n:Nat) (x:Option α):(bD.nil:bD α).set n x=one x n n:=rfl
theorem set_node (l:bD α) (v:Option α) (r:bD α) (n:Nat) (x:Option α):
 (bD.node l v r).set n x=if n=0 then .node l x r else if n % 2=1 then .node (l.set (n / 2) x) v r else .node l v (r.set (n / 2-1) x):=by
 show @n8 (fun _=>bD α) (@n8 (fun _=>bD α) (.node l v (r.set (n / 2-1) x)) (.node (l.set (n / 2) x) v r) (bo (n % 2) 1)) (.node l x r) (bo n 0)=_
 by_cases h0:n=0
 ·subst h0;rfl
 ·have e0:bo n 0=false:=by
   cases h:bo n 0
   ·rfl
   ·exact absurd (iI h) h0
  rw[if_neg h0,e0]
  by_cases h1:n % 2=1
  ·rw[if_pos h1,h1];rfl
  ·have e1:bo (n % 2) 1=false:=by
    cases h:bo (n % 2) 1
    ·rfl
    ·exact absurd (iI h) h1
   rw[if_neg h1,e1]
theorem get_set (t:bD α): ∀(n m:Nat) (x:Option α),(t.set n x).get m=if m=n then x else t.get m:=by
 induction t with
 |nil=>intro n m x;rw[set_nil,get_one _ _ _ _ (bK _),get_nil]
 |node l v r il ir=>
  intro n m x
  rw[set_node]
  by_cases h0:n=0
  ·subst h0
   rw[if_pos rfl,get_node,get_node]
   by_cases h:m=0<;>simp[h]
  ·rw[if_neg h0]
   by_cases h1:n % 2=1
   ·rw[if_pos h1,get_node,get_node,il]
    by_cases hm:m=n
    ·subst hm;simp[h0,h1]
    ·rw[if_neg hm]
     by_cases m0:m=0
     ·simp[m0]
     ·by_cases m1:m % 2=1
      ·rw[if_neg m0,if_pos m1,if_neg (by omega),if_neg m0,if_pos m1]
      ·simp[m0,m1]
   ·rw[if_neg h1,get_node,get_node,ir]
    by_cases hm:m=n
    ·subst hm;simp[h0,h1]
    ·rw[if_neg hm]
     by_cases m0:m=0
     ·simp[m0]
     ·by_cases m1:m % 2=1
      ·simp[m0,m1]
      ·rw[if_neg m0,if_neg m1,if_neg (by omega),if_neg m0,if_neg m1]
@[simp] theorem get_set_same (t:bD α) (n:Nat) (x:Option α):(t.set n x).get n=x:=by rw[get_set,if_pos rfl]
end bD
namespace bD
theorem all_get {α:Type} {p:α->Bool}: ∀ {t:bD α},t.all p=true-> ∀ {n:Nat} {x:α},t.get n=some x->p x=true
 | .nil,_,n,x,h=>by cases h
 | .node l v r,h,n,x,hg=>by
   have h:(∀y,v=some y->p y=true)/\l.all p=true/\r.all p=true:=by
    cases v with
    |none=>
     have h:(true&&(l.all p&&r.all p))=true:=h
     simp only[iq,df] at h
     exact⟨fun _ e=>(by cases e),h⟩
    |some z=>
     have h:(p z&&(l.all p&&r.all p))=true:=h
     simp only[df] at h
     exact⟨fun _ e=>(by injection e with e;subst e;exact h.1),h.2⟩
   have hg:(@n8 (fun _=>Option α) (@n8 (fun _=>Option α) (r.get (n / 2-1)) (l.get (n / 2)) (bo (n % 2) 1)) v (bo n 0))=some x:=hg
   cases h0:bo n 0 with
   |true=>rw[h0] at hg;exact h.1 x hg
   |false=>
    rw[h0] at hg
    cases h1:bo (n % 2) 1 with
    |true=>rw[h1] at hg;exact all_get h.2.1 hg
    |false=>rw[h1] at hg;exact all_get h.2.2 hg
end bD
structure Gh where
 at_:Nat->Option Addr
 ro:Nat->Nat->Option aj
 dim:Nat->Option Nat
structure Gh.le (G G':Gh):Prop where
 at_: ∀n a,G.at_ n=some a->G'.at_ n=some a
 ro: ∀b o v,G.ro b o=some v->G'.ro b o=some v
 dim: ∀b d,G.dim b=some d->G'.dim b=some d
theorem Gh.le.refl (G:Gh):G.le G:=⟨fun _ _ h=>h,fun _ _ _ h=>h,fun _ _ h=>h⟩
theorem Gh.le.trans {G G' G'':Gh} (h:G.le G') (h':G'.le G''):G.le G'':=
 ⟨fun n a e=>h'.at_ n a (h.at_ n a e),fun b o v e=>h'.ro b o v (h.ro b o v e),fun b d e=>h'.dim b d (h.dim b d e)⟩
def xm (G:Gh) (sz:Nat) (a:Addr) (len cap:Nat):fZ->Prop
 | .full=>cap=len
 | .own n=>G.at_ n=some ⟨a.block,a.off+len*sz,none⟩/\ ∃d,G.dim a.block=some d/\a.off+cap*sz<=d
 | .no=>True
theorem xm.mono {G G':Gh} (h:G.le G') {sz len cap:Nat} {a:Addr}: ∀ {r:fZ},xm G sz a len cap r->xm G' sz a len cap r
 | .full,e=>e
 | .own _,⟨e,d,hd,hle⟩=>⟨h.at_ _ _ e,d,h.dim _ _ hd,hle⟩
 | .no,_=>trivial
def aj.scal:aj->Bool
 | .agg _=>false
 | .tup _=>false
 | .lref _ _ _=>false
 |_=>true
def dY (l:List aj):Bool:=l.all aj.scal
mutual
inductive VR (G:Gh):aj->Value->Prop
 |bool (b:Bool):VR G (.bool b) (.bool b)
 |int (k:IntKind) (n:Int):VR G (.int k n) (.int k n)
 |str (s:List UInt8):VR G (.str s) (.string ⟨⟨s⟩⟩)
 |agg {cs:List aj} {vs:List Value}:dY cs=true->cU G cs vs->VR G (.agg cs) (.agg ⟨vs⟩)
 |tup {cs:List aj} {vs:List Value}:cU G cs vs->VR G (.tup cs) (.tuple ⟨vs⟩)
 |nilp:VR G .nilp (.pointer none)
 |ptr {n off:Nat} {a:Addr}:G.at_ n=some a->VR G (.ptr n off) (.pointer (some ⟨a.block,a.off+off,none⟩))
 |ro {cs:List aj} {b o:Nat}:(∀i x,cs[i]? =some x->G.ro b (o+i)=some x)->VR G (.ro cs) (.pointer (some ⟨b,o,none⟩))
 |nils:VR G .nils (.slice none 0 0)
 |list {sz:Nat} {xs:List aj} {r:fZ} {a:Addr} {cap:Nat}:(cap=0\/a.spot=none)->0<sz->(∀x∈xs,x.cells.length=sz)->xs.length<=cap->
  (∀i x,(cj xs)[i]? =some x->G.ro a.block (a.off+i)=some x)->xm G sz a xs.length cap r->
  VR G (.list sz xs r) (.slice (some a) xs.length cap)
 |arr {sz n off len lcap:Nat} {a b:Addr} {cap d:Nat}:G.at_ n=some b->a.spot=none->0<sz->len<=lcap->lcap<=cap->
  (cap=0\/(a.block=b.block/\a.off=b.off+off))->G.dim b.block=some d->b.off+off+cap*sz<=d->
  VR G (.arr sz n off len lcap) (.slice (some a) len cap)
 |nilm:VR G .nilm (.map none)
 |map {n:Nat} {a:Addr}:G.at_ n=some a->VR G (.map n) (.map (some a.block))
 |nilf:VR G .nilf .nilFunc
 |func {f:FuncId} {first captured:List aj} {fs cs:List Value}:cU G first fs->cU G captured cs->VR G (.func (.func f) first captured) (.func (.func f) ⟨fs⟩ ⟨cs⟩)
 |nili:VR G .nili .nilIface
 |iface {t:TypeId} {v:aj} {x:Value}:VR G v x->VR G (.iface t v) (.iface t x)
 |yld {n:Nat} {a:Addr}:G.at_ n=some a->VR G (.yld n) (.func (.yield a.block) #[] #[])
 |roz {cs:List aj} {b:Nat}:(∀i x,cs[i]? =some x->G.ro b i=some x)->VR G (.roz cs) (.pointer (some ⟨b,0,none⟩))
inductive cU (G:Gh):List aj->List Value->Prop
 |nil:cU G [] []
 |cons {v:aj} {x:Value} {vs:List aj} {xs:List Value}:VR G v x->cU G vs xs->cU G (v::vs) (x::xs)
end
mutual
theorem VR.mono {G G':Gh} (h:G.le G'): ∀ {v:aj} {x:Value},VR G v x->VR G' v x
 |_,_,.bool b=>.bool b
 |_,_,.int k n=>.int k n
 |_,_,.str s=>.str s
 |_,_,.agg hc hs=>.agg hc (cU.mono h hs)
 |_,_,.tup hs=>.tup (cU.mono h hs)
 |_,_,.nilp=>.nilp
 |_,_,.ptr e=>.ptr (h.at_ _ _ e)
 |_,_,.ro e=>.ro fun i x hx=>h.ro _ _ _ (e i x hx)
 |_,_,.nils=>.nils
 |_,_,.list a b c d e f=>.list a b c d (fun i x hx=>h.ro _ _ _ (e i x hx)) (f.mono h)
 |_,_,.arr a b c d e f g i=>.arr (h.at_ _ _ a) b c d e f (h.dim _ _ g) i
 |_,_,.nilm=>.nilm
 |_,_,.map e=>.map (h.at_ _ _ e)
 |_,_,.nilf=>.nilf
 |_,_,.func a b=>.func (cU.mono h a) (cU.mono h b)
 |_,_,.nili=>.nili
 |_,_,.iface e=>.iface (VR.mono h e)
 |_,_,.yld e=>.yld (h.at_ _ _ e)
 |_,_,.roz e=>.roz fun i x hx=>h.ro _ _ _ (e i x hx)
theorem cU.mono {G G':Gh} (h:G.le G'): ∀ {vs:List aj} {xs:List Value},cU G vs xs->cU G' vs xs
 |_,_,.nil=>.nil
 |_,_,.cons a b=>.cons (VR.mono h a) (cU.mono h b)
end
section
variable {G:Gh}
theorem cU.length {vs:List aj} {xs:List Value} (h:cU G vs xs):vs.length=xs.length:=by
 induction vs generalizing xs with
 |nil=>cases h;rfl
 |cons v vs ih=>cases h with|cons a b=>simp[ih b]
theorem cU.get {vs:List aj} {xs:List Value} (h:cU G vs xs) {i:Nat} {v:aj} (hi:vs[i]? =some v): ∃x,xs[i]? =some x/\VR G v x:=by
 induction vs generalizing xs i with
 |nil=>simp at hi
 |cons u vs ih=>
  cases h with
  |cons a b=>
   cases i with
   |zero=>simp at hi;subst hi;exact⟨_,by simp,a⟩
   |succ i=>simp at hi;obtain⟨x,hx,hv⟩:=ih b hi;exact⟨x,by simpa using hx,hv⟩
theorem cU.append {a b:List aj} {x y:List Value} (h:cU G a x) (h':cU G b y):cU G (a++b) (x++y):=by
 induction a generalizing x with
 |nil=>cases h;simpa using h'
 |cons v a ih=>cases h with|cons p q=>exact .cons p (ih q)
theorem cU.drop {a:List aj} {x:List Value} (h:cU G a x) (n:Nat):cU G (a.drop n) (x.drop n):=by
 induction n generalizing a x with
 |zero=>simpa using h
 |succ n ih=>cases h with
  |nil=>simpa using cU.nil
  |cons p q=>simpa using ih q
theorem cU.take {a:List aj} {x:List Value} (h:cU G a x) (n:Nat):cU G (a.take n) (x.take n):=by
 induction n generalizing a x with
 |zero=>simpa using cU.nil
 |succ n ih=>cases h with
  |nil=>simpa using cU.nil
  |cons p q=>simpa using .cons p (ih q)
theorem VR.cells {v:aj} {x:Value} (h:VR G v x):cU G v.cells x.cells.toList:=by
 cases h<;>first
  |(simpa[aj.cells,Value.cells] using ‹cU G _ _›)
  |(refine .cons ?_ .nil;constructor<;>assumption)
theorem VR.scals_cells {v:aj} {x:Value} (h:VR G v x) (ht: ∀l,v≠ .tup l):dY v.cells=true:=by
 cases h<;>first
  |(exact absurd rfl (ht _))
  |assumption
  |rfl
theorem VR.one {v:aj} {x:Value} (h:VR G v x) (hs:v.scal=true):x.oneCell'=true:=by
 cases h<;>first|rfl|(simp[aj.scal] at hs)
end
structure sS (G:Gh) (e:dx) (m:MapEntry):Prop where
 key:VR G e.key m.key
 val:VR G e.val m.val
 born:e.born=m.born
inductive ix (G:Gh):List dx->List MapEntry->Prop
 |nil:ix G [] []
 |cons {e:dx} {m:MapEntry} {es:List dx} {ms:List MapEntry}:sS G e m->ix G es ms->ix G (e::es) (m::ms)
theorem sS.mono {G G':Gh} (h:G.le G') {e:dx} {m:MapEntry} (x:sS G e m):sS G' e m:=⟨x.key.mono h,x.val.mono h,x.born⟩
theorem ix.mono {G G':Gh} (h:G.le G') {es:List dx} {ms:List MapEntry} (x:ix G es ms):ix G' es ms:=by
 induction x with
 |nil=>exact .nil
 |cons a _ ih=>exact .cons (a.mono h) ih
def J1 (G:Gh):Option Nat->Option Nat->Prop
 |none,none=>True
 |some n,some b=> ∃a,G.at_ n=some a/\a.block=b
 |_,_=>False
def Ex.code:Ex->Code
 | .normal=>.skip
 | .exit id=>.exit id
 | .ret=>.ret
structure xk (G:Gh) (r:Loop) (env:bD aj) (size:Nat) (ps:List Tmp) (a b:Code) (p:Option Ex):Prop where
 state:r.state=(match p with|none=>.ready|some _=>.done)
 pending:r.pending=p.map Ex.code
 size:r.tmps.size=size
 env: ∀t,VR G (ay env t) (r.tmps.getD t undef)
 params:r.params.toList=ps
 assign:r.assign=a
 body:r.body=b
 flatA:fP a=true
 flatB:fP b=true
theorem xk.mono {G G':Gh} (h:G.le G') {r:Loop} {env:bD aj} {size:Nat} {ps:List Tmp} {a b:Code} {p:Option Ex} (x:xk G r env size ps a b p):xk G' r env size ps a b p:=
 ⟨x.state,x.pending,x.size,fun t=>(x.env t).mono h,x.params,x.assign,x.body,x.flatA,x.flatB⟩
def o7 (G:Gh) (w:World) (a:Addr):bR->Prop
 | .cells cs=> ∃C e,w.heap[a.block]? =some (.cells C e (0,0))/\G.dim a.block=some C.size/\ ∀(i:Nat) v,cs[i]? =some v->v.scal=true/\ ∃x,C[a.off+i]? =some x/\VR G v x
 | .tok=> ∃C e,w.heap[a.block]? =some (.cells C e (0,0))
 | .map es clock=> ∃ES:Array MapEntry,w.heap[a.block]? =some (.map ES clock)/\ix G es ES.toList
 | .iter m since seen stepped=>a.off=0/\ ∃m',w.heap[a.block]? =some (.mapIter m' since ⟨seen⟩ stepped)/\J1 G m m'
 | .loop _ env size ps ca cb p=> ∃r:Loop,w.heap[a.block]? =some (.loop r)/\xk G r env size ps ca cb p
theorem o7.mono {G G':Gh} (h:G.le G') {w:World} {a:Addr}: ∀ {o:bR},o7 G w a o->o7 G' w a o
 | .cells _,⟨C,e,hb,hd,hc⟩=>⟨C,e,hb,h.dim _ _ hd,fun i v hi=>let⟨hs,x,hx,hv⟩:=hc i v hi;⟨hs,x,hx,hv.mono h⟩⟩
 | .tok,x=>x
 | .map _ _,⟨ES,hb,hs⟩=>⟨ES,hb,hs.mono h⟩
 | .iter m _ _ _,⟨h0,m',hb,hm⟩=>⟨h0,m',hb,by
  cases m<;>cases m'<;>first|exact hm|(obtain⟨a,ha,hb⟩:=hm;exact⟨a,h.at_ _ _ ha,hb⟩)⟩
 | .loop ..,⟨r,hb,hr⟩=>⟨r,hb,hr.mono h⟩
theorem o7.of_block {G:Gh} {w w':World} {a:Addr} (h:w'.heap[a.block]? =w.heap[a.block]?): ∀ {o:bR},o7 G w a o->o7 G w' a o
 | .cells _,⟨C,e,hb,hd,hc⟩=>⟨C,e,h.trans hb,hd,hc⟩
 | .tok,⟨C,e,hb⟩=>⟨C,e,h.trans hb⟩
 | .map _ _,⟨ES,hb,hs⟩=>⟨ES,h.trans hb,hs⟩
 | .iter _ _ _ _,⟨h0,m',hb,hm⟩=>⟨h0,m',h.trans hb,hm⟩
 | .loop ..,⟨r,hb,hr⟩=>⟨r,h.trans hb,hr⟩
def fy (G:Gh) (h:bD bR) (b:Nat):Prop:= ∃n a,h.get n≠none/\G.at_ n=some a/\a.block=b
structure WR (G:Gh) (h:bD bR) (w:World):Prop where
 obj: ∀n o,h.get n=some o-> ∃a,G.at_ n=some a/\a.spot=none/\o7 G w a o
 sep: ∀n m a b,h.get n≠none->h.get m≠none->G.at_ n=some a->G.at_ m=some b->a.block=b.block->n=m
 ro: ∀b o v,G.ro b o=some v->v.scal=true/\ ∃x,w.cell? ⟨b,o,none⟩=some x/\VR G v x
 apart: ∀n ob a i v,h.get n=some ob->G.at_ n=some a->G.ro a.block i=some v->ob= .tok/\i<a.off
 dim: ∀b d,G.dim b=some d-> ∃C e,w.heap[b]? =some (.cells C e (0,0))/\C.size=d
 below: ∀n a,G.at_ n=some a->a.block<w.heap.size
def oz (w w':World):Prop:=w'.os=w.os/\w'.output=w.output/\w.heap.size<=w'.heap.size/\(∀a,a.block<w.heap.size->w'.frozen? a=w.frozen? a)/\w'.tape=w.tape/\w.drawn<=w'.drawn
theorem oz.refl (w:World):oz w w:=⟨rfl,rfl,bK _,fun _ _=>rfl,rfl,bK _⟩
theorem oz.trans {w w' w'':World} (x:oz w w') (y:oz w' w''):oz w w'':=⟨y.1.trans x.1,y.2.1.trans x.2.1,gN x.2.2.1 y.2.2.1,fun a h=>(y.2.2.2.1 a (iv h x.2.2.1)).trans (x.2.2.2.1 a h),y.2.2.2.2.1.trans x.2.2.2.2.1,gN x.2.2.2.2.2 y.2.2.2.2.2⟩
structure dF (G:Gh) (h:bD bR) (w:World) (G':Gh) (h':bD bR) (w':World) (lo hi:Nat):Prop where
 le:G.le G'
 size:w.heap.size<=w'.heap.size
 keep: ∀b,b<w.heap.size-> ¬fy G h b->w'.heap[b]? =w.heap[b]?
 owns: ∀b,b<w.heap.size->fy G' h' b->fy G h b
 names: ∀n a,G'.at_ n=some a->G.at_ n=none->lo<=n/\n<hi
 cells: ∀b o v,b<w.heap.size->G'.ro b o=some v->G.ro b o=none->fy G h b
 quiet:oz w w'
theorem dF.refl {G:Gh} {h:bD bR} {w:World} {lo hi:Nat}:dF G h w G h w lo hi:=
 ⟨.refl G,bK _,fun _ _ _=>rfl,fun _ _ h=>h,fun n a h h'=>(by rw[h] at h';cases h'),fun b o v _ h h'=>(by rw[h] at h';cases h'),.refl w⟩
theorem dF.trans {G G' G'':Gh} {h h' h'':bD bR} {w w' w'':World} {lo mid hi:Nat} (x:dF G h w G' h' w' lo mid) (y:dF G' h' w' G'' h'' w'' mid hi)
 (l1:lo<=mid) (l2:mid<=hi):dF G h w G'' h'' w'' lo hi where
 le:=x.le.trans y.le
 size:=gN x.size y.size
 keep b hb ho:=(y.keep b (iv hb x.size) fun o=>ho (x.owns b hb o)).trans (x.keep b hb ho)
 owns b hb o:=x.owns b hb (y.owns b (iv hb x.size) o)
 names n a h h0:=by
  cases e:G'.at_ n with
  |none=>have:=y.names n a h e;omega
  |some b=>have:=x.names n b e h0;omega
 cells b o v hb h h0:=by
  cases e:G'.ro b o with
  |none=>exact x.owns b hb (y.cells b o v (iv hb x.size) h e)
  |some u=>exact x.cells b o u hb e h0
 quiet:=x.quiet.trans y.quiet
def ef (w:World) (b:Nat) (o:Obj):World:= {w with heap:=w.heap.setIfInBounds b o }
@[simp] theorem wM (w:World) (b:Nat) (o:Obj):(ef w b o).heap.size=w.heap.size:=by simp[ef]
theorem jn (w:World) (b c:Nat) (o:Obj) (hb:b<w.heap.size):(ef w b o).heap[c]? =if c=b then some o else w.heap[c]? :=by
 simp only[ef,w9]
 by_cases h:b=c
 ·subst h;simp[hb]
 ·simp[h,Ne.symm h]
theorem anR (w:World) (b:Nat) (o o':Obj):ef (ef w b o) b o'=ef w b o':=by
 simp[ef]
theorem anS (w:World) (b:Nat) (o:Obj) (h:w.heap[b]? =some o):ef w b o=w:=by
 have hb:b<w.heap.size:=by
  rcases iJ b w.heap.size with h'|h'
  ·exact h'
  ·simp[vh h'] at h
 have e:w.heap.setIfInBounds b o=w.heap:=by
  apply Array.ext_getElem?
  intro i
  rw[w9]
  by_cases hi:b=i
  ·subst hi;rw[if_pos rfl,if_pos hb,h]
  ·simp[hi]
 unfold ef
 rw[e]
theorem ia {w:World} {b:Nat} {o:Obj} (h:w.heap[b]? =some o):b<w.heap.size:=by
 rcases iJ b w.heap.size with h'|h'
 ·exact h'
 ·simp[vh h'] at h
theorem oE {w:World} {b i:Nat} {C:Array Value} {e:TypeId} {fz:Nat×Nat} (h:w.heap[b]? =some (.cells C e fz)):w.cell? ⟨b,i,none⟩=C[i]? :=by
 simp[World.cell?,h]
theorem aoQ {w:World} {b i:Nat} {C:Array Value} {e:TypeId} {fz:Nat×Nat} {v:Value} (h:w.heap[b]? =some (.cells C e fz)):
 w.setCell ⟨b,i,none⟩ v=ef w b (.cells (C.setIfInBounds i v) e fz):=by
 unfold World.setCell ef
 congr 1
 apply Array.ext_getElem?
 intro j
 rw[B0,w9]
 by_cases hj:b=j
 ·subst hj
  rw[if_pos rfl,if_pos rfl,if_pos (ia h),h]
  simp
 ·simp[hj]
def jx (C:Array Value) (off:Nat):List Value->Array Value
 | []=>C
 |v::l=>jx (C.setIfInBounds off v) (off+1) l
@[simp] theorem aqE (C:Array Value) (off:Nat) (l:List Value):(jx C off l).size=C.size:=by
  induction l generalizing C off with
  |nil=>rfl
  |cons v l ih=>simp[jx,ih]
theorem BX (C:Array Value) (off:Nat) (l:List Value) (i:Nat) (h:off+l.length<=C.size):
 (jx C off l)[i]? =if off<=i/\i<off+l.length then l[i-off]? else C[i]? :=by
 induction l generalizing C off with
 |nil=>simp[jx];intro h1 h2;omega
 |cons v l ih=>
  simp only[aR] at h
  rw[jx,ih _ _ (by simp;omega),w9]
  by_cases h1:off=i
  ·subst h1
   rw[if_neg (by omega),if_pos rfl,if_pos (by omega),if_pos (by simp)]
   simp
  ·by_cases h2:off+1<=i/\i<off+1+l.length
   ·rw[if_pos h2,if_pos (by simp;omega)]
    have:i-off=(i-(off+1))+1:=by omega
    rw[this];simp
   ·rw[if_neg h2,if_neg h1,if_neg (by simp;omega)]
theorem aoF {P:Program} {w:World} {b i:Nat} {C:Array Value} {e:TypeId} {v:Value} (h:w.heap[b]? =some (.cells C e (0,0))) (hi:i<C.size)
 (hv:v.oneCell'=true):(store ⟨b,i,none⟩ v).run P w= .ok () (ef w b (.cells (C.setIfInBounds i v) e (0,0))):=by
 rw[run_store _ _ _ _ _ hv,oE h]
 simp only[Array.getElem?_eq_getElem hi]
 have hf:w.frozen? ⟨b,i,none⟩=false:=by simp[World.frozen?,h]
 rw[hf,aoQ h]
 rfl
theorem mY (b o i:Nat):(⟨b,o,none⟩:Addr).add i=⟨b,o+i,none⟩:=by
 unfold Addr.add
 split
 ·rename_i h;simp[h]
 ·rfl
theorem BB {P:Program} (b o:Nat) (e:TypeId): ∀(vs:List Value) (i:Nat) (w:World) (C:Array Value),w.heap[b]? =some (.cells C e (0,0))->o+i+vs.length<=C.size->
 (∀v∈vs,v.oneCell'=true)->(storeCells ⟨b,o,none⟩ vs i).run P w= .ok () (ef w b (.cells (jx C (o+i) vs) e (0,0))):=by
 intro vs
 induction vs with
 |nil=>intro i w C h _ _;simp[storeCells,jx,anS _ _ _ h]
 |cons v vs ih=>
  intro i w C h hl hv
  simp only[aR] at hl
  rw[storeCells,Sem.run_bind,mY,aoF h (by omega) (hv v (by simp)),je,
   ih (i+1) _ _ (by rw[jn _ _ _ _ (ia h),if_pos rfl]) (by simp;omega) (fun u hu=>hv u (by simp[hu])),anR,jx]
  rfl
section
variable {G:Gh} {h:bD bR} {w:World}
theorem WR.of_heap {w':World} (x:WR G h w) (e:w'.heap=w.heap):WR G h w' where
 obj n o ho:=by
  obtain⟨a,ha,hs,hr⟩:=x.obj n o ho
  exact⟨a,ha,hs,hr.of_block (by rw[e])⟩
 sep:=x.sep
 ro b o v hv:=by
  obtain⟨hs,y,hy,hr⟩:=x.ro b o v hv
  exact⟨hs,y,by rw[<-hy];simp[World.cell?,e],hr⟩
 apart:=x.apart
 dim b d hd:=by rw[e];exact x.dim b d hd
 below n a ha:=by rw[e];exact x.below n a ha
theorem aaV {w w':World} (e:w'.heap=w.heap) (a:Addr):w'.frozen? a=w.frozen? a:=by simp[World.frozen?,e]
theorem dF.of_heap {w':World} {lo hi:Nat} (e:w'.heap=w.heap) (q:w'.os=w.os/\w'.output=w.output/\w'.tape=w.tape/\w.drawn<=w'.drawn):dF G h w G h w' lo hi:=
 ⟨.refl G,by rw[e];exact bK _,fun _ _ _=>by rw[e],fun _ _ h=>h,fun n a h h'=>(by rw[h] at h';cases h'),fun b o v _ h h'=>(by rw[h] at h';cases h'),⟨q.1,q.2.1,by rw[e];exact bK _,fun a _=>aaV e a,q.2.2.1,q.2.2.2⟩⟩
theorem WR.ro_lt (x:WR G h w) {b o:Nat} {v:aj} (hv:G.ro b o=some v):b<w.heap.size:=by
 obtain⟨_,y,hy,_⟩:=x.ro b o v hv
 exact World.block_lt_of_cell? w ⟨b,o,none⟩ hy
theorem WR.owned_lt (x:WR G h w) {b:Nat} (ho:fy G h b):b<w.heap.size:=by
 obtain⟨n,a,_,ha,rfl⟩:=ho;exact x.below n a ha
def Gh.more (G:Gh) (b:Nat) (R:Nat->Option aj) (D:Option Nat):Gh where
 at_:=G.at_
 ro c o:=if c=b then R o else G.ro c o
 dim c:=if c=b then D else G.dim c
def Gh.name (G:Gh) (n:Nat) (a:Addr):Gh where
 at_ m:=if m=n then some a else G.at_ m
 ro:=G.ro
 dim:=G.dim
theorem nL (w:World) (o:Obj) (c:Nat):(w.alloc o).heap[c]? =if c=w.heap.size then some o else w.heap[c]? :=by
 unfold World.alloc
 rw[Array.getElem?_push]
theorem WR.more_le (x:WR G h w) (R:Nat->Option aj) (D:Option Nat):G.le (G.more w.heap.size R D) where
 at_ _ _ e:=e
 ro b o v e:=by
  have:=x.ro_lt e
  simp only[Gh.more];rw[if_neg (by omega)];exact e
 dim b d e:=by
  obtain⟨C,t,hb,_⟩:=x.dim b d e
  have:=ia hb
  simp only[Gh.more];rw[if_neg (by omega)];exact e
theorem Gh.name_le (G:Gh) {n:Nat} (a:Addr) (hn:G.at_ n=none):G.le (G.name n a) where
 at_ m b e:=by
  simp only[Gh.name]
  rw[if_neg (by intro h;subst h;rw[hn] at e;cases e)];exact e
 ro _ _ _ e:=e
 dim _ _ e:=e
def Obj.warm:Obj->Prop
 | .cells _ _ z=>z=(0,0)
 |_=>True
theorem DI {w:World} {b:Nat} {ob:Obj} (h:w.heap[b]? =some ob) (hw:Obj.warm ob) (a:Addr) (ha:a.block=b):w.frozen? a=false:=by
 subst ha
 unfold World.frozen?
 rw[h]
 cases ob<;>first
  |rfl
  |(simp only[Obj.warm] at hw;subst hw;simp)
theorem anU (w:World) {ob:Obj} (hw:Obj.warm ob):oz w (w.alloc ob):=by
 refine⟨rfl,rfl,by simp,fun a _=>?_,rfl,bK _⟩
 by_cases e:a.block=w.heap.size
 ·rw[DI (w:=w.alloc ob) (b:=w.heap.size) (by rw[nL,if_pos rfl]) hw a e]
  unfold World.frozen?
  rw[e,vh (bK _)]
 ·unfold World.frozen?
  rw[nL,if_neg e]
theorem yB (w:World) {b:Nat} {o ob:Obj} (h:w.heap[b]? =some o) (ho:Obj.warm o) (hw:Obj.warm ob):oz w (ef w b ob):=by
 refine⟨rfl,rfl,by simp,fun a _=>?_,rfl,bK _⟩
 by_cases e:a.block=b
 ·rw[DI h ho a e,DI (w:=ef w b ob) (b:=b) (by rw[jn w b b ob (ia h),if_pos rfl]) hw a e]
 ·unfold World.frozen?
  rw[jn w b _ ob (ia h),if_neg e]
theorem o7.warm {a:Addr} {o:bR} (h:o7 G w a o): ∃ob,w.heap[a.block]? =some ob/\Obj.warm ob:=by
 cases o with
 |cells cs=>obtain⟨C,e,h,_⟩:=h;exact⟨_,h,rfl⟩
 |tok=>obtain⟨C,e,h⟩:=h;exact⟨_,h,rfl⟩
 |map es c=>obtain⟨ES,h,_⟩:=h;exact⟨_,h,trivial⟩
 |iter m a b c=>obtain⟨_,m',h,_⟩:=h;exact⟨_,h,trivial⟩
 |loop _ _ _ _ _ _ _=>obtain⟨r,h,_⟩:=h;exact⟨_,h,trivial⟩
theorem WR.alloc (x:WR G h w) (ob:Obj) (R:Nat->Option aj) (D:Option Nat)
 (hR: ∀o v,R o=some v->v.scal=true/\ ∃C e,ob= .cells C e (0,0)/\ ∃y,C[o]? =some y/\VR (G.more w.heap.size R D) v y)
 (hD: ∀d,D=some d-> ∃C e,ob= .cells C e (0,0)/\C.size=d) (hwm:Obj.warm ob:=by trivial):
 WR (G.more w.heap.size R D) h (w.alloc ob)/\ ∀lo hi,dF G h w (G.more w.heap.size R D) h (w.alloc ob) lo hi:=by
 have hle:=x.more_le R D
 refine⟨⟨?_,x.sep,?_,?_,?_,?_⟩,fun lo hi=>⟨hle,by simp,?_,?_,?_,?_,anU w hwm⟩⟩
 ·intro n o ho
  obtain⟨a,ha,hs,hr⟩:=x.obj n o ho
  refine⟨a,ha,hs,(hr.mono hle).of_block ?_⟩
  rw[nL,if_neg (Nat.ne_of_lt (x.below n a ha))]
 ·intro b o v hv
  simp only[Gh.more] at hv
  by_cases hb:b=w.heap.size
  ·rw[if_pos hb] at hv
   obtain⟨hs,C,e,rfl,y,hy,hr⟩:=hR o v hv
   refine⟨hs,y,?_,hr⟩
   subst hb
   rw[oE (by rw[nL,if_pos rfl]),hy]
  ·rw[if_neg hb] at hv
   obtain⟨hs,y,hy,hr⟩:=x.ro b o v hv
   refine⟨hs,y,?_,hr.mono hle⟩
   rw[<-hy];exact World.cell?_alloc_old w ob ⟨b,o,none⟩ hb
 ·intro n ob' a i v hn ha hv
  simp only[Gh.more] at hv
  rw[if_neg (Nat.ne_of_lt (x.below n a ha))] at hv
  exact x.apart n ob' a i v hn ha hv
 ·intro b d hd
  simp only[Gh.more] at hd
  rw[nL]
  by_cases hb:b=w.heap.size
  ·rw[if_pos hb] at hd ⊢
   obtain⟨C,e,rfl,hs⟩:=hD d hd
   exact⟨C,e,rfl,hs⟩
  ·rw[if_neg hb] at hd ⊢
   exact x.dim b d hd
 ·intro n a ha
  have:=x.below n a ha
  simp;omega
 ·intro b hb _;rw[nL,if_neg (Nat.ne_of_lt hb)]
 ·intro b _ ho;exact ho
 ·intro n a e e';simp only[Gh.more] at e;rw[e] at e';cases e'
 ·intro b o v hb e e'
  simp only[Gh.more] at e
  rw[if_neg (Nat.ne_of_lt hb)] at e
  rw[e] at e';cases e'
theorem WR.named (x:WR G h w) {n:Nat} {a:Addr} {o:bR} (hn:G.at_ n=none) (hb:a.block<w.heap.size) (hs:a.spot=none) (ho: ¬fy G h a.block)
 (hr:o7 G w a o) (hc: ∀i v,G.ro a.block i=some v->o= .tok/\i<a.off):WR (G.name n a) (h.set n (some o)) w:=by
 have hle:=G.name_le a hn
 refine⟨?_,?_,?_,?_,x.dim,?_⟩
 ·intro m o' hm
  rw[bD.get_set] at hm
  by_cases e:m=n
  ·rw[if_pos e] at hm
   injection hm with hm;subst hm;subst e
   exact⟨a,by simp[Gh.name],hs,hr.mono hle⟩
  ·rw[if_neg e] at hm
   obtain⟨b,hb,hs,hr⟩:=x.obj m o' hm
   exact⟨b,by simp[Gh.name,e,hb],hs,hr.mono hle⟩
 ·intro m k c d hm hk hc hd he
  rw[bD.get_set] at hm hk
  simp only[Gh.name] at hc hd
  by_cases e1:m=n<;>by_cases e2:k=n
  ·rw[e1,e2]
  ·rw[if_pos e1] at hc
   rw[if_neg e2] at hd hk
   injection hc with hc;subst hc
   exact absurd ⟨k,d,hk,hd,he.symm⟩ ho
  ·rw[if_neg e1] at hc hm
   rw[if_pos e2] at hd
   injection hd with hd;subst hd
   exact absurd ⟨m,c,hm,hc,he⟩ ho
  ·rw[if_neg e1] at hc hm
   rw[if_neg e2] at hd hk
   exact x.sep m k c d hm hk hc hd he
 ·intro b o' v hv
  obtain⟨hs,y,hy,hr⟩:=x.ro b o' v hv
  exact⟨hs,y,hy,hr.mono hle⟩
 ·intro m ob b i v hm hb hv
  rw[bD.get_set] at hm
  simp only[Gh.name] at hb
  by_cases e:m=n
  ·rw[if_pos e] at hm hb
   injection hm with hm;injection hb with hb;subst hm;subst hb
   exact hc i v hv
  ·rw[if_neg e] at hm hb
   exact x.apart m ob b i v hm hb hv
 ·intro m b hb'
  simp only[Gh.name] at hb'
  by_cases e:m=n
  ·rw[if_pos e] at hb';injection hb' with hb';subst hb';exact hb
  ·rw[if_neg e] at hb';exact x.below m b hb'
theorem wI {n b:Nat} {a:Addr} {o:bR} (h':fy (G.name n a) (h.set n (some o)) b):b=a.block\/fy G h b:=by
 obtain⟨m,c,hm,hc,rfl⟩:=h'
 rw[bD.get_set] at hm
 simp only[Gh.name] at hc
 by_cases e:m=n
 ·rw[if_pos e] at hc;injection hc with hc;subst hc;exact .inl rfl
 ·rw[if_neg e] at hc hm;exact .inr ⟨m,c,hm,hc,rfl⟩
theorem WR.killed (x:WR G h w) (n:Nat):WR G (h.set n none) w:=by
 refine⟨?_,?_,x.ro,?_,x.dim,x.below⟩
 ·intro m o hm
  rw[bD.get_set] at hm
  by_cases e:m=n
  ·rw[if_pos e] at hm;cases hm
  ·rw[if_neg e] at hm;exact x.obj m o hm
 ·intro m k c d hm hk
  rw[bD.get_set] at hm hk
  by_cases e1:m=n
  ·rw[if_pos e1] at hm;exact absurd rfl hm
  ·by_cases e2:k=n
   ·rw[if_pos e2] at hk;exact absurd rfl hk
   ·rw[if_neg e1] at hm;rw[if_neg e2] at hk;exact x.sep m k c d hm hk
 ·intro m ob a i v hm
  rw[bD.get_set] at hm
  by_cases e:m=n
  ·rw[if_pos e] at hm;cases hm
  ·rw[if_neg e] at hm;exact x.apart m ob a i v hm
theorem tH {n b:Nat} (h':fy G (h.set n none) b):fy G h b:=by
 obtain⟨m,c,hm,hc,hb⟩:=h'
 rw[bD.get_set] at hm
 by_cases e:m=n
 ·rw[if_pos e] at hm;exact absurd rfl hm
 ·rw[if_neg e] at hm;exact⟨m,c,hm,hc,hb⟩
theorem A7 (x:WR G h w) {n:Nat} {a:Addr} (hl:h.get n≠none) (ha:G.at_ n=some a): ¬fy G (h.set n none) a.block:=by
 rintro⟨m,c,hm,hc,hb⟩
 rw[bD.get_set] at hm
 by_cases e:m=n
 ·rw[if_pos e] at hm;exact absurd rfl hm
 ·rw[if_neg e] at hm;exact e (x.sep m n c a hm hl hc ha hb)
theorem dF.killed {n lo hi:Nat}:dF G h w G (h.set n none) w lo hi:=
 ⟨.refl G,bK _,fun _ _ _=>rfl,fun _ _ o=>tH o,fun n a h h'=>(by rw[h] at h';cases h'),fun b o v _ h h'=>(by rw[h] at h';cases h'),.refl w⟩
theorem WR.changed (x:WR G h w) {n:Nat} {a:Addr} {o o':bR} {ob:Obj} (hl:h.get n=some o) (ha:G.at_ n=some a)
 (hr:o7 G (ef w a.block ob) a o')
 (hro: ∀i v,G.ro a.block i=some v->o'= .tok/\ ∃y,(ef w a.block ob).cell? ⟨a.block,i,none⟩=some y/\w.cell? ⟨a.block,i,none⟩=some y)
 (hd: ∀d,G.dim a.block=some d-> ∃C e,ob= .cells C e (0,0)/\C.size=d) (hwm:Obj.warm ob:=by trivial):
 WR G (h.set n (some o')) (ef w a.block ob)/\ ∀lo hi,dF G h w G (h.set n (some o')) (ef w a.block ob) lo hi:=by
 have hlt:=x.below n a ha
 have hblk: ∀c,(ef w a.block ob).heap[c]? =if c=a.block then some ob else w.heap[c]? :=fun c=>jn w a.block c ob hlt
 have hown: ∀b,fy G (h.set n (some o')) b->fy G h b:=by
  rintro b ⟨m,c,hm,hc,hb⟩
  rw[bD.get_set] at hm
  by_cases e:m=n
  ·subst e;exact⟨m,c,by rw[hl];simp,hc,hb⟩
  ·rw[if_neg e] at hm;exact⟨m,c,hm,hc,hb⟩
 have hget: ∀m,(h.set n (some o')).get m≠none->h.get m≠none:=by
  intro m hm
  rw[bD.get_set] at hm
  by_cases e:m=n
  ·rw[e,hl];simp
  ·rw[if_neg e] at hm;exact hm
 refine⟨⟨?_,fun m k c d hm hk=>x.sep m k c d (hget m hm) (hget k hk),?_,?_,?_,?_⟩,fun lo hi=>⟨.refl G,by simp,?_,fun b _ ho=>hown b ho,fun n a h h'=>(by rw[h] at h';cases h'),fun b o v _ h h'=>(by rw[h] at h';cases h'),by
  obtain⟨c,hc,_,hrc⟩:=x.obj n o hl
  rw[ha] at hc;injection hc with hc;subst hc
  obtain⟨ob0,h1,h2⟩:=hrc.warm
  exact yB w h1 h2 hwm⟩⟩
 ·intro m ob' hm
  rw[bD.get_set] at hm
  by_cases e:m=n
  ·rw[if_pos e] at hm;injection hm with hm;subst hm;subst e
   obtain⟨b,hb,hs,_⟩:=x.obj m o hl
   rw[ha] at hb;injection hb with hb;subst hb
   exact⟨a,ha,hs,hr⟩
  ·rw[if_neg e] at hm
   obtain⟨b,hb,hs,hr'⟩:=x.obj m ob' hm
   refine⟨b,hb,hs,hr'.of_block ?_⟩
   rw[hblk,if_neg]
   intro he
   exact e (x.sep m n b a (by rw[hm];simp) (by rw[hl];simp) hb ha he)
 ·intro b i v hv
  by_cases hb:b=a.block
  ·subst hb
   obtain⟨_,y,hy,hy'⟩:=hro i v hv
   obtain⟨hs,z,hz,hr'⟩:=x.ro a.block i v hv
   rw[hy'] at hz;injection hz with hz;subst hz
   exact⟨hs,y,hy,hr'⟩
  ·obtain⟨hs,z,hz,hr'⟩:=x.ro b i v hv
   refine⟨hs,z,?_,hr'⟩
   rw[<-hz];simp[World.cell?,hblk,hb]
 ·intro m ob' b i v hm hb hv
  rw[bD.get_set] at hm
  by_cases e:m=n
  ·rw[if_pos e] at hm;injection hm with hm;subst hm;subst e
   rw[ha] at hb;injection hb with hb;subst hb
   have h1:=(hro i v hv).1
   have h2:=x.apart m o a i v hl ha hv
   exact⟨h1,h2.2⟩
  ·rw[if_neg e] at hm
   exact x.apart m ob' b i v hm hb hv
 ·intro b d hd'
  rw[hblk]
  by_cases hb:b=a.block
  ·subst hb
   rw[if_pos rfl]
   obtain⟨C,e,rfl,hs⟩:=hd d hd'
   exact⟨C,e,rfl,hs⟩
  ·rw[if_neg hb];exact x.dim b d hd'
 ·intro m b hb;simp;exact x.below m b hb
 ·intro b hb ho
  rw[hblk,if_neg]
  intro he
  exact ho ⟨n,a,by rw[hl];simp,ha,he.symm⟩
end
theorem fN {a b:Nat} (h:bo a b=true):a=b:=iI h
theorem vE {a b:Nat} (h:bo a b=false):a≠b:=Nat.ne_of_beq_eq_false h
theorem nN {a b:Nat} (h:cg a b=true):a<b:=iu h
theorem jC {a b:Nat} (h:cK a b=true):a<=b:=iu h
theorem hQ {α:Type} {c:Bool} {x y:Option α} {a:α} (h:(bif c then x else y)=some a):(c=true/\x=some a)\/(c=false/\y=some a):=by
 cases c<;>simp_all
theorem cq {α:Type} {c:Bool} {x:Option α} {a:α} (h:(bif c then x else none)=some a):c=true/\x=some a:=by
 cases c<;>simp_all
theorem U7 (G:Gh) {c:Value} {v:aj} (h:gD c=some v):VR G v c/\v.scal=true:=by
 unfold gD at h
 split at h<;>first
  |(injection h with h;subst h;exact⟨by constructor,rfl⟩)
  |(cases h)
theorem U8 (G:Gh): ∀ {l:List Value} {vs:List aj},yw l=some vs->cU G vs l/\dY vs=true
 | [],_,h=>by simp[yw] at h;subst h;exact⟨.nil,rfl⟩
 |c::l,_,h=>by
  simp only[yw,aN] at h
  obtain⟨a,ha,r,hr,h⟩:=h
  injection h with h;subst h
  obtain⟨h1,h2⟩:=U7 G ha
  obtain⟨h3,h4⟩:=U8 G hr
  exact⟨.cons h1 h3,by simp only[dY,li,h2,iq];exact h4⟩
theorem sw (G:Gh) {c:Value} {v:aj} (h:ofValue c=some v):VR G v c/\ ∀l,v≠ .tup l:=by
 unfold ofValue at h
 split at h
 ·rename_i cs
  simp only[aN] at h
  obtain⟨l,hl,h⟩:=h
  injection h with h;subst h
  obtain⟨h1,h2⟩:=U8 G hl
  exact⟨by simpa using VR.agg h2 h1,by simp⟩
 ·obtain⟨h1,h2⟩:=U7 G h
  exact⟨h1,fun l e=>by subst e;simp[aj.scal] at h2⟩
def LV (G:Gh) (loc:Loc) (B:Nat->Nat) (v:aj) (x:Value):Prop:=
 match v with
 | .lref t g off=>g<=loc.gen t/\(∃ad,x= .pointer (some ad))/\(g=loc.gen t->x= .pointer (some ⟨B t,off,none⟩))
 |v=>VR G v x
theorem LV.of_VR {G:Gh} {loc:Loc} {B:Nat->Nat} {v:aj} {x:Value} (h:VR G v x):LV G loc B v x:=by
 cases h<;>(unfold LV;constructor<;>assumption)
theorem LV.clean {G:Gh} {loc:Loc} {B:Nat->Nat} {v:aj} {x:Value} (h:LV G loc B v x) (hc:v.clean=true):VR G v x/\ ∀l,v≠ .tup l:=by
 cases v<;>first
  |(simp[aj.clean] at hc;done)
  |exact⟨h,by simp⟩
theorem LV.mono {G G':Gh} (hle:G.le G') {loc:Loc} {B:Nat->Nat} {v:aj} {x:Value} (h:LV G loc B v x):LV G' loc B v x:=by
 cases v<;>first
  |exact VR.mono hle h
  |exact h
structure ou (G:Gh) (h:bD bR) (B:Nat->Nat) (loc:Loc) (w:World):Prop where
 cells: ∀t cs,loc.get t (loc.gen t)=some cs-> ∃C e,w.heap[B t]? =some (.cells C e (0,0))/\ ∀(i:Nat) v,cs[i]? =some v->v.scal=true/\ ∃x,C[i]? =some x/\VR G v x
 free: ∀t cs,loc.get t (loc.gen t)=some cs-> ¬fy G h (B t)
 ro: ∀t cs,loc.get t (loc.gen t)=some cs-> ∀o,G.ro (B t) o=none
 inj: ∀t u cs ds,loc.get t (loc.gen t)=some cs->loc.get u (loc.gen u)=some ds->B t=B u->t=u
theorem ou.ext {G G':Gh} {h h':bD bR} {B:Nat->Nat} {loc:Loc} {w w':World} {lo hi:Nat} (x:ou G h B loc w) (e:dF G h w G' h' w' lo hi):
 ou G' h' B loc w' where
 cells t cs ht:=by
  obtain⟨C,ty,hb,hc⟩:=x.cells t cs ht
  refine⟨C,ty,(e.keep _ (ia hb) (x.free t cs ht)).trans hb,fun i v hi=>?_⟩
  obtain⟨hs,y,hy,hv⟩:=hc i v hi
  exact⟨hs,y,hy,hv.mono e.le⟩
 free t cs ht ho:=by
  obtain⟨C,ty,hb,hc⟩:=x.cells t cs ht
  exact x.free t cs ht (e.owns _ (ia hb) ho)
 ro t cs ht o:=by
  obtain⟨C,ty,hb,hc⟩:=x.cells t cs ht
  cases hr:G'.ro (B t) o with
  |none=>rfl
  |some v=>exact absurd (e.cells _ o v (ia hb) hr (x.ro t cs ht o)) (x.free t cs ht)
 inj:=x.inj
structure dC (G:Gh) (h:bD bR) (B:Nat->Nat) (fr:Fr) (tmps:Array Value) (w:World):Prop where
 size:tmps.size=fr.size
 env: ∀t,LV G fr.loc B (ay fr.env t) (tmps.getD t undef)
 locs:ou G h B fr.loc w
section
variable {G:Gh} {h:bD bR} {B:Nat->Nat} {fr:Fr} {a:Act} {w:World}
theorem dC.ev (x:dC G h B fr a.tmps w) {o:Operand} {v:aj} (he:ev fr.env o=some v):LV G fr.loc B v (a.eval o):=by
 cases o with
 |tmp t=>simp[Ag.ev] at he;subst he;exact x.env t
 |const c=>exact LV.of_VR (sw G he).1
 |func f=>simp[Ag.ev] at he;subst he;exact LV.of_VR (.func .nil .nil)
 |global g=>simp[Ag.ev] at he
theorem dC.evc (x:dC G h B fr a.tmps w) {o:Operand} {v:aj} (he:evc fr.env o=some v):VR G v (a.eval o)/\ ∀l,v≠ .tup l:=by
 simp only[Ag.evc,aN] at he
 obtain⟨u,hu,he⟩:=he
 replace he:=cq he
 obtain⟨hc,he⟩:=he
 injection he with he;subst he
 exact(x.ev hu).clean hc
theorem dC.evcs (x:dC G h B fr a.tmps w): ∀ {l:List Operand} {vs:List aj},evcs fr.env l=some vs->cU G vs (l.map a.eval)/\ ∀v∈vs, ∀l,v≠ .tup l
 | [],_,he=>by simp[Ag.evcs] at he;subst he;exact⟨.nil,by simp⟩
 |o::l,_,he=>by
  simp only[Ag.evcs,aN] at he
  obtain⟨v,hv,r,hr,he⟩:=he
  injection he with he;subst he
  obtain⟨h1,h2⟩:=x.evc hv
  obtain⟨h3,h4⟩:=dC.evcs x hr
  exact⟨.cons h1 h3,by intro u hu;simp at hu;rcases hu with rfl|hu<;>first|exact h2|exact h4 u hu⟩
end
def LB (B:Nat->Nat) (loc:Loc) (b:Nat):Prop:= ∃t cs,loc.get t (loc.gen t)=some cs/\B t=b
structure jf (G:Gh) (h:bD bR) (w:World) (G':Gh) (h':bD bR) (w':World) (lo hi:Nat) (L:Nat->Prop):Prop where
 le:G.le G'
 size:w.heap.size<=w'.heap.size
 keep: ∀b,b<w.heap.size-> ¬fy G h b-> ¬L b->w'.heap[b]? =w.heap[b]?
 owns: ∀b,b<w.heap.size->fy G' h' b->fy G h b
 names: ∀n a,G'.at_ n=some a->G.at_ n=none->lo<=n/\n<hi
 cells: ∀b o v,b<w.heap.size->G'.ro b o=some v->G.ro b o=none->fy G h b
 quiet:oz w w'
theorem dF.toL {G G':Gh} {h h':bD bR} {w w':World} {lo hi:Nat} (x:dF G h w G' h' w' lo hi) (L:Nat->Prop):jf G h w G' h' w' lo hi L:=
 ⟨x.le,x.size,fun b hb ho _=>x.keep b hb ho,x.owns,x.names,x.cells,x.quiet⟩
def gn (P:Program) (G:Gh) (h:bD bR) (w:World) (B:Nat->Nat) (loc:Loc) (lo hi:Nat) (a:Act) (o:Oper) (v:aj) (loc':Loc) (h':bD bR):Prop:=
 ∃nx x w' G' B',(execOp a.eval o).run P w= .ok nx w'/\(nx= .value x\/(nx= .skip/\x=undef))/\WR G' h' w'/\jf G h w G' h' w' lo hi (LB B loc)/\
  ou G' h' B' loc' w'/\LV G' loc' B' v x/\(∀u y,LV G loc B u y->LV G' loc' B' u y)/\ ∀b,LB B' loc' b->LB B loc b\/w.heap.size<=b
section
variable {P:Program} {G:Gh} {h:bD bR} {B:Nat->Nat} {fr:Fr} {a:Act} {w:World} {o:Oper} {lo hi:Nat}
theorem gn.pure (wr:WR G h w) (x:dC G h B fr a.tmps w) {v:aj} {y:Value} (hrun:(execOp a.eval o).run P w= .ok (.value y) w) (hv:LV G fr.loc B v y):
 gn P G h w B fr.loc lo hi a o v fr.loc h:=
 ⟨_,y,w,G,B,hrun,.inl rfl,wr,dF.refl.toL _,x.locs,hv,fun _ _ h=>h,fun _ h=>.inl h⟩
theorem gn.heap (x:dC G h B fr a.tmps w) {v:aj} {y:Value} {nx:Next} {w':World} {G':Gh} {h':bD bR} (hrun:(execOp a.eval o).run P w= .ok nx w')
 (hn:nx= .value y\/(nx= .skip/\y=undef)) (wr:WR G' h' w') (e:dF G h w G' h' w' lo hi) (hv:LV G' fr.loc B v y):
 gn P G h w B fr.loc lo hi a o v fr.loc h':=
 ⟨nx,y,w',G',B,hrun,hn,wr,e.toL _,x.locs.ext e,hv,fun _ _ h=>h.mono e.le,fun _ h=>.inl h⟩
end
section
variable {P:Program} {mk:bt} {G:Gh} {h:bD bR} {B:Nat->Nat} {fr:Fr} {a:Act} {w:World} {o:Oper} {lo hi:Nat}
theorem kf {x:Option aj} {l l':Loc} {s s':St} {v:aj} (e:gi x l s=some (v,l',s')):x=some v/\l'=l/\s'=s:=by
 cases x with
 |none=>simp[gi] at e
 |some u=>simp[gi] at e;exact⟨by rw[e.1],e.2.1.symm,e.2.2.symm⟩
theorem ane {x:Operand} (ho:o.op= .move x) (wr:WR G h w) (fx:dC G h B fr a.tmps w) {v:aj} (he:ev fr.env x=some v):
 gn P G h w B fr.loc lo hi a o v fr.loc h:=
 .pure wr fx (y:=a.eval x) (by simp[execOp,ho]) (fx.ev he)
theorem amT {x:Operand} (ho:o.op= .assign x) (wr:WR G h w) (fx:dC G h B fr a.tmps w) {v:aj} (he:ev fr.env x=some v):
 gn P G h w B fr.loc lo hi a o v fr.loc h:=
 .pure wr fx (y:=a.eval x) (by simp[execOp,ho]) (fx.ev he)
theorem anh {c p q:Operand} (ho:o.op= .pick c p q) (wr:WR G h w) (fx:dC G h B fr a.tmps w) {v:aj} (he:tJ fr.env c p q=some v):
 gn P G h w B fr.loc lo hi a o v fr.loc h:=by
 simp only[tJ,aN] at he
 obtain⟨b,hb,he⟩:=he
 have hc:=fx.ev hb
 split at he
 ·have hc:VR G (.bool true) (a.eval c):=hc
  generalize hx:a.eval c=x at hc
  cases hc
  exact .pure wr fx (y:=a.eval p) (by simp[execOp,ho,hx,asBool]) (fx.ev he)
 ·have hc:VR G (.bool false) (a.eval c):=hc
  generalize hx:a.eval c=x at hc
  cases hc
  exact .pure wr fx (y:=a.eval q) (by simp[execOp,ho,hx,asBool]) (fx.ev he)
 ·cases he
theorem ang {x:Operand} (ho:o.op= .nilCheck x) (wr:WR G h w) (fx:dC G h B fr a.tmps w) {u v:aj} (hu:ev fr.env x=some u) (he:tF fr.loc u=some v):
 gn P G h w B fr.loc lo hi a o v fr.loc h:=by
 have hl:=fx.ev hu
 unfold tF at he
 split at he
 ·rename_i t g off
  replace he:=cq he
  obtain⟨hg,he⟩:=he
  injection he with he;subst he
  have hg:=fN hg
  obtain⟨h1,_,h2⟩:g<=fr.loc.gen t/\(∃ad,a.eval x= .pointer (some ad))/\(g=fr.loc.gen t->a.eval x= .pointer (some ⟨B t,off,none⟩)):=hl
  have h2:=h2 hg.symm
  exact .pure wr fx (y:=a.eval x) (by simp[execOp,ho,h2]) ⟨h1,⟨_,h2⟩,fun _=>h2⟩
 ·injection he with he;subst he
  generalize hx:a.eval x=y at hl
  have hl':VR G _ y:=hl
  cases hl'
  exact .pure wr fx (y:=a.eval x) (by simp[execOp,ho,hx]) (by rw[hx];exact hl)
 ·injection he with he;subst he
  generalize hx:a.eval x=y at hl
  have hl':VR G _ y:=hl
  cases hl'
  exact .pure wr fx (y:=a.eval x) (by simp[execOp,ho,hx]) (by rw[hx];exact hl)
 ·injection he with he;subst he
  generalize hx:a.eval x=y at hl
  have hl':VR G _ y:=hl
  cases hl'
  exact .pure wr fx (y:=a.eval x) (by simp[execOp,ho,hx]) (by rw[hx];exact hl)
 ·cases he
end
theorem Loc.gen_set (l:Loc) (t g u:Nat) (cs:List aj):(Loc.set l t g cs).gen u=if u=t then g else Loc.gen l u:=by
 induction l with
 |nil=>
  simp only[Loc.set,Loc.gen]
  by_cases h:u=t
  ·subst h;simp
  ·have:bo t u=false:=by cases e:bo t u;rfl;exact absurd (fN e).symm h
   simp[this,h]
 |cons x l ih=>
  obtain⟨k,g',d⟩:=x
  simp only[Loc.set]
  cases e:bo k t
  ·simp only[cF,Loc.gen]
   rw[ih]
   by_cases h:u=t
   ·subst h;simp[e]
   ·simp[h]
  ·have:=fN e;subst this
   simp only[cT,Loc.gen]
   by_cases h:u=k
   ·subst h;simp
   ·have:bo k u=false:=by cases e:bo k u;rfl;exact absurd (fN e).symm h
    simp[this,h]
theorem Loc.get_set (l:Loc) (t g u k:Nat) (cs:List aj):(Loc.set l t g cs).get u k=if u=t then(if k=g then some cs else none) else Loc.get l u k:=by
 have hb: ∀a b:Nat,bo a b=decide (a=b):=fun a b=>by
  cases e:bo a b
  ·exact(decide_eq_false (vE e)).symm
  ·exact(decide_eq_true (fN e)).symm
 induction l with
 |nil=>
  simp only[Loc.set,Loc.get,hb]
  by_cases h:u=t
  ·subst h
   by_cases h':k=g
   ·simp[h']
   ·simp[h',Ne.symm h']
  ·simp[h,Ne.symm h]
 |cons x l ih=>
  obtain⟨j,g',d⟩:=x
  simp only[Loc.set,hb]
  by_cases e:j=t
  ·subst e
   simp only[dT,cT,Loc.get,hb]
   by_cases h:u=j
   ·subst h
    by_cases h':k=g
    ·simp[h']
    ·simp[h',Ne.symm h']
   ·simp[h,Ne.symm h]
  ·simp only[e,decide_false,cF,Loc.get,hb]
   rw[ih]
   by_cases h:u=t
   ·subst h;simp[e]
   ·simp[h]
section
variable {P:Program} {G:Gh} {h:bD bR} {w:World}
theorem Gh.more_none (x:WR G h w):G.more w.heap.size (fun _=>none) none=G:=by
 cases G with
 |mk A R D=>
  simp only[Gh.more]
  congr 1
  ·funext c o
   by_cases e:c=w.heap.size
   ·rw[if_pos e]
    cases hr:R c o with
    |none=>rfl
    |some v=>have:=x.ro_lt (b:=c) (o:=o) (v:=v) hr;omega
   ·rw[if_neg e]
  ·funext c
   by_cases e:c=w.heap.size
   ·rw[if_pos e]
    cases hr:D c with
    |none=>rfl
    |some d=>obtain⟨C,t,hb,_⟩:=x.dim c d hr;have:=ia hb;omega
   ·rw[if_neg e]
theorem WR.fresh (x:WR G h w) (ob:Obj) (hwm:Obj.warm ob:=by trivial):WR G h (w.alloc ob)/\ ∀lo hi,dF G h w G h (w.alloc ob) lo hi:=by
 have:=x.alloc ob (fun _=>none) none (by simp) (by simp) hwm
 rwa [Gh.more_none x] at this
def Gh.boxed (G:Gh) (w:World) (n size:Nat):Gh:=(G.more w.heap.size (fun _=>none) (some size)).name n ⟨w.heap.size,0,none⟩
theorem WR.boxed (x:WR G h w) {n:Nat} (hn:G.at_ n=none) (C:Array Value) (e:TypeId) (cs:List aj)
 (hc: ∀(i:Nat) v,cs[i]? =some v->v.scal=true/\ ∃y,C[i]? =some y/\VR G v y):
 WR (G.boxed w n C.size) (h.set n (some (.cells cs))) (w.alloc (.cells C e))/\dF G h w (G.boxed w n C.size) (h.set n (some (.cells cs))) (w.alloc (.cells C e)) n (n+1):=by
 obtain⟨h1,h2⟩:=x.alloc (.cells C e) (fun _=>none) (some C.size) (by simp) (fun d hd=>⟨C,e,rfl,by injection hd⟩)
 have hno: ¬fy (G.more w.heap.size (fun _=>none) (some C.size)) h w.heap.size:=by
  rintro⟨m,a,hm,ha,hb⟩
  have:=x.below m a ha
  omega
 have h3:=h1.named (n:=n) (a:=⟨w.heap.size,0,none⟩) (o:=.cells cs) hn (by simp) rfl hno
  ⟨C,e,by rw[nL,if_pos rfl],by simp[Gh.more],fun i v hi=>by
    obtain⟨hs,y,hy,hv⟩:=hc i v hi
    exact⟨hs,y,by simpa using hy,hv.mono (h2 0 0).le⟩⟩
  (by simp[Gh.more])
 refine⟨h3,⟨(h2 0 0).le.trans (Gh.name_le _ _ hn),(h2 0 0).size,(h2 0 0).keep,?_,?_,?_,(h2 0 0).quiet⟩⟩
 ·intro b hb ho
  rcases wI ho with rfl|ho
  ·exact absurd hb (ff _)
  ·exact(h2 0 0).owns b hb ho
 ·intro m a hm h0
  simp only[Gh.boxed,Gh.name,Gh.more] at hm
  by_cases em:m=n
  ·omega
  ·rw[if_neg em,h0] at hm;cases hm
 ·intro b o v hb hv h0
  exact(h2 0 0).cells b o v hb hv h0
theorem Gh.boxed_at (G:Gh) (w:World) (n size:Nat):(G.boxed w n size).at_ n=some ⟨w.heap.size,0,none⟩:=by simp[Gh.boxed,Gh.name]
theorem Gh.boxed_dim (G:Gh) (w:World) (n size:Nat):(G.boxed w n size).dim w.heap.size=some size:=by simp[Gh.boxed,Gh.name,Gh.more]
theorem cU.rows {vs:List aj} {C:Array Value} (hv:cU G vs C.toList) (hs:dY vs=true):
 ∀(i:Nat) v,vs[i]? =some v->v.scal=true/\ ∃y,C[i]? =some y/\VR G v y:=by
 intro i v hi
 refine⟨?_,?_⟩
 ·have:=kE hi
  simp only[dY,oc] at hs
  exact hs v this
 ·obtain⟨y,hy,hr⟩:=hv.get hi
  exact⟨y,by simpa using hy,hr⟩
end
section
variable {P:Program} {mk:bt} {G:Gh} {s s':St} {B:Nat->Nat} {fr:Fr} {a:Act} {w:World} {o:Oper}
theorem U9 {hh:Nat} {dst:Option Tmp} {cs:List aj} {v:aj} {loc':Loc} {C:Array Value} {e:TypeId} (wr:WR G s.heap w) (fx:dC G s.heap B fr a.tmps w)
 (hrun:(execOp a.eval o).run P w= .ok (.value (.pointer (some ⟨w.heap.size,0,none⟩))) (w.alloc (.cells C e)))
 (hc: ∀(i:Nat) v,cs[i]? =some v->v.scal=true/\ ∃y,C[i]? =some y/\VR G v y)
 (he:pj hh dst cs fr.loc s=some (v,loc',s')) (hfree: ∀n,s.next<=n->n<s'.next->G.at_ n=none):
 gn P G s.heap w B fr.loc s.next s'.next a o v loc' s'.heap:=by
 unfold pj at he
 rcases hQ he with⟨_,he⟩|⟨_,he⟩
 ·simp only[aN] at he
  obtain⟨t,_,he⟩:=he
  simp only[bp,bX] at he
  obtain⟨rfl,rfl,rfl⟩:=he
  obtain⟨h1,h2⟩:=wr.fresh (.cells C e)
  have h3:=fx.locs.ext (h2 s.next s.next)
  refine⟨_,_,_,G,fun u=>if u=t then w.heap.size else B u,hrun,.inl rfl,h1,(h2 _ _).toL _,⟨?_,?_,?_,?_⟩,?_,?_,?_⟩
  ·intro u ds hu
   rw[Loc.gen_set,Loc.get_set] at hu
   by_cases eu:u=t
   ·rw[if_pos eu,if_pos eu,if_pos rfl] at hu
    injection hu with hu;subst hu
    rw[if_pos eu]
    exact⟨C,e,by rw[nL,if_pos rfl],hc⟩
   ·rw[if_neg eu,if_neg eu] at hu
    rw[if_neg eu]
    exact h3.cells u ds hu
  ·intro u ds hu
   rw[Loc.gen_set,Loc.get_set] at hu
   by_cases eu:u=t
   ·rw[if_pos eu]
    intro ho
    exact ff _ (wr.owned_lt ho)
   ·rw[if_neg eu,if_neg eu] at hu
    rw[if_neg eu]
    exact h3.free u ds hu
  ·intro u ds hu k
   rw[Loc.gen_set,Loc.get_set] at hu
   by_cases eu:u=t
   ·rw[if_pos eu]
    cases hr:G.ro w.heap.size k with
    |none=>rfl
    |some v=>exact absurd (wr.ro_lt hr) (ff _)
   ·rw[if_neg eu,if_neg eu] at hu
    rw[if_neg eu]
    exact h3.ro u ds hu k
  ·intro u u' ds ds' hu hu' hB
   rw[Loc.gen_set,Loc.get_set] at hu hu'
   have old: ∀ {q:Nat} {cs:List aj},fr.loc.get q (fr.loc.gen q)=some cs->B q<w.heap.size:=fun {q cs} hq=>by
    obtain⟨C,e,hb,_⟩:=fx.locs.cells q cs hq;exact ia hb
   by_cases eu:u=t<;>by_cases eu':u'=t
   ·rw[eu,eu']
   ·rw[if_neg eu',if_neg eu'] at hu'
    rw[if_pos eu,if_neg eu'] at hB
    have:=old hu';omega
   ·rw[if_neg eu,if_neg eu] at hu
    rw[if_neg eu,if_pos eu'] at hB
    have:=old hu;omega
   ·rw[if_neg eu,if_neg eu] at hu
    rw[if_neg eu',if_neg eu'] at hu'
    rw[if_neg eu,if_neg eu'] at hB
    exact fx.locs.inj u u' ds ds' hu hu' hB
  ·show _<=_/\_
   rw[Loc.gen_set,if_pos rfl]
   exact⟨bK _,⟨_,rfl⟩,fun _=>by simp⟩
  ·intro u y hl
   cases u with
   |lref q g off=>
    obtain⟨l1,l3,l2⟩:=hl
    show _<=_/\_
    rw[Loc.gen_set]
    by_cases eq:q=t
    ·subst eq
     rw[if_pos rfl]
     exact⟨by omega,l3,fun hg=>by omega⟩
    ·rw[if_neg eq]
     exact⟨l1,l3,fun hg=>by simp only[if_neg eq];exact l2 hg⟩
   |_=>exact hl
  ·rintro b ⟨u,ds,hu,rfl⟩
   rw[Loc.gen_set,Loc.get_set] at hu
   by_cases eu:u=t
   ·simp only[if_pos eu];exact .inr (bK _)
   ·rw[if_neg eu,if_neg eu] at hu
    simp only[if_neg eu]
    exact .inl ⟨u,ds,hu,rfl⟩
 ·simp only[bp,bX] at he
  obtain⟨rfl,rfl,rfl⟩:=he
  have hn:G.at_ s.next=none:=hfree s.next (bK _) (by simp[St.new])
  obtain⟨h1,h2⟩:=wr.boxed hn C e cs hc
  exact .heap fx hrun (.inl rfl) h1 h2 (LV.of_VR (by simpa using VR.ptr (off:=0) (Gh.boxed_at G w s.next C.size)))
theorem yV {t:TypeId} {z:aj} (hz:fF P t=some z): ∃i zv,P.info? t=some i/\i.zero=some zv/\ofValue zv=some z:=by
 simp only[fF,aN] at hz
 obtain⟨i,hi,zv,hzv,h⟩:=hz
 exact⟨i,zv,hi,hzv,h⟩
theorem rl {t:TypeId} {i:TypeInfo} {zv:Value} (hi:P.info? t=some i) (hz:i.zero=some zv) (w:World):(zeroValue t).run P w= .ok zv w:=by
 simp[zeroValue,typeInfo,hi,hz]
theorem amS {hint:Tmp->Nat} {dst:Option Tmp} {e:TypeId} {v:aj} {loc':Loc} (ho:o.op= .alloc e) (wr:WR G s.heap w) (fx:dC G s.heap B fr a.tmps w)
 (he:Ba P hint dst e fr s=some (v,loc',s')) (hfree: ∀n,s.next<=n->n<s'.next->G.at_ n=none):
 gn P G s.heap w B fr.loc s.next s'.next a o v loc' s'.heap:=by
 simp only[Ba,aN] at he
 obtain⟨z,hz,he⟩:=he
 obtain⟨i,zv,hi,hzv,hov⟩:=yV hz
 obtain⟨hv,ht⟩:=sw G hov
 exact U9 (C:=zv.cells) (e:=e) wr fx (by simp[execOp,ho,Instr.alloc,rl hi hzv,newVar,newRow]) (hv.cells.rows (hv.scals_cells ht)) he hfree
theorem amV {hint:Tmp->Nat} {dst:Option Tmp} {e:TypeId} {x:Operand} {v:aj} {loc':Loc} (ho:o.op= .box e x) (wr:WR G s.heap w) (fx:dC G s.heap B fr a.tmps w)
 (he:Bc hint dst x fr s=some (v,loc',s')) (hfree: ∀n,s.next<=n->n<s'.next->G.at_ n=none):
 gn P G s.heap w B fr.loc s.next s'.next a o v loc' s'.heap:=by
 simp only[Bc,aN] at he
 obtain⟨u,hu,he⟩:=he
 obtain⟨hv,ht⟩:=fx.evc hu
 exact U9 (C:=(a.eval x).cells) (e:=e) wr fx (by simp[execOp,ho,Instr.box,newVar,newRow]) (hv.cells.rows (hv.scals_cells ht)) he hfree
end
section
variable {P:Program} {mk:bt} {G:Gh} {s s':St} {B:Nat->Nat} {fr:Fr} {a:Act} {w:World} {o:Oper} {lo hi:Nat}
theorem dJ {t:TypeId} {d:TypeDesc} (h:P.underlying t=some d) (w:World):(underlying t).run P w= .ok d w:=by
 simp[underlying,h]
theorem BA {t:TypeId} {b:Bool} (h:xT P t=some b) (w:World):(isAgg t).run P w= .ok b w:=by
 simp only[xT,aN] at h
 obtain⟨d,hd,h⟩:=h
 cases d<;>simp at h<;>subst h<;>simp[isAgg,dJ hd]
theorem ij {t:TypeId} {n:Nat} (h:fQ P t=some n) (w:World):(sizeOf t).run P w= .ok n w:=by
 simp only[fQ,aN] at h
 obtain⟨i,hi,h⟩:=h
 injection h with h;subst h
 simp[sizeOf,typeInfo,hi]
theorem vM {cs r:List aj} {off n:Nat} (h:cut cs off n=some r):r=(cs.drop off).take n/\r.length=n:=by
 simp only[cut] at h
 obtain⟨h1,h2⟩:=cq h
 injection h2 with h2
 exact⟨h2.symm,by rw[<-h2];exact fN h1⟩
theorem xE {cs r:List aj} {off n:Nat} (h:cut cs off n=some r) {i:Nat} {v:aj} (hi:r[i]? =some v):cs[off+i]? =some v:=by
 obtain⟨h1,h2⟩:=vM h
 rw[h1,vl] at hi
 split at hi
 ·rwa [sI] at hi
 ·cases hi
theorem GL {cs:List aj} {f:Nat->Option Value} (hc: ∀(i:Nat) u,cs[i]? =some u->u.scal=true/\ ∃x,f i=some x/\VR G u x):
 ∃vs:List Value,cU G cs vs/\dY cs=true/\ ∀(i:Nat) x,vs[i]? =some x->f i=some x:=by
 induction cs generalizing f with
 |nil=>exact⟨[],.nil,rfl,by simp⟩
 |cons c cs ih=>
  obtain⟨hs,x,hx,hv⟩:=hc 0 c (by simp)
  obtain⟨vs,h1,h2,h3⟩:=ih (f:=fun i=>f (i+1)) (fun i u hi=>hc (i+1) u (by simpa using hi))
  refine⟨x::vs,.cons hv h1,by simp only[dY,li,hs,iq];exact h2,?_⟩
  intro i y hi
  cases i with
  |zero=>simp at hi;subst hi;exact hx
  |succ i=>simp at hi;exact h3 i y hi
theorem wR {t:TypeId} {cs:List aj} {off:Nat} {v:aj} {b base:Nat} (h:fK P t cs off=some v)
 (hc: ∀(i:Nat) u,cs[i]? =some u->u.scal=true/\ ∃x,w.cell? ⟨b,base+i,none⟩=some x/\VR G u x):
 ∃y,(loadVar t ⟨b,base+off,none⟩).run P w= .ok y w/\VR G v y/\ ∀l,v≠ .tup l:=by
 simp only[fK,aN] at h
 obtain⟨g,hg,h⟩:=h
 replace h:=hQ h
 rcases h with⟨g1,h⟩|⟨g1,h⟩<;>subst g1
 ·simp only[aN] at h
  obtain⟨n,hn,r,hr,h⟩:=h
  injection h with h;subst h
  obtain⟨vs,h1,h2,h3⟩:=GL (G:=G) (cs:=r) (f:=fun i=>w.cell? ⟨b,base+off+i,none⟩) (fun i u hi=>by
   have:=hc (off+i) u (xE hr hi)
   rwa [<-o0] at this)
  have hlen:vs.length=n:=by rw[<-h1.length];exact(vM hr).2
  refine⟨.agg ⟨vs⟩,?_,.agg h2 h1,by simp⟩
  have hl:=run_loadCells_list (P:=P) (w:=w) ⟨b,base+off,none⟩ vs (fun j v hj=>by rw[mY];exact h3 j v hj)
  rw[hlen] at hl
  simp[loadVar,BA hg,ij hn,hl]
 ·split at h
  ·rename_i u rest hd
   injection h with h;subst h
   have hi:cs[off]? =some u:=by
    have:(cs.drop off)[0]? =some u:=by rw[hd];rfl
    simpa[sI] using this
   obtain⟨hs,x,hx,hv⟩:=hc off u hi
   refine⟨x,?_,hv,fun l e=>by subst e;simp[aj.scal] at hs⟩
   simp[loadVar,BA hg,hx]
  ·cases h
theorem jk {n:Nat} {ob:bR} (h:s.get mk n=some ob):s.heap.get n=some ob:=by
 unfold St.get at h
 cases e:eA mk n<;>simp[e] at h
 exact h
theorem am7 {t:TypeId} {x:Operand} {v:aj} {loc':Loc} (ho:o.op= .load t x) (wr:WR G s.heap w) (fx:dC G s.heap B fr a.tmps w)
 (he:wG P mk t x fr s=some (v,loc',s')):gn P G s.heap w B fr.loc lo hi a o v loc' s'.heap:=by
 simp only[wG,aN] at he
 obtain⟨u,hu,he⟩:=he
 replace he:=kf he
 obtain⟨he,rfl,rfl⟩:=he
 have hl:=fx.ev hu
 unfold lY at he
 split at he
 ·rename_i t' g off
  simp only[aN] at he
  obtain⟨cs,hcs,he⟩:=he
  obtain⟨h1,_,h2⟩:=hl
  have hg:g=fr.loc.gen t':=by
   clear he h2
   revert hcs
   generalize fr.loc=l at*
   induction l with
   |nil=>intro hcs;simp[Loc.get] at hcs
   |cons y l ih=>
    obtain⟨k,g',d⟩:=y
    intro hcs
    simp only[Loc.get,Loc.gen] at*
    cases e:bo k t'
    ·rw[e] at hcs h1;simp only[cF] at hcs h1 ⊢;exact ih h1 hcs
    ·rw[e] at hcs h1;simp only[cT] at hcs h1 ⊢
     obtain⟨e',_⟩:=cq hcs
     exact(fN e').symm
  replace h2:=h2 hg
  subst hg
  obtain⟨C,e,hb,hc⟩:=fx.locs.cells t' cs hcs
  obtain⟨y,hy,hv,ht⟩:=wR (w:=w) (b:=B t') (base:=0) he (fun i u hi=>by
   obtain⟨hs,z,hz,hr⟩:=hc i u hi
   exact⟨hs,z,by rw[oE hb];simpa using hz,hr⟩)
  refine .pure wr fx (y:=y) ?_ (LV.of_VR hv)
  simp only[aQ] at hy
  simp[execOp,ho,h2,Instr.loadAt,Instr.sureAddr,hy]
 ·rename_i n off
  simp only[aN] at he
  obtain⟨ob,hob,he⟩:=he
  split at he
  ·rename_i cs
   have hl:VR G _ _:=hl
   generalize hx:a.eval x=y at hl
   cases hl
   rename_i ad hn
   obtain⟨ad',hn',hsp,C,e,hb,_,hc⟩:=wr.obj n _ (jk hob)
   rw[hn] at hn';injection hn' with hn';subst hn'
   obtain⟨y,hy,hv,ht⟩:=wR (w:=w) (b:=ad.block) (base:=ad.off) he (fun i u hi=>by
    obtain⟨hs,z,hz,hr⟩:=hc i u hi
    exact⟨hs,z,by rw[oE hb];exact hz,hr⟩)
   refine .pure wr fx (y:=y) ?_ (LV.of_VR hv)
   simp[execOp,ho,hx,Instr.loadAt,Instr.sureAddr,hy]
  ·cases he
 ·rename_i cs
  have hl:VR G _ _:=hl
  generalize hx:a.eval x=y at hl
  cases hl
  rename_i b base hro
  obtain⟨y,hy,hv,ht⟩:=wR (w:=w) (b:=b) (base:=base) he (fun i u hi=>wr.ro _ _ _ (hro i u hi))
  refine .pure wr fx (y:=y) ?_ (LV.of_VR hv)
  simp only[cQ] at hy
  simp[execOp,ho,hx,Instr.loadAt,Instr.sureAddr,hy]
 ·cases he
theorem Ug {l:Loc} {t g:Nat} {cs:List aj} (h:l.get t g=some cs):g=l.gen t:=by
 induction l with
 |nil=>simp[Loc.get] at h
 |cons y l ih=>
  obtain⟨k,g',d⟩:=y
  simp only[Loc.get,Loc.gen] at*
  cases e:bo k t
  ·rw[e] at h;simp only[cF] at h ⊢;exact ih h
  ·rw[e] at h;simp only[cT] at h ⊢
   exact(fN (cq h).1).symm
theorem WZ {cs new cs':List aj} {off:Nat} (h:dl cs off new=some cs'):
 off+new.length<=cs.length/\cs'.length=cs.length/\ ∀i:Nat,cs'[i]? =if off<=i/\i<off+new.length then new[i-off]? else cs[i]? :=by
 simp only[dl] at h
 obtain⟨h1,h2⟩:=cq h
 have h1:=jC h1
 injection h2 with h2
 refine⟨h1,by rw[<-h2];simp;omega,fun i=>?_⟩
 rw[<-h2]
 by_cases c1:i<off
 ·rw[pS (by simp;omega),if_neg (by omega),vl,if_pos c1]
 ·rw[qF (by simp;omega)]
  simp only[qG,xg (by omega:off<=cs.length)]
  by_cases c2:i<off+new.length
  ·rw[pS (by omega),if_pos ⟨by omega,c2⟩]
  ·rw[qF (by omega),if_neg (by omega),sI]
   congr 1;omega
theorem yF {cs new cs':List aj} {off base:Nat} {C:Array Value} {ys:List Value} (h:dl cs off new=some cs') (hy:cU G new ys) (hs:dY new=true) (hne:new≠ [])
 (hc: ∀(i:Nat) u,cs[i]? =some u->u.scal=true/\ ∃x,C[base+i]? =some x/\VR G u x):
 base+off+ys.length<=C.size/\ ∀(i:Nat) u,cs'[i]? =some u->u.scal=true/\ ∃x,(jx C (base+off) ys)[base+i]? =some x/\VR G u x:=by
 obtain⟨h1,h2,h3⟩:=WZ h
 have hl:=hy.length
 have hpos:0<new.length:=List.length_pos_iff.2 hne
 have hsz:base+off+ys.length<=C.size:=by
  have hi:off+new.length-1<cs.length:=by omega
  obtain⟨_,x,hx,_⟩:=hc (off+new.length-1) cs[off+new.length-1] (j2 hi)
  have:base+(off+new.length-1)<C.size:=by
   rcases iJ (base+(off+new.length-1)) C.size with h|h
   ·exact h
   ·simp[vh h] at hx
  omega
 refine⟨hsz,fun i u hi=>?_⟩
 rw[h3] at hi
 rw[BX _ _ _ _ hsz]
 by_cases c:off<=i/\i<off+new.length
 ·rw[if_pos c] at hi
  rw[if_pos (by omega)]
  obtain⟨x,hx,hv⟩:=hy.get hi
  refine⟨?_,x,?_,hv⟩
  ·have:=kE hi
   simp only[dY,oc] at hs
   exact hs u this
  ·rw[<-hx];congr 1;omega
 ·rw[if_neg c] at hi
  rw[if_neg (by omega)]
  exact hc i u hi
theorem cU.ones {vs:List aj} {ys:List Value} (hy:cU G vs ys) (hs:dY vs=true): ∀y∈ys,y.oneCell'=true:=by
 induction vs generalizing ys with
 |nil=>cases hy;simp
 |cons v vs ih=>
  cases hy with
  |cons p q=>
   simp only[dY,li,df] at hs
   intro y hm
   simp at hm
   rcases hm with rfl|hm
   ·exact p.one hs.1
   ·exact ih q hs.2 y hm
theorem WR.putFree {h:bD bR} (x:WR G h w) {b:Nat} {C C':Array Value} {e:TypeId} (hb:w.heap[b]? =some (.cells C e (0,0))) (hs:C'.size=C.size) (ho: ¬fy G h b)
 (hr: ∀o,G.ro b o=none):WR G h (ef w b (.cells C' e (0,0))):=by
 have hlt:=ia hb
 have hblk: ∀c,(ef w b (.cells C' e (0,0))).heap[c]? =if c=b then some (.cells C' e (0,0)) else w.heap[c]? :=fun c=>jn w b c _ hlt
 refine⟨?_,x.sep,?_,x.apart,?_,fun n a ha=>by simp;exact x.below n a ha⟩
 ·intro n o hn
  obtain⟨a,ha,hsp,hr⟩:=x.obj n o hn
  refine⟨a,ha,hsp,hr.of_block ?_⟩
  rw[hblk,if_neg]
  intro e'
  exact ho ⟨n,a,by rw[hn];simp,ha,e'⟩
 ·intro c o v hv
  by_cases e':c=b
  ·subst e';rw[hr] at hv;cases hv
  ·obtain⟨h1,y,hy,h2⟩:=x.ro c o v hv
   exact⟨h1,y,by rw[<-hy];simp[World.cell?,hblk,e'],h2⟩
 ·intro c d hd
  obtain⟨D,t,hc,hsz⟩:=x.dim c d hd
  rw[hblk]
  by_cases e':c=b
  ·subst e'
   rw[hb] at hc
   simp only[bp,Obj.cells.injEq] at hc
   obtain⟨rfl,rfl,_⟩:=hc
   exact⟨C',e,if_pos rfl,by omega⟩
  ·rw[if_neg e'];exact⟨D,t,hc,hsz⟩
theorem ank {t:TypeId} {x z:Operand} {v:aj} {loc':Loc} (ho:o.op= .store t x z) (wr:WR G s.heap w) (fx:dC G s.heap B fr a.tmps w)
 (he:wH P mk t x z fr s=some (v,loc',s')):gn P G s.heap w B fr.loc lo hi a o v loc' s'.heap:=by
 simp only[wH,aN] at he
 obtain⟨u,hu,nv,hnv,r,hr,he⟩:=he
 simp only[bp,bX] at he
 obtain⟨rfl,rfl,rfl⟩:=he
 have hl:=fx.ev hu
 obtain⟨hv,ht⟩:=fx.evc hnv
 have hcs:=hv.cells
 have hsc:=hv.scals_cells ht
 simp only[qC,aN] at hr
 obtain⟨n,hn,hr⟩:=hr
 replace hr:=cq hr
 obtain⟨hcond,hr⟩:=hr
 simp only[df] at hcond
 have hlen:=fN hcond.1
 have hpos:=nN hcond.2
 have hne:nv.cells≠ []:=by intro e;rw[e] at hlen;simp at hlen;omega
 have hsize:(a.eval z).cells.size=n:=by
  have:=hcs.length
  rw[hlen] at this
  simpa using this.symm
 have hrun: ∀(b off:Nat) (C:Array Value) (e:TypeId),w.heap[b]? =some (.cells C e (0,0))->off+(a.eval z).cells.toList.length<=C.size->a.eval x= .pointer (some ⟨b,off,none⟩)->
  (execOp a.eval o).run P w= .ok .skip (ef w b (.cells (jx C off (a.eval z).cells.toList) e (0,0))):=by
  intro b off C e hb hle hx
  have h1:=BB (P:=P) b off e (a.eval z).cells.toList 0 w C hb (by omega) (hcs.ones hsc)
  simp only[cQ] at h1
  simp[execOp,ho,hx,Instr.storeAt,Instr.sureAddr,storeVar,ij hn,hsize,h1]
 split at hr
 ·rename_i l g off
  simp only[aN] at hr
  obtain⟨cs,hcs',cs',hw,hr⟩:=hr
  simp only[bp] at hr
  obtain⟨rfl,rfl⟩:=hr
  have hg:=Ug hcs'
  obtain⟨h1,_,h2⟩:=hl
  replace h2:=h2 hg
  subst hg
  obtain⟨C,e,hb,hc⟩:=fx.locs.cells l cs hcs'
  obtain⟨hle,hrows⟩:=yF (base:=0) hw hcs hsc hne (fun i u hi=>by simpa using hc i u hi)
  simp only[aQ] at hle hrows
  have hfree:=fx.locs.free l cs hcs'
  have hro:=fx.locs.ro l cs hcs'
  have hlt:=ia hb
  have hblk: ∀c,(ef w (B l) (.cells (jx C off (a.eval z).cells.toList) e (0,0))).heap[c]? =if c=B l then some (.cells (jx C off (a.eval z).cells.toList) e (0,0)) else w.heap[c]? :=fun c=>jn w _ c _ hlt
  have hgens: ∀q,(fr.loc.set l (fr.loc.gen l) cs').gen q=fr.loc.gen q:=fun q=>by
   rw[Loc.gen_set]
   by_cases e':q=l
   ·rw[if_pos e',e']
   ·rw[if_neg e']
  have hgets: ∀q ds,(fr.loc.set l (fr.loc.gen l) cs').get q ((fr.loc.set l (fr.loc.gen l) cs').gen q)=some ds->
   (q=l/\ds=cs')\/(q≠l/\fr.loc.get q (fr.loc.gen q)=some ds):=fun q ds hq=>by
   rw[hgens,Loc.get_set] at hq
   by_cases e':q=l
   ·subst e'
    rw[if_pos rfl,if_pos rfl] at hq
    injection hq with hq
    exact .inl ⟨rfl,hq.symm⟩
   ·rw[if_neg e'] at hq;exact .inr ⟨e',hq⟩
  have hpres: ∀q ds,(fr.loc.set l (fr.loc.gen l) cs').get q ((fr.loc.set l (fr.loc.gen l) cs').gen q)=some ds-> ∃ds',fr.loc.get q (fr.loc.gen q)=some ds':=fun q ds hq=>by
   rcases hgets q ds hq with⟨rfl,_⟩|⟨_,hq⟩
   ·exact⟨cs,hcs'⟩
   ·exact⟨ds,hq⟩
  refine⟨_,undef,_,G,B,hrun (B l) off C e hb hle h2,.inr ⟨rfl,rfl⟩,wr.putFree hb (by simp) hfree hro,
   ⟨.refl G,by simp,?_,fun _ _ h=>h,fun n a h h'=>(by rw[h] at h';cases h'),fun b o v _ h h'=>(by rw[h] at h';cases h'),yB w hb rfl rfl⟩,⟨?_,?_,?_,?_⟩,LV.of_VR (.tup .nil),?_,?_⟩
  ·intro b _ _ hnl
   rw[hblk,if_neg]
   intro e'
   exact hnl ⟨l,cs,hcs',e'.symm⟩
  ·intro q ds hq
   rcases hgets q ds hq with⟨rfl,rfl⟩|⟨hne',hq⟩
   ·exact⟨_,e,by rw[hblk,if_pos rfl],hrows⟩
   ·obtain⟨C',e',hb',hc'⟩:=fx.locs.cells q ds hq
    refine⟨C',e',?_,hc'⟩
    rw[hblk,if_neg];·exact hb'
    intro e''
    exact hne' (fx.locs.inj q l ds cs hq hcs' e'')
  ·intro q ds hq;obtain⟨ds',hq'⟩:=hpres q ds hq;exact fx.locs.free q ds' hq'
  ·intro q ds hq;obtain⟨ds',hq'⟩:=hpres q ds hq;exact fx.locs.ro q ds' hq'
  ·intro q q' ds ds' hq hq' hB
   obtain⟨d1,h1⟩:=hpres q ds hq
   obtain⟨d2,h2⟩:=hpres q' ds' hq'
   exact fx.locs.inj q q' d1 d2 h1 h2 hB
  ·intro u y hu
   cases u with
   |lref q g off=>show _<=_/\_;rw[hgens];exact hu
   |_=>exact hu
  ·rintro b ⟨q,ds,hq,rfl⟩
   obtain⟨ds',hq'⟩:=hpres q ds hq
   exact .inl ⟨q,ds',hq',rfl⟩
 ·rename_i m off
  simp only[aN] at hr
  obtain⟨ob,hob,hr⟩:=hr
  split at hr
  ·rename_i cs
   simp only[aN] at hr
   obtain⟨cs',hw,hr⟩:=hr
   simp only[bp] at hr
   obtain⟨rfl,rfl⟩:=hr
   have hl:VR G _ _:=hl
   generalize hx:a.eval x=y at hl
   cases hl
   rename_i ad had
   obtain⟨ad',had',hsp,C,e,hb,hdm,hc⟩:=wr.obj m _ (jk hob)
   rw[had] at had';injection had' with had';subst had'
   obtain⟨hle,hrows⟩:=yF (base:=ad.off) hw hcs hsc hne hc
   obtain⟨h1,h2⟩:=wr.changed (o':=.cells cs') (ob:=.cells (jx C (ad.off+off) (a.eval z).cells.toList) e (0,0)) (jk hob) had
    ⟨_,e,by rw[jn _ _ _ _ (ia hb),if_pos rfl],by rw[hdm];simp,hrows⟩
    (fun i v hv=>by have:=(wr.apart m _ ad i v (jk hob) had hv).1;cases this)
    (fun d hd=>by
     obtain⟨D,t',hD,hsz⟩:=wr.dim _ d hd
     rw[hb] at hD
     simp only[bp,Obj.cells.injEq] at hD
     obtain⟨rfl,rfl,_⟩:=hD
     exact⟨_,e,rfl,by simpa using hsz⟩)
   exact .heap fx (hrun ad.block (ad.off+off) C e hb hle hx) (.inr ⟨rfl,rfl⟩) h1 (h2 _ _) (LV.of_VR (.tup .nil))
  ·cases hr
 ·cases hr
end
section
variable {P:Program} {G:Gh}
theorem tP {t:TypeId} {cs:List aj} {off:Nat} {v:aj} {vs:List Value} (h:fK P t cs off=some v) (hv:cU G cs vs) (hs:dY cs=true):
 ∃y,(∀w:World,(part t ⟨vs⟩ off).run P w= .ok y w)/\VR G v y/\ ∀l,v≠ .tup l:=by
 simp only[fK,aN] at h
 obtain⟨g,hg,h⟩:=h
 replace h:=hQ h
 rcases h with⟨g1,h⟩|⟨g1,h⟩<;>subst g1
 ·simp only[aN] at h
  obtain⟨n,hn,r,hr,h⟩:=h
  injection h with h;subst h
  obtain⟨h1,h2⟩:=vM hr
  refine⟨.agg ⟨(vs.drop off).take n⟩,fun w=>?_,.agg ?_ ?_,by simp⟩
  ·have:(⟨vs⟩:Array Value).extract off (off+n)=⟨(vs.drop off).take n⟩:=by
    apply mf
    simp[List.extract]
   simp only[part,Sem.run_bind,BA hg,je,if_true,ij hn,Sem.run_pure,this]
  ·rw[h1]
   simp only[dY,oc] at hs ⊢
   exact fun x hx=>hs x (vn (sM hx))
  ·rw[h1];exact(hv.drop off).take n
 ·split at h
  ·rename_i u rest hd
   injection h with h;subst h
   have hi:cs[off]? =some u:=by
    have:(cs.drop off)[0]? =some u:=by rw[hd];rfl
    simpa[sI] using this
   obtain⟨y,hy,hr⟩:=hv.get hi
   refine⟨y,fun w=>?_,hr,fun l e=>?_⟩
   ·simp[part,BA hg,hy]
   ·subst e
    simp only[dY,oc] at hs
    have:=hs _ (kE hi)
    simp[aj.scal] at this
  ·cases h
theorem VP {rec:TypeId->aj->aj->Option Bool} {d:Nat} {e:TypeId} {n:Nat} {xs ys:List aj} {xv yv:List Value} (hx:cU G xs xv) (hy:cU G ys yv) (sx:dY xs=true) (sy:dY ys=true)
 (hrec: ∀ {x y:aj} {X Y:Value} {r:Bool},rec e x y=some r->VR G x X->VR G y Y-> ∀w:World,(ue d e X Y).run P w= .ok r w) (w:World):
 ∀(k i:Nat) {r:Bool},xI P rec e n xs ys k i=some r->
  ((forIn (m:=Sem) (List.range' i k) ((none,()):Option Bool×Unit) fun i _=>do
   let a<-part e ⟨xv⟩ (i*n)
   let b<-part e ⟨yv⟩ (i*n)
   let q<-ue d e a b
   if(!q)=true then pure (ForInStep.done (some false,())) else pure (ForInStep.yield (none,()))).run P w)= .ok (bif r then none else some false,()) w
 |0,i,r,h=>by simp[xI] at h;subst h;simp
 |k+1,i,r,h=>by
  simp only[xI,aN] at h
  obtain⟨x,hx1,y,hy1,q,hq,h⟩:=h
  obtain⟨X,hX,vX,_⟩:=tP hx1 hx sx
  obtain⟨Y,hY,vY,_⟩:=tP hy1 hy sy
  have hrun:=hrec hq vX vY
  rw[ub,List.forIn_cons]
  simp only[Sem.run_bind,hX,hY,hrun,je]
  cases q
  ·simp at h;subst h;simp
  ·simp at h
   simpa using VP hx hy sx sy hrec w k (i+1) h
theorem GR {rec:TypeId->aj->aj->Option Bool} {d:Nat} {xs ys:List aj} {xv yv:List Value} (hx:cU G xs xv) (hy:cU G ys yv) (sx:dY xs=true) (sy:dY ys=true)
 (hrec: ∀ {e:TypeId} {x y:aj} {X Y:Value} {r:Bool},rec e x y=some r->VR G x X->VR G y Y-> ∀w:World,(ue d e X Y).run P w= .ok r w) (w:World):
 ∀(fs:List Field) {r:Bool},vQ P rec xs ys fs=some r->(Op.eqFields d ⟨xv⟩ ⟨yv⟩ fs).run P w= .ok r w
 | [],r,h=>by simp[vQ] at h;subst h;simp[Op.eqFields]
 |f::fs,r,h=>by
  simp only[vQ] at h
  replace h:=hQ h
  rcases h with⟨hn,h⟩|⟨hn,h⟩
  ·have hn:f.name= "_" :=by simpa using hn
   simp only[Op.eqFields,hn]
   simpa using GR hx hy sx sy hrec w fs h
  ·have hn:f.name≠ "_" :=by simpa using hn
   simp only[aN] at h
   obtain⟨x,hx1,y,hy1,q,hq,h⟩:=h
   obtain⟨X,hX,vX,_⟩:=tP hx1 hx sx
   obtain⟨Y,hY,vY,_⟩:=tP hy1 hy sy
   have hrun:=hrec hq vX vY
   simp only[Op.eqFields,if_pos hn,Sem.run_bind,hX,hY,hrun,je]
   cases q
   ·simp at h;subst h;simp
   ·simp at h
    simpa using GR hx hy sx sy hrec w fs h
theorem I8 {t:TypeId} {fs:Array Field} (h:P.underlying t=some (.struct fs)):P.fieldsOf t=fs:=by simp[Program.fieldsOf,h]
theorem Bw: ∀(d:Nat) {t:TypeId} {x y:aj} {X Y:Value} {r:Bool},kL P d t x y=some r->VR G x X->VR G y Y->
 ∀(D:Nat),d<=D-> ∀w:World,(ue D t X Y).run P w= .ok r w
 |0,_,_,_,_,_,_,h,_,_=>by simp[kL] at h
 |d+1,t,x,y,X,Y,r,h,hx,hy=>by
  intro D hD w
  obtain⟨D,rfl⟩: ∃E,D=E+1:=⟨D-1,by omega⟩
  simp only[kL,aN] at h
  obtain⟨desc,ht,h⟩:=h
  have hu:=dJ (w:=w) ht
  split at h
  ·cases hx;cases hy;injection h with h;subst h;simp[ue,hu]
  ·cases hx;cases hy
   replace h:=cq h
   obtain⟨hk,h⟩:=h
   injection h with h;subst h
   have hk:=of_decide_eq_true (by simpa using hk)
   subst hk
   simp[ue,hu,bz]
  ·cases hx;cases hy;injection h with h;subst h
   rename_i a b
   have:=run_equalIn_string (P:=P) w D t ⟨⟨a⟩⟩ ⟨⟨b⟩⟩ ht
   rw[this]
   have e1: ∀l:List UInt8,(ByteArray.mk ⟨l⟩).toList=l:=fun l=>ByteArray.toList_mk l
   rw[e1,e1]
  ·rename_i fs xs ys
   cases hx with|agg sx hx=>cases hy with|agg sy hy=>
   replace h:=hQ h
   rcases h with⟨_,h⟩|⟨hp,h⟩
   ·cases h
   ·rw[run_equalIn_struct w D t _ _ (by rw[I8 ht];exact ht) hp,I8 ht]
    exact GR hx hy sx sy (fun {e x y X Y r} hr vx vy w=>Bw d hr vx vy D (by omega) w) w _ h
  ·rename_i len e xs ys
   cases hx with|agg sx hx=>cases hy with|agg sy hy=>
   simp only[aN] at h
   obtain⟨n,hn,h⟩:=h
   have:=VP hx hy sx sy (d:=D) (fun {x y X Y r} hr vx vy w=>Bw d hr vx vy D (by omega) w) w len 0 h
   simp only[ue,Sem.run_bind,hu,je,ij hn]
   rw[Std.Legacy.Range.forIn_eq_forIn_range']
   simp only[Std.Legacy.Range.size,Nat.sub_zero,Nat.add_sub_cancel,Nat.div_one]
   rw[this]
   cases r<;>simp
  all_goals first
   |(cases hx;cases hy;injection h with h;subst h;simp[ue,hu];done)
   |(cases h)
end
section
variable {P:Program} {G:Gh}
theorem aoD {op:BinOp} {k:IntKind} {a b:Int} {v:aj} (h:D1 op k a b=some v) (t:TypeId) (w:World) (h1:op≠ .shl) (h2:op≠ .shr):
 ∃y,(binOp op t (.int k a) (.int k b)).run P w= .ok y w/\VR G v y:=by
 cases op<;>simp only[D1,bp,reduceCtorEq] at h<;>first
  |(subst h;exact⟨_,by simp[binOp];rfl,by constructor⟩)
  |(replace h:=hQ h
    rcases h with⟨_,h⟩|⟨h0,h⟩
    ·cases h
    ·injection h with h;subst h
     have h0:b≠0:=by simpa[bz] using h0
     exact⟨_,by simp[binOp,Op.intDiv,h0];rfl,by constructor⟩)
  |exact absurd rfl h1
  |exact absurd rfl h2
theorem TX (a b:List UInt8):leBytes a b=(iE a b||a==b):=rfl
theorem aoG {op:BinOp} {a b:List UInt8} {v:aj} (h:G8 op a b=some v) (t:TypeId) (w:World):
 ∃y,(binOp op t (.string ⟨⟨a⟩⟩) (.string ⟨⟨b⟩⟩)).run P w= .ok y w/\VR G v y:=by
 have e1: ∀l:List UInt8,(ByteArray.mk ⟨l⟩).toList=l:=fun l=>ByteArray.toList_mk l
 cases op<;>simp only[G8,bp,reduceCtorEq] at h<;>first
  |(subst h;exact⟨_,by simp[binOp,Op.stringOp,e1];rfl,by constructor⟩)
  |(subst h;exact⟨_,by simp[binOp,Op.stringOp,e1,<-TX];rfl,by constructor⟩)
  |(replace h:=cq h
    obtain⟨h0,h⟩:=h
    injection h with h;subst h
    have h0:=jC h0
    refine⟨.string ⟨⟨a++b⟩⟩,?_,.str _⟩
    have:=run_string_add_sum (P:=P) w ⟨⟨a⟩⟩ ⟨⟨b⟩⟩ (by show a.length+b.length<=_;omega)
    rw[show(ByteArray.mk ⟨a⟩++ByteArray.mk ⟨b⟩)=ByteArray.mk ⟨a++b⟩ from ByteArray.mk_append_mk a b] at this
    simpa[binOp] using this)
set_option maxHeartbeats 1000000 in
theorem VO {t:TypeId} {x y:aj} {X Y:Value} {r:Bool} (h:td P t x y=some r) (hx:VR G x X) (hy:VR G y Y) (ox oy:Operand) (op:BinOp) (w:World):
 (eqGuard op t ox oy X Y).run P w= .ok () w/\ ∀w:World,(Op.equal t X Y).run P w= .ok r w:=by
 have h8: ∀ {x y},kL P 8 t x y=some r->VR G x X->VR G y Y-> ∀w:World,(Op.equal t X Y).run P w= .ok r w:=fun h hx hy w=>Bw 8 h hx hy 10000 (by omega) w
 unfold td at h
 split at h
 ·replace h:=hQ h
  rcases h with⟨_,h⟩|⟨hg,h⟩
  ·cases h
  ·refine⟨?_,h8 h hx hy⟩
   cases hx;cases hy
   exact run_eqGuard_agg w op t ox oy _ _ hg
 ·refine⟨?_,h8 h hx hy⟩
  rename_i hne
  simp only[kL,aN] at h
  obtain⟨desc,ht,h⟩:=h
  cases hx<;>cases hy<;>first
   |(exact absurd rfl (hne _ _ rfl))
   |(simp at h;done)
   |(cases op<;>simp[eqGuard])
theorem aoA {op:BinOp} {t:TypeId} {x y v:aj} {X Y:Value} (h:gf P op t x y=some v) (hx:VR G x X) (hy:VR G y Y) (ox oy:Operand) (w:World):
 ∃z,((do eqGuard op t ox oy X Y;binOp op t X Y):Sem Value).run P w= .ok z w/\VR G v z:=by
 unfold gf at h
 split at h
 ·rename_i k a k' b
  cases hx;cases hy
  have hg: ∀w:World,(eqGuard op t ox oy (.int k a) (.int k' b)).run P w= .ok () w:=fun w=>by cases op<;>simp[eqGuard]
  simp only[Sem.run_bind,hg,je]
  split at h
  ·replace h:=hQ h
   rcases h with⟨_,h⟩|⟨h0,h⟩
   ·cases h
   ·injection h with h;subst h
    have h0: ¬b<0:=by simpa[di] using h0
    exact⟨_,by simp[binOp,Op.shift,h0];rfl,by constructor⟩
  ·replace h:=hQ h
   rcases h with⟨_,h⟩|⟨h0,h⟩
   ·cases h
   ·injection h with h;subst h
    have h0: ¬b<0:=by simpa[di] using h0
    exact⟨_,by simp[binOp,Op.shift,h0];rfl,by constructor⟩
  ·rename_i h1 h2
   replace h:=cq h
   obtain⟨hk,h⟩:=h
   have hk:k=k':=by simpa using hk
   subst hk
   exact aoD h t w h1 h2
 ·cases hx;cases hy
  have hg: ∀(a b:ByteArray) (w:World),(eqGuard op t ox oy (.string a) (.string b)).run P w= .ok () w:=fun a b w=>by cases op<;>simp[eqGuard]
  simp only[Sem.run_bind,hg,je]
  exact aoG h t w
 ·rename_i hni hns
  split at h
  ·simp only[aN] at h
   obtain⟨b,hb,h⟩:=h
   injection h with h;subst h
   obtain⟨hg,he⟩:=VO hb hx hy ox oy .eql w
   refine⟨.bool b,?_,.bool b⟩
   simp only[Sem.run_bind,hg,je]
   cases hx<;>cases hy<;>first
    |(exact absurd rfl (hni _ _ _ _ rfl))
    |(exact absurd rfl (hns _ _ rfl))
    |(simp[binOp,he])
  ·simp only[aN] at h
   obtain⟨b,hb,h⟩:=h
   injection h with h;subst h
   obtain⟨hg,he⟩:=VO hb hx hy ox oy .neq w
   refine⟨.bool (!b),?_,.bool (!b)⟩
   simp only[Sem.run_bind,hg,je]
   cases hx<;>cases hy<;>first
    |(exact absurd rfl (hni _ _ _ _ rfl))
    |(exact absurd rfl (hns _ _ rfl))
    |(simp[binOp,he])
  ·cases h
end
theorem Jk {sz:Nat} {xs:List aj} (hsz: ∀x∈xs,x.cells.length=sz) {j:Nat} (hj:j<xs.length) {i:Nat} (hi:i<sz):
 (cj xs)[j*sz+i]? =(iX xs j).cells[i]? :=by
 induction xs generalizing j with
 |nil=>simp at hj
 |cons x xs ih=>
  have hx:=hsz x (by simp)
  cases j with
  |zero=>simp only[cj,iX,Nat.zero_mul,aQ];rw[pS (by omega)]
  |succ j=>
   simp only[cj,iX]
   rw[qF (by rw[hx,vu];omega),hx]
   have:(j+1)*sz+i-sz=j*sz+i:=by rw[vu];omega
   rw[this]
   exact ih (fun y hy=>hsz y (by simp[hy])) (by simpa using hj)
theorem amH {xs:List aj} {j:Nat} (hj:j<xs.length):iX xs j∈xs:=by
 induction xs generalizing j with
 |nil=>simp at hj
 |cons x xs ih=>
  cases j with
  |zero=>simp[iX]
  |succ j=>simp only[iX];exact List.mem_cons_of_mem _ (ih (by simpa using hj))
theorem lC {sz:Nat} {xs:List aj} (hsz: ∀x∈xs,x.cells.length=sz):(cj xs).length=xs.length*sz:=by
 induction xs with
 |nil=>simp[cj]
 |cons x xs ih=>simp only[cj,dw,aR,hsz x (by simp),ih (fun y hy=>hsz y (by simp[hy])),vu];omega
section
variable {P:Program} {mk:bt} {G:Gh} {s s':St} {B:Nat->Nat} {fr:Fr} {a:Act} {w:World} {o:Oper} {lo hi:Nat} {v:aj} {loc':Loc}
theorem amU {op:BinOp} {t yt:TypeId} {x y:Operand} (ho:o.op= .binOp op t x y yt) (wr:WR G s.heap w) (fx:dC G s.heap B fr a.tmps w)
 (he:Bb P op t x y fr s=some (v,loc',s')):gn P G s.heap w B fr.loc lo hi a o v loc' s'.heap:=by
 simp only[Bb,aN] at he
 obtain⟨p,hp,q,hq,he⟩:=he
 replace he:=kf he
 obtain⟨he,rfl,rfl⟩:=he
 obtain⟨z,hz,hv⟩:=aoA he (fx.evc hp).1 (fx.evc hq).1 x y w
 refine .pure wr fx (y:=z) ?_ (LV.of_VR hv)
 simp only[execOp,ho]
 rw[Sem.run_bind,hz]
 rfl
theorem anl {op:UnOp} {t:TypeId} {x:Operand} (ho:o.op= .unOp op t x) (wr:WR G s.heap w) (fx:dC G s.heap B fr a.tmps w)
 (he:lI x (w4 op) fr s=some (v,loc',s')):gn P G s.heap w B fr.loc lo hi a o v loc' s'.heap:=by
 simp only[lI,aN] at he
 obtain⟨p,hp,he⟩:=he
 replace he:=kf he
 obtain⟨he,rfl,rfl⟩:=he
 have hv:=(fx.evc hp).1
 generalize hx:a.eval x=X at hv
 unfold w4 at he
 split at he
 ·injection he with he;subst he;cases hv
  exact .pure wr fx (by simp[execOp,ho,hx,Op.unary,Op.intArith]) (LV.of_VR (.int _ _))
 ·injection he with he;subst he;cases hv
  exact .pure wr fx (by simp[execOp,ho,hx,Op.unary]) (LV.of_VR (.bool _))
 ·cases he
theorem amZ {src dst:TypeId} {x:Operand} (ho:o.op= .convert src dst x) (wr:WR G s.heap w) (fx:dC G s.heap B fr a.tmps w)
 (he:lI x (zo P src dst) fr s=some (v,loc',s')):gn P G s.heap w B fr.loc lo hi a o v loc' s'.heap:=by
 simp only[lI,aN] at he
 obtain⟨p,hp,he⟩:=he
 replace he:=kf he
 obtain⟨he,rfl,rfl⟩:=he
 have hv:=(fx.evc hp).1
 generalize hx:a.eval x=X at hv
 simp only[zo,aN] at he
 obtain⟨d1,h1,d2,h2,he⟩:=he
 split at he
 ·injection he with he;subst he;cases hv
  exact .pure wr fx (by simp[execOp,ho,hx,convert,dJ h1,dJ h2,Conv.intToInt]) (LV.of_VR (.int _ _))
 ·injection he with he;subst he;cases hv
  exact .pure wr fx (by simp[execOp,ho,hx,convert,dJ h1,dJ h2]) (LV.of_VR (.str _))
 ·cases he
theorem am9 {fn:Fn} {first captured:Array Operand} (ho:o.op= .makeFunc fn first captured) (wr:WR G s.heap w) (fx:dC G s.heap B fr a.tmps w)
 (he:pz fr.env fn first captured=some v):gn P G s.heap w B fr.loc lo hi a o v fr.loc s.heap:=by
 unfold pz at he
 split at he
 ·simp only[aN] at he
  obtain⟨p,hp,q,hq,he⟩:=he
  injection he with he;subst he
  rename_i f
  refine .pure wr fx (y:=.func (.func f) (first.map a.eval) (captured.map a.eval)) (by simp[execOp,ho,Instr.makeFunc]) (LV.of_VR ?_)
  have h1:=(fx.evcs hp).1
  have h2:=(fx.evcs hq).1
  have e1:first.map a.eval=⟨first.toList.map a.eval⟩:=by apply mf;simp
  have e2:captured.map a.eval=⟨captured.toList.map a.eval⟩:=by apply mf;simp
  rw[e1,e2]
  exact .func h1 h2
 ·cases he
theorem am2 {x:Operand} {i:Nat} (ho:o.op= .extract x i) (wr:WR G s.heap w) (fx:dC G s.heap B fr a.tmps w)
 (he:oS x (iy i) fr s=some (v,loc',s')):gn P G s.heap w B fr.loc lo hi a o v loc' s'.heap:=by
 simp only[oS,aN] at he
 obtain⟨p,hp,he⟩:=he
 replace he:=kf he
 obtain⟨he,rfl,rfl⟩:=he
 have hl:=fx.ev hp
 unfold iy at he
 split at he
 ·have hl:VR G _ _:=hl
  generalize hx:a.eval x=X at hl
  cases hl with
  |tup hs=>
   obtain⟨y,hy,hv⟩:=hs.get he
   exact .pure wr fx (y:=y) (by simp[execOp,ho,hx,Instr.extract,hy]) (LV.of_VR hv)
 ·cases he
theorem am4 {t:TypeId} {x:Operand} {f:Nat} (ho:o.op= .fieldAddr t x f) (wr:WR G s.heap w) (fx:dC G s.heap B fr a.tmps w)
 (he:oS x (fun x=>fO P fr.loc t x f) fr s=some (v,loc',s')):gn P G s.heap w B fr.loc lo hi a o v loc' s'.heap:=by
 simp only[oS,aN] at he
 obtain⟨p,hp,he⟩:=he
 replace he:=kf he
 obtain⟨he,rfl,rfl⟩:=he
 have hl:=fx.ev hp
 simp only[fO,aN] at he
 obtain⟨d,hd,he⟩:=he
 split at he
 ·rename_i fields
  simp only[aN] at he
  obtain⟨fd,hfd,n,hn,he⟩:=he
  replace he:=hQ he
  rcases he with⟨_,he⟩|⟨h0,he⟩
  ·cases he
  ·have h0:=vE h0
   have hrun: ∀b off,a.eval x= .pointer (some ⟨b,off,none⟩)->(execOp a.eval o).run P w= .ok (.value (.pointer (some ⟨b,off+fd.offset,none⟩))) w:=by
    intro b off hx
    simp[execOp,ho,hx,Instr.fieldAt,dJ hd,hfd,Instr.sureAddr,fieldPlace,ij hn,h0,mY]
   split at he
   ·rename_i l g off
    replace he:=cq he
    obtain⟨hg,he⟩:=he
    have hg:=(fN hg).symm
    injection he with he;subst he
    obtain⟨h1,_,h2⟩:=hl
    exact .pure wr fx (hrun _ _ (h2 hg)) ⟨h1,⟨_,rfl⟩,fun _=>rfl⟩
   ·injection he with he;subst he
    have hl:VR G _ _:=hl
    generalize hx:a.eval x=X at hl
    cases hl with
    |ptr hn=>exact .pure wr fx (hrun _ _ hx) (LV.of_VR (by rw[o0];exact .ptr hn))
   ·injection he with he;subst he
    have hl:VR G _ _:=hl
    generalize hx:a.eval x=X at hl
    cases hl with
    |ro hro=>exact .pure wr fx (hrun _ _ hx) (LV.of_VR (.ro fun i y hy=>by rw[o0];exact hro _ _ (by rwa [sI] at hy)))
   ·cases he
 ·cases he
theorem am3 {t:TypeId} {x:Operand} {f:Nat} (ho:o.op= .field t x f) (wr:WR G s.heap w) (fx:dC G s.heap B fr a.tmps w)
 (he:lI x (fun x=>zu P t x f) fr s=some (v,loc',s')):gn P G s.heap w B fr.loc lo hi a o v loc' s'.heap:=by
 simp only[lI,aN] at he
 obtain⟨p,hp,he⟩:=he
 replace he:=kf he
 obtain⟨he,rfl,rfl⟩:=he
 have hv:=(fx.evc hp).1
 simp only[zu,aN] at he
 obtain⟨d,hd,he⟩:=he
 split at he
 ·simp only[aN] at he
  obtain⟨fd,hfd,he⟩:=he
  split at he
  ·generalize hx:a.eval x=X at hv
   cases hv with
   |agg hs hvs=>
    obtain⟨y,hy,hr,_⟩:=tP he hvs hs
    exact .pure wr fx (y:=y) (by simp[execOp,ho,hx,Instr.field,dJ hd,hfd,asAgg,hy]) (LV.of_VR hr)
  ·cases he
 ·cases he
theorem wB {i:aj} {n:Nat} (h:fV i=some n): ∃k,i= .int k (.ofNat n):=by
 unfold fV at h
 split at h
 ·injection h with h;subst h;exact⟨_,rfl⟩
 ·cases h
theorem am6 {t:TypeId} {x i:Operand} (ho:o.op= .indexAddr t x i) (wr:WR G s.heap w) (fx:dC G s.heap B fr a.tmps w)
 (he:wF P t x i fr s=some (v,loc',s')):gn P G s.heap w B fr.loc lo hi a o v loc' s'.heap:=by
 simp only[wF,aN] at he
 obtain⟨p,hp,q,hq,he⟩:=he
 replace he:=kf he
 obtain⟨he,rfl,rfl⟩:=he
 have hl:=fx.ev hp
 have hi:=fx.ev hq
 simp only[iU,aN] at he
 obtain⟨j,hj,d,hd,he⟩:=he
 obtain⟨k,rfl⟩:=wB hj
 have hi:VR G (.int k (.ofNat j)) (a.eval i):=hi
 generalize hI:a.eval i=I at hi
 cases hi
 split at he
 ·rename_i len e
  simp only[aN] at he
  obtain⟨n,hn,he⟩:=he
  replace he:=cq he
  obtain⟨hlt,he⟩:=he
  have hlt:=nN hlt
  have hrun: ∀b off,a.eval x= .pointer (some ⟨b,off,none⟩)->(execOp a.eval o).run P w= .ok (.value (.pointer (some ⟨b,off+j*n,none⟩))) w:=by
   intro b off hx
   simp[execOp,ho,hx,hI,Instr.indexAt,asIntOf,dJ hd,Instr.sureAddr,ij hn,hlt,mY]
  split at he
  ·rename_i l g off
   replace he:=cq he
   obtain⟨hg,he⟩:=he
   have hg:=(fN hg).symm
   injection he with he;subst he
   obtain⟨h1,_,h2⟩:=hl
   exact .pure wr fx (hrun _ _ (h2 hg)) ⟨h1,⟨_,rfl⟩,fun _=>rfl⟩
  ·injection he with he;subst he
   have hl:VR G _ _:=hl
   generalize hx:a.eval x=X at hl
   cases hl with
   |ptr hn=>exact .pure wr fx (hrun _ _ hx) (LV.of_VR (by rw[o0];exact .ptr hn))
  ·injection he with he;subst he
   have hl:VR G _ _:=hl
   generalize hx:a.eval x=X at hl
   cases hl with
   |ro hro=>exact .pure wr fx (hrun _ _ hx) (LV.of_VR (.ro fun i y hy=>by rw[o0];exact hro _ _ (by rwa [sI] at hy)))
  ·cases he
 ·rename_i e
  simp only[aN] at he
  obtain⟨n,hn,he⟩:=he
  split at he
  ·rename_i sz xs r
   replace he:=cq he
   obtain⟨hc,he⟩:=he
   simp only[df] at hc
   obtain rfl:=fN hc.1
   have hlt:=nN hc.2
   injection he with he;subst he
   have hl:VR G _ _:=hl
   generalize hx:a.eval x=X at hl
   cases hl with
   |list hsp hpos hsz hcap hro hr=>
    rename_i ad cap
    obtain⟨b,off,sp⟩:=ad
    have hsp:sp=none:=by
     rcases hsp with h|h
     ·omega
     ·exact h
    subst hsp
    refine .pure wr fx (y:=.pointer (some ⟨b,off+j*sz,none⟩)) ?_ (LV.of_VR (.ro ?_))
    ·simp[execOp,ho,hx,hI,Instr.indexAt,asIntOf,dJ hd,ij hn,hlt,mY]
    ·intro i y hy
     rw[o0]
     refine hro _ _ ?_
     have hi:i<sz:=by
      have:=hsz _ (amH hlt)
      rcases iJ i (iX xs j).cells.length with h|h
      ·omega
      ·simp[jS h] at hy
     rw[Jk hsz hlt hi]
     exact hy
  ·rename_i sz m off len lcap
   replace he:=cq he
   obtain⟨hc,he⟩:=he
   simp only[df] at hc
   obtain rfl:=fN hc.1
   have hlt:=nN hc.2
   injection he with he;subst he
   have hl:VR G _ _:=hl
   generalize hx:a.eval x=X at hl
   cases hl with
   |arr hat hsp hpos hlen hcap hadr hdim hd'=>
    rename_i ad bd cap dm
    obtain⟨b,o',sp⟩:=ad
    simp only at hsp;subst hsp
    rcases hadr with h0|⟨rfl,rfl⟩
    ·omega
    ·refine .pure wr fx (y:=.pointer (some ⟨bd.block,bd.off+off+j*sz,none⟩)) ?_ (LV.of_VR ?_)
     ·simp[execOp,ho,hx,hI,Instr.indexAt,asIntOf,dJ hd,ij hn,hlt,mY]
     ·rw[o0];exact .ptr hat
  ·cases he
 ·cases he
theorem am5 {t:TypeId} {x i:Operand} (ho:o.op= .index t x i) (wr:WR G s.heap w) (fx:dC G s.heap B fr a.tmps w)
 (he:Be P t x i fr s=some (v,loc',s')):gn P G s.heap w B fr.loc lo hi a o v loc' s'.heap:=by
 simp only[Be,aN] at he
 obtain⟨p,hp,q,hq,he⟩:=he
 replace he:=kf he
 obtain⟨he,rfl,rfl⟩:=he
 have hl:=(fx.evc hp).1
 have hi:=fx.ev hq
 simp only[qT,aN] at he
 obtain⟨j,hj,d,hd,he⟩:=he
 obtain⟨k,rfl⟩:=wB hj
 have hi:VR G (.int k (.ofNat j)) (a.eval i):=hi
 generalize hI:a.eval i=I at hi
 cases hi
 generalize hx:a.eval x=X at hl
 split at he
 ·rename_i len e
  simp only[aN] at he
  obtain⟨n,hn,he⟩:=he
  replace he:=cq he
  obtain⟨hlt,he⟩:=he
  have hlt:=nN hlt
  split at he
  ·cases hl with
   |agg hs hvs=>
    obtain⟨y,hy,hr,_⟩:=tP he hvs hs
    exact .pure wr fx (y:=y) (by simp[execOp,ho,hx,hI,Instr.index,asIntOf,dJ hd,ij hn,hlt,hy]) (LV.of_VR hr)
  ·cases he
 ·split at he
  ·rename_i bs
   split at he
   ·rename_i b rest hb
    injection he with he;subst he
    cases hl
    have hg:bs[j]? =some b:=by
     have:(bs.drop j)[0]? =some b:=by rw[hb];rfl
     simpa[sI] using this
    refine .pure wr fx (y:=.int .u8 b.toNat) ?_ (LV.of_VR (.int _ _))
    have hg':(ByteArray.mk ⟨bs⟩)[j]? =some b:=by
     have hlt:j<bs.length:=by
      rcases iJ j bs.length with h|h
      ·exact h
      ·simp[jS h] at hg
     rw[j2 hlt] at hg
     rw[getElem?_pos (ByteArray.mk ⟨bs⟩) j (by exact hlt)]
     exact hg
    simp[execOp,ho,hx,hI,Instr.index,asIntOf,dJ hd,hg']
   ·cases he
  ·cases he
 ·cases he
end
section
variable {P:Program} {G:Gh} {h:bD bR} {B:Nat->Nat} {fr:Fr} {a:Act} {w:World}
theorem aqr {cs new cs':List aj} {off:Nat} {vs ys:List Value} (hw:dl cs off new=some cs') (hv:cU G cs vs) (hy:cU G new ys):
 off+ys.length<=vs.length/\cU G cs' (vs.take off++(ys++vs.drop (off+ys.length))):=by
 simp only[dl] at hw
 obtain⟨h1,h2⟩:=cq hw
 have h1:=jC h1
 injection h2 with h2;subst h2
 have:=hv.length
 have:=hy.length
 refine⟨by omega,?_⟩
 rw[<-hy.length]
 exact(hv.take off).append (hy.append (hv.drop _))
theorem VX {a b:List aj}:dY (a++b)=(dY a&&dY b):=by simp[dY]
theorem aqs {cs new cs':List aj} {off:Nat} (hw:dl cs off new=some cs') (hv:dY cs=true) (hy:dY new=true):dY cs'=true:=by
 simp only[dl] at hw
 obtain⟨h1,h2⟩:=cq hw
 injection h2 with h2;subst h2
 simp only[dY,oc,List.mem_append] at hv hy ⊢
 rintro x (hx|hx|hx)
 ·exact hv x (sM hx)
 ·exact hy x hx
 ·exact hv x (vn hx)
theorem aaN (cells:List Value) (off:Nat): ∀(ys:List Value) (k:Nat),off+k+ys.length<=cells.length-> ∀(C:Array Value),C.toList=cells->
 ((ys.zipIdx k).foldl (fun cs (x:Value×Nat)=>cs.setIfInBounds (off+x.2) x.1) C).toList=cells.take (off+k)++(ys++cells.drop (off+k+ys.length)):=by
 intro ys
 induction ys generalizing cells with
 |nil=>intro k _ C hC;simp[hC]
 |cons y ys ih=>
  intro k hk C hC
  simp only[aR] at hk
  simp only[List.zipIdx_cons,List.foldl_cons]
  rw[ih (cells.set (off+k) y) (k+1) (by simp;omega) _ (by simp[hC])]
  have e1:off+(k+1)=off+k+1:=by omega
  rw[e1]
  simp only[aR]
  have e2:(cells.set (off+k) y).take (off+k+1)=cells.take (off+k)++[y]:=by
   rw[List.take_set]
   apply List.ext_getElem?
   intro i
   by_cases h1:i<off+k
   ·rw[pS (by simp;omega),List.getElem?_set_ne (by omega),vl,vl,if_pos (by omega),if_pos h1]
   ·by_cases h2:i=off+k
    ·subst h2
     rw[qF (by simp;omega),List.getElem?_set_self (by simp;omega)]
     simp[xg (by omega:off+k<=cells.length)]
    ·rw[jS (by simp;omega),jS (by simp;omega)]
  have e3:(cells.set (off+k) y).drop (off+k+1+ys.length)=cells.drop (off+k+(ys.length+1)):=by
   rw[List.drop_set,if_pos (by omega)]
   congr 1;omega
  rw[e2,e3]
  simp
theorem Bx {place:Nat->Option (Nat×Nat)} (fx:dC G h B fr a.tmps w): ∀ {parts:List (Nat×Operand)} {cells cs:List aj} {C:Array Value},ee place fr.env cells parts=some cs->cU G cells C.toList->dY cells=true->
 ∃D:Array Value,Instr.fill place C (parts.map fun(x:Nat×Operand)=>(x.1,a.eval x.2))=some D/\cU G cs D.toList/\dY cs=true
 | [],_,_,C,hf,hv,hs=>by simp[ee] at hf;subst hf;exact⟨C,rfl,hv,hs⟩
 |(i,x)::rest,cells,cs,C,hf,hv,hs=>by
  simp only[ee,aN] at hf
  obtain⟨u,hu,⟨off,size⟩,hp,hf⟩:=hf
  replace hf:=cq hf
  obtain⟨hl,hf⟩:=hf
  have hl:=fN hl
  simp only[aN] at hf
  obtain⟨c1,hw,hf⟩:=hf
  obtain⟨hx,ht⟩:=fx.evc hu
  have hc:=hx.cells
  obtain⟨hle,hv1⟩:=aqr hw hv hc
  have hs1:=aqs hw hs (hx.scals_cells ht)
  have hlen:=hc.length
  rw[hl] at hlen
  simp only[tZ] at hlen hle
  let C1:Array Value:=(a.eval x).cells.zipIdx.foldl (fun cs (x:Value×Nat)=>cs.setIfInBounds (off+x.2) x.1) C
  have hC1:C1.toList=C.toList.take off++((a.eval x).cells.toList++C.toList.drop (off+(a.eval x).cells.toList.length)):=by
   have:=aaN C.toList off (a.eval x).cells.toList 0 (by simp;omega) C rfl
   simp only[cQ] at this
   rw[<-this]
   simp only[C1]
   rw[<-Array.foldl_toList,Array.toList_zipIdx]
  rw[<-hC1] at hv1
  obtain⟨D,hD,h2,h3⟩:=Bx fx (place:=place) (parts:=rest) hf hv1 hs1
  refine⟨D,?_,h2,h3⟩
  simp only[List.map_cons,Instr.fill,hp]
  rw[if_neg]
  ·exact hD
  ·simp;omega
end
section
variable {P:Program} {mk:bt} {G:Gh} {s s':St} {B:Nat->Nat} {fr:Fr} {a:Act} {w:World} {o:Oper} {lo hi:Nat} {v:aj} {loc':Loc}
theorem Uu (w:World): ∀ {fs:List Field} {pl:List (Nat×Nat)},yy P fs=some pl->
 ((fs.mapM fun f=>do pure (f.offset,<-sizeOf f.type):Sem (List (Nat×Nat)))).run P w= .ok pl w
 | [],_,h=>by simp[yy] at h;subst h;simp
 |f::fs,_,h=>by
  simp only[yy,aN] at h
  obtain⟨n,hn,r,hr,h⟩:=h
  injection h with h;subst h
  simp only[List.mapM_cons,Sem.run_bind,ij hn,je,Sem.run_pure,Uu w hr]
theorem amW {t:TypeId} {parts:Array (Nat×Operand)} (ho:o.op= .build t parts) (wr:WR G s.heap w) (fx:dC G s.heap B fr a.tmps w)
 (he:gQ P t parts.toList fr.env=some v):gn P G s.heap w B fr.loc lo hi a o v fr.loc s.heap:=by
 simp only[gQ,aN] at he
 obtain⟨z,hz,d,hd,he⟩:=he
 obtain⟨i,zv,hi,hzv,hov⟩:=yV hz
 obtain⟨hzr,hzt⟩:=sw G hov
 split at he
 ·rename_i fields
  simp only[aN] at he
  obtain⟨pl,hpl,cs,hf,he⟩:=he
  injection he with he;subst he
  obtain⟨D,hD,hv,hs⟩:=Bx fx hf hzr.cells (hzr.scals_cells hzt)
  refine .pure wr fx (y:=.agg D) ?_ (LV.of_VR (by simpa using VR.agg hs hv))
  have hm:=Uu (P:=P) w hpl
  simp at hm
  have hD':Instr.fill (fun x=>pl[x]?) zv.cells (parts.toList.map fun(x:Nat×Operand)=>(x.1,a.eval x.2))=some D:=hD
  simp[execOp,ho,Instr.build,rl hi hzv,dJ hd,Array.mapM_eq_mapM_toList,hm,hD']
 ·rename_i len e
  simp only[aN] at he
  obtain⟨n,hn,cs,hf,he⟩:=he
  injection he with he;subst he
  obtain⟨D,hD,hv,hs⟩:=Bx fx hf hzr.cells (hzr.scals_cells hzt)
  refine .pure wr fx (y:=.agg D) ?_ (LV.of_VR (by simpa using VR.agg hs hv))
  simp[execOp,ho,Instr.build,rl hi hzv,dJ hd,ij hn,hD]
 ·cases he
theorem Bu {z:List aj} {zs:List Value} (hz:cU G z zs): ∀n:Nat, ∃R:List Value,cU G (gU z n) R/\R.length=n*zs.length/\ ∀i:Nat,i<n*zs.length->R[i]? =zs[i % zs.length]?
 |0=>⟨[],.nil,by simp,by simp⟩
 |n+1=>by
  obtain⟨R,h1,h2,h3⟩:=Bu hz n
  refine⟨zs++R,hz.append h1,by simp[h2,vu];omega,fun i hi=>?_⟩
  by_cases h:i<zs.length
  ·rw[pS h,Nat.mod_eq_of_lt h]
  ·rw[qF (by omega)]
   have:i-zs.length<n*zs.length:=by rw[vu] at hi;omega
   rw[h3 _ this,Nat.mod_eq_sub_mod (by omega:i≥zs.length)]
theorem Bv {z:List aj} (hz:dY z=true): ∀n:Nat,dY (gU z n)=true
 |0=>rfl
 |n+1=>by simp[gU,VX,hz,Bv hz n]
theorem Hr {zs:Array Value} {R:List Value} {n:Nat} (h1:R.length=n*zs.toList.length) (h2: ∀i:Nat,i<n*zs.toList.length->R[i]? =zs.toList[i % zs.toList.length]?):
 ((Array.range (n*zs.size)).map (fun i=>zs[i % zs.size]!))=⟨R⟩:=by
 apply mf
 simp only[Array.toList_map,Array.toList_range]
 apply List.ext_getElem?
 intro i
 simp only[tZ] at h1 h2
 by_cases hi:i<n*zs.size
 ·rw[h2 i hi]
  have hpos:0<zs.size:=by
   rcases uc zs.size with h|h
   ·rw[h] at hi;omega
   ·exact h
  simp[hi,Nat.mod_lt i hpos]
 ·rw[jS (by simp;omega),jS (by omega)]
theorem vG {g:Bool} {sz:Nat} (hg:g=false->sz=1): ∀ {n:Nat} {cs xs:List aj},iL g sz n cs=some xs->dY cs=true->xs.length=n/\cj xs=cs/\ ∀x∈xs,x.cells.length=sz
 |0,[],_,h,_=>by simp[iL] at h;subst h;exact⟨rfl,rfl,by simp⟩
 |0,_::_,_,h,_=>by simp[iL] at h
 |n+1,cs,xs,h,hs=>by
  simp only[iL] at h
  replace h:=hQ h
  rcases h with⟨g1,h⟩|⟨g1,h⟩
  ·simp only[aN] at h
   obtain⟨e,hc,r,hr,h⟩:=h
   injection h with h;subst h
   obtain⟨h1,h2⟩:=vM hc
   have hs':dY (cs.drop sz)=true:=by
    simp only[dY,oc] at hs ⊢
    exact fun x hx=>hs x (vn hx)
   obtain⟨a1,a2,a3⟩:=vG hg hr hs'
   refine⟨by simp[a1],?_,?_⟩
   ·simp only[cj,aj.cells,a2,h1,nH,oe]
   ·intro x hx
    simp at hx
    rcases hx with rfl|hx
    ·exact h2
    ·exact a3 x hx
  ·split at h
   ·rename_i u rest
    simp only[aN] at h
    obtain⟨r,hr,h⟩:=h
    injection h with h;subst h
    simp only[dY,li,df] at hs
    obtain⟨a1,a2,a3⟩:=vG hg hr hs.2
    have hu:u.cells=[u]:=by cases u<;>first|rfl|(simp[aj.scal] at hs)
    refine⟨by simp[a1],by simp[cj,hu,a2],?_⟩
    intro x hx
    simp at hx
    rcases hx with rfl|hx
    ·rw[hu,hg g1];rfl
    ·exact a3 x hx
   ·cases h
def Gh.fixed (G:Gh) (w:World) (cs:List aj):Gh:=G.more w.heap.size (fun i=>cs[i]?) (none)
theorem Gh.fixed_ro (G:Gh) (w:World) (cs:List aj) (i:Nat):(G.fixed w cs).ro w.heap.size i=cs[i]? :=by simp[Gh.fixed,Gh.more]
theorem WR.fixed {h:bD bR} (x:WR G h w) {cs:List aj} {C:Array Value} (e:TypeId) (hv:cU G cs C.toList) (hs:dY cs=true):
 WR (G.fixed w cs) h (w.alloc (.cells C e))/\ ∀lo hi,dF G h w (G.fixed w cs) h (w.alloc (.cells C e)) lo hi:=
 x.alloc (.cells C e) (fun i=>cs[i]?) none (fun i v hi=>by
  obtain⟨h1,y,hy,h2⟩:=hv.rows hs i v hi
  exact⟨h1,C,e,rfl,y,hy,h2.mono (x.more_le _ _)⟩) (by simp)
theorem tc {e:TypeId} {E:EI} (h:uu P e=some E):fQ P e=some E.n/\CI P e=some E.b/\xT P e=some E.g/\0<E.n/\(E.g=false->E.n=1)/\
 ∃i zv,0<E.b/\P.info? e=some i/\i.zero=some zv/\ofValue zv=some E.z/\zv.cells.size=E.n/\i.bytes=E.b:=by
 simp only[uu,aN] at h
 obtain⟨n,hn,b,hb,g,hg,z,hz,h⟩:=h
 replace h:=cq h
 obtain⟨hc,h⟩:=h
 injection h with h;subst h
 simp only[df,t6] at hc
 obtain⟨i,zv,hi,hzv,hov⟩:=yV hz
 refine⟨hn,hb,hg,nN hc.1.1.1,?_,i,zv,nN hc.2,hi,hzv,hov,?_,?_⟩
 ·intro hg'
  rcases hc.1.2 with h|h
  ·have hg':g=false:=hg'
   rw[hg'] at h;cases h
  ·exact fN h
 ·have:=((sw ⟨fun _=>none,fun _ _=>none,fun _=>none⟩ hov).1.cells).length
  rw[fN hc.1.1.2] at this
  simpa using this.symm
 ·simp only[CI,aN] at hb
  obtain⟨i',hi',hb⟩:=hb
  rw[hi] at hi';injection hi' with hi';subst hi'
  injection hb
theorem yM {t:TypeId} {E:EI} (h:jG P t=some E): ∃e,P.underlying t=some (.slice e)/\uu P e=some E:=by
 simp only[jG,aN] at h
 obtain⟨d,hd,h⟩:=h
 split at h
 ·exact⟨_,hd,h⟩
 ·cases h
theorem amX {hh:Nat} {t:TypeId} {len:Nat} {parts:Array (Nat×Operand)} (ho:o.op= .buildSlice t len parts) (wr:WR G s.heap w) (fx:dC G s.heap B fr a.tmps w)
 (he:ii (ey P t len parts.toList (bo hh 2) fr.env s) fr.loc=some (v,loc',s')) (hfree: ∀n,s.next<=n->n<s'.next->G.at_ n=none):
 gn P G s.heap w B fr.loc s.next s'.next a o v loc' s'.heap:=by
 simp only[ii,aN] at he
 obtain⟨⟨v1,s1⟩,he,hq⟩:=he
 simp only[bp,bX] at hq
 obtain⟨rfl,rfl,rfl⟩:=hq
 simp only[ey,aN] at he
 obtain⟨E,hE,he⟩:=he
 obtain⟨e,hd,hE⟩:=yM hE
 obtain⟨hn,_,hg,hpos,hg1,i,zv,_,hi,hzv,hov,hzs,_⟩:=tc hE
 replace he:=cq he
 obtain⟨hle,he⟩:=he
 have hle:=jC hle
 obtain⟨hzr,hzt⟩:=sw G hov
 simp only[aN] at he
 obtain⟨cs,hf,he⟩:=he
 obtain⟨R,hR,hRl,hRg⟩:=Bu hzr.cells len
 obtain⟨D,hD,hv,hs⟩:=Bx (C:=⟨R⟩) fx hf hR (Bv (hzr.scals_cells hzt) len)
 have hrow:=Hr (zs:=zv.cells) hRl hRg
 rw[hzs] at hrow
 have hlen:D.size=len*E.n:=by
  have h1:=hv.length
  have h2:cs.length=len*E.n:=by
   clear he hD hv hs
   have hl:(gU E.z.cells len).length=len*E.n:=by rw[hR.length,hRl];simp[hzs]
   revert hf
   generalize gU E.z.cells len=c0 at hl
   generalize parts.toList=ps
   intro hf
   induction ps generalizing c0 with
   |nil=>simp[ee] at hf;subst hf;exact hl
   |cons p ps ih=>
    obtain⟨k,x⟩:=p
    simp only[ee,aN] at hf
    obtain⟨u,hu,⟨off,size⟩,hp,hf⟩:=hf
    replace hf:=cq hf
    obtain⟨_,hf⟩:=hf
    simp only[aN] at hf
    obtain⟨c1,hw,hf⟩:=hf
    exact ih c1 (by rw[(WZ hw).2.1];exact hl) hf
  simp at h1;omega
 have hrun:(execOp a.eval o).run P w= .ok (.value (.slice (some ⟨w.heap.size,0,none⟩) len len)) (w.alloc (.cells D e)):=by
  have h0: ¬len*E.n>2 ^ 24:=by omega
  by_cases hz:len*E.n=0
  ·have hR0:R=[]:=by
    have:R.length=0:=by rw[hRl,tZ,hzs];exact hz
    exact List.length_eq_zero_iff.1 this
   subst hR0
   have hD':Instr.fill (fun i=>some (i*E.n,E.n)) #[] (parts.toList.map fun(x:Nat×Operand)=>(x.1,a.eval x.2))=some D:=hD
   have hm0: ∀(f:Nat->Value),Array.map f (Array.range 0)= #[]:=fun f=>by apply mf;simp
   simp[execOp,ho,Instr.buildSlice,dJ hd,ij hn,hz,hm0,hD',newRow]
  ·have hD':Instr.fill (fun i=>some (i*E.n,E.n)) ⟨R⟩ (parts.toList.map fun(x:Nat×Operand)=>(x.1,a.eval x.2))=some D:=hD
   simp[execOp,ho,Instr.buildSlice,dJ hd,ij hn,hz,rl hi hzv,hzs,hrow,hD',newRow,h0]
 replace he:=hQ he
 rcases he with⟨_,he⟩|⟨_,he⟩
 ·simp only[bp,bX] at he
  obtain⟨rfl,rfl⟩:=he
  have hn0:G.at_ s.next=none:=hfree s.next (bK _) (by simp[St.new])
  obtain⟨h1,h2⟩:=wr.boxed hn0 D e cs (hv.rows hs)
  refine .heap fx hrun (.inl rfl) h1 h2 (LV.of_VR ?_)
  exact .arr (Gh.boxed_at G w s.next D.size) rfl hpos (bK _) (bK _) (.inr ⟨rfl,rfl⟩) (Gh.boxed_dim G w s.next D.size) (by simp[hlen])
 ·simp only[aN] at he
  obtain⟨xs,hx,he⟩:=he
  simp only[bp,bX] at he
  obtain⟨rfl,rfl⟩:=he
  obtain⟨c1,c2,c3⟩:=vG hg1 hx hs
  obtain⟨h1,h2⟩:=wr.fixed e hv hs
  refine .heap fx hrun (.inl rfl) h1 (h2 _ _) (LV.of_VR ?_)
  subst c1
  exact .list (.inr rfl) hpos c3 (bK _) (fun i x hx=>by rw[c2] at hx;simpa[Gh.fixed_ro] using hx) rfl
theorem ana {t:TypeId} {r:Option Operand} (ho:o.op= .makeMap t r) (wr:WR G s.heap w) (fx:dC G s.heap B fr a.tmps w)
 (he:ii (nl P t fr.env r s) fr.loc=some (v,loc',s')) (hfree: ∀n,s.next<=n->n<s'.next->G.at_ n=none):
 gn P G s.heap w B fr.loc s.next s'.next a o v loc' s'.heap:=by
 simp only[ii,aN] at he
 obtain⟨⟨v1,s1⟩,he,hq⟩:=he
 simp only[bp,bX] at hq
 obtain⟨rfl,rfl,rfl⟩:=hq
 have fin:v1= .map s.next->s1=s.new (.map [] 0)->(execOp a.eval o).run P w= .ok (.value (.map (some w.heap.size))) (w.alloc (.map #[] 0))->gn P G s.heap w B fr.loc s.next s1.next a o v1 fr.loc s1.heap:=by
  rintro rfl rfl hrun
  have hn0:G.at_ s.next=none:=hfree s.next (bK _) (by simp[St.new])
  obtain⟨h1,h2⟩:=wr.fresh (.map #[] 0)
  have hno: ¬fy G s.heap w.heap.size:=fun ho=>ff _ (wr.owned_lt ho)
  have h3:=h1.named (n:=s.next) (a:=⟨w.heap.size,0,none⟩) (o:=.map [] 0) hn0 (by simp) rfl hno
   ⟨#[],by rw[nL,if_pos rfl],.nil⟩
   (fun i v hv=>absurd (wr.ro_lt hv) (ff _))
  have e2:=h2 s.next (s.next+1)
  refine .heap fx hrun (.inl rfl) h3 ⟨e2.le.trans (Gh.name_le _ _ hn0),e2.size,e2.keep,?_,?_,?_,e2.quiet⟩ (LV.of_VR (.map (a:=⟨w.heap.size,0,none⟩) (by simp[Gh.name])))
  ·intro b hb ho
   rcases wI ho with rfl|ho
   ·exact absurd hb (ff _)
   ·exact ho
  ·intro m a' hm h0
   simp only[Gh.name] at hm
   by_cases em:m=s.next
   ·subst em;exact⟨bK _,by simp[St.new]⟩
   ·rw[if_neg em,h0] at hm;cases hm
  ·intro b o' u hb hv h0
   exact e2.cells b o' u hb hv h0
 unfold nl at he
 rcases r with _|x
 ·simp only[bp,bX] at he
  exact fin he.1.symm he.2.symm (by simp[execOp,ho,Instr.makeMap])
 ·simp only[aN] at he
  obtain⟨d,hd,he⟩:=he
  split at he
  ·simp only[aN] at he
   obtain⟨u,hu,he⟩:=he
   have hl:=fx.ev hu
   split at he
   ·simp only[bp,bX] at he
    have hl:VR G _ _:=hl
    generalize hx:a.eval x=X at hl
    cases hl
    exact fin he.1.symm he.2.symm (by simp[execOp,ho,hx,Instr.makeMap,dJ hd,asInt,asIntOf])
   ·cases he
  ·cases he
end
section
variable {P:Program} {G:Gh}
theorem GS {rec:TypeId->aj->Bool} {d:Nat} {emp:Bool} {xs:List aj} {xv:List Value} (hx:cU G xs xv) (sx:dY xs=true)
 (hrec: ∀ {e:TypeId} {x:aj} {X:Value},rec e x=true->VR G x X-> ∀w:World,(Instr.checkKey emp d e X).run P w= .ok () w) (w:World):
 ∀(fs:List Field),yb P rec xs fs=true->
  (forIn (m:=Sem) fs PUnit.unit fun f _=>do
   if f.name≠ "_" then do
    Instr.checkKey emp d f.type (<-part f.type ⟨xv⟩ f.offset)
    pure (ForInStep.yield PUnit.unit)
   else pure (ForInStep.yield PUnit.unit)).run P w= .ok PUnit.unit w
 | [],_=>by simp
 |f::fs,h=>by
  simp only[yb] at h
  rw[List.forIn_cons]
  cases hn:(f.name== "_")
  ·simp only[hn,cF] at h
   have hn:f.name≠ "_" :=by simpa using hn
   split at h
   ·rename_i a ha
    simp only[df] at h
    obtain⟨X,hX,vX,_⟩:=tP ha hx sx
    simp only[if_pos hn,Sem.run_bind,hX,je,hrec h.1 vX,Sem.run_pure]
    exact GS hx sx hrec w fs h.2
   ·cases h
  ·simp only[hn,cT] at h
   have hn: ¬f.name≠ "_" :=by simpa using hn
   simp only[if_neg hn,Sem.run_bind,je,Sem.run_pure]
   exact GS hx sx hrec w fs h
theorem VS {rec:TypeId->aj->Bool} {d:Nat} {emp:Bool} {e:TypeId} {n:Nat} {xs:List aj} {xv:List Value} (hx:cU G xs xv) (sx:dY xs=true) (hn:fQ P e=some n)
 (hrec: ∀ {x:aj} {X:Value},rec e x=true->VR G x X-> ∀w:World,(Instr.checkKey emp d e X).run P w= .ok () w) (w:World):
 ∀(k i:Nat),AM P rec e n xs k i=true->
  (forIn (m:=Sem) (List.range' i k) PUnit.unit fun i _=>do
   Instr.checkKey emp d e (<-part e ⟨xv⟩ (i*(<-sizeOf e)))
   pure (ForInStep.yield PUnit.unit)).run P w= .ok PUnit.unit w
 |0,_,_=>by simp
 |k+1,i,h=>by
  simp only[AM] at h
  rw[ub,List.forIn_cons]
  split at h
  ·rename_i a ha
   simp only[df] at h
   obtain⟨X,hX,vX,_⟩:=tP ha hx sx
   simp only[Sem.run_bind,ij hn,hX,je,hrec h.1 vX,Sem.run_pure]
   exact VS hx sx hn hrec w k (i+1) h.2
  ·cases h
theorem yJ {emp:Bool}: ∀(d:Nat) {t:TypeId} {x:aj} {X:Value},tB P d t x=true->VR G x X-> ∀(D:Nat),d<=D-> ∀w:World,(Instr.checkKey emp D t X).run P w= .ok () w
 |0,_,_,_,h,_=>by simp[tB] at h
 |d+1,t,x,X,h,hx=>by
  intro D hD w
  obtain⟨D,rfl⟩: ∃E,D=E+1:=⟨D-1,by omega⟩
  simp only[tB] at h
  split at h
  ·rename_i ht;cases hx;simp[Instr.checkKey,dJ ht]
  ·rename_i ht;cases hx;simp[Instr.checkKey,dJ ht]
  ·rename_i ht;cases hx;simp[Instr.checkKey,dJ ht]
  ·rename_i ht
   cases hx with|agg sx hx=>
   have:=GS (emp:=emp) hx sx (d:=D) (fun {e x X} hr vx w=>yJ d hr vx D (by omega) w) w _ h
   simp only[Instr.checkKey,Sem.run_bind,dJ ht,je]
   rw[<-Array.forIn_toList]
   simp at this ⊢
   rw[this]
   rfl
  ·rename_i len e xs ht
   cases hx with|agg sx hx=>
   split at h
   ·rename_i n hn
    have:=VS (emp:=emp) hx sx hn (d:=D) (fun {x X} hr vx w=>yJ d hr vx D (by omega) w) w len 0 h
    simp only[Instr.checkKey,Sem.run_bind,dJ ht,je]
    rw[Std.Legacy.Range.forIn_eq_forIn_range']
    simp at this ⊢
    rw[this]
    rfl
   ·cases h
  ·cases h
theorem ix.length {es:List dx} {ms:List MapEntry} (h:ix G es ms):es.length=ms.length:=by
 induction h with
 |nil=>rfl
 |cons _ _ ih=>simp[ih]
theorem ix.get {es:List dx} {ms:List MapEntry} (h:ix G es ms) {i:Nat} {e:dx} (hi:es[i]? =some e): ∃m,ms[i]? =some m/\sS G e m:=by
 induction h generalizing i with
 |nil=>simp at hi
 |cons a _ ih=>
  cases i with
  |zero=>simp at hi;subst hi;exact⟨_,by simp,a⟩
  |succ i=>simp at hi;obtain⟨m,hm,hr⟩:=ih hi;exact⟨m,by simpa using hm,hr⟩
theorem ix.append {a b:List dx} {x y:List MapEntry} (h:ix G a x) (h':ix G b y):ix G (a++b) (x++y):=by
 induction h with
 |nil=>simpa using h'
 |cons p _ ih=>exact .cons p ih
theorem ix.set {es:List dx} {ms:List MapEntry} (h:ix G es ms) (i:Nat) {e:dx} {m:MapEntry} (hr:sS G e m):ix G (es.set i e) (ms.set i m):=by
 induction h generalizing i with
 |nil=>simpa using ix.nil
 |cons a b ih=>
  cases i with
  |zero=>exact .cons hr b
  |succ i=>exact .cons a (ih i)
def DH (G:Gh) (es:List dx) (i0:Nat):Option (Nat×dx)->Option (Nat×Value)->Prop
 |none,none=>True
 |some (i,e),some (j,v)=>i=j/\i0<=i/\es[i-i0]? =some e/\VR G e.val v
 |_,_=>False
theorem VQ {kt:TypeId} {k:aj} {K:Value} (hk:VR G k K) (w:World): ∀ {es:List dx} {ms:List MapEntry} {i:Nat} {r:Option (Nat×dx)},ix G es ms->kN P kt k es i=some r->
 ∃q,(Instr.findAsking kt K ms i).run P w= .ok q w/\DH G es i r q
 |_,_,i,r,.nil,h=>by simp[kN] at h;subst h;exact⟨none,by simp[Instr.findAsking],trivial⟩
 |_,_,i,r,.cons (e:=e) (m:=m) (es:=es) (ms:=ms) he hs,h=>by
  simp only[kN,aN] at h
  obtain⟨b,hb,h⟩:=h
  have hrun:=Bw 8 hb hk he.key 10000 (by omega) w
  have hrun:(Op.equal kt K m.key).run P w= .ok b w:=hrun
  cases b
  ·simp only[cF] at h
   obtain⟨q,hq,hf⟩:=VQ hk w hs h
   refine⟨q,by simp[Instr.findAsking,hrun,hq],?_⟩
   cases r<;>cases q<;>first
    |trivial
    |(obtain⟨h1,h2,h3,h4⟩:=hf
      refine⟨h1,by omega,?_,h4⟩
      rename_i p _
      have:p.1-i=(p.1-(i+1))+1:=by omega
      rw[this];simpa using h3)
    |exact hf.elim
  ·simp only[cT,bp] at h
   subst h
   exact⟨some (i,m.val),by simp[Instr.findAsking,hrun],rfl,bK _,by simp,he.val⟩
theorem VV {kt:TypeId} {desc:TypeDesc} {x y:aj} {X Y:Value} {b r:Bool} (ht:P.underlying kt=some desc) (hb:kL P 8 kt x y=some b) (hx:VR G x X) (hy:VR G y Y)
 (hs:Instr.sameNow desc X Y=some r):r=b:=by
 simp only[kL,ht,Option.bind_some] at hb
 cases hx<;>cases hy<;>cases desc<;>simp[Instr.sameNow] at hs hb
 all_goals first
  |(rw[<-hs,<-hb];done)
  |(obtain⟨h1,h2⟩:=hs;subst h1;simp[bz] at hb;rw[<-h2,<-hb];done)
  |skip
 ·rename_i a b'
  rw[<-hs,<-hb]
  rw[beq_toListBytes]
  have e1: ∀l:List UInt8,(ByteArray.mk ⟨l⟩).toList=l:=fun l=>ByteArray.toList_mk l
  rw[e1,e1]
theorem Je {kt:TypeId} {desc:TypeDesc} {k:aj} {K:Value} (ht:P.underlying kt=some desc) (hk:VR G k K): ∀ {es:List dx} {ms:List MapEntry} {i:Nat} {r:Option (Nat×dx)} {q:Option (Nat×Value)},
 ix G es ms->kN P kt k es i=some r->Instr.findNow desc K ms i=some q->DH G es i r q
 |_,_,i,r,q,.nil,h,hn=>by
  simp[kN] at h;subst h
  simp[Instr.findNow] at hn;subst hn
  trivial
 |_,_,i,r,q,.cons (e:=e) (m:=m) (es:=es) (ms:=ms) he hs,h,hn=>by
  simp only[kN,aN] at h
  obtain⟨b,hb,h⟩:=h
  simp only[Instr.findNow] at hn
  split at hn
  ·rename_i hsn
   have:=VV ht hb hk he.key hsn
   subst this
   simp only[cT,bp] at h
   subst h
   injection hn with hn;subst hn
   exact⟨rfl,bK _,by simp,he.val⟩
  ·rename_i hsn
   have:=VV ht hb hk he.key hsn
   subst this
   simp only[cF] at h
   have hf:=Je ht hk hs h hn
   cases r<;>cases q<;>first
    |trivial
    |(obtain⟨h1,h2,h3,h4⟩:=hf
      refine⟨h1,by omega,?_,h4⟩
      rename_i p _
      have:p.1-i=(p.1-(i+1))+1:=by omega
      rw[this];simpa using h3)
    |exact hf.elim
  ·cases hn
theorem Bz {kt:TypeId} {k:aj} {K:Value} (hk:VR G k K) (w:World) {es:List dx} {ms:List MapEntry} {r:Option (Nat×dx)} {desc:TypeDesc} (ht:P.underlying kt=some desc) (hs:ix G es ms) (h:kN P kt k es 0=some r):
 ∃q,(Instr.findKey kt K ms).run P w= .ok q w/\DH G es 0 r q:=by
 simp only[Instr.findKey,Sem.run_bind,dJ ht,je]
 cases hn:Instr.findNow desc K ms 0 with
 |some q=>exact⟨q,by simp,Je ht hk hs h hn⟩
 |none=>exact VQ hk w hs h
end
section
variable {P:Program} {mk:bt} {G:Gh} {s s':St} {B:Nat->Nat} {fr:Fr} {a:Act} {w:World} {o:Oper} {lo hi:Nat} {v:aj} {loc':Loc}
theorem nY {r:Nat} {ES:Array MapEntry} {c:Nat} (h:w.heap[r]? =some (.map ES c)):(getObj r).run P w= .ok (.map ES c) w:=by
 simp[getObj,Sem.run,h]
theorem wS {r:Nat} {ES:Array MapEntry} {c:Nat} (ob:Obj) (h:w.heap[r]? =some (.map ES c)):(setObj r ob).run P w= .ok () (ef w r ob):=by
 simp[setObj,Sem.run,h,ef]
theorem yI {r:Nat} {m:Option Nat} {since st:Nat} {seen:Array Nat} (h:w.heap[r]? =some (.mapIter m since seen st)):(getObj r).run P w= .ok (.mapIter m since seen st) w:=by
 simp[getObj,Sem.run,h]
theorem VU {r:Nat} {m:Option Nat} {since st:Nat} {seen:Array Nat} (ob:Obj) (h:w.heap[r]? =some (.mapIter m since seen st)):(setObj r ob).run P w= .ok () (ef w r ob):=by
 simp[setObj,Sem.run,h,ef]
theorem FW {t:TypeId} {k:aj} {ke:TypeId×TypeId} (h:oO P t k=some ke):P.underlying t=some (.map ke.1 ke.2)/\tB P 8 ke.1 k=true/\ ∃d,P.underlying ke.1=some d:=by
 simp only[oO,aN] at h
 obtain⟨d,hd,h⟩:=h
 split at h
 ·replace h:=cq h
  obtain⟨hk,h⟩:=h
  injection h with h;subst h
  refine⟨hd,hk,?_⟩
  simp only[tB] at hk
  split at hk<;>first|(rename_i hu;exact⟨_,hu⟩)|cases hk
 ·cases h
theorem sj (wr:WR G s.heap w) {n:Nat} {es:List dx} {clock:Nat} (hg:s.get mk n=some (.map es clock)):
 ∃ad ES,G.at_ n=some ad/\ad.spot=none/\w.heap[ad.block]? =some (.map ES clock)/\ix G es ES.toList:=by
 obtain⟨ad,h1,h2,ES,h3,h4⟩:=wr.obj n _ (jk hg)
 exact⟨ad,ES,h1,h2,h3,h4⟩
theorem am8 {t:TypeId} {x i:Operand} {ok:Bool} (ho:o.op= .lookup t x i ok) (wr:WR G s.heap w) (fx:dC G s.heap B fr a.tmps w)
 (he:Bf P mk t x i ok fr s=some (v,loc',s')):gn P G s.heap w B fr.loc lo hi a o v loc' s'.heap:=by
 simp only[Bf,aN] at he
 obtain⟨p,hp,k,hk,he⟩:=he
 replace he:=kf he
 obtain⟨he,rfl,rfl⟩:=he
 have hm:=(fx.evc hp).1
 have hK:=(fx.evc hk).1
 simp only[lZ,aN] at he
 obtain⟨ke,hke,z,hz,r,hr,he⟩:=he
 obtain⟨hd,hko,desc,hdk⟩:=FW hke
 obtain⟨ti,zv,hi,hzv,hov⟩:=yV hz
 obtain⟨hzr,hzt⟩:=sw G hov
 have hck: ∀(b:Bool) (w:World),(Instr.checkKey b 10000 ke.1 (a.eval i)).run P w= .ok () w:=fun b w=>yJ 8 hko hK 10000 (by omega) w
 have key: ∃ES:List MapEntry,(∃q,(Instr.findKey ke.1 (a.eval i) ES).run P w= .ok q w/\(match r with|none=>q=none|some e=> ∃j u,q=some (j,u)/\VR G e.2.val u))/\
  ((a.eval x= .map none/\ES=[])\/ ∃b E c,a.eval x= .map (some b)/\w.heap[b]? =some (.map E c)/\E.toList=ES):=by
  unfold yj at hr
  generalize hX:a.eval x=X at hm
  split at hr
  ·injection hr with hr;subst hr
   cases hm
   obtain⟨q,hq,hf⟩:=Bz (P:=P) (G:=G) (kt:=ke.1) hK w hdk .nil (r:=none) (by simp[kN])
   cases q with
   |none=>exact⟨[],⟨none,hq,rfl⟩,.inl ⟨rfl,rfl⟩⟩
   |some q=>exact hf.elim
  ·rename_i n
   simp only[aN] at hr
   obtain⟨ob,hob,hr⟩:=hr
   split at hr
   ·cases hm with
    |map hat=>
    obtain⟨ad,ES,h1,h2,h3,h4⟩:=sj wr hob
    rw[hat] at h1;injection h1 with h1;subst h1
    obtain⟨q,hq,hf⟩:=Bz hK w hdk h4 hr
    refine⟨ES.toList,⟨q,hq,?_⟩,.inr ⟨_,ES,_,rfl,h3,rfl⟩⟩
    cases r<;>cases q<;>first
     |rfl
     |exact hf.elim
     |(obtain⟨h1,h2,h3,h4⟩:=hf;exact⟨_,_,rfl,h4⟩)
   ·cases hr
  ·cases hr
 obtain⟨ES,⟨q,hq,hqr⟩,hcase⟩:=key
 have hrun: ∃y ys,(execOp a.eval o).run P w= .ok (.value (if ok then .tuple #[y,.bool ys] else y)) w/\VR G v (if ok then .tuple #[y,.bool ys] else y):=by
  have fin: ∀(y:Value) (ys:Bool),(q=none/\y=zv/\ys=false\/ ∃j,q=some (j,y)/\ys=true)->(execOp a.eval o).run P w= .ok (.value (if ok then .tuple #[y,.bool ys] else y)) w:=by
   intro y ys hy
   rcases hcase with⟨hX,rfl⟩|⟨b,E,c,hX,hb,rfl⟩
   ·rcases hy with⟨rfl,rfl,rfl⟩|⟨j,rfl,rfl⟩
    ·have hq':(Instr.findKey ke.1 (a.eval i) (#[]:Array MapEntry).toList).run P w= .ok none w:=hq
     simp[execOp,ho,hX,Instr.lookup,dJ hd,hck,hq,rl hi hzv]
    ·simp[execOp,ho,hX,Instr.lookup,dJ hd,hck,hq]
   ·rcases hy with⟨rfl,rfl,rfl⟩|⟨j,rfl,rfl⟩
    ·simp[execOp,ho,hX,Instr.lookup,dJ hd,nY hb,hck,hq,rl hi hzv]
    ·simp[execOp,ho,hX,Instr.lookup,dJ hd,nY hb,hck,hq]
  cases r with
  |none=>
   simp only[bp] at he
   subst he
   refine⟨zv,false,fin zv false (.inl ⟨hqr,rfl,rfl⟩),?_⟩
   cases ok
   ·exact hzr
   ·exact .tup (.cons hzr (.cons (.bool _) .nil))
  |some e=>
   obtain⟨j,u,hj,hu⟩:=hqr
   simp only[bp] at he
   subst he
   refine⟨u,true,fin u true (.inr ⟨j,hj,rfl⟩),?_⟩
   cases ok
   ·exact hu
   ·exact .tup (.cons hu (.cons (.bool _) .nil))
 obtain⟨y,ys,h1,h2⟩:=hrun
 exact .pure wr fx h1 (LV.of_VR h2)
theorem VW {x y:aj} {X Y:Value} (h:wU x y=true) (hx:VR G x X) (hy:VR G y Y): ∀n,Instr.sameBits n X Y=true:=by
 intro n
 unfold wU at h
 split at h
 ·cases hx;cases hy;cases n<;>simpa[Instr.sameBits] using h
 ·rename_i j p k q
  cases hx;cases hy
  simp only[df] at h
  have h1:=h.1
  have h2:p=q:=by simpa[bz] using h.2
  cases n<;>simp[Instr.sameBits,h2]<;>simpa using h1
 ·rename_i p q
  cases hx;cases hy
  have h:p=q:=by simpa using h
  subst h
  have e:(ByteArray.mk ⟨p⟩==ByteArray.mk ⟨p⟩)=true:=by rw[beq_toListBytes];simp
  cases n<;>simp only[Instr.sameBits]<;>exact e
 ·cases h
theorem Il {n:Nat}: ∀ {x y:List aj} {X Y:List Value},ur x y=true->cU G x X->cU G y Y->X.length=Y.length/\((X.zip Y).all fun p=>Instr.sameBits n p.1 p.2)=true
 | [],[],_,_,_,.nil,.nil=>by simp
 |x::xs,y::ys,_,_,h,.cons a b,.cons c d=>by
  simp only[ur,df] at h
  obtain⟨h1,h2⟩:=Il (n:=n) h.2 b d
  refine⟨by simp[h1],?_⟩
  simp only[List.zip_cons_cons,li,df]
  exact⟨VW h.1 a c n,h2⟩
 | [],_::_,_,_,h,_,_=>by simp[ur] at h
 |_::_,[],_,_,h,_,_=>by simp[ur] at h
theorem TT {x y:aj} {X Y:Value} (h:tC x y=true) (hx:VR G x X) (hy:VR G y Y):Instr.sameBits 10000 X Y=true:=by
 unfold tC at h
 split at h
 ·cases hx with|agg _ hx=>cases hy with|agg _ hy=>
  obtain⟨h1,h2⟩:=Il (n:=9999) h hx hy
  show Instr.sameBits (9999+1) _ _=true
  simp only[Instr.sameBits,df]
  exact⟨by simpa using h1,by simpa using h2⟩
 ·exact VW h hx hy 10000
theorem wu (wr:WR G s.heap w) {n:Nat} {es es':List dx} {clock clock':Nat} (hg:s.get mk n=some (.map es clock)) {ad:Addr} (hat:G.at_ n=some ad) {ES ES':Array MapEntry} (hb:w.heap[ad.block]? =some (.map ES clock))
 (hs:ix G es' ES'.toList):
 WR G (s.put n (some (.map es' clock'))).heap (ef w ad.block (.map ES' clock'))/\ ∀lo hi,dF G s.heap w G (s.put n (some (.map es' clock'))).heap (ef w ad.block (.map ES' clock')) lo hi:=by
 refine wr.changed (jk hg) hat ⟨ES',by rw[jn _ _ _ _ (ia hb),if_pos rfl],hs⟩ ?_ ?_
 ·intro i v hv
  have:=(wr.apart n _ ad i v (jk hg) hat hv).1
  cases this
 ·intro d hd
  obtain⟨C,e,hC,_⟩:=wr.dim _ d hd
  rw[hb] at hC;cases hC
theorem Gi (ES:Array MapEntry) (j:Nat) (f:MapEntry->MapEntry) {m:MapEntry} (hm:ES.toList[j]? =some m):(ES.modify j f).toList=ES.toList.set j (f m):=by
 apply List.ext_getElem?
 intro q
 rw[yX,B0,List.getElem?_set]
 by_cases e:j=q
 ·subst e
  have hm':ES[j]? =some m:=by simpa using hm
  have hlt:j<ES.toList.length:=by
   rcases iJ j ES.toList.length with h|h
   ·exact h
   ·simp[jS h] at hm
  rw[if_pos rfl,if_pos rfl,if_pos hlt,hm'];rfl
 ·rw[if_neg e,if_neg e];simp
theorem Va {t:TypeId} {m k x:Operand} (ho:o.op= .mapUpdate t m k x\/o.op= .insert t m k x) (wr:WR G s.heap w) (fx:dC G s.heap B fr a.tmps w)
 (he:yx P mk t m k x fr s=some (v,loc',s')):gn P G s.heap w B fr.loc lo hi a o v loc' s'.heap:=by
 simp only[yx,aN] at he
 obtain⟨mv,hm,kv,hk,xv,hx,he⟩:=he
 simp only[mN,aN] at he
 obtain⟨s1,he,hq⟩:=he
 simp only[bp,bX] at hq
 obtain⟨rfl,rfl,rfl⟩:=hq
 have hM:=(fx.evc hm).1
 have hK:=(fx.evc hk).1
 have hX:=(fx.evc hx).1
 have hex:(execOp a.eval o).run P w=((Instr.mapUpdate t (a.eval m) (a.eval k) (a.eval x)).run P w).andThen fun _ w'=>.ok .skip w':=by
  rcases ho with ho|ho<;>simp[execOp,ho]
 simp only[mR,aN] at he
 obtain⟨ke,hke,he⟩:=he
 obtain⟨hd,hko,desc,hdk⟩:=FW hke
 have hck: ∀(b:Bool) (w:World),(Instr.checkKey b 10000 ke.1 (a.eval k)).run P w= .ok () w:=fun b w=>yJ 8 hko hK 10000 (by omega) w
 split at he
 ·rename_i n
  simp only[aN] at he
  obtain⟨ob,hob,he⟩:=he
  split at he
  ·rename_i es clock
   generalize hMv:a.eval m=M at hM
   cases hM with
   |map hat=>
   rename_i ad
   obtain⟨ad',ES,h1,h2,h3,h4⟩:=sj wr hob
   rw[hat] at h1;injection h1 with h1;subst h1
   simp only[aN] at he
   obtain⟨r,hr,he⟩:=he
   obtain⟨q,hq,hf⟩:=Bz hK w hdk h4 hr
   split at he
   ·rename_i e
    obtain⟨j,e⟩:=e
    replace he:=cq he
    obtain⟨hks,he⟩:=he
    injection he with he;subst he
    cases q with
    |none=>exact hf.elim
    |some q=>
     obtain⟨j',u⟩:=q
     obtain⟨rfl,_,hje,hu⟩:=hf
     simp only[Nat.sub_zero] at hje
     obtain⟨me,hme,her⟩:=h4.get hje
     have hsb:=TT hks her.key hK
     have hme':ES[j]? =some me:=by simpa using hme
     obtain⟨c1,c2⟩:=wu (clock':=clock) (es':=es.set j ⟨kv,xv,e.born⟩) (ES':=ES.modify j fun e=> {e with key:=a.eval k,val:=a.eval x }) wr hob hat h3
      (by rw[Gi ES j _ hme];exact h4.set j ⟨hK,hX,her.born⟩)
     refine .heap fx ?_ (.inr ⟨rfl,rfl⟩) c1 (c2 _ _) (LV.of_VR (.tup .nil))
     rw[hex]
     simp[hMv,Instr.mapUpdate,dJ hd,nY h3,hck,hq,Instr.keyThatStays,hme',hsb,wS _ h3]
   ·injection he with he;subst he
    cases q with
    |some q=>exact hf.elim
    |none=>
     obtain⟨c1,c2⟩:=wu (clock':=clock+1) (es':=es++[⟨kv,xv,clock⟩]) (ES':=ES.push {key:=a.eval k,val:=a.eval x,born:=clock }) wr hob hat h3
      (by simpa using h4.append (.cons ⟨hK,hX,rfl⟩ .nil))
     refine .heap fx ?_ (.inr ⟨rfl,rfl⟩) c1 (c2 _ _) (LV.of_VR (.tup .nil))
     rw[hex]
     simp[hMv,Instr.mapUpdate,dJ hd,nY h3,hck,hq,wS _ h3]
  ·cases he
 ·cases he
theorem anc {t:TypeId} {m k:Operand} (ho:o.op= .mapEntry t m k) (wr:WR G s.heap w) (fx:dC G s.heap B fr a.tmps w)
 (he:Bh P mk t m k fr s=some (v,loc',s')):gn P G s.heap w B fr.loc lo hi a o v loc' s'.heap:=by
 simp only[Bh,aN] at he
 obtain⟨mv,hm,kv,hk,he⟩:=he
 simp only[ii,aN] at he
 obtain⟨⟨v1,s1⟩,he,hq⟩:=he
 simp only[bp,bX] at hq
 obtain⟨rfl,rfl,rfl⟩:=hq
 have hM:=(fx.evc hm).1
 have hK:=(fx.evc hk).1
 simp only[uH,aN] at he
 obtain⟨ke,hke,z,hz,he⟩:=he
 obtain⟨hd,hko,desc,hdk⟩:=FW hke
 obtain⟨ti,zv,hi,hzv,hov⟩:=yV hz
 obtain⟨hzr,hzt⟩:=sw G hov
 have hck: ∀(b:Bool) (w:World),(Instr.checkKey b 10000 ke.1 (a.eval k)).run P w= .ok () w:=fun b w=>yJ 8 hko hK 10000 (by omega) w
 split at he
 ·rename_i n
  simp only[aN] at he
  obtain⟨ob,hob,he⟩:=he
  split at he
  ·rename_i es clock
   generalize hMv:a.eval m=M at hM
   cases hM with
   |map hat=>
   rename_i ad
   obtain⟨ad',ES,h1,h2,h3,h4⟩:=sj wr hob
   rw[hat] at h1;injection h1 with h1;subst h1
   simp only[aN] at he
   obtain⟨r,hr,he⟩:=he
   obtain⟨q,hq,hf⟩:=Bz hK w hdk h4 hr
   split at he
   ·rename_i e
    obtain⟨j,e⟩:=e
    replace he:=cq he
    obtain⟨hks,he⟩:=he
    simp only[bp,bX] at he
    obtain⟨rfl,rfl⟩:=he
    cases q with
    |none=>exact hf.elim
    |some q=>
     obtain⟨j',u⟩:=q
     obtain⟨rfl,_,hje,hu⟩:=hf
     simp only[Nat.sub_zero] at hje
     obtain⟨me,hme,her⟩:=h4.get hje
     have hsb:=TT hks her.key hK
     have hme':ES[j]? =some me:=by simpa using hme
     obtain⟨c1,c2⟩:=wu (clock':=clock) (es':=es.set j ⟨kv,e.val,e.born⟩) (ES':=ES.modify j fun e=> {e with key:=a.eval k }) wr hob hat h3
      (by rw[Gi ES j _ hme];exact h4.set j ⟨hK,her.val,her.born⟩)
     refine .heap fx (y:=.tuple #[u,.int .i64 me.born]) ?_ (.inl rfl) c1 (c2 _ _) (LV.of_VR ?_)
     ·simp[execOp,ho,hMv,Instr.mapEntry,dJ hd,nY h3,hck,hq,Instr.keyThatStays,hme',hsb,wS _ h3,goInt]
     ·rw[her.born];exact .tup (.cons hu (.cons (.int _ _) .nil))
   ·simp only[bp,bX] at he
    obtain⟨rfl,rfl⟩:=he
    cases q with
    |some q=>exact hf.elim
    |none=>
     obtain⟨c1,c2⟩:=wu (clock':=clock+1) (es':=es++[⟨kv,z,clock⟩]) (ES':=ES.push {key:=a.eval k,val:=zv,born:=clock }) wr hob hat h3
      (by simpa using h4.append (.cons ⟨hK,hzr,rfl⟩ .nil))
     refine .heap fx (y:=.tuple #[zv,.int .i64 clock]) ?_ (.inl rfl) c1 (c2 _ _) (LV.of_VR (.tup (.cons hzr (.cons (.int _ _) .nil))))
     simp[execOp,ho,hMv,Instr.mapEntry,dJ hd,nY h3,hck,hq,rl hi hzv,wS _ h3,goInt]
  ·cases he
 ·cases he
theorem V4 {b:Nat} {u:aj}: ∀ {es es':List dx} {ms:List MapEntry} {U:Value},yK b u es=some es'->ix G es ms->VR G u U->
 ∃j m,ms.findIdx? (fun e=>(e.born:Int)==(b:Int))=some j/\ms[j]? =some m/\ix G es' (ms.set j {m with val:=U })
 | [],_,_,_,h,_,_=>by simp[yK] at h
 |e::es,es',_,U,h,.cons (m:=m) (ms:=ms) he hs,hu=>by
  simp only[yK] at h
  replace h:=hQ h
  rcases h with⟨hb,h⟩|⟨hb,h⟩
  ·injection h with h;subst h
   have hb:=fN hb
   have hmb:m.born=b:=by rw[<-he.born,hb]
   exact⟨0,m,by simp[List.findIdx?_cons,hmb],by simp,.cons ⟨he.key,hu,he.born⟩ hs⟩
  ·have hb:=vE hb
   simp only[aN] at h
   obtain⟨r,hr,h⟩:=h
   injection h with h;subst h
   obtain⟨j,m',h1,h2,h3⟩:=V4 hr hs hu
   have hmb: ¬m.born=b:=by rw[<-he.born];exact hb
   refine⟨j+1,m',?_,by simpa using h2,.cons he h3⟩
   have hmb':((m.born:Int)==(b:Int))=false:=by
    simp only[beq_eq_false_iff_ne,ne_eq]
    intro e;exact hmb (Int.ofNat_inj.1 e)
   simp[List.findIdx?_cons,hmb',h1]
theorem am1 {t:TypeId} {m st x:Operand} (ho:o.op= .entryStore t m st x) (wr:WR G s.heap w) (fx:dC G s.heap B fr a.tmps w)
 (he:Bd mk m st x fr s=some (v,loc',s')):gn P G s.heap w B fr.loc lo hi a o v loc' s'.heap:=by
 simp only[Bd,aN] at he
 obtain⟨mv,hm,sv,hsv,xv,hx,he⟩:=he
 simp only[mN,aN] at he
 obtain⟨s1,he,hq⟩:=he
 simp only[bp,bX] at hq
 obtain⟨rfl,rfl,rfl⟩:=hq
 have hM:=(fx.evc hm).1
 have hS:=(fx.evc hsv).1
 have hX:=(fx.evc hx).1
 simp only[vO,aN] at he
 obtain⟨b,hb,he⟩:=he
 obtain⟨k,rfl⟩:=wB hb
 generalize hSv:a.eval st=S at hS
 cases hS
 split at he
 ·rename_i n
  simp only[aN] at he
  obtain⟨ob,hob,he⟩:=he
  split at he
  ·rename_i es clock
   generalize hMv:a.eval m=M at hM
   cases hM with
   |map hat=>
   rename_i ad
   obtain⟨ad',ES,h1,h2,h3,h4⟩:=sj wr hob
   rw[hat] at h1;injection h1 with h1;subst h1
   simp only[aN] at he
   obtain⟨es',hes,he⟩:=he
   injection he with he;subst he
   obtain⟨j,me,hj,hme,hr⟩:=V4 hes h4 hX
   have hj':ES.findIdx? (fun e=>(e.born:Int)==(b:Int))=some j:=by cases ES with|mk l=>simpa using hj
   obtain⟨c1,c2⟩:=wu (clock':=clock) (es':=es') (ES':=ES.modify j fun e=> {e with val:=a.eval x }) wr hob hat h3
    (by rw[Gi ES j _ hme];exact hr)
   refine .heap fx ?_ (.inr ⟨rfl,rfl⟩) c1 (c2 _ _) (LV.of_VR (.tup .nil))
   simp[execOp,ho,hMv,hSv,Instr.entryStore,nY h3,asInt,asIntOf,hj',wS _ h3]
  ·cases he
 ·cases he
theorem ani {t:TypeId} {x:Operand} (ho:o.op= .range t x) (wr:WR G s.heap w) (fx:dC G s.heap B fr a.tmps w)
 (he:((evc fr.env x).bind fun x=>ii (l6 P mk t x s) fr.loc)=some (v,loc',s')) (hfree: ∀n,s.next<=n->n<s'.next->G.at_ n=none):
 gn P G s.heap w B fr.loc s.next s'.next a o v loc' s'.heap:=by
 simp only[aN] at he
 obtain⟨xv,hx,he⟩:=he
 simp only[ii,aN] at he
 obtain⟨⟨v1,s1⟩,he,hq⟩:=he
 simp only[bp,bX] at hq
 obtain⟨rfl,rfl,rfl⟩:=hq
 have hX:=(fx.evc hx).1
 simp only[l6,aN] at he
 obtain⟨d,hd,he⟩:=he
 have fin: ∀(m:Option Nat) (m':Option Nat) (c:Nat),J1 G m m'->v1= .ptr s.next 0->s1=s.new (.iter m c [] c)->
  (execOp a.eval o).run P w= .ok (.value (.pointer (some ⟨w.heap.size,0,none⟩))) (w.alloc (.mapIter m' c #[] c))->gn P G s.heap w B fr.loc s.next s1.next a o v1 fr.loc s1.heap:=by
  rintro m m' c hm rfl rfl hrun
  have hn0:G.at_ s.next=none:=hfree s.next (bK _) (by simp[St.new])
  obtain⟨h1,h2⟩:=wr.fresh (.mapIter m' c #[] c)
  have hno: ¬fy G s.heap w.heap.size:=fun ho=>ff _ (wr.owned_lt ho)
  have h3:=h1.named (n:=s.next) (a:=⟨w.heap.size,0,none⟩) (o:=.iter m c [] c) hn0 (by simp) rfl hno
   ⟨rfl,m',by rw[nL,if_pos rfl],hm⟩
   (fun i v hv=>absurd (wr.ro_lt hv) (ff _))
  have e2:=h2 s.next (s.next+1)
  refine .heap fx hrun (.inl rfl) h3 ⟨e2.le.trans (Gh.name_le _ _ hn0),e2.size,e2.keep,?_,?_,?_,e2.quiet⟩ (LV.of_VR (by simpa using VR.ptr (G:=G.name s.next ⟨w.heap.size,0,none⟩) (n:=s.next) (off:=0) (a:=⟨w.heap.size,0,none⟩) (by simp[Gh.name])))
  ·intro b hb ho
   rcases wI ho with rfl|ho
   ·exact absurd hb (ff _)
   ·exact ho
  ·intro m a' hm h0
   simp only[Gh.name] at hm
   by_cases em:m=s.next
   ·subst em;exact⟨bK _,by simp[St.new]⟩
   ·rw[if_neg em,h0] at hm;cases hm
  ·intro b o' u hb hv h0
   exact e2.cells b o' u hb hv h0
 generalize hXv:a.eval x=X at hX
 split at he
 ·split at he
  ·simp only[bp,bX] at he
   cases hX
   exact fin none none 0 trivial he.1.symm he.2.symm (by simp[execOp,ho,hXv,Instr.range,dJ hd])
  ·rename_i m
   simp only[aN] at he
   obtain⟨ob,hob,he⟩:=he
   split at he
   ·simp only[bp,bX] at he
    cases hX with
    |map hat=>
    rename_i ad
    obtain⟨ad',ES,h1,h2,h3,h4⟩:=sj wr hob
    rw[hat] at h1;injection h1 with h1;subst h1
    exact fin (some m) (some ad.block) _ ⟨ad,hat,rfl⟩ he.1.symm he.2.symm (by simp[execOp,ho,hXv,Instr.range,dJ hd,nY h3])
   ·cases he
  ·cases he
 ·cases he
theorem Gp (a b:Nat):bo a b=(a==b):=by
 cases h:bo a b
 ·exact(beq_eq_false_iff_ne.2 (vE h)).symm
 ·exact(beq_iff_eq.2 (fN h)).symm
theorem pC (a b:Nat):cK a b=decide (a<=b):=by
 cases h:cK a b
 ·have: ¬a<=b:=fun h'=>by rw[Nat.ble_eq_true_of_le h'] at h;cases h
  exact(decide_eq_false this).symm
 ·exact(decide_eq_true (jC h)).symm
theorem XQ {es:List dx} {ms:List MapEntry} (h:ix G es ms) (st:Nat):ms.all (fun e=>decide (e.born≥st))=es.all (fun e=>cK st e.born):=by
 induction h with
 |nil=>rfl
 |cons a b ih=>simp only[li,ih,pC,a.born]
theorem apV {seen:List Nat} {es:List dx} {ms:List MapEntry} (h:ix G es ms):ix G (dK seen es) (ms.filter fun e=> !(⟨seen⟩:Array Nat).contains e.born):=by
 induction h with
 |nil=>exact .nil
 |cons a b ih=>
  rename_i e m es ms
  have e1:seen.any (bo e.born)=(⟨seen⟩:Array Nat).contains m.born:=by
   rw[a.born]
   have: ∀l:List Nat,l.any (bo m.born)=(⟨l⟩:Array Nat).contains m.born:=by
    intro l
    have h0:(⟨l⟩:Array Nat).contains m.born=l.contains m.born:=by simp
    rw[h0]
    clear h0
    induction l with
    |nil=>rfl
    |cons y l ihl=>
     simp only[List.any_cons,List.contains_cons,ihl,Gp]
   exact this seen
  unfold dK at ih ⊢
  simp only[yY,e1]
  split
  ·exact .cons a ih
  ·exact ih
theorem aav {es:List dx} {ms:List MapEntry} (h:ix G es ms) {since:Nat} (ha:es.all (fun e=>cg e.born since)=true):
 ms.filter (fun e=>decide (e.born<since))=ms/\ms.filter (fun e=>decide (e.born≥since))=[]:=by
 induction h with
 |nil=>exact⟨rfl,rfl⟩
 |cons a b ih=>
  rename_i e m es ms
  simp only[li,df] at ha
  obtain⟨h1,h2⟩:=ih ha.2
  have hlt:=nN ha.1
  rw[a.born] at hlt
  refine⟨?_,?_⟩
  ·rw[yY,if_pos (by simpa using hlt),h1]
  ·rw[yY,if_neg (by simp;omega),h2]
noncomputable def jM (mk:bt) (it:aj) (s:St):Nat:=
 match it with
 | .ptr n _=>match s.get mk n with
   |some (.iter (some m) _ seen _)=>match s.get mk m with
    |some (.map es _)=>(dK seen es).length
    |_=>0
   |_=>0
 |_=>0
theorem anf {ch:Nat->Nat} {kmax:Nat->Nat} {x:Operand} {isString:Bool} {xv:aj} (ho:o.op= .next x isString) (wr:WR G s.heap w) (fx:dC G s.heap B fr a.tmps w)
 (hx:evc fr.env x=some xv) (he:ii (kR mk ch kmax xv isString s) fr.loc=some (v,loc',s'))
 (hch:2<=jM mk xv s->ch s.ci % jM mk xv s=(w.tape w.drawn (.mapNext (jM mk xv s))) % jM mk xv s):
 gn P G s.heap w B fr.loc lo hi a o v loc' s'.heap:=by
 simp only[ii,aN] at he
 obtain⟨⟨v1,s1⟩,he,hq⟩:=he
 simp only[bp,bX] at hq
 obtain⟨rfl,rfl,rfl⟩:=hq
 have hX:=(fx.evc hx).1
 generalize hXv:a.eval x=X at hX
 unfold kR at he
 split at he
 ·rename_i n
  simp only[aN] at he
  obtain⟨ob,hob,he⟩:=he
  cases hX with
  |ptr hat=>
  rename_i ad
  obtain⟨ad',hat',hsp,hobj⟩:=wr.obj n _ (jk hob)
  rw[hat] at hat';injection hat' with hat';subst hat'
  split at he
  ·replace he:=hQ he
   rcases he with⟨_,he⟩|⟨hstr,he⟩
   ·cases he
   ·obtain⟨h0,m',hb,hm⟩:=hobj
    cases m' with
    |some _=>exact hm.elim
    |none=>
     simp only[bp,bX] at he
     obtain⟨rfl,rfl⟩:=he
     refine .pure wr fx (y:=.tuple #[.bool false]) ?_ (LV.of_VR (.tup (.cons (.bool _) .nil)))
     simp[execOp,ho,hXv,h0,Instr.next,yI hb,hstr]
  ·rename_i m since seen stepped
   replace he:=hQ he
   rcases he with⟨_,he⟩|⟨hstr,he⟩
   ·cases he
   ·obtain⟨h0,m',hb,hm⟩:=hobj
    cases m' with
    |none=>exact hm.elim
    |some mb=>
     obtain⟨am,ham,rfl⟩:=hm
     simp only[aN] at he
     obtain⟨ob2,hob2,he⟩:=he
     split at he
     ·rename_i es clock
      obtain⟨am',ES,h1,h2,h3,h4⟩:=sj wr hob2
      rw[ham] at h1;injection h1 with h1;subst h1
      have hcount:jM mk (.ptr n 0) s=(dK seen es).length:=by simp[jM,hob,hob2]
      rw[hcount] at hch
      replace he:=hQ he
      rcases he with⟨_,he⟩|⟨hgo,he⟩
      ·cases he
      ·have hL:=apV (seen:=seen) h4
       have hgo':(!(⟨seen⟩:Array Nat).isEmpty&& !ES.isEmpty&&ES.all (fun e=>decide (e.born≥stepped)))=false:=by
        rw[<-hgo]
        have q1:(⟨seen⟩:Array Nat).isEmpty=seen.isEmpty:=by cases seen<;>rfl
        have q2:ES.isEmpty=es.isEmpty:=by
         cases ES with|mk l=>
         have:=h4.length
         cases l<;>cases es<;>first|rfl|simp at this
        have q3:ES.all (fun e=>decide (e.born≥stepped))=es.all (fun e=>cK stepped e.born):=by
         rw[<-XQ h4 stepped]
         cases ES with|mk l=>simp
        rw[q1,q2,q3]
       have hbase: ∀(K:Value->World->Prop),True:=fun _=>trivial
       have hleft:(ES.filter fun e=> !(⟨seen⟩:Array Nat).contains e.born)=⟨ES.toList.filter fun e=> !(⟨seen⟩:Array Nat).contains e.born⟩:=by
        apply mf;simp
       have hXv':a.eval x= .pointer (some ⟨ad.block,0,none⟩):=by rw[hXv,h0]
       generalize hML:(ES.toList.filter fun e=> !(⟨seen⟩:Array Nat).contains e.born)=ML at hL hleft
       generalize hUL:dK seen es=UL at hL he hch
       clear hbase hUL
       unfold nV at he
       split at he
       ·
        simp only[bp,bX] at he
        obtain⟨rfl,rfl⟩:=he
        cases hL
        refine .pure wr fx (y:=.tuple #[.bool false]) ?_ (LV.of_VR (.tup (.cons (.bool _) .nil)))
        simp only[execOp,ho,hXv',Instr.next,Sem.run_bind,yI hb,je,hstr,nY h3,hgo',hleft]
        simp[Question.forced]
       ·rename_i e r
        replace he:=cq he
        obtain⟨hall,he⟩:=he
        obtain⟨f1,f2⟩:=aav hL hall
        have g1:(⟨ML⟩:Array MapEntry).filter (fun e=>decide (e.born<since))=⟨ML⟩:=by apply mf;simpa using f1
        have g2:(⟨ML⟩:Array MapEntry).filter (fun e=>decide (e.born≥since))= #[]:=by apply mf;simpa using f2
        have hlen:=hL.length
        have hne:(⟨ML⟩:Array MapEntry).isEmpty=false:=by
         cases ML with
         |nil=>simp at hlen
         |cons _ _=>rfl
        have hcand:((if(⟨ML⟩:Array MapEntry).isEmpty=true then #[none] else #[])++((⟨ML⟩:Array MapEntry)++ #[]).map some)=(⟨ML.map some⟩:Array (Option MapEntry)):=by
         rw[hne];apply mf;simp
        have step: ∀(j:Nat) (e1:dx) (w1:World),w1.heap=w.heap->oz w w1->(e::r)[j]? =some e1-> ∃m1,ML[j]? =some m1/\sS G e1 m1/\
         WR G (pL n m since clock seen e1 s).2.heap (ef w1 ad.block (.mapIter (some am.block) since ((⟨seen⟩:Array Nat).push m1.born) clock))/\
         ∀lo hi,dF G s.heap w G (pL n m since clock seen e1 s).2.heap (ef w1 ad.block (.mapIter (some am.block) since ((⟨seen⟩:Array Nat).push m1.born) clock)) lo hi:=by
         intro j e1 w1 hw1 hq1 hj
         obtain⟨m1,hm1,hr1⟩:=hL.get hj
         refine⟨m1,hm1,hr1,?_⟩
         have wr1:=wr.of_heap hw1
         have hb1:w1.heap[ad.block]? =some (.mapIter (some am.block) since ⟨seen⟩ stepped):=by rw[hw1];exact hb
         obtain⟨c1,c2⟩:=wr1.changed (o':=.iter (some m) since (seen++[e1.born]) clock) (ob:=.mapIter (some am.block) since ((⟨seen⟩:Array Nat).push m1.born) clock) (jk hob) hat
          ⟨h0,some am.block,by rw[jn _ _ _ _ (ia hb1),if_pos rfl,hr1.born];congr 2;apply mf;simp,am,ham,rfl⟩
          (fun i u hu=>by have:=(wr.apart n _ ad i u (jk hob) hat hu).1;cases this)
          (fun d hd=>by obtain⟨C,e',hC,_⟩:=wr.dim _ d hd;rw[hb] at hC;cases hC)
         refine⟨c1,fun lo hi=>?_⟩
         have:=c2 lo hi
         exact⟨this.le,by rw[<-hw1];exact this.size,fun b hb=>by rw[<-hw1] at hb ⊢;exact this.keep b hb,fun b hb=>by rw[<-hw1] at hb;exact this.owns b hb,this.names,fun b o v hb=>by rw[<-hw1] at hb;exact this.cells b o v hb,hq1.trans this.quiet⟩
        cases r with
        |nil=>
         simp only[bp] at he
         obtain⟨m1,hm1,hr1,c1,c2⟩:=step 0 e w rfl (.refl w) (by simp)
         have hML1:ML=[m1]:=by
          cases ML with
          |nil=>simp at hlen
          |cons y ys=>
           cases ys with
           |nil=>simp at hm1;rw[hm1]
           |cons _ _=>simp at hlen
         have e1:v1=(pL n m since clock seen e s).1:=by rw[he]
         have e2:s1=(pL n m since clock seen e s).2:=by rw[he]
         subst e1;subst e2
         refine .heap fx (y:=.tuple #[.bool true,m1.key,m1.val]) ?_ (.inl rfl) c1 (c2 _ _) (LV.of_VR (.tup (.cons (.bool _) (.cons hr1.key (.cons hr1.val .nil)))))
         subst hML1
         simp only[execOp,ho,hXv',Instr.next,Sem.run_bind,yI hb,je,hstr,nY h3,hgo',hleft,g1,g2,hcand]
         simp[Question.forced,VU _ hb]
        |cons e' r'=>
         replace he:=cq he
         obtain⟨_,he⟩:=he
         simp only[aN] at he
         obtain⟨e1,hj,he⟩:=he
         simp only[bp,bX] at he
         obtain⟨m1,hm1,hr1,c1,c2⟩:=step _ e1 w.drew rfl ⟨rfl,rfl,bK _,fun _ _=>rfl,rfl,Nat.le_succ _⟩ hj
         obtain⟨rfl,rfl⟩:=he
         have hMLlen:ML.length=(e::e'::r').length:=hlen.symm
         have hnf: ¬ML.length<=1:=by rw[hMLlen];simp
         have hidx:(w.tape w.drawn (.mapNext ML.length)) % ML.length=ch s.ci % (e::e'::r').length:=by rw[hMLlen];exact(hch (by simp)).symm
         refine .heap fx (y:=.tuple #[.bool true,m1.key,m1.val]) ?_ (.inl rfl) c1 (c2 _ _) (LV.of_VR (.tup (.cons (.bool _) (.cons hr1.key (.cons hr1.val .nil)))))
         generalize ch s.ci % (e::e'::r').length=J at hm1 hidx
         have hb':w.drew.heap[ad.block]? =some (.mapIter (some am.block) since ⟨seen⟩ stepped):=hb
         simp only[execOp,ho,hXv',Instr.next,Sem.run_bind,yI hb,je,hstr,nY h3,hgo',hleft,g1,g2,hcand]
         simp[Question.forced,Question.cut,hnf,hidx,hm1,VU _ hb']
     ·cases he
  ·cases he
 ·cases he
theorem Jd {b:Nat}: ∀ {es:List dx} {e:dx} {ms:List MapEntry},se b es=some e->ix G es ms-> ∃m,ms.find? (fun e=>e.born==b)=some m/\sS G e m
 | [],_,_,h,_=>by simp[se] at h
 |e::es,e',_,h,.cons (m:=m) (ms:=ms) he hs=>by
  simp only[se] at h
  replace h:=hQ h
  rcases h with⟨hb,h⟩|⟨hb,h⟩
  ·injection h with h;subst h
   have hb:=fN hb
   exact⟨m,by rw[List.find?_cons_of_pos];rw[<-he.born,hb];simp,he⟩
  ·have hb:=vE hb
   obtain⟨m',h1,h2⟩:=Jd h hs
   refine⟨m',?_,h2⟩
   rw[List.find?_cons_of_neg];·exact h1
   rw[<-he.born];simpa using hb
theorem am0 {x:Operand} (ho:o.op= .entry x) (wr:WR G s.heap w) (fx:dC G s.heap B fr a.tmps w)
 (he:lI x (fun it=>qa mk it s) fr s=some (v,loc',s')):gn P G s.heap w B fr.loc lo hi a o v loc' s'.heap:=by
 simp only[lI,aN] at he
 obtain⟨xv,hx,he⟩:=he
 replace he:=kf he
 obtain⟨he,rfl,rfl⟩:=he
 have hX:=(fx.evc hx).1
 generalize hXv:a.eval x=X at hX
 unfold qa at he
 split at he
 ·rename_i n
  simp only[aN] at he
  obtain⟨ob,hob,he⟩:=he
  cases hX with
  |ptr hat=>
  rename_i ad
  obtain⟨ad',hat',hsp,hobj⟩:=wr.obj n _ (jk hob)
  rw[hat] at hat';injection hat' with hat';subst hat'
  split at he
  ·rename_i m since seen stepped
   obtain⟨h0,m',hb,hm⟩:=hobj
   cases m' with
   |none=>exact hm.elim
   |some mb=>
    obtain⟨am,ham,rfl⟩:=hm
    simp only[aN] at he
    obtain⟨ob2,hob2,he⟩:=he
    split at he
    ·rename_i es clock
     obtain⟨am',ES,h1,h2,h3,h4⟩:=sj wr hob2
     rw[ham] at h1;injection h1 with h1;subst h1
     replace he:=cq he
     obtain⟨hc,he⟩:=he
     obtain rfl:=fN hc
     simp only[aN] at he
     obtain⟨b,hlast,e,hfe,he⟩:=he
     injection he with he;subst he
     obtain⟨me,hme,her⟩:=Jd hfe h4
     have hme':ES.find? (fun e=>e.born==b)=some me:=by cases ES with|mk l=>simpa using hme
     have hback:(⟨seen⟩:Array Nat).back?=some b:=by
      rw[<-hlast];simp
     refine .pure wr fx (y:=.tuple #[me.key,me.val]) ?_ (LV.of_VR (.tup (.cons her.key (.cons her.val .nil))))
     simp[execOp,ho,hXv,h0,Instr.entry,yI hb,hback,nY h3,hme']
    ·cases he
  ·cases he
 ·cases he
end
theorem WY {n:Nat} (h:n<9223372036854775808):IntKind.i64.wrap (Int.ofNat n)=Int.ofNat n:=by
 have:=IntWalk.i64_in (Int.ofNat n) (by constructor<;>simp<;>omega)
 exact this
section
variable {P:Program} {mk:bt} {G:Gh} {s s':St} {B:Nat->Nat} {fr:Fr} {a:Act} {w:World} {o:Oper} {lo hi:Nat} {v:aj} {loc':Loc}
def Gh.listed (G:Gh) (w:World) (n:Nat) (cs:List aj) (size:Nat):Gh:=(G.more w.heap.size (fun i=>cs[i]?) (some size)).name n ⟨w.heap.size,cs.length,none⟩
theorem Gh.listed_at (G:Gh) (w:World) (n:Nat) (cs:List aj) (size:Nat):(G.listed w n cs size).at_ n=some ⟨w.heap.size,cs.length,none⟩:=by simp[Gh.listed,Gh.name]
theorem Gh.listed_dim (G:Gh) (w:World) (n:Nat) (cs:List aj) (size:Nat):(G.listed w n cs size).dim w.heap.size=some size:=by simp[Gh.listed,Gh.name,Gh.more]
theorem Gh.listed_ro (G:Gh) (w:World) (n:Nat) (cs:List aj) (size i:Nat):(G.listed w n cs size).ro w.heap.size i=cs[i]? :=by simp[Gh.listed,Gh.name,Gh.more]
theorem WR.listed {h:bD bR} (x:WR G h w) {n:Nat} (hn:G.at_ n=none) (C:Array Value) (e:TypeId) (cs:List aj)
 (hc: ∀(i:Nat) v,cs[i]? =some v->v.scal=true/\ ∃y,C[i]? =some y/\VR G v y):
 WR (G.listed w n cs C.size) (h.set n (some .tok)) (w.alloc (.cells C e))/\dF G h w (G.listed w n cs C.size) (h.set n (some .tok)) (w.alloc (.cells C e)) n (n+1):=by
 obtain⟨h1,h2⟩:=x.alloc (.cells C e) (fun i=>cs[i]?) (some C.size) (fun i v hi=>by
  obtain⟨hs,y,hy,hv⟩:=hc i v hi
  exact⟨hs,C,e,rfl,y,hy,hv.mono (x.more_le _ _)⟩) (fun d hd=>⟨C,e,rfl,by injection hd⟩)
 have hno: ¬fy (G.more w.heap.size (fun i=>cs[i]?) (some C.size)) h w.heap.size:=by
  rintro⟨m,a,hm,ha,hb⟩
  have:=x.below m a ha
  omega
 have h3:=h1.named (n:=n) (a:=⟨w.heap.size,cs.length,none⟩) (o:=.tok) hn (by simp) rfl hno
  ⟨C,e,by rw[nL,if_pos rfl]⟩
  (fun i v hv=>by
   simp only[Gh.more,if_true] at hv
   refine⟨rfl,?_⟩
   rcases iJ i cs.length with h|h
   ·exact h
   ·simp[jS h] at hv)
 refine⟨h3,⟨(h2 0 0).le.trans (Gh.name_le _ _ hn),(h2 0 0).size,(h2 0 0).keep,?_,?_,?_,(h2 0 0).quiet⟩⟩
 ·intro b hb ho
  rcases wI ho with rfl|ho
  ·exact absurd hb (ff _)
  ·exact(h2 0 0).owns b hb ho
 ·intro m a hm h0
  simp only[Gh.listed,Gh.name,Gh.more] at hm
  by_cases em:m=n
  ·omega
  ·rw[if_neg em,h0] at hm;cases hm
 ·intro b o v hb hv h0
  exact(h2 0 0).cells b o v hb hv h0
theorem anb {hint:Tmp->Nat} {dst:Option Tmp} {t:TypeId} {l c:Operand} (ho:o.op= .makeSlice t l c) (wr:WR G s.heap w) (fx:dC G s.heap B fr a.tmps w)
 (he:Bg P hint dst t l c fr s=some (v,loc',s')) (hfree: ∀n,s.next<=n->n<s'.next->G.at_ n=none):
 gn P G s.heap w B fr.loc s.next s'.next a o v loc' s'.heap:=by
 simp only[Bg,aN] at he
 obtain⟨lv,hl,cv,hc,he⟩:=he
 simp only[ii,aN] at he
 obtain⟨⟨v1,s1⟩,he,hq⟩:=he
 simp only[bp,bX] at hq
 obtain⟨rfl,rfl,rfl⟩:=hq
 simp only[tD,aN] at he
 obtain⟨E,hE,ln,hln,cn,hcn,he⟩:=he
 obtain⟨e,hd,hE⟩:=yM hE
 obtain⟨hn,_,hg,hpos,hg1,i,zv,_,hi,hzv,hov,hzs,hib⟩:=tc hE
 obtain⟨hzr,hzt⟩:=sw G hov
 obtain⟨kl,rfl⟩:=wB hln
 obtain⟨kc,rfl⟩:=wB hcn
 have hL:VR G _ _:=fx.ev hl
 have hC:VR G _ _:=fx.ev hc
 generalize hLv:a.eval l=L at hL
 generalize hCv:a.eval c=C at hC
 cases hL;cases hC
 replace he:=cq he
 obtain⟨hcond,he⟩:=he
 simp only[df] at hcond
 have h1:=jC hcond.1.1
 have h2:=jC hcond.1.2
 have h3:=jC hcond.2
 obtain⟨R,hR,hRl,hRg⟩:=Bu hzr.cells cn
 have hrow:=Hr (zs:=zv.cells) hRl hRg
 rw[hzs] at hrow
 have hRlen:R.length=cn*E.n:=by rw[hRl,tZ,hzs]
 have hrun:(execOp a.eval o).run P w= .ok (.value (.slice (some ⟨w.heap.size,0,none⟩) ln cn)) (w.alloc (.cells ⟨R⟩ e)):=by
  have w1:=WY (n:=ln) (by omega)
  have w2:=WY (n:=cn) (by omega)
  have t1: ¬((cn:Int)<0):=by omega
  have t2: ¬((i.bytes:Int)*(cn:Int)>2 ^ 48):=by
   rw[hib]
   have:((E.b:Int)*(cn:Int))=((cn*E.b:Nat):Int):=by rw[Nat.mul_comm];simp
   rw[this];omega
  have t3: ¬((ln:Int)<0):=by omega
  have t4: ¬((ln:Int)>(cn:Int)):=by omega
  simp only[execOp,ho,hLv,hCv,Instr.makeSlice,Sem.run_bind,dJ hd,je,asInt,asIntOf,Sem.run_pure,typeInfo,run_program,hi,w1,w2]
  by_cases hz:cn*E.n=0
  ·have hR0:R=[]:=List.length_eq_zero_iff.1 (by rw[hRlen];exact hz)
   subst hR0
   have hm0: ∀(f:Nat->Value),Array.map f (Array.range 0)= #[]:=fun f=>by apply mf;simp
   simp[t4,ij hn,hz,hm0,newRow]
   rintro((hh|hh)|hh)
   ·exact absurd hh t1
   ·exact absurd hh (by simpa using t2)
   ·exact absurd hh t3
  ·simp[t4,ij hn,hz,rl hi hzv,hzs,hrow,newRow]
   rintro((hh|hh)|hh)
   ·exact absurd hh t1
   ·exact absurd hh (by simpa using t2)
   ·exact absurd hh t3
 have hzr':=Bv (hzr.scals_cells hzt)
 have hpre: ∀(i:Nat) u,(gU E.z.cells ln)[i]? =some u->u.scal=true/\ ∃y,(⟨R⟩:Array Value)[i]? =some y/\VR G u y:=by
  intro i u hu
  have hle: ∀(p q:Nat),p<=q-> ∀(i:Nat) u,(gU E.z.cells p)[i]? =some u->(gU E.z.cells q)[i]? =some u:=by
   intro p
   induction p with
   |zero=>intro q _ i u hu;simp[gU] at hu
   |succ p ih=>
    intro q hq i u hu
    obtain⟨q,rfl⟩: ∃q',q=q'+1:=⟨q-1,by omega⟩
    simp only[gU] at hu ⊢
    by_cases hi:i<E.z.cells.length
    ·rw[pS hi] at hu ⊢;exact hu
    ·rw[qF (by omega)] at hu ⊢;exact ih q (by omega) _ _ hu
  have:=hR.rows (C:=⟨R⟩) (hzr' cn) i u (hle ln cn h1 i u hu)
  exact this
 replace he:=hQ he
 rcases he with⟨hz,he⟩|⟨_,he⟩
 ·simp only[df] at hz
  obtain rfl:=fN hz.1
  simp only[bp,bX] at he
  obtain⟨rfl,rfl⟩:=he
  have hn0:G.at_ s.next=none:=hfree s.next (bK _) (by simp[St.new])
  obtain⟨c1,c2⟩:=wr.listed hn0 ⟨R⟩ e [] (by simp)
  refine .heap fx hrun (.inl rfl) c1 c2 (LV.of_VR ?_)
  exact .list (.inr rfl) hpos (by simp) (iK _) (by simp[cj]) ⟨by simpa using Gh.listed_at G w s.next [] R.length,R.length,Gh.listed_dim G w s.next [] R.length,by simp[hRlen]⟩
 ·simp only[bp,bX] at he
  obtain⟨rfl,rfl⟩:=he
  have hn0:G.at_ s.next=none:=hfree s.next (bK _) (by simp[St.new])
  obtain⟨c1,c2⟩:=wr.boxed hn0 ⟨R⟩ e _ hpre
  refine .heap fx hrun (.inl rfl) c1 c2 (LV.of_VR ?_)
  exact .arr (Gh.boxed_at G w s.next _) rfl hpos (bK _) h1 (.inr ⟨rfl,rfl⟩) (Gh.boxed_dim G w s.next _) (by simp[hRlen])
end
section
variable {P:Program} {mk:bt} {G:Gh} {s s':St} {B:Nat->Nat} {fr:Fr} {a:Act} {w:World} {o:Oper} {lo hi:Nat} {v:aj} {loc':Loc}
theorem aoE {t ty:TypeId} {x:aj} {X:Value} (h:ie P mk t x s=some v) (hx:VR G x X) (wr:WR G s.heap w): ∃y,(sH #[t] ty #[X]).run P w= .ok y w/\VR G v y:=by
 simp only[ie,aN] at h
 obtain⟨d,hd,h⟩:=h
 split at h
 ·injection h with h;subst h;cases hx
  exact⟨_,by simp[sH,dJ hd,goInt]<;>rfl,.int _ _⟩
 ·injection h with h;subst h
  exact⟨_,by simp[sH,dJ hd,goInt]<;>rfl,.int _ _⟩
 ·injection h with h;subst h;cases hx
  exact⟨_,by simp[sH,dJ hd,goInt]<;>rfl,.int _ _⟩
 ·injection h with h;subst h;cases hx
  exact⟨_,by simp[sH,dJ hd,goInt]<;>rfl,.int _ _⟩
 ·injection h with h;subst h;cases hx
  exact⟨_,by simp[sH,dJ hd,goInt]<;>rfl,.int _ _⟩
 ·injection h with h;subst h;cases hx
  exact⟨_,by simp[sH,dJ hd,goInt]<;>rfl,.int _ _⟩
 ·simp only[aN] at h
  obtain⟨ob,hob,h⟩:=h
  split at h
  ·injection h with h;subst h
   cases hx with
   |map hat=>
   obtain⟨ad,ES,h1,h2,h3,h4⟩:=sj wr hob
   rw[hat] at h1;injection h1 with h1;subst h1
   refine⟨.int .i64 ES.size,by simp[sH,dJ hd,nY h3,goInt],?_⟩
   have:=h4.length
   rw[this];simpa using VR.int (G:=G) .i64 (ES.size:Int)
  ·cases h
 ·cases h
theorem VT {isMax:Bool} (w:World): ∀ {l:List aj} {x v:aj} {X:Value} {L:List Value},sm isMax x l=some v->VR G x X->cU G l L->
 ∃y,(L.foldlM (if isMax then Builtin.max2 else Builtin.min2) X).run P w= .ok y w/\VR G v y:=by
 have e1: ∀l:List UInt8,(ByteArray.mk ⟨l⟩).toList=l:=fun l=>ByteArray.toList_mk l
 intro l
 induction l with
 |nil=>
  intro x v X L h hx hl
  cases hl
  unfold sm at h
  split at h<;>first
   |(simp at*;done)
   |(injection h with h;subst h;exact⟨X,by simp,hx⟩)
   |(cases h)
 |cons y l ih=>
  intro x v X L h hx hl
  cases hl with
  |cons hy hl=>
  rename_i Y L
  unfold sm at h
  split at h
  ·rename_i heq;cases heq
  ·rename_i k p k' q l' heq
   simp only[od] at heq
   obtain⟨rfl,rfl⟩:=heq
   replace h:=cq h
   obtain⟨hk,h⟩:=h
   cases hx;cases hy
   cases isMax
   ·obtain⟨z,hz,hv⟩:=ih h (.int _ _) hl
    refine⟨z,?_,hv⟩
    simp only[List.foldlM_cons,rB,if_false,Sem.run_bind,Builtin.min2,Sem.run_pure,je]
    simp only[rB,if_false,cF,di] at hz
    rw[<-hz]
    congr 3
    by_cases hq:q<p<;>simp[hq]
   ·obtain⟨z,hz,hv⟩:=ih h (.int _ _) hl
    refine⟨z,?_,hv⟩
    simp only[List.foldlM_cons,if_true,Sem.run_bind,Builtin.max2,Sem.run_pure,je]
    simp only[if_true,cT,di] at hz
    rw[<-hz]
    congr 3
    by_cases hq:p<q<;>simp[hq]
  ·rename_i heq;cases heq
  ·rename_i p q l' heq
   simp only[od] at heq
   obtain⟨rfl,rfl⟩:=heq
   cases hx;cases hy
   cases isMax
   ·obtain⟨z,hz,hv⟩:=ih h (.str _) hl
    refine⟨z,?_,hv⟩
    simp only[List.foldlM_cons,rB,if_false,Sem.run_bind,Builtin.min2,Op.stringOp,asBool,Sem.run_pure,je,e1]
    simp only[rB,if_false,cF,TX] at hz
    rw[<-hz]
    cases hq:(iE p q||p==q)<;>simp
   ·obtain⟨z,hz,hv⟩:=ih h (.str _) hl
    refine⟨z,?_,hv⟩
    simp only[List.foldlM_cons,if_true,Sem.run_bind,Builtin.max2,Op.stringOp,asBool,Sem.run_pure,je,e1]
    simp only[if_true,cT] at hz
    rw[<-hz]
    cases hq:(iE p q)<;>simp
  ·cases h
end
theorem ao9 (s:List UInt8) (l h:Nat):(ByteArray.mk ⟨s⟩).extract l h=ByteArray.mk ⟨(s.take h).drop l⟩:=by
 apply ByteArray.ext
 rw[ByteArray.data_extract]
 apply mf
 simp only[Array.toList_extract,List.extract]
 rw[List.drop_take]
section
variable {P:Program} {mk:bt} {G:Gh} {s s':St} {B:Nat->Nat} {fr:Fr} {a:Act} {w:World} {o:Oper} {lo hi:Nat} {v:aj} {loc':Loc}
def xh (x:Option Value) (d n:Nat):Prop:=(x=none/\n=d)\/ ∃k,x=some (.int k (.ofNat n))
theorem mJ (fx:dC G s.heap B fr a.tmps w) {x:Option Operand} {d n:Nat} (h:jX fr.env x d=some n):xh (x.map a.eval) d n:=by
 cases x with
 |none=>simp[jX] at h;exact .inl ⟨rfl,h.symm⟩
 |some x=>
  simp only[jX,aN] at h
  obtain⟨u,hu,h⟩:=h
  obtain⟨k,rfl⟩:=wB h
  have hl:VR G _ _:=fx.ev hu
  generalize hX:a.eval x=X at hl
  cases hl
  exact .inr ⟨k,by simp[hX]⟩
theorem yG {isS:Bool} {len cap l h:Nat} {lv hv:Option Value} (hl:xh lv 0 l) (hh:xh hv len h) (h1:h<=cap) (h2:l<=h) (w:World):
 (Instr.sliceBounds isS len cap lv hv none).run P w= .ok (l,h,cap) w:=by
 have e1: ∀n m:Nat,n<=m->(0<=(Int.ofNat n)/\(Int.ofNat n)<=(m:Int)):=fun n m hnm=>⟨Int.natCast_nonneg n,Int.ofNat_le.2 hnm⟩
 rcases hl with⟨rfl,rfl⟩|⟨k,rfl⟩<;>rcases hh with⟨rfl,rfl⟩|⟨k',rfl⟩<;>
  simp[Instr.sliceBounds,Instr.sliceBound,asIntOf,h1,h2]
theorem VN {len cap l h m:Nat} {lv hv mv:Option Value} (hl:xh lv 0 l) (hh:xh hv len h) (hm: ∃k,mv=some (.int k (.ofNat m))) (hs:hv.isSome=true) (h0:m<=cap) (h1:h<=m) (h2:l<=h) (w:World):
 (Instr.sliceBounds true len cap lv hv mv).run P w= .ok (l,h,m) w:=by
 obtain⟨km,rfl⟩:=hm
 rcases hh with⟨rfl,rfl⟩|⟨k',rfl⟩
 ·simp at hs
 ·rcases hl with⟨rfl,rfl⟩|⟨k,rfl⟩<;>simp[Instr.sliceBounds,Instr.sliceBound,asIntOf,h0,h1,h2]
theorem aaH {sz:Nat} {xs:List aj} (hsz: ∀x∈xs,x.cells.length=sz) {h l:Nat} (_h1:h<=xs.length) (_h2:l<=h):
 ∀(i:Nat) u,(cj ((xs.take h).drop l))[i]? =some u->(cj xs)[l*sz+i]? =some u:=by
 have hd: ∀(l:Nat) (xs:List aj),(∀x∈xs,x.cells.length=sz)->cj (xs.drop l)=(cj xs).drop (l*sz):=by
  intro l
  induction l with
  |zero=>intro xs _;simp
  |succ l ih=>
   intro xs hx
   cases xs with
   |nil=>simp[cj]
   |cons x xs=>
    simp only[List.drop_succ_cons,cj]
    rw[ih xs (fun y hy=>hx y (by simp[hy])),vu,Nat.add_comm,<-List.drop_drop,List.drop_append_of_le_length (by rw[hx x (by simp)];exact bK _)]
    rw[<-hx x (by simp),List.drop_length,cy]
 have ht: ∀(xs ys:List aj),cj (xs++ys)=cj xs++cj ys:=by
  intro xs ys
  induction xs with
  |nil=>simp[cj]
  |cons x xs ih=>simp[cj,ih]
 intro i u hu
 rw[hd l _ (fun y hy=>hsz y (sM hy)),sI] at hu
 have e:cj xs=cj (xs.take h)++cj (xs.drop h):=by rw[<-ht,oe]
 rw[e]
 rcases iJ (l*sz+i) (cj (xs.take h)).length with hlt|hge
 ·rw[pS hlt];exact hu
 ·rw[jS hge] at hu;cases hu
theorem anj {t:TypeId} {x:Operand} {lop hop mop:Option Operand} (ho:o.op= .slice t x lop hop mop) (wr:WR G s.heap w) (fx:dC G s.heap B fr a.tmps w)
 (he:lI x (fun x=>kg P mk t x lop hop mop fr.env s) fr s=some (v,loc',s')):gn P G s.heap w B fr.loc lo hi a o v loc' s'.heap:=by
 simp only[lI,aN] at he
 obtain⟨xv,hx,he⟩:=he
 replace he:=kf he
 obtain⟨he,rfl,rfl⟩:=he
 have hX:=(fx.evc hx).1
 generalize hXv:a.eval x=X at hX
 simp only[kg,aN] at he
 obtain⟨d,hd,he⟩:=he
 split at he
 ·split at he
  ·rename_i bs
   simp only[aN] at he
   obtain⟨h,hh,l,hl,he⟩:=he
   replace he:=cq he
   obtain⟨hc,he⟩:=he
   simp only[df] at hc
   injection he with he;subst he
   cases hX
   refine .pure wr fx (y:=.string ⟨⟨(bs.take h).drop l⟩⟩) ?_ (LV.of_VR (.str _))
   have hb:=yG (P:=P) (isS:=false) (cap:=bs.length) (mJ fx hl) (mJ fx hh) (jC hc.2) (jC hc.1) w
   have hsz:(ByteArray.mk ⟨bs⟩).size=bs.length:=rfl
   simp[execOp,ho,hXv,Instr.sliceAt,Instr.slice,dJ hd,hsz,hb,ao9]
  ·cases he
 ·rename_i e
  simp only[aN] at he
  obtain⟨n,hn,he⟩:=he
  split at he
  ·simp only[aN] at he
   obtain⟨h,hh,l,hl,m,hm,he⟩:=he
   replace he:=cq he
   obtain⟨hc,he⟩:=he
   simp only[df] at hc
   have hiso:=hc.2
   obtain rfl:=fN hc.1.1.1
   obtain rfl:=fN hc.1.1.2
   obtain rfl:=fN hc.1.2
   injection he with he;subst he
   cases hX
   refine .pure wr fx (y:=.slice none 0 0) ?_ (LV.of_VR .nils)
   cases mop with
   |none=>
    have hb:=yG (P:=P) (isS:=true) (cap:=0) (mJ fx hl) (mJ fx hh) (bK _) (bK _) w
    simp[execOp,ho,hXv,Instr.sliceAt,Instr.slice,dJ hd,hb,ij hn]
   |some mx=>
    have hbm:=mJ fx hm
    rcases hbm with⟨h0,_⟩|⟨km,hkm⟩
    ·cases h0
    ·cases hop with
     |none=>simp at hiso
     |some hx=>
      have hb:=VN (P:=P) (cap:=0) (mJ fx hl) (mJ fx hh) ⟨km,hkm⟩ rfl (bK _) (bK _) (bK _) w
      simp only[rI] at hb
      simp[execOp,ho,hXv,Instr.sliceAt,Instr.slice,dJ hd,hb,ij hn]
  ·rename_i sz xs r
   simp only[aN] at he
   obtain⟨h,hh,l,hl,he⟩:=he
   replace he:=cq he
   obtain⟨hc,he⟩:=he
   simp only[df] at hc
   obtain rfl:=fN hc.1.1
   have hlh:=jC hc.1.2
   have hhl:=jC hc.2
   cases hX with
   |list hsp hpos hsz hcap hro hr=>
   rename_i ad cap
   obtain⟨b,off,sp⟩:=ad
   have hsp0:0<cap->sp=none:=fun h0=>by
    rcases hsp with h|h
    ·omega
    ·exact h
   have hlen:((xs.take h).drop l).length=h-l:=by simp;omega
   have hmem: ∀y∈(xs.take h).drop l,y.cells.length=sz:=fun y hy=>hsz y (sM (vn hy))
   have hcells: ∀(i:Nat) u,(cj ((xs.take h).drop l))[i]? =some u->G.ro b (off+l*sz+i)=some u:=fun i u hu=>by
    rw[o0];exact hro _ _ (aaH hsz hhl hlh i u hu)
   split at he
   ·injection he with he;subst he
    have hb:=yG (P:=P) (isS:=true) (cap:=cap) (mJ fx hl) (mJ fx hh) (by omega) hlh w
    refine .pure wr fx (y:=.slice (some (if cap=l then⟨b,off,sp⟩ else⟨b,off+l*sz,none⟩)) (h-l) (cap-l)) ?_ (LV.of_VR ?_)
    ·by_cases hcl:cap=l
     ·subst hcl
      simp[execOp,ho,hXv,Instr.sliceAt,Instr.slice,dJ hd,hb,ij hn]
     ·obtain rfl:=hsp0 (by omega)
      simp[execOp,ho,hXv,Instr.sliceAt,Instr.slice,dJ hd,hb,ij hn,hcl,mY]
    ·rw[<-hlen]
     refine .list (by by_cases hcl:cap=l;exact .inl (by omega);exact .inr (by rw[if_neg hcl])) hpos hmem (by rw[hlen];omega) ?_ ?_
     ·intro i u hu
      by_cases hcl:cap=l
      ·have:(xs.take h).drop l=[]:=List.length_eq_zero_iff.1 (by rw[hlen];omega)
       rw[this] at hu;simp[cj] at hu
      ·rw[if_neg hcl];exact hcells i u hu
     ·rw[hlen]
      cases hcnd:(bo h xs.length&&(cg l h||bo l 0)) with
      |false=>trivial
      |true=>
       simp only[df,t6] at hcnd
       have hhx:=fN hcnd.1
       simp only[cT]
       cases r with
       |full=>simp only[xm] at hr ⊢;omega
       |no=>trivial
       |own k=>
        obtain⟨hk,dm,hdm,hle⟩:=hr
        simp only at hle
        have hcase:l<h\/l=0:=hcnd.2.imp nN fN
        have key:(l=0/\(if cap=l then(⟨b,off,sp⟩:Addr) else⟨b,off+l*sz,none⟩)=⟨b,off,sp⟩)\/(if cap=l then(⟨b,off,sp⟩:Addr) else⟨b,off+l*sz,none⟩)=⟨b,off+l*sz,none⟩:=by
         rcases hcase with hc|rfl
         ·exact .inr (by rw[if_neg (by omega)])
         ·refine .inl ⟨rfl,?_⟩
          by_cases h0:cap=0
          ·rw[if_pos h0]
          ·obtain rfl:=hsp0 (by omega)
           rw[if_neg h0];simp
        rcases key with⟨rfl,hk'⟩|hk'
        ·rw[hk']
         subst hhx
         exact⟨by simpa using hk,dm,hdm,by simpa using hle⟩
        ·rw[hk']
         subst hhx
         refine⟨?_,dm,hdm,?_⟩
         ·rw[hk]
          congr 2
          simp only
          have:xs.length*sz=l*sz+(xs.length-l)*sz:=by rw[<-nI];congr 1;omega
          omega
         ·simp only
          have:cap*sz=l*sz+(cap-l)*sz:=by rw[<-nI];congr 1;omega
          omega
   ·simp only[aN] at he
    obtain⟨m,hm,he⟩:=he
    replace he:=cq he
    obtain⟨hmh,he⟩:=he
    simp only[df] at hmh
    obtain rfl:=fN hmh.1
    injection he with he;subst he
    have hbm:=mJ fx hm
    rcases hbm with⟨h0,_⟩|⟨km,hkm⟩
    ·cases h0
    ·have hb:=VN (P:=P) (cap:=cap) (mJ fx hl) (mJ fx hh) ⟨km,hkm⟩ (by simpa using hmh.2) (by omega) (bK _) hlh w
     simp only[rI] at hb
     refine .pure wr fx (y:=.slice (some (if m=l then⟨b,off,sp⟩ else⟨b,off+l*sz,none⟩)) (m-l) (m-l)) ?_ (LV.of_VR ?_)
     ·by_cases hcl:m=l
      ·subst hcl
       simp[execOp,ho,hXv,Instr.sliceAt,Instr.slice,dJ hd,hb,ij hn]
      ·obtain rfl:=hsp0 (by omega)
       simp[execOp,ho,hXv,Instr.sliceAt,Instr.slice,dJ hd,hb,ij hn,hcl,mY]
     ·rw[<-hlen]
      refine .list (by by_cases hcl:m=l;exact .inl (by omega);exact .inr (by rw[if_neg hcl])) hpos hmem (bK _) ?_ rfl
      intro i u hu
      by_cases hcl:m=l
      ·have:(xs.take m).drop l=[]:=List.length_eq_zero_iff.1 (by rw[hlen];omega)
       rw[this] at hu;simp[cj] at hu
      ·rw[if_neg hcl];exact hcells i u hu
  ·rename_i sz n' off len lcap
   simp only[aN] at he
   obtain⟨h,hh,l,hl,he⟩:=he
   replace he:=cq he
   obtain⟨hc,he⟩:=he
   simp only[df] at hc
   obtain rfl:=fN hc.1.1.1
   have hlh:=jC hc.1.1.2
   have hhl:=jC hc.1.2
   cases mop with
   |some _=>simp at hc
   |none=>
   injection he with he;subst he
   cases hX with
   |arr hat hsp hpos hlen hcap hadr hdim hle=>
   rename_i ad bd cap dm
   obtain⟨b,aoff,sp⟩:=ad
   simp only at hsp;subst hsp
   have hb:=yG (P:=P) (isS:=true) (cap:=cap) (mJ fx hl) (mJ fx hh) (by omega) hlh w
   refine .pure wr fx (y:=.slice (some (if cap=l then⟨b,aoff,none⟩ else⟨b,aoff+l*sz,none⟩)) (h-l) (cap-l)) ?_ (LV.of_VR ?_)
   ·by_cases hcl:cap=l
    ·subst hcl
     simp[execOp,ho,hXv,Instr.sliceAt,Instr.slice,dJ hd,hb,ij hn]
    ·simp[execOp,ho,hXv,Instr.sliceAt,Instr.slice,dJ hd,hb,ij hn,hcl,mY]
   ·have hmul:cap*sz=l*sz+(cap-l)*sz:=by rw[<-nI];congr 1;omega
    refine .arr hat (by split<;>rfl) hpos (by omega) (by omega) ?_ hdim (by omega)
    rcases hadr with h0|⟨h1,h2⟩
    ·exact .inl (by omega)
    ·by_cases hcl:cap=l
     ·exact .inl (by omega)
     ·rw[if_neg hcl]
      exact .inr ⟨h1,by simp only at h2 ⊢;omega⟩
  ·cases he
 ·rename_i len e
  simp only[aN] at he
  obtain⟨n,hn,he⟩:=he
  split at he
  ·rename_i m off
   simp only[aN] at he
   obtain⟨h,hh,l,hl,ob,hob,he⟩:=he
   split at he
   ·rename_i cs
    replace he:=cq he
    obtain⟨hc,he⟩:=he
    simp only[df] at hc
    have hlh:=jC hc.1.1.1.1
    have hhl:=jC hc.1.1.1.2
    have hnz:0<len*n:=nN hc.1.2
    have hpos:0<n:=Nat.pos_of_mul_pos_left hnz
    have hin:=jC hc.2
    cases mop with
    |some _=>simp at hc
    |none=>
    injection he with he;subst he
    cases hX with
    |ptr hat=>
    rename_i ad
    obtain⟨ad',hat',hsp,C,ty,hb,hdm,hcs⟩:=wr.obj m _ (jk hob)
    rw[hat] at hat';injection hat' with hat';subst hat'
    have hbd:=yG (P:=P) (isS:=false) (cap:=len) (mJ fx hl) (mJ fx hh) hhl hlh w
    have hsz:ad.off+cs.length<=C.size\/cs.length=0:=by
     rcases uc cs.length with h0|h0
     ·exact .inr h0
     ·obtain⟨_,y,hy,_⟩:=hcs (cs.length-1) cs[cs.length-1] (j2 (by omega))
      have:ad.off+(cs.length-1)<C.size:=by
       rcases iJ (ad.off+(cs.length-1)) C.size with h|h
       ·exact h
       ·simp[vh h] at hy
      exact .inl (by omega)
    have hmul:len*n=l*n+(len-l)*n:=by rw[<-nI];congr 1;omega
    ·refine .pure wr fx (y:=.slice (some (if len=l then⟨ad.block,ad.off+off,none⟩ else⟨ad.block,ad.off+off+l*n,none⟩)) (h-l) (len-l)) ?_ (LV.of_VR ?_)
     ·by_cases hcl:len=l
      ·subst hcl
       simp[execOp,ho,hXv,Instr.sliceAt,dJ hd,Instr.sureAddr,hbd,ij hn]
      ·simp[execOp,ho,hXv,Instr.sliceAt,dJ hd,Instr.sureAddr,hbd,ij hn,hcl,mY]
     ·refine .arr hat (by split<;>rfl) hpos (by omega) (bK _) ?_ hdm (by omega)
      by_cases hcl:len=l
      ·exact .inl (by omega)
      ·rw[if_neg hcl]
       exact .inr ⟨rfl,by simp only;omega⟩
   ·cases he
  ·cases he
 ·cases he
end
section
variable {P:Program} {mk:bt} {G:Gh} {s s':St} {B:Nat->Nat} {fr:Fr} {a:Act} {w:World} {o:Oper} {lo hi:Nat} {v:aj} {loc':Loc}
theorem VR.slice_len {x:aj} {X:Value} (h:VR G x X) (hs:xV x=true): ∃b n c,X= .slice b n c:=by
 cases h<;>first|(simp[xV] at hs;done)|exact⟨_,_,_,rfl⟩
theorem yH {g:Bool} {n:Nat} {y:aj} {Y:Value} {ys:List aj} (hg:g=false->n=1) (hpos:0<n) (h:ku mk g n y s=some ys) (hy:VR G y Y) (wr:WR G s.heap w):
 ∃C:Array Value,(∀w':World,w'.heap=w.heap->(t8 Y).run P w'= .ok ys.length w'/\ ∀k,k<=ys.length->(pR n k Y).run P w'= .ok ⟨C.toList.take (k*n)⟩ w')/\cU G (cj ys) C.toList/\dY (cj ys)=true/\ ∀u∈ys,u.cells.length=n:=by
 unfold ku at h
 split at h
 ·injection h with h;subst h;cases hy
  refine⟨#[],fun w' hw'=>⟨by simp[t8],fun k hk=>?_⟩,.nil,rfl,by simp⟩
  obtain rfl:k=0:=by simpa using hk
  simp[pR]
 ·rename_i sz xs r
  replace h:=cq h
  obtain⟨hsz,h⟩:=h
  obtain rfl:=fN hsz
  injection h with h;subst h
  cases hy with
  |list hsp hp hm hcap hro hr=>
  rename_i ad cap
  obtain⟨b,off,sp⟩:=ad
  have hsp0:0<cap->sp=none:=fun h0=>by
   rcases hsp with h|h
   ·omega
   ·exact h
  obtain⟨vs,h1,h2,h3⟩:=GL (G:=G) (cs:=cj xs) (f:=fun i=>w.cell? ⟨b,off+i,none⟩) (fun i u hu=>wr.ro _ _ _ (hro i u hu))
  refine⟨⟨vs⟩,fun w' hw'=>⟨by simp[t8],fun k hk=>?_⟩,h1,h2,hm⟩
  have hcell: ∀ad,w'.cell? ad=w.cell? ad:=fun ad=>by simp[World.cell?,hw']
  have hlen:(vs.take (k*sz)).length=k*sz:=by
   rw[qG,<-h1.length,lC hm]
   exact xg (vr _ hk)
  have hl:=run_loadCells_list (P:=P) (w:=w') ⟨b,off,sp⟩ (vs.take (k*sz)) (fun j v hj=>by
   have hk0:0<cap:=by
    have hjl:j<(vs.take (k*sz)).length:=by
     rcases iJ j (vs.take (k*sz)).length with h|h
     ·exact h
     ·simp[jS h] at hj
    rw[hlen] at hjl
    rcases uc k with h|h
    ·subst h;omega
    ·omega
   obtain rfl:=hsp0 hk0
   rw[mY,hcell]
   refine h3 j v ?_
   rw[vl] at hj
   split at hj
   ·exact hj
   ·cases hj)
  rw[hlen] at hl
  simpa[pR] using hl
 ·rename_i sz m off len lcap
  replace h:=cq h
  obtain⟨hsz,h⟩:=h
  obtain rfl:=fN hsz
  simp only[aN] at h
  obtain⟨ob,hob,h⟩:=h
  split at h
  ·rename_i cs
   simp only[aN] at h
   obtain⟨c,hc,h⟩:=h
   cases hy with
   |arr hat hsp hp hlen hcap hadr hdim hle=>
   rename_i ad bd cap dm
   obtain⟨b,aoff,sp⟩:=ad
   simp only at hsp;subst hsp
   obtain⟨bd',hat',hsp',C,ty,hb,_,hcs⟩:=wr.obj m _ (jk hob)
   rw[hat] at hat';injection hat' with hat';subst hat'
   have hsc:dY c=true:=by
    simp only[dY,oc]
    intro u hu
    obtain⟨i,hi⟩:=List.mem_iff_getElem?.1 hu
    exact(hcs _ u (xE hc hi)).1
   obtain⟨c1,c2,c3⟩:=vG hg h hsc
   obtain⟨vs,h1,h2,h3⟩:=GL (G:=G) (cs:=c) (f:=fun i=>w.cell? ⟨bd.block,bd.off+off+i,none⟩) (fun i u hu=>by
    obtain⟨q1,y,hy,q2⟩:=hcs _ u (xE hc hu)
    exact⟨q1,y,by rw[oE hb,o0];exact hy,q2⟩)
   refine⟨⟨vs⟩,fun w' hw'=>⟨by simp[t8,c1],fun k hk=>?_⟩,by rw[c2];exact h1,by rw[c2];exact h2,c3⟩
   have hcell: ∀ad,w'.cell? ad=w.cell? ad:=fun ad=>by simp[World.cell?,hw']
   rw[c1] at hk
   have hvl:vs.length=len*sz:=by rw[<-h1.length];exact(vM hc).2
   have hlen':(vs.take (k*sz)).length=k*sz:=by
    rw[qG,hvl]
    exact xg (vr _ hk)
   rcases hadr with h0|⟨e1,e2⟩
   ·obtain rfl:k=0:=by omega
    simp[pR,loadCells,loadCellsFrom]
   ·simp only at e1 e2
    subst e1;subst e2
    have hl:=run_loadCells_list (P:=P) (w:=w') ⟨bd.block,bd.off+off,none⟩ (vs.take (k*sz)) (fun j v hj=>by
     rw[mY,hcell]
     refine h3 j v ?_
     rw[vl] at hj
     split at hj
     ·exact hj
     ·cases hj)
    rw[hlen'] at hl
    simpa[pR] using hl
  ·cases h
 ·cases h
theorem Jw (newLen:Nat): ∀(r c:Nat),Builtin.growBy newLen r c<=max c (newLen+(newLen+768) / 4)
 |0,c=>by simp[Builtin.growBy];omega
 |r+1,c=>by
  unfold Builtin.growBy
  split
  ·omega
  ·have:=Jw newLen r (c+(c+768) / 4)
   omega
theorem amG {need cap:Nat} (h:cap<need):B4 need cap<=need*2+1024:=by
 unfold B4
 split
 ·omega
 ·split
  ·omega
  ·have:=Jw need 4 cap
   omega
theorem aoo {need b cap:Nat} (h:l7 need b=true) (hc:cap<need): ¬B4 need cap*b>2 ^ 48:=by
 have h1:=jC h
 have h2:=amG hc
 have:B4 need cap*b<=(need*2+1024)*b:=vr _ h2
 omega
theorem aoq {need b:Nat} (h:l7 need b=true) (hb:0<b):need<2 ^ 47:=by
 have h1:=jC h
 have:need*2+1024<=(need*2+1024)*b:=Nat.le_mul_of_pos_right _ hb
 omega
theorem aoy {t t2 ty e:TypeId} {E:EI} (hd:P.underlying t=some (.slice e)) (hE:uu P e=some E) (ht2:mH P t2=true) {base:Option Addr} {len cap k:Nat} {Y:Value} {CX CY:Array Value}
 (hk: ∀w':World,w'.heap=w.heap->(t8 Y).run P w'= .ok k w') (hX: ∀w':World,w'.heap=w.heap->(pR E.n len (.slice base len cap)).run P w'= .ok CX w')
 (hY: ∀w':World,w'.heap=w.heap->(pR E.n k Y).run P w'= .ok CY w') (hn:cap<len+k) (hr:l7 (len+k) E.b=true) (hx:CX.size=len*E.n) (hy:CY.size=k*E.n):
 ∃(newCap:Nat) (R:Array Value),len+k<=newCap/\R.size=newCap*E.n/\(∀i:Nat,i<(len+k)*E.n->R[i]? =(CX++CY)[i]?)/\
  (sG #[t,t2] ty #[.slice base len cap,Y]).run P w= .ok (.slice (some ⟨w.heap.size,0,none⟩) (len+k) newCap) (w.drew.alloc (.cells R e)):=by
 obtain⟨hsz,_,hg,hpos,hg1,i,zv,hb0,hi,hzv,hov,hzs,hib⟩:=tc hE
 have hcap:=aoo hr hn
 have hmax:=aoq hr hb0
 let newCap:=(Question.appendCap (len+k) cap e).cut (w.tape w.drawn (.appendCap (len+k) cap e))
 have hnc:len+k<=newCap:=by simp only[newCap,Question.cut];omega
 refine⟨newCap,CX++CY++Builtin.zeroCells zv.cells (newCap-(len+k)),hnc,?_,?_,?_⟩
 ·simp only[Array.size_append,hx,hy,Builtin.zeroCells,Array.size_map,Array.size_range,hzs]
  rw[<-nI,<-nI];congr 1;omega
 ·intro i hi
  rw[Array.getElem?_append_left]
  simp only[Array.size_append,hx,hy]
  rw[<-nI];exact hi
 ·have ht2': ∃e2,P.underlying t2=some (.slice e2):=by
   unfold mH at ht2
   split at ht2
   ·rename_i e2 h;exact⟨e2,h⟩
   ·cases ht2
  obtain⟨e2,ht2'⟩:=ht2'
  have hle: ¬len+k<=cap:=by omega
  have hX':=hX w.drew rfl
  have hY':=hY w.drew rfl
  simp[sG,dJ hd,ij hsz,dJ ht2',hk w rfl,hle,typeInfo,hi,hib,hcap,Question.forced,hX',hY',rl hi hzv,newRow]
  rw[if_neg (fun h=>by have:=h.2;omega)]
theorem GP {t t2 ty e:TypeId} {E:EI} (hd:P.underlying t=some (.slice e)) (hE:uu P e=some E) (ht2:mH P t2=true) {b off len cap k:Nat} {Y:Value} {CY C:Array Value} {et:TypeId}
 (hk:(t8 Y).run P w= .ok k w) (hY:(pR E.n k Y).run P w= .ok CY w) (hn:len+k<=cap) (hb:w.heap[b]? =some (.cells C et (0,0)))
 (hfit:off+len*E.n+CY.size<=C.size) (hone: ∀y∈CY.toList,y.oneCell'=true):
 (sG #[t,t2] ty #[.slice (some ⟨b,off,none⟩) len cap,Y]).run P w= .ok (.slice (some ⟨b,off,none⟩) (len+k) cap) (ef w b (.cells (jx C (off+len*E.n) CY.toList) et (0,0))):=by
 obtain⟨hsz,_,hg,hpos,hg1,i,zv,hb0,hi,hzv,hov,hzs,hib⟩:=tc hE
 have ht2': ∃e2,P.underlying t2=some (.slice e2):=by
  unfold mH at ht2
  split at ht2
  ·rename_i e2 h;exact⟨e2,h⟩
  ·cases ht2
 obtain⟨e2,ht2'⟩:=ht2'
 have hst:=BB (P:=P) b (off+len*E.n) et CY.toList 0 w C hb (by simpa using hfit) hone
 simp only[cQ] at hst
 simp[sG,dJ hd,ij hsz,dJ ht2',hk,hn,hY,mY,hst]
theorem aoz {t t2 ty e:TypeId} {E:EI} (hd:P.underlying t=some (.slice e)) (hE:uu P e=some E) (ht2:mH P t2=true) {base:Option Addr} {len cap:Nat} {Y:Value}
 (hk:(t8 Y).run P w= .ok 0 w) (hY:(pR E.n 0 Y).run P w= .ok #[] w) (hn:len<=cap):
 (sG #[t,t2] ty #[.slice base len cap,Y]).run P w= .ok (.slice base len cap) w:=by
 obtain⟨hsz,_,hg,hpos,hg1,i,zv,hb0,hi,hzv,hov,hzs,hib⟩:=tc hE
 have ht2': ∃e2,P.underlying t2=some (.slice e2):=by
  unfold mH at ht2
  split at ht2
  ·rename_i e2 h;exact⟨e2,h⟩
  ·cases ht2
 obtain⟨e2,ht2'⟩:=ht2'
 cases base<;>simp[sG,dJ hd,ij hsz,dJ ht2',hk,hn,hY,storeCells]
theorem tk (xs ys:List aj):cj (xs++ys)=cj xs++cj ys:=by
 induction xs with
 |nil=>simp[cj]
 |cons x xs ih=>simp[cj,ih]
theorem VR.cap_le {x:aj} {b:Option Addr} {n c:Nat} (h:VR G x (.slice b n c)):n<=c:=by
 cases h<;>omega
theorem alQ {E:EI} {mu:Bool} {zs:List aj} {v1:aj} {s1 s2:St} {e:TypeId} {newCap:Nat} {R:Array Value} (hpos:0<E.n) (wr:WR G s2.heap w)
 (he:kP E mu zs s2=some (v1,s1)) (hn0:G.at_ s2.next=none) (hz: ∀z∈zs,z.cells.length=E.n) (hcap:zs.length<=newCap) (hR:R.size=newCap*E.n)
 (hc: ∀(i:Nat) v,(cj zs)[i]? =some v->v.scal=true/\ ∃y,R[i]? =some y/\VR G v y):
 s1.next=s2.next+1/\ ∃G',WR G' s1.heap (w.drew.alloc (.cells R e))/\dF G s2.heap w G' s1.heap (w.drew.alloc (.cells R e)) s2.next (s2.next+1)/\VR G' v1 (.slice (some ⟨w.heap.size,0,none⟩) zs.length newCap):=by
 have wr':WR G s2.heap w.drew:=wr.of_heap rfl
 have fixExt: ∀ {G' h'},dF G s2.heap w.drew G' h' (w.drew.alloc (.cells R e)) s2.next (s2.next+1)->dF G s2.heap w G' h' (w.drew.alloc (.cells R e)) s2.next (s2.next+1):=
  fun x=>⟨x.le,x.size,x.keep,x.owns,x.names,x.cells,oz.trans (⟨rfl,rfl,bK _,fun _ _=>rfl,rfl,Nat.le_succ _⟩:oz w w.drew) x.quiet⟩
 simp only[kP] at he
 replace he:=cq he
 obtain⟨_,he⟩:=he
 replace he:=hQ he
 rcases he with⟨_,he⟩|⟨_,he⟩
 ·simp only[bp,bX] at he
  obtain⟨rfl,rfl⟩:=he
  obtain⟨c1,c2⟩:=wr'.boxed hn0 R e (cj zs) hc
  exact⟨rfl,_,c1,fixExt c2,.arr (Gh.boxed_at G w.drew s2.next R.size) rfl hpos (bK _) hcap (.inr ⟨rfl,rfl⟩) (Gh.boxed_dim G w.drew s2.next R.size) (by simp[hR])⟩
 ·simp only[bp,bX] at he
  obtain⟨rfl,rfl⟩:=he
  obtain⟨c1,c2⟩:=wr'.listed hn0 R e (cj zs) hc
  refine⟨rfl,_,c1,fixExt c2,.list (.inr rfl) hpos hz hcap (fun i x hx=>by rw[aQ];exact(Gh.listed_ro G w.drew s2.next (cj zs) R.size i).trans hx) ⟨?_,R.size,Gh.listed_dim G w.drew s2.next (cj zs) R.size,by simp[hR]⟩⟩
  rw[Gh.listed_at,lC hz]
  simp
def Gh.grown (G:Gh) (b e0:Nat) (cs:List aj):Gh where
 at_:=G.at_
 ro c o:=if c=b/\e0<=o/\o<e0+cs.length then cs[o-e0]? else G.ro c o
 dim:=G.dim
theorem WR.extend {h:bD bR} (wr:WR G h w) {k n b e0:Nat} (hk:h.get k=some .tok) (hat:G.at_ k=some ⟨b,e0,none⟩) (hn:G.at_ n=none) {C:Array Value} {et:TypeId} (hb:w.heap[b]? =some (.cells C et (0,0)))
 {cs:List aj} {CY:Array Value} (hv:cU G cs CY.toList) (hs:dY cs=true) (hfit:e0+CY.size<=C.size):
 WR ((G.grown b e0 cs).name n ⟨b,e0+cs.length,none⟩) ((h.set k none).set n (some .tok)) (ef w b (.cells (jx C e0 CY.toList) et (0,0)))/\
 dF G h w ((G.grown b e0 cs).name n ⟨b,e0+cs.length,none⟩) ((h.set k none).set n (some .tok)) (ef w b (.cells (jx C e0 CY.toList) et (0,0))) n (n+1):=by
 have hlt:=ia hb
 have hlen:cs.length=CY.size:=by simpa using hv.length
 have hblk: ∀c,(ef w b (.cells (jx C e0 CY.toList) et (0,0))).heap[c]? =if c=b then some (.cells (jx C e0 CY.toList) et (0,0)) else w.heap[c]? :=fun c=>jn w b c _ hlt
 have hold: ∀i v,G.ro b i=some v->i<e0:=fun i v hi=>(wr.apart k _ _ i v hk hat hi).2
 have hown:fy G h b:=⟨k,_,by rw[hk];simp,hat,rfl⟩
 have hle:G.le (G.grown b e0 cs):=⟨fun _ _ e=>e,fun c o v e=>by
  simp only[Gh.grown]
  rw[if_neg]
  ·exact e
  ·rintro⟨rfl,h1,_⟩
   have:=hold o v e
   omega,fun _ _ e=>e⟩
 have wk:=wr.killed k
 have hno: ¬fy G (h.set k none) b:=A7 (a:=⟨b,e0,none⟩) wr (by rw[hk];simp) hat
 have w1:WR (G.grown b e0 cs) (h.set k none) (ef w b (.cells (jx C e0 CY.toList) et (0,0))):=by
  refine⟨?_,wk.sep,?_,?_,?_,fun m c hm=>by simp;exact wk.below m c hm⟩
  ·intro m ob hm
   obtain⟨c,hc,hsp,hr⟩:=wk.obj m ob hm
   refine⟨c,hc,hsp,(hr.mono hle).of_block ?_⟩
   rw[hblk,if_neg]
   intro e
   exact hno ⟨m,c,by rw[hm];simp,hc,e⟩
  ·intro c i v hi
   simp only[Gh.grown] at hi
   by_cases hin:c=b/\e0<=i/\i<e0+cs.length
   ·rw[if_pos hin] at hi
    obtain⟨rfl,h1,h2⟩:=hin
    obtain⟨q1,y,hy,q2⟩:=hv.rows hs _ v hi
    refine⟨q1,y,?_,q2.mono hle⟩
    rw[oE (by rw[hblk,if_pos rfl]),BX _ _ _ _ (by simpa using hfit),if_pos (by simp;omega)]
    simpa using hy
   ·rw[if_neg hin] at hi
    obtain⟨q1,y,hy,q2⟩:=wr.ro c i v hi
    refine⟨q1,y,?_,q2.mono hle⟩
    by_cases e:c=b
    ·subst e
     have:=hold i v hi
     rw[oE hb] at hy
     rw[oE (by rw[hblk,if_pos rfl]),BX _ _ _ _ (by simpa using hfit),if_neg (by omega)]
     exact hy
    ·rw[<-hy];simp[World.cell?,hblk,e]
  ·intro m ob c i v hm hc hi
   simp only[Gh.grown] at hi
   rw[if_neg] at hi
   ·exact wk.apart m ob c i v hm hc hi
   ·rintro⟨e,_,_⟩
    exact hno ⟨m,c,by rw[hm];simp,hc,e⟩
  ·intro c d hd
   obtain⟨D,t,hD,hsz⟩:=wr.dim c d hd
   rw[hblk]
   by_cases e:c=b
   ·subst e
    rw[hb] at hD
    simp only[bp,Obj.cells.injEq] at hD
    obtain⟨rfl,rfl,_⟩:=hD
    exact⟨_,et,if_pos rfl,by simpa using hsz⟩
   ·rw[if_neg e];exact⟨D,t,hD,hsz⟩
 have hno': ¬fy (G.grown b e0 cs) (h.set k none) b:=hno
 have w2:=w1.named (n:=n) (a:=⟨b,e0+cs.length,none⟩) (o:=.tok) hn (by simp;exact hlt) rfl hno' ⟨_,et,by rw[hblk,if_pos rfl]⟩ (fun i v hi=>by
  refine⟨rfl,?_⟩
  simp only[Gh.grown] at hi
  by_cases hin:e0<=i/\i<e0+cs.length
  ·exact hin.2
  ·rw[if_neg (by simpa using hin)] at hi
   have:=hold i v hi
   show i<e0+cs.length
   omega)
 refine⟨w2,⟨hle.trans (Gh.name_le _ _ hn),by simp,?_,?_,?_,?_,yB w hb rfl rfl⟩⟩
 ·intro c hc ho
  rw[hblk,if_neg]
  intro e;subst e;exact ho hown
 ·intro c hc ho
  rcases wI ho with rfl|ho
  ·exact hown
  ·exact tH (show fy G (h.set k none) c from ho)
 ·intro m c hm h0
  simp only[Gh.name,Gh.grown] at hm
  by_cases em:m=n
  ·omega
  ·rw[if_neg em,h0] at hm;cases hm
 ·intro c i v hc hi h0
  simp only[Gh.name,Gh.grown] at hi
  by_cases hin:c=b/\e0<=i/\i<e0+cs.length
  ·rw[hin.1];exact hown
  ·rw[if_neg hin,h0] at hi;cases hi
theorem WR.rehome {h:bD bR} (wr:WR G h w) {m n:Nat} {cs0:List aj} {ad bd:Addr} (hm:h.get m=some (.cells cs0)) (hat:G.at_ m=some bd) (hn:G.at_ n=none) {C C':Array Value} {et:TypeId} (hb:w.heap[bd.block]? =some (.cells C et (0,0)))
 (hs:C'.size=C.size) (hdm:G.dim bd.block=some C.size) (had:ad.block=bd.block) (hsp:ad.spot=none) {cs:List aj} (hc: ∀(i:Nat) v,cs[i]? =some v->v.scal=true/\ ∃y,C'[ad.off+i]? =some y/\VR G v y):
 WR (G.name n ad) ((h.set m none).set n (some (.cells cs))) (ef w bd.block (.cells C' et (0,0)))/\
 dF G h w (G.name n ad) ((h.set m none).set n (some (.cells cs))) (ef w bd.block (.cells C' et (0,0))) n (n+1):=by
 have hlt:=ia hb
 have hown:fy G h bd.block:=⟨m,bd,by rw[hm];simp,hat,rfl⟩
 have hro: ∀i,G.ro bd.block i=none:=fun i=>by
  cases hr:G.ro bd.block i with
  |none=>rfl
  |some v=>have:=(wr.apart m _ bd i v hm hat hr).1;cases this
 have hno:=A7 wr (by rw[hm];simp) hat
 have w1:=(wr.killed m).putFree hb hs hno hro
 have w2:=w1.named (n:=n) (a:=ad) (o:=.cells cs) hn (by rw[had];simpa using hlt) hsp (by rw[had];exact hno)
  ⟨C',et,by rw[had,jn _ _ _ _ hlt,if_pos rfl],by rw[had,hs];exact hdm,hc⟩ (fun i v hi=>by rw[had,hro] at hi;cases hi)
 refine⟨w2,⟨Gh.name_le _ _ hn,by simp,?_,?_,?_,?_,yB w hb rfl rfl⟩⟩
 ·intro c hc' ho
  rw[jn _ _ _ _ hlt,if_neg]
  intro e;subst e;exact ho hown
 ·intro c hc' ho
  rcases wI ho with rfl|ho
  ·rw[had];exact hown
  ·exact tH ho
 ·intro q c hq h0
  simp only[Gh.name] at hq
  by_cases em:q=n
  ·omega
  ·rw[if_neg em,h0] at hq;cases hq
 ·intro c i v hc' hi h0
  simp only[Gh.name] at hi
  rw[hi] at h0;cases h0
theorem dF.after_kill {h h':bD bR} {G':Gh} {w':World} {m lo hi:Nat} (x:dF G (h.set m none) w G' h' w' lo hi):dF G h w G' h' w' lo hi:=
 ⟨x.le,x.size,fun b hb ho=>x.keep b hb (fun o=>ho (tH o)),fun b hb o=>tH (x.owns b hb o),x.names,fun b i v hb h1 h2=>tH (x.cells b i v hb h1 h2),x.quiet⟩
theorem CN {g:Bool} {sz:Nat} (hg:g=false->sz=1): ∀(n:Nat) (cs:List aj),cs.length=n*sz-> ∃xs,iL g sz n cs=some xs
 |0,cs,h=>by
  have:cs=[]:=List.length_eq_zero_iff.1 (by simpa using h)
  subst this
  exact⟨[],rfl⟩
 |n+1,cs,h=>by
  rw[vu] at h
  cases hgv:g with
  |true=>
   obtain⟨r,hr⟩:=CN hg n (cs.drop sz) (by simp;omega)
   rw[hgv] at hr
   refine⟨.agg (cs.take sz)::r,?_⟩
   have hc:cut cs 0 sz=some (cs.take sz):=by
    simp only[cut,nH]
    have:bo (cs.take sz).length sz=true:=by rw[Gp];simp;omega
    rw[this];rfl
   simp[iL,hc,hr]
  |false=>
   have h1:=hg hgv
   subst h1
   cases cs with
   |nil=>simp at h
   |cons c cs=>
    obtain⟨r,hr⟩:=CN hg n cs (by simp at h;omega)
    rw[hgv] at hr
    exact⟨c::r,by simp[iL,hr]⟩
theorem aox {t t2 ty:TypeId} {x y:aj} {X Y:Value} {mu:Bool} (he:j6 P mk t x y mu s=some (v,s')) (ht2:mH P t2=true) (hx:VR G x X) (hy:VR G y Y) (wr:WR G s.heap w)
 (hfree: ∀n,s.next<=n->n<s'.next->G.at_ n=none):
 ∃Z w' G',(sG #[t,t2] ty #[X,Y]).run P w= .ok Z w'/\WR G' s'.heap w'/\dF G s.heap w G' s'.heap w' s.next s'.next/\VR G' v Z:=by
 simp only[j6,aN] at he
 obtain⟨E,hE,ys,hys,he⟩:=he
 obtain⟨e,hd,hE⟩:=yM hE
 obtain⟨hsz,_,hg,hpos,hg1,ti,zv,hb0,hi,hzv,hov,hzs,hib⟩:=tc hE
 obtain⟨CY,hYr,hvY,hsY,hmY⟩:=yH (P:=P) hg1 hpos hys hy wr
 have hCYl:CY.size=ys.length*E.n:=by
  have:=hvY.length
  rw[lC hmY] at this
  simpa using this.symm
 have hk: ∀w':World,w'.heap=w.heap->(t8 Y).run P w'= .ok ys.length w':=fun w' h=>(hYr w' h).1
 have hY: ∀w':World,w'.heap=w.heap->(pR E.n ys.length Y).run P w'= .ok CY w':=fun w' h=>by
  have:=(hYr w' h).2 ys.length (bK _)
  rw[xe (by simp[hCYl])] at this
  exact this
 have grow: ∀(mu:Bool) (xs:List aj) (base:Option Addr) (cap:Nat) (CX:Array Value) (s2:St) (v1:aj) (s1:St),X= .slice base xs.length cap->WR G s2.heap w->s2.next=s.next->
  (∀w':World,w'.heap=w.heap->(pR E.n xs.length (.slice base xs.length cap)).run P w'= .ok CX w')->cU G (cj xs) CX.toList->dY (cj xs)=true->(∀u∈xs,u.cells.length=E.n)->
  cap<xs.length+ys.length->kP E mu (xs++ys) s2=some (v1,s1)->G.at_ s.next=none->
  s1.next=s.next+1/\ ∃Z w' G',(sG #[t,t2] ty #[X,Y]).run P w= .ok Z w'/\WR G' s1.heap w'/\dF G s2.heap w G' s1.heap w' s.next (s.next+1)/\VR G' v1 Z:=by
  intro mu xs base cap CX s2 v1 s1 hX wr2 hs2 hXr hvX hsX hmX hcap hmade hn0
  have hCXl:CX.size=xs.length*E.n:=by
   have:=hvX.length
   rw[lC hmX] at this
   simpa using this.symm
  have hroom:l7 (xs.length+ys.length) E.b=true:=by
   simp only[kP,dw] at hmade
   exact(cq hmade).1
  obtain⟨newCap,R,r1,r2,r3,r4⟩:=aoy (ty:=ty) hd hE ht2 hk hXr hY hcap hroom hCXl hCYl
  have hvXY:cU G (cj (xs++ys)) (CX++CY).toList:=by rw[tk];simpa using hvX.append hvY
  have hsXY:dY (cj (xs++ys))=true:=by rw[tk,VX,hsX,hsY];rfl
  have hmXY: ∀z∈xs++ys,z.cells.length=E.n:=by
   intro z hz
   rcases List.mem_append.1 hz with h|h
   ·exact hmX z h
   ·exact hmY z h
  obtain⟨q1,G',q2,q3,q4⟩:=alQ (e:=e) (newCap:=newCap) (R:=R) hpos wr2 hmade (by rw[hs2];exact hn0) hmXY (by simpa using r1) r2 (fun i u hu=>by
   obtain⟨p1,y,hy,p2⟩:=hvXY.rows hsXY i u hu
   refine⟨p1,y,?_,p2⟩
   rw[r3 i];·exact hy
   have:i<(cj (xs++ys)).length:=by
    rcases iJ i (cj (xs++ys)).length with h|h
    ·exact h
    ·simp[jS h] at hu
   rw[lC hmXY] at this
   simpa using this)
  rw[hs2] at q1 q3
  refine⟨q1,_,_,G',by rw[hX];exact r4,q2,q3,by simpa using q4⟩
 split at he
 ·
  replace he:=cq he
  obtain⟨hsl,he⟩:=he
  simp only[bp,bX] at he
  obtain⟨rfl,rfl⟩:=he
  obtain⟨b,n,c,rfl⟩:=hx.slice_len hsl
  have h0:CY= #[]:=by
   have:CY.size=0:=by simpa using hCYl
   exact Array.eq_empty_of_size_eq_zero this
  subst h0
  exact⟨_,w,G,aoz hd hE ht2 (hk w rfl) (hY w rfl) hx.cap_le,wr,.refl,hx⟩
 ·rename_i y0 yr
  have hfr:s'.next=s.next+1->G.at_ s.next=none:=fun h=>hfree s.next (bK _) (by omega)
  generalize hyr:(y0::yr)=yl at*
  have hyne:0<yl.length:=by rw[<-hyr];simp
  clear hyr
  unfold mp at he
  split at he
  ·
   cases hx
   have hnx:s'.next=s.next+1:=by
    simp only[kP] at he
    have h1:=(cq he).2
    rcases hQ h1 with⟨_,h2⟩|⟨_,h2⟩<;>(simp only[bp,bX] at h2;rw[<-h2.2];rfl)
   obtain⟨q1,Z,w',G',q2,q3,q4,q5⟩:=grow mu [] none 0 #[] s v s' rfl wr rfl (fun w' _=>by simp[pR]) (by simpa[cj] using cU.nil) rfl (by simp) (by simpa using hyne) (by simpa using he) (hfr hnx)
   rw[q1]
   exact⟨Z,w',G',q2,q3,q4,q5⟩
  ·
   rename_i sz xs
   replace he:=cq he
   obtain⟨hsz',he⟩:=he
   obtain rfl:=fN hsz'
   have hnx:s'.next=s.next+1:=by
    simp only[kP] at he
    have h1:=(cq he).2
    rcases hQ h1 with⟨_,h2⟩|⟨_,h2⟩<;>(simp only[bp,bX] at h2;rw[<-h2.2];rfl)
   obtain⟨CX,hXr,hvX,hsX,hmX⟩:=yH (P:=P) (mk:=mk) (s:=s) (ys:=xs) (g:=E.g) (n:=E.n) hg1 hpos (by simp[ku]) hx wr
   have hCXl:CX.size=xs.length*E.n:=by
    have:=hvX.length
    rw[lC hmX] at this
    simpa using this.symm
   cases hx with
   |list hsp hp hm hcap hro hr=>
   rename_i ad cap
   obtain rfl:cap=xs.length:=hr
   obtain⟨q1,Z,w',G',q2,q3,q4,q5⟩:=grow mu xs (some ad) xs.length CX s v s' rfl wr rfl (fun w' h=>by
    have:=(hXr w' h).2 xs.length (bK _)
    rwa [xe (by simp[hCXl])] at this) hvX hsX hmX (by omega) he (hfr hnx)
   rw[q1]
   exact⟨Z,w',G',q2,q3,q4,q5⟩
  ·
   rename_i sz xs k
   simp only[aN] at he
   obtain⟨ob,hob,he⟩:=he
   split at he
   ·replace he:=cq he
    obtain⟨hc,he⟩:=he
    simp only[df] at hc
    obtain rfl:=fN hc.2
    simp only[bp,bX] at he
    obtain⟨rfl,rfl⟩:=he
    have hn0:G.at_ s.next=none:=hfr rfl
    obtain⟨CX,hXr,hvX,hsX,hmX⟩:=yH (P:=P) (mk:=mk) (s:=s) (ys:=xs) (g:=E.g) (n:=E.n) hg1 hpos (by simp[ku]) hx wr
    have hCXl:CX.size=xs.length*E.n:=by
     have:=hvX.length
     rw[lC hmX] at this
     simpa using this.symm
    cases hx with
    |list hsp hp hm hcap hro hr=>
    rename_i ad cap
    obtain⟨b,off,sp⟩:=ad
    have hsp0:0<cap->sp=none:=fun h0=>by
     rcases hsp with h|h
     ·omega
     ·exact h
    obtain⟨hat,dm,hdm,hle⟩:=hr
    simp only at hat hdm hle
    by_cases hfit:xs.length+yl.length<=cap
    ·
     obtain rfl:=hsp0 (by omega)
     obtain⟨C,et,hC,hCs⟩:=wr.dim _ dm hdm
     have hmul:(xs.length+yl.length)*E.n<=cap*E.n:=vr _ hfit
     rw[nI] at hmul
     obtain⟨c1,c2⟩:=wr.extend (jk hob) hat hn0 hC hvY hsY (by rw[hCYl];omega)
     refine⟨_,_,_,GP hd hE ht2 (hk w rfl) (hY w rfl) hfit hC (by rw[hCYl];omega) (hvY.ones hsY),c1,c2,?_⟩
     rw[<-dw]
     refine .list (.inr rfl) hpos ?_ (by simpa using hfit) ?_ ⟨?_,dm,?_,hle⟩
     ·intro z hz
      rcases List.mem_append.1 hz with h|h
      ·exact hmX z h
      ·exact hmY z h
     ·intro i u hu
      rw[tk] at hu
      simp only[Gh.name,Gh.grown]
      by_cases h1:i<(cj xs).length
      ·rw[pS h1] at hu
       rw[lC hmX] at h1
       rw[if_neg (by rintro⟨_,h2,_⟩;omega)]
       exact hro i u hu
      ·rw[qF (by omega)] at hu
       rw[lC hmX] at h1 hu
       have h3:i-xs.length*E.n<(cj yl).length:=by
        rcases iJ (i-xs.length*E.n) (cj yl).length with h|h
        ·exact h
        ·simp[jS h] at hu
       rw[if_pos (by refine⟨?_,?_,?_⟩<;>first|trivial|omega),<-hu]
       congr 1;omega
     ·simp only[Gh.name,if_true]
      rw[lC hmY]
      congr 2
      simp only[dw,nI];omega
     ·exact hdm
    ·
     have hmade:kP E false (xs++yl) (s.put k none)=some (.list E.n (xs++yl) (.own s.next),(s.put k none).new .tok):=by
      simp only[kP,dw,hc.1,cT,cF]
      rfl
     obtain⟨q1,Z,w',G',q2,q3,q4,q5⟩:=grow false xs (some ⟨b,off,sp⟩) cap CX (s.put k none) _ _ rfl (wr.killed k) rfl (fun w' h=>by
      have:=(hXr w' h).2 xs.length (bK _)
      rwa [xe (by simp[hCXl])] at this) hvX hsX hmX (by omega) hmade hn0
     exact⟨Z,w',G',q2,q3,dF.after_kill q4,q5⟩
   ·cases he
  ·
   rename_i sz m off len lcap
   simp only[aN] at he
   obtain⟨ob,hob,he⟩:=he
   split at he
   ·rename_i cs
    replace he:=cq he
    obtain⟨hc,he⟩:=he
    simp only[df] at hc
    obtain rfl:=fN hc.2
    have hx0:=hx
    cases hx with
    |arr hat hsp hp hlen hcap hadr hdim hle=>
    rename_i ad bd cap dm
    obtain⟨b,aoff,sp⟩:=ad
    simp only at hsp;subst hsp
    obtain⟨bd',hat',hsp',C,et,hC,hdC,hcs⟩:=wr.obj m _ (jk hob)
    rw[hat] at hat';injection hat' with hat';subst hat'
    have hdd:dm=C.size:=by rw[hdim] at hdC;injection hdC
    replace he:=hQ he
    rcases he with⟨hend,he⟩|⟨_,he⟩
    ·have hend:=fN hend
     simp only[bp,bX] at he
     obtain⟨rfl,rfl⟩:=he
     have hn0:G.at_ s.next=none:=hfr rfl
     by_cases hfit:len+yl.length<=cap
     ·rcases hadr with h0|⟨e1,e2⟩
      ·omega
      ·simp only at e1 e2
       subst e1;subst e2
       have hmul:(len+yl.length)*E.n<=cap*E.n:=vr _ hfit
       rw[nI] at hmul
       have hfit':bd.off+off+len*E.n+CY.toList.length<=C.size:=by simp[hCYl];omega
       obtain⟨c1,c2⟩:=wr.rehome (n:=s.next) (ad:=⟨bd.block,bd.off+off,none⟩) (C':=jx C (bd.off+off+len*E.n) CY.toList) (cs:=cs.drop off++cj yl) (jk hob) hat hn0 hC (by simp) hdC rfl rfl (fun i u hu=>by
        show _/\ ∃y,(jx C (bd.off+off+len*E.n) CY.toList)[bd.off+off+i]? =some y/\_
        rw[BX _ _ _ _ hfit']
        by_cases h1:i<(cs.drop off).length
        ·rw[pS h1,sI] at hu
         simp only[ua] at h1
         rw[if_neg (by omega),o0]
         exact hcs _ u hu
        ·rw[qF (by omega)] at hu
         simp only[ua] at h1 hu
         obtain⟨p1,y,hy,p2⟩:=hvY.rows hsY _ u hu
         have h3:i-(cs.length-off)<(cj yl).length:=by
          rcases iJ (i-(cs.length-off)) (cj yl).length with h|h
          ·exact h
          ·simp[jS h] at hu
         rw[lC hmY] at h3
         rw[if_pos (by simp[hCYl];omega)]
         refine⟨p1,y,?_,p2⟩
         rw[<-hy,<-yX]
         congr 1;omega)
       refine⟨_,_,_,GP hd hE ht2 (hk w rfl) (hY w rfl) hfit hC (by simpa using hfit') (hvY.ones hsY),c1,c2,?_⟩
       exact .arr (b:=⟨bd.block,bd.off+off,none⟩) (by simp[Gh.name]) rfl hpos (bK _) hfit (.inr ⟨rfl,by simp⟩) (show G.dim bd.block=some dm from hdim) (by simpa using hle)
     ·have hcl:(cs.drop off).length=len*E.n:=by simp;omega
      obtain⟨xs,hxs⟩:=CN hg1 len (cs.drop off) hcl
      have hsd:dY (cs.drop off)=true:=by
       simp only[dY,oc]
       intro u hu
       obtain⟨i,hi⟩:=List.mem_iff_getElem?.1 (vn hu)
       exact(hcs i u hi).1
      obtain⟨k1,k2,k3⟩:=vG hg1 hxs hsd
      have hel:ku mk E.g E.n (.arr E.n m off len lcap) s=some xs:=by
       have hcut:cut cs off (len*E.n)=some (cs.drop off):=by
        simp only[cut]
        have:(cs.drop off).take (len*E.n)=cs.drop off:=xe (by omega)
        rw[this,Gp]
        simp only[hcl,bS,cT]
       simp[ku,hob,hcut,hxs]
      obtain⟨CX,hXr,hvX,hsX,hmX⟩:=yH (P:=P) hg1 hpos hel hx0 wr
      have hCXl:CX.size=xs.length*E.n:=by
       have:=hvX.length
       rw[lC hmX] at this
       simpa using this.symm
      have hmade:kP E true (xs++yl) (s.put m none)=some (.arr E.n s.next 0 (len+yl.length) (len+yl.length),(s.put m none).new (.cells (cs.drop off++cj yl))):=by
       simp only[kP,dw,k1,hc.1,cT,tk,k2]
       rfl
      obtain⟨q1,Z,w',G',q2,q3,q4,q5⟩:=grow true xs (some ⟨b,aoff,none⟩) cap CX (s.put m none) _ _ (by rw[k1]) (wr.killed m) rfl (fun w' h=>by
       have:=(hXr w' h).2 xs.length (bK _)
       rw[xe (by simp[hCXl])] at this
       rw[k1] at this ⊢
       exact this) hvX hsX hmX (by omega) hmade hn0
      exact⟨Z,w',G',q2,q3,dF.after_kill q4,q5⟩
    ·replace he:=cq he
     obtain⟨hin,he⟩:=he
     have hin:=jC hin
     simp only[aN] at he
     obtain⟨cs',hw,he⟩:=he
     simp only[bp,bX] at he
     obtain⟨rfl,rfl⟩:=he
     rcases hadr with h0|⟨e1,e2⟩
     ·omega
     ·simp only at e1 e2
      subst e1;subst e2
      have hne:cj yl≠ []:=by
       intro e
       have h0:=lC hmY
       rw[e,aY] at h0
       have:=Nat.mul_pos hyne hpos
       omega
      obtain⟨hle2,hrows⟩:=yF (base:=bd.off) hw hvY hsY hne hcs
      have hfit':bd.off+off+len*E.n+CY.toList.length<=C.size:=by rw[o0 bd.off];exact hle2
      obtain⟨c1,c2⟩:=wr.changed (o':=.cells cs') (ob:=.cells (jx C (bd.off+off+len*E.n) CY.toList) et (0,0)) (jk hob) hat
       ⟨_,et,by rw[jn _ _ _ _ (ia hC),if_pos rfl],by rw[hdC];simp,by rw[o0 bd.off];exact hrows⟩
       (fun i u hu=>by have:=(wr.apart m _ bd i u (jk hob) hat hu).1;cases this)
       (fun d hd=>by rw[hdC] at hd;injection hd with hd;exact⟨_,et,rfl,by simpa using hd⟩)
      exact⟨_,_,_,GP hd hE ht2 (hk w rfl) (hY w rfl) (by omega) hC (by simpa using hfit') (hvY.ones hsY),c1,c2 _ _,.arr hat rfl hpos hin hcap (.inr ⟨rfl,rfl⟩) hdim hle⟩
   ·cases he
  ·cases he
theorem aoC {t t2 ty:TypeId} {x y:aj} {X Y:Value} (he:xD P mk t x y s=some (v,s')) (hx:VR G x X) (hy:VR G y Y) (wr:WR G s.heap w):
 ∃Z w',(xa #[t,t2] ty #[X,Y]).run P w= .ok Z w'/\WR G s'.heap w'/\(∀lo hi,dF G s.heap w G s'.heap w' lo hi)/\VR G v Z:=by
 simp only[xD,aN] at he
 obtain⟨E,hE,ys,hys,he⟩:=he
 obtain⟨e,hd,hE⟩:=yM hE
 obtain⟨hsz,_,hg,hpos,hg1,ti,zv,hb0,hi,hzv,hov,hzs,hib⟩:=tc hE
 obtain⟨CY,hYr,hvY,hsY,hmY⟩:=yH (P:=P) hg1 hpos hys hy wr
 obtain⟨hk,hY⟩:=hYr w rfl
 split at he
 ·simp only[bp,bX] at he
  obtain⟨rfl,rfl⟩:=he
  cases hx
  have h0:=hY 0 (iK _)
  exact⟨_,w,by simp[xa,dJ hd,hk,ij hsz,h0,goInt],wr,fun _ _=>.refl,.int _ _⟩
 ·simp only[bp,bX] at he
  obtain⟨rfl,rfl⟩:=he
  cases hx
  have h0:=hY 0 (iK _)
  exact⟨_,w,by simp[xa,dJ hd,hk,ij hsz,h0,goInt,storeCells],wr,fun _ _=>.refl,.int _ _⟩
 ·rename_i sz m off len lcap
  replace he:=cq he
  obtain⟨hc,he⟩:=he
  obtain rfl:=fN hc
  simp only[aN] at he
  obtain⟨ob,hob,he⟩:=he
  split at he
  ·rename_i cs
   simp only[aN] at he
   obtain⟨cs',hw,he⟩:=he
   simp only[bp,bX] at he
   obtain⟨rfl,rfl⟩:=he
   cases hx with
   |arr hat hsp hp hlen hcap hadr hdim hle=>
   rename_i ad bd cap dm
   obtain⟨b,aoff,sp⟩:=ad
   simp only at hsp;subst hsp
   obtain⟨bd',hat',hsp',C,et,hC,hdC,hcs⟩:=wr.obj m _ (jk hob)
   rw[hat] at hat';injection hat' with hat';subst hat'
   have hl:(ys.take len).length=Nat.min ys.length len:=by rw[qG];exact Nat.min_comm _ _
   have hkk:=hY (Nat.min ys.length len) (Nat.min_le_left _ _)
   have hmT: ∀u∈ys.take len,u.cells.length=E.n:=fun u hu=>hmY u (sM hu)
   have hft:cj (ys.take len)=(cj ys).take ((ys.take len).length*E.n):=by
    have key: ∀(A D:List aj),(∀u∈A,u.cells.length=E.n)->cj A=(cj (A++D)).take (A.length*E.n):=fun A D hA=>by
     rw[tk,List.take_append_of_le_length (by rw[lC hA];exact bK _),xe (by rw[lC hA];exact bK _)]
    have:=key (ys.take len) (ys.drop len) hmT
    rwa [oe] at this
   have hvT:cU G (cj (ys.take len)) (CY.toList.take (Nat.min ys.length len*E.n)):=by rw[hft,hl];exact hvY.take _
   have hsT:dY (cj (ys.take len))=true:=by
    rw[hft]
    simp only[dY,oc] at hsY ⊢
    exact fun u hu=>hsY u (sM hu)
   by_cases hz:Nat.min ys.length len=0
   ·have hfe:cj (ys.take len)=[]:=by
     have:=lC hmT
     rw[hl,hz,Nat.zero_mul] at this
     exact List.length_eq_zero_iff.1 this
    have hcs':cs'=cs:=by
     rw[hfe] at hw
     simp only[dl,aY,cQ,cy,oe] at hw
     have:=(cq hw).2
     injection this with this
     exact this.symm
    subst hcs'
    rw[hz] at hkk
    have hsame:(s.put m (some (.cells cs'))).heap.get=s.heap.get:=by
     funext q
     show(s.heap.set m (some (.cells cs'))).get q=_
     rw[bD.get_set]
     by_cases e':q=m
     ·rw[if_pos e',e',jk hob]
     ·rw[if_neg e']
    have hown: ∀q,fy G (s.put m (some (.cells cs'))).heap q↔fy G s.heap q:=fun q=>by unfold fy;rw[hsame]
    refine⟨.int .i64 0,w,by simp[xa,dJ hd,hk,ij hsz,hz,hkk,goInt,storeCells],?_,fun lo hi=>?_,?_⟩
    ·exact⟨fun q ob h=>wr.obj q ob (by rw[<-hsame];exact h),fun q r a b h1 h2=>wr.sep q r a b (by rw[<-hsame];exact h1) (by rw[<-hsame];exact h2),wr.ro,fun q ob a i v h=>wr.apart q ob a i v (by rw[<-hsame];exact h),wr.dim,wr.below⟩
    ·exact⟨.refl G,bK _,fun _ _ _=>rfl,fun q _ h=>(hown q).1 h,fun n a h h'=>(by rw[h] at h';cases h'),fun b o v _ h h'=>(by rw[h] at h';cases h'),.refl _⟩
    ·rw[hl,hz];exact .int _ _
   ·have hne:cj (ys.take len)≠ []:=by
     intro e'
     have h0:=lC hmT
     rw[e',aY,hl] at h0
     have:=Nat.mul_pos (Nat.pos_of_ne_zero hz) hpos
     omega
    rcases hadr with h0|⟨e1,e2⟩
    ·have:Nat.min ys.length len<=len:=Nat.min_le_right _ _
     omega
    ·simp only at e1 e2
     subst e1;subst e2
     obtain⟨hle2,hrows⟩:=yF (base:=bd.off) hw hvT hsT hne hcs
     obtain⟨c1,c2⟩:=wr.changed (o':=.cells cs') (ob:=.cells (jx C (bd.off+off) (CY.toList.take (Nat.min ys.length len*E.n))) et (0,0)) (jk hob) hat
      ⟨_,et,by rw[jn _ _ _ _ (ia hC),if_pos rfl],by rw[hdC];simp,hrows⟩
      (fun i u hu=>by have:=(wr.apart m _ bd i u (jk hob) hat hu).1;cases this)
      (fun d hd=>by rw[hdC] at hd;injection hd with hd;exact⟨_,et,rfl,by simpa using hd⟩)
     have hst:=BB (P:=P) bd.block (bd.off+off) et (CY.toList.take (Nat.min ys.length len*E.n)) 0 w C hC (by simpa using hle2) (hvT.ones hsT)
     simp only[cQ] at hst
     refine⟨.int .i64 (Nat.min ys.length len:Nat),_,by simp[xa,dJ hd,hk,ij hsz,hkk,hst,goInt],c1,c2,?_⟩
     rw[hl];exact .int _ _
  ·cases he
 ·cases he
theorem aoB {t ty:TypeId} {x:aj} {X:Value} (he:sZ P mk t x s=some s') (hu: ∃d,P.underlying t=some d) (hx:VR G x X) (wr:WR G s.heap w):
 ∃w',(t7 #[t] ty #[X]).run P w= .ok (.tuple #[]) w'/\WR G s'.heap w'/\ ∀lo hi,dF G s.heap w G s'.heap w' lo hi:=by
 obtain⟨d,hd⟩:=hu
 unfold sZ at he
 split at he
 ·injection he with he;subst he;cases hx
  exact⟨w,by simp[t7,dJ hd],wr,fun _ _=>.refl⟩
 ·injection he with he;subst he;cases hx
  exact⟨w,by simp[t7,dJ hd],wr,fun _ _=>.refl⟩
 ·simp only[aN] at he
  obtain⟨ob,hob,he⟩:=he
  split at he
  ·injection he with he;subst he
   cases hx with
   |map hat=>
   obtain⟨ad,ES,h1,h2,h3,h4⟩:=sj wr hob
   rw[hat] at h1;injection h1 with h1;subst h1
   obtain⟨c1,c2⟩:=wu (es':=[]) (ES':= #[]) wr hob hat h3 .nil
   exact⟨_,by simp[t7,dJ hd,nY h3,wS _ h3],c1,c2⟩
  ·cases he
 ·injection he with he;subst he;cases hx
  exact⟨w,by simp[t7,dJ hd],wr,fun _ _=>.refl⟩
 ·rename_i sz m off len lcap
  replace he:=hQ he
  rcases he with⟨h0,he⟩|⟨h0,he⟩
  ·obtain rfl:=fN h0
   injection he with he;subst he;cases hx
   exact⟨w,by simp[t7,dJ hd],wr,fun _ _=>.refl⟩
  ·have h0:=vE h0
   simp only[aN] at he
   obtain⟨E,hE,he⟩:=he
   obtain⟨e,hd',hE⟩:=yM hE
   obtain⟨hsz,_,hg,hpos,hg1,ti,zv,hb0,hi,hzv,hov,hzs,hib⟩:=tc hE
   replace he:=cq he
   obtain⟨hc,he⟩:=he
   obtain rfl:=fN hc
   simp only[aN] at he
   obtain⟨ob,hob,he⟩:=he
   split at he
   ·rename_i cs
    simp only[aN] at he
    obtain⟨cs',hw,he⟩:=he
    injection he with he;subst he
    cases hx with
    |arr hat hsp hp hlen hcap hadr hdim hle=>
    rename_i ad bd cap dm
    obtain⟨b,aoff,sp⟩:=ad
    simp only at hsp;subst hsp
    obtain⟨bd',hat',hsp',C,et,hC,hdC,hcs⟩:=wr.obj m _ (jk hob)
    rw[hat] at hat';injection hat' with hat';subst hat'
    obtain⟨hzr,hzt⟩:=sw G hov
    obtain⟨R,hR,hRl,hRg⟩:=Bu hzr.cells len
    have hrow:=Hr (zs:=zv.cells) hRl hRg
    rcases hadr with h00|⟨e1,e2⟩
    ·omega
    ·simp only at e1 e2
     subst e1;subst e2
     have hne:gU E.z.cells len≠ []:=by
      intro e'
      have h1:=hR.length
      rw[e',aY,hRl,tZ,hzs] at h1
      have:=Nat.mul_pos (Nat.pos_of_ne_zero h0) hpos
      omega
     have hsR:=Bv (hzr.scals_cells hzt) len
     obtain⟨hle2,hrows⟩:=yF (base:=bd.off) hw hR hsR hne hcs
     obtain⟨c1,c2⟩:=wr.changed (o':=.cells cs') (ob:=.cells (jx C (bd.off+off) R) et (0,0)) (jk hob) hat
      ⟨_,et,by rw[jn _ _ _ _ (ia hC),if_pos rfl],by rw[hdC];simp,hrows⟩
      (fun i u hu=>by have:=(wr.apart m _ bd i u (jk hob) hat hu).1;cases this)
      (fun d hd=>by rw[hdC] at hd;injection hd with hd;exact⟨_,et,rfl,by simpa using hd⟩)
     have hst:=BB (P:=P) bd.block (bd.off+off) et R 0 w C hC (by simpa using hle2) (hR.ones hsR)
     simp only[cQ] at hst
     have hzc:Builtin.zeroCells zv.cells len=⟨R⟩:=hrow
     obtain⟨len,rfl⟩: ∃l,len=l+1:=⟨len-1,by omega⟩
     exact⟨_,by simp[t7,dJ hd',rl hi hzv,hzc,hst],c1,c2⟩
   ·cases he
 ·cases he
theorem amY {hint:Tmp->Nat} {dst:Option Tmp} {c:Call} (ho:o.op= .call c) (wr:WR G s.heap w) (fx:dC G s.heap B fr a.tmps w)
 (he:qZ P mk hint dst c fr s=some (v,loc',s')) (hfree: ∀n,s.next<=n->n<s'.next->G.at_ n=none):
 gn P G s.heap w B fr.loc s.next s'.next a o v loc' s'.heap:=by
 unfold qZ at he
 split at he
 ·rename_i b hcal
  simp only[aN] at he
  obtain⟨args,hargs,he⟩:=he
  simp only[ii,aN] at he
  obtain⟨⟨v1,s1⟩,he,hq⟩:=he
  simp only[bp,bX] at hq
  obtain⟨rfl,rfl,rfl⟩:=hq
  obtain⟨hA,hAt⟩:=fx.evcs hargs
  have hres: ∀(nx:Sem Value),(∀cs,builtin b c.argTypes o.type cs (c.args.map a.eval)=(do pure (.value (<-nx))))->(execOp a.eval o).run P w=(nx.run P w).andThen fun y w'=>.ok (.value y) w':=by
   intro nx hnx
   simp[execOp,ho,resolve,hcal,invoke,hnx]
  have hmap:c.args.map a.eval=⟨c.args.toList.map a.eval⟩:=by apply mf;simp
  have htyp:c.argTypes=⟨c.argTypes.toList⟩:=rfl
  generalize hM:c.args.toList.map a.eval=M at hA hmap
  generalize hT:c.argTypes.toList=T at he htyp
  unfold my at he
  split at he
  ·
   cases hA with|cons hx hl=>
   cases hl
   simp only[aN] at he
   obtain⟨y,hy,he⟩:=he
   simp only[bp,bX] at he
   obtain⟨rfl,rfl⟩:=he
   obtain⟨Y,hr,hv⟩:=aoE (ty:=o.type) hy hx wr
   refine .pure wr fx (y:=Y) ?_ (LV.of_VR hv)
   rw[hres (sH c.argTypes o.type (c.args.map a.eval)) (fun _=>rfl),hmap,htyp,hr]
   rfl
  ·
   cases hA with|cons hx hl=>
   cases hl with|cons hy hl=>
   cases hl
   replace he:=cq he
   obtain⟨ht2,he⟩:=he
   obtain⟨Z,w',G',hr,h1,h2,h3⟩:=aox (ty:=o.type) he ht2 hx hy wr hfree
   refine .heap fx ?_ (.inl rfl) h1 h2 (LV.of_VR h3)
   rw[hres (sG c.argTypes o.type (c.args.map a.eval)) (fun _=>rfl),hmap,htyp,hr]
   rfl
  ·
   cases hA with|cons hx hl=>
   cases hl with|cons hy hl=>
   cases hl
   obtain⟨Z,w',hr,h1,h2,h3⟩:=aoC (ty:=o.type) he hx hy wr
   refine .heap fx ?_ (.inl rfl) h1 (h2 _ _) (LV.of_VR h3)
   rw[hres (xa c.argTypes o.type (c.args.map a.eval)) (fun _=>rfl),hmap,htyp,hr]
   rfl
  ·
   cases hA with|cons hx hl=>
   cases hl
   simp only[aN] at he
   obtain⟨d,hd,s2,hs2,he⟩:=he
   simp only[bp,bX] at he
   obtain⟨rfl,rfl⟩:=he
   obtain⟨w',hr,h1,h2⟩:=aoB (ty:=o.type) hs2 ⟨d,hd⟩ hx wr
   refine .heap fx (y:=.tuple #[]) ?_ (.inl rfl) h1 (h2 _ _) (LV.of_VR (.tup .nil))
   rw[hres (t7 c.argTypes o.type (c.args.map a.eval)) (fun _=>rfl),hmap,htyp,hr]
   rfl
  ·
   simp only[aN] at he
   obtain⟨y,hy,he⟩:=he
   simp only[bp,bX] at he
   obtain⟨rfl,rfl⟩:=he
   cases hA with
   |cons hx hl=>
    obtain⟨Y,hr,hv⟩:=VT (P:=P) (isMax:=false) w hy hx hl
    refine .pure wr fx (y:=Y) ?_ (LV.of_VR hv)
    rw[hres (Builtin.min_ c.argTypes o.type (c.args.map a.eval)) (fun _=>rfl),hmap]
    simp only[Builtin.min_]
    simp only[rB,if_false] at hr
    rw[hr];rfl
  ·
   simp only[aN] at he
   obtain⟨y,hy,he⟩:=he
   simp only[bp,bX] at he
   obtain⟨rfl,rfl⟩:=he
   cases hA with
   |cons hx hl=>
    obtain⟨Y,hr,hv⟩:=VT (P:=P) (isMax:=true) w hy hx hl
    refine .pure wr fx (y:=Y) ?_ (LV.of_VR hv)
    rw[hres (Builtin.max_ c.argTypes o.type (c.args.map a.eval)) (fun _=>rfl),hmap]
    simp only[Builtin.max_]
    simp only[if_true] at hr
    rw[hr];rfl
  ·cases he
 ·cases he
end
end Go.Ag
