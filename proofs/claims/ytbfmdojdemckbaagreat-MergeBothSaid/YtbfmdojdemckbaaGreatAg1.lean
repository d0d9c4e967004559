/- The evaluator: values, heap, operations; what its values stand for in memory; its operations are sound. -/
import Derived.Calls
import Derived.Laws.Sem
import Derived.Laws.World
import Derived.Laws.Cells
import Derived.Laws.StructEq
import Derived.Laws.Concat
import Derived.IntWalk
open Array renaming ext'→lp,getElem?_eq_none→ux,getElem?_modify→Bj,getElem?_setIfInBounds→wv,getElem?_toList→yy,length_toList→td
open Bool renaming and_eq_true→cZ,false_eq_true→qK,or_eq_true→tf,rec→nl,true_and→i9
open Go.Builtin renaming append_→rB,clear_→tg,copy_→wx,firstCells→o7,lenOf→th,len_→rC,nextslicecap→Bl
open List renaming all_cons→mH,all_eq_true→np,drop_zero→nq,filter_cons→yz,getElem?_append_left→o8,getElem?_append_right→pY,getElem?_drop→rD,getElem?_eq_getElem→js,getElem?_eq_none→jF,getElem?_take→uA,length_append→dp,length_cons→aP,length_drop→tj,length_nil→aW,length_take→pZ,mem_of_getElem?→lX,mem_of_mem_drop→uB,mem_of_mem_take→rH,nil_append→cq,range'_succ→tk,take_append_drop→nr,take_of_length_le→wD
open List.cons renaming injEq→mI
open Nat renaming add_assoc→ou,add_mul→mL,add_zero→dc,beq→be,ble→cy,blt→bT,eq_of_beq_eq_true→ik,eq_zero_or_pos→tl,le_of_ble_eq_true→iL,le_refl→bB,le_trans→fW,lt_irrefl→eU,lt_of_lt_of_le→gu,lt_or_ge→im,min_eq_left→wF,mul_le_mul_right→uF,succ_mul→uG,zero_add→aQ,zero_le→iB
open Go.Op renaming bytesLess→hZ,equalIn→tn
open Option renaming bind_eq_some_iff→aG,map_some→qQ
open Option.some renaming injEq→bg
open Prod.mk renaming injEq→bL
open Go.Result renaming andThen_ok→iQ
namespace Go.Ag
theorem cT.{u} {α:Sort u} (a b:α):cond true a b=a:=rfl
theorem cF.{u} {α:Sort u} (a b:α):cond false a b=b:=rfl
theorem bS.{u} {α:Type u} [BEq α] [ReflBEq α] (a:α):(a==a)=true:=beq_self_eq_true a
theorem tA(p:Prop):(True∧p)=p:=true_and p
theorem dT(h:Decidable True):@decide True h=true:=decide_true h
noncomputable section
inductive fD where
 |full
 |own (n:Nat)
 |no
 deriving Inhabited
inductive aj where
 |bool (b:Bool)
 |int (k:IntKind) (n:Int)
 |str (s:List UInt8)
 |agg (cs:List aj)
 |tup (vs:List aj)
 |nilp
 |ptr (n off:Nat)
 |lref (t g off:Nat)
 |ro (cs:List aj)
 |nils
 |list (sz:Nat) (xs:List aj) (r:fD)
 |arr (sz n off len lcap:Nat)
 |nilm
 |map (n:Nat)
 |nilf
 |func (fn:Fn) (first captured:List aj)
 |nili
 |iface (t:TypeId) (v:aj)
 |yld (n:Nat)
 |roz (cs:List aj)
 deriving Inhabited
def aj.cells:aj->List aj
 | .agg cs=>cs
 |v=>[v]
def aj.clean:aj->Bool
 | .lref _ _ _=>false
 | .tup _=>false
 |_=>true
def ii:aj:=.tup []
structure db where
 key:aj
 val:aj
 born:Nat
 deriving Inhabited
inductive bv (α:Type) where
 |nil
 |node (l:bv α) (v:Option α) (r:bv α)
 deriving Inhabited
inductive Ex where
 |normal
 |exit (id:Nat)
 |ret
 deriving Inhabited
inductive bH where
 |cells (cs:List aj)
 |tok
 |map (es:List db) (clock:Nat)
 |iter (m:Option Nat) (since:Nat) (seen:List Nat) (stepped:Nat)
 |loop (f:FuncId) (env:bv aj) (size:Nat) (ps:List Tmp) (a b:Code) (p:Option Ex)
 deriving Inhabited
namespace bv
variable {α:Type}
def get (t:bv α):Nat->Option α:=
 @bv.rec α (fun _=>Nat->Option α) (fun _=>none)
  (fun _ v _ il ir n=> @nl (fun _=>Option α) (@nl (fun _=>Option α) (ir (n / 2-1)) (il (n / 2)) (be (n % 2) 1)) v (be n 0)) t
def one (x:Option α) (f:Nat):Nat->bv α:=
 @Nat.rec (fun _=>Nat->bv α) (fun _=>.node .nil x .nil)
  (fun _ ih n=> @nl (fun _=>bv α) (@nl (fun _=>bv α) (.node .nil none (ih (n / 2-1))) (.node (ih (n / 2)) none .nil) (be (n % 2) 1)) (.node .nil x .nil) (be n 0)) f
def set (t:bv α) (n:Nat) (x:Option α):bv α:=
 @bv.rec α (fun _=>Nat->bv α) (fun n=>one x n n)
  (fun l v r il ir n=> @nl (fun _=>bv α) (@nl (fun _=>bv α) (.node l v (ir (n / 2-1))) (.node (il (n / 2)) v r) (be (n % 2) 1)) (.node l x r) (be n 0)) t n
def all (p:α->Bool) (t:bv α):Bool:=
 @bv.rec α (fun _=>Bool) true (fun _ v _ il ir=>(match v with|none=>true|some x=>p x)&&(il&&ir)) t
end bv
structure St where
 heap:bv bH
 next:Nat
 minw:Nat
 ci:Nat
 deriving Inhabited
abbrev bn:=List (Nat×Nat)
def dJ:bn->Nat->Bool
 | [],_=>false
 |(a,b)::m,n=>(cy a n&&bT n b)||dJ m n
def St.get (s:St) (mk:bn) (n:Nat):Option bH:=bif dJ mk n then none else s.heap.get n
def St.put (s:St) (n:Nat) (o:Option bH):St:= {heap:=s.heap.set n o,next:=s.next,minw:=bif cy s.minw n then s.minw else n,ci:=s.ci }
def St.new (s:St) (o:bH):St:= {heap:=s.heap.set s.next (some o),next:=s.next+1,minw:=s.minw,ci:=s.ci }
abbrev Loc:=List (Nat×Nat×List aj)
def Loc.gen:Loc->Nat->Nat
 | [],_=>0
 |(k,g,_)::l,n=>bif be k n then g else Loc.gen l n
def Loc.get:Loc->Nat->Nat->Option (List aj)
 | [],_,_=>none
 |(k,g,c)::l,n,h=>bif be k n then bif be g h then some c else none else Loc.get l n h
def Loc.set:Loc->Nat->Nat->List aj->Loc
 | [],n,h,c=>[(n,h,c)]
 |(k,g,d)::l,n,h,c=>bif be k n then(k,h,c)::l else(k,g,d)::Loc.set l n h c
abbrev bj:=bv aj
structure Fr where
 env:bj
 size:Nat
 loc:Loc
 deriving Inhabited
def FE:Option aj->aj
 |some v=>v
 |none=>ii
def ax (e:bj) (t:Nat):aj:=FE (e.get t)
def iJ:List aj->Nat->aj
 | [],_=>ii
 |x::_,0=>x
 |_::l,n+1=>iJ l n
def cY:Nat->List aj->bj
 |_,[]=>.nil
 |n,v::l=>(cY (n+1) l).set n (some v)
def fH:Value->Option aj
 | .bool b=>some (.bool b)
 | .int k n=>some (.int k n)
 | .string s=>some (.str s.data.toList)
 | .pointer none=>some .nilp
 | .slice none 0 0=>some .nils
 | .map none=>some .nilm
 | .nilFunc=>some .nilf
 | .nilIface=>some .nili
 |_=>none
def xV:List Value->Option (List aj)
 | []=>some []
 |v::l=>(fH v).bind fun a=>(xV l).bind fun r=>some (a::r)
def ofValue:Value->Option aj
 | .agg cs=>(xV cs.toList).bind fun l=>some (.agg l)
 |v=>fH v
def ev (env:bj):Operand->Option aj
 | .tmp t=>some (ax env t)
 | .const v=>ofValue v
 | .func f=>some (.func (.func f) [] [])
 | .global _=>none
def evc (env:bj) (x:Operand):Option aj:=(ev env x).bind fun v=>bif v.clean then some v else none
def evcs (env:bj):List Operand->Option (List aj)
 | []=>some []
 |x::l=>(evc env x).bind fun v=>(evcs env l).bind fun r=>some (v::r)
section
variable (P:Program)
def xm (t:TypeId):Option Bool:=
 (P.underlying t).bind fun
  | .struct _=>some true
  | .array _ _=>some true
  |_=>some false
def fu (t:TypeId):Option Nat:=(P.info? t).bind fun i=>some i.size
def B0 (t:TypeId):Option Nat:=(P.info? t).bind fun i=>some i.bytes
def eY (t:TypeId):Option aj:=(P.info? t).bind fun i=>i.zero.bind ofValue
def cut (cs:List aj) (off n:Nat):Option (List aj):=
 let r:=(cs.drop off).take n
 bif be r.length n then some r else none
def fg (t:TypeId) (cs:List aj) (off:Nat):Option aj:=
 (xm P t).bind fun b=>bif b then(fu P t).bind fun n=>(cut cs off n).bind fun r=>some (.agg r)
  else match cs.drop off with
   |v::_=>some v
   | []=>none
def cV (cs:List aj) (off:Nat) (new:List aj):Option (List aj):=
 bif cy (off+new.length) cs.length then some (cs.take off++(new++cs.drop (off+new.length))) else none
end
section
variable (P:Program) (mk:bn) (ch:Nat->Nat) (kmax:Nat->Nat)
def kZ (t:TypeId) (a:aj) (loc:Loc) (s:St):Option aj:=
 match a with
 | .lref l g off=>(loc.get l g).bind fun cs=>fg P t cs off
 | .ptr n off=>(s.get mk n).bind fun
   | .cells cs=>fg P t cs off
   |_=>none
 | .ro cs=>fg P t cs 0
 |_=>none
def pS (t:TypeId) (a v:aj) (loc:Loc) (s:St):Option (Loc×St):=
 (fu P t).bind fun n=>bif be v.cells.length n&&bT 0 n then
  match a with
  | .lref l g off=>(loc.get l g).bind fun cs=>(cV cs off v.cells).bind fun cs'=>some (loc.set l g cs',s)
  | .ptr m off=>(s.get mk m).bind fun
    | .cells cs=>(cV cs off v.cells).bind fun cs'=>some (loc,s.put m (some (.cells cs')))
    |_=>none
  |_=>none
 else none
def dQ (place:Nat->Option (Nat×Nat)) (env:bj) (cells:List aj):List (Nat×Operand)->Option (List aj)
 | []=>some cells
 |(i,x)::rest=>(evc env x).bind fun v=>(place i).bind fun(off,size)=>
  bif be v.cells.length size then(cV cells off v.cells).bind fun c=>dQ place env c rest else none
def xZ:List Field->Option (List (Nat×Nat))
 | []=>some []
 |f::fs=>(fu P f.type).bind fun n=>(xZ fs).bind fun r=>some ((f.offset,n)::r)
def gm (t:TypeId) (parts:List (Nat×Operand)) (env:bj):Option aj:=
 (eY P t).bind fun z=>(P.underlying t).bind fun
  | .struct fields=>(xZ P fields.toList).bind fun pl=>(dQ (fun i=>pl[i]?) env z.cells parts).bind fun c=>some (.agg c)
  | .array _ e=>(fu P e).bind fun n=>(dQ (fun i=>some (i*n,n)) env z.cells parts).bind fun c=>some (.agg c)
  |_=>none
def ip (agg:Bool) (size:Nat):Nat->List aj->Option (List aj)
 |0,[]=>some []
 |0,_=>none
 |n+1,cs=>
  bif agg then(cut cs 0 size).bind fun e=>(ip agg size n (cs.drop size)).bind fun r=>some (.agg e::r)
  else match cs with
   |v::rest=>(ip agg size n rest).bind fun r=>some (v::r)
   | []=>none
def bQ:List aj->List aj
 | []=>[]
 |v::l=>v.cells++bQ l
def gd (z:List aj):Nat->List aj
 |0=>[]
 |n+1=>z++gd z n
structure EI where
 n:Nat
 b:Nat
 g:Bool
 z:aj
 deriving Inhabited
def tI (e:TypeId):Option EI:=
 (fu P e).bind fun n=>(B0 P e).bind fun b=>(xm P e).bind fun g=>(eY P e).bind fun z=>
  bif bT 0 n&&be z.cells.length n&&(g||be n 1)&&bT 0 b then some ⟨n,b,g,z⟩ else none
def jp (t:TypeId):Option EI:=
 (P.underlying t).bind fun
  | .slice e=>tI P e
  |_=>none
def dV (t:TypeId) (len:Nat) (parts:List (Nat×Operand)) (mu:Bool) (env:bj) (s:St):Option (aj×St):=
 (jp P t).bind fun E=>bif cy (len*E.n) 16777216 then
  (dQ (fun i=>some (i*E.n,E.n)) env (gd E.z.cells len) parts).bind fun cs=>
   bif mu then some (.arr E.n s.next 0 len len,s.new (.cells cs))
   else(ip E.g E.n len cs).bind fun xs=>some (.list E.n xs .full,s)
  else none
def fF:aj->Option Nat
 | .int _ (.ofNat n)=>some n
 |_=>none
def jK (env:bj) (x:Option Operand) (d:Nat):Option Nat:=
 match x with
 |none=>some d
 |some x=>(ev env x).bind fF
def iH (loc:Loc) (t:TypeId) (x i:aj):Option aj:=
 (fF i).bind fun i=>(P.underlying t).bind fun
  | .array len e=>(fu P e).bind fun n=>bif bT i len then
   match x with
   | .lref l g off=>bif be (loc.gen l) g then some (.lref l g (off+i*n)) else none
   | .ptr m off=>some (.ptr m (off+i*n))
   | .ro cs=>some (.ro (cs.drop (i*n)))
   |_=>none
    else none
  | .slice e=>(fu P e).bind fun n=>
   match x with
   | .list sz xs _=>bif be sz n&&bT i xs.length then some (.ro (iJ xs i).cells) else none
   | .arr sz m off len _=>bif be sz n&&bT i len then some (.ptr m (off+i*n)) else none
   |_=>none
  |_=>none
def fE (loc:Loc) (t:TypeId) (x:aj) (f:Nat):Option aj:=
 (P.underlying t).bind fun
  | .struct fields=>(fields[f]?).bind fun fd=>(fu P fd.type).bind fun n=>bif be n 0 then none else
   match x with
   | .lref l g off=>bif be (loc.gen l) g then some (.lref l g (off+fd.offset)) else none
   | .ptr m off=>some (.ptr m (off+fd.offset))
   | .ro cs=>some (.ro (cs.drop fd.offset))
   |_=>none
  |_=>none
def yZ (t:TypeId) (x:aj) (f:Nat):Option aj:=
 (P.underlying t).bind fun
  | .struct fields=>(fields[f]?).bind fun fd=>match x with
   | .agg cs=>fg P fd.type cs fd.offset
   |_=>none
  |_=>none
def qn (t:TypeId) (x i:aj):Option aj:=
 (fF i).bind fun i=>(P.underlying t).bind fun
  | .array len e=>(fu P e).bind fun n=>bif bT i len then match x with
   | .agg cs=>fg P e cs (i*n)
   |_=>none
    else none
  | .string=>match x with
   | .str s=>match s.drop i with
     |b::_=>some (.int .u8 b.toNat)
     | []=>none
   |_=>none
  |_=>none
def jS (t:TypeId) (x:aj) (low high max:Option Operand) (env:bj) (s:St):Option aj:=
 (P.underlying t).bind fun
  | .string=>match x,max with
    | .str b,none=>(jK env high b.length).bind fun h=>(jK env low 0).bind fun l=>
     bif cy l h&&cy h b.length then some (.str ((b.take h).drop l)) else none
    |_,_=>none
  | .slice e=>(fu P e).bind fun n=>
    match x with
    | .nils=>(jK env high 0).bind fun h=>(jK env low 0).bind fun l=>(jK env max 0).bind fun m=>
     bif be h 0&&be l 0&&be m 0&&(max.isNone||high.isSome) then some .nils else none
    | .list sz xs r=>(jK env high xs.length).bind fun h=>(jK env low 0).bind fun l=>
     bif be sz n&&cy l h&&cy h xs.length then
      match max with
      |none=>some (.list sz ((xs.take h).drop l) (bif be h xs.length&&(bT l h||be l 0) then r else .no))
      |some _=>(jK env max 0).bind fun m=>bif be m h&&high.isSome then some (.list sz ((xs.take h).drop l) .full) else none
     else none
    | .arr sz m off len lcap=>(jK env high len).bind fun h=>(jK env low 0).bind fun l=>
     bif be sz n&&cy l h&&cy h len&&max.isNone then some (.arr sz m (off+l*n) (h-l) (lcap-l)) else none
    |_=>none
  | .array len e=>(fu P e).bind fun n=>
    match x with
    | .ptr m off=>(jK env high len).bind fun h=>(jK env low 0).bind fun l=>(s.get mk m).bind fun
      | .cells cs=>bif cy l h&&cy h len&&max.isNone&&bT 0 (len*n)&&cy (off+len*n) cs.length then some (.arr n m (off+l*n) (h-l) (len-l)) else none
      |_=>none
    |_=>none
  |_=>none
def dz (a b:Int):Bool:=decide (a<b)
def iG (a b:Int):Bool:=decide (a<=b)
def bD (a b:Int):Bool:=a==b
def leBytes:List UInt8->List UInt8->Bool:=fun x y=>hZ x y||x==y
def v8:aj->aj->Bool
 | .bool a,.bool b=>a==b
 | .int k a,.int k' b=>k==k'&&bD a b
 | .str a,.str b=>a==b
 |_,_=>false
def tG:List aj->List aj->Bool
 | [],[]=>true
 |a::x,b::y=>v8 a b&&tG x y
 |_,_=>false
def su:aj->aj->Bool
 | .agg a,.agg b=>tG a b
 |x,y=>v8 x y
def u9 (rec:TypeId->aj->aj->Option Bool) (xs ys:List aj):List Field->Option Bool
 | []=>some true
 |f::fs=>bif f.name== "_" then u9 rec xs ys fs else
  (fg P f.type xs f.offset).bind fun a=>(fg P f.type ys f.offset).bind fun b=>(rec f.type a b).bind fun r=>
   bif r then u9 rec xs ys fs else some false
def w9 (rec:TypeId->aj->aj->Option Bool) (e:TypeId) (n:Nat) (xs ys:List aj):Nat->Nat->Option Bool
 |0,_=>some true
 |k+1,i=>(fg P e xs (i*n)).bind fun a=>(fg P e ys (i*n)).bind fun b=>(rec e a b).bind fun r=>
   bif r then w9 rec e n xs ys k (i+1) else some false
def ki:Nat->TypeId->aj->aj->Option Bool
 |0,_,_,_=>none
 |d+1,t,x,y=>(P.underlying t).bind fun D=>match D,x,y with
  | .bool,.bool a,.bool b=>some (a==b)
  | .int _,.int k a,.int k' b=>bif k==k' then some (bD a b) else none
  | .string,.str a,.str b=>some (a==b)
  | .struct fs,.agg xs,.agg ys=>bif P.stoodInHeld t then none else u9 P (ki d) xs ys fs.toList
  | .array len e,.agg xs,.agg ys=>(fu P e).bind fun n=>w9 P (ki d) e n xs ys len 0
  | .slice _,.nils,.nils=>some true
  | .slice _,.nils,.list _ _ _=>some false
  | .slice _,.list _ _ _,.nils=>some false
  | .slice _,.nils,.arr _ _ _ _ _=>some false
  | .slice _,.arr _ _ _ _ _,.nils=>some false
  | .map _ _,.nilm,.nilm=>some true
  | .map _ _,.nilm,.map _=>some false
  | .map _ _,.map _,.nilm=>some false
  | .func _ _ _,.nilf,.nilf=>some true
  | .func _ _ _,.nilf,.func _ _ _=>some false
  | .func _ _ _,.func _ _ _,.nilf=>some false
  | .pointer _,.nilp,.nilp=>some true
  | .pointer _,.nilp,.ptr _ _=>some false
  | .pointer _,.ptr _ _,.nilp=>some false
  |_,_,_=>none
def qk (t:TypeId) (x y:aj):Option Bool:=
 match x,y with
 | .agg _,.agg _=>bif P.eqGuardType P.depth t then none else ki P 8 t x y
 |_,_=>ki P 8 t x y
def xD (rec:TypeId->aj->Bool) (xs:List aj):List Field->Bool
 | []=>true
 |f::fs=>bif f.name== "_" then xD rec xs fs else
  match fg P f.type xs f.offset with
  |some a=>rec f.type a&&xD rec xs fs
  |none=>false
def z8 (rec:TypeId->aj->Bool) (e:TypeId) (n:Nat) (xs:List aj):Nat->Nat->Bool
 |0,_=>true
 |k+1,i=>match fg P e xs (i*n) with
  |some a=>rec e a&&z8 rec e n xs k (i+1)
  |none=>false
def sr:Nat->TypeId->aj->Bool
 |0,_,_=>false
 |d+1,t,x=>match P.underlying t,x with
  |some .bool,.bool _=>true
  |some (.int _),.int _ _=>true
  |some .string,.str _=>true
  |some (.struct fs),.agg xs=>xD P (sr d) xs fs.toList
  |some (.array len e),.agg xs=>match fu P e with
   |some n=>z8 P (sr d) e n xs len 0
   |none=>false
  |_,_=>false
def Dp (op:BinOp) (k:IntKind) (a b:Int):Option aj:=
 match op with
 | .add=>some (.int k (k.wrap (a+b)))
 | .sub=>some (.int k (k.wrap (a-b)))
 | .mul=>some (.int k (k.wrap (a*b)))
 | .quo=>bif bD b 0 then none else some (.int k (k.wrap (a.tdiv b)))
 | .rem=>bif bD b 0 then none else some (.int k (a.tmod b))
 | .and=>some (.int k (k.wrap ((BitVec.ofInt k.bits a) &&& (BitVec.ofInt k.bits b)).toNat))
 | .or=>some (.int k (k.wrap ((BitVec.ofInt k.bits a) ||| (BitVec.ofInt k.bits b)).toNat))
 | .xor=>some (.int k (k.wrap ((BitVec.ofInt k.bits a) ^^^ (BitVec.ofInt k.bits b)).toNat))
 | .andNot=>some (.int k (k.wrap ((BitVec.ofInt k.bits a) &&& ~~~(BitVec.ofInt k.bits b)).toNat))
 | .eql=>some (.bool (bD a b))
 | .neq=>some (.bool (!bD a b))
 | .lss=>some (.bool (dz a b))
 | .leq=>some (.bool (iG a b))
 | .gtr=>some (.bool (dz b a))
 | .geq=>some (.bool (iG b a))
 |_=>none
def Gg (op:BinOp) (a b:List UInt8):Option aj:=
 match op with
 | .add=>bif cy (a.length+b.length) 1073741824 then some (.str (a++b)) else none
 | .eql=>some (.bool (a==b))
 | .neq=>some (.bool (!(a==b)))
 | .lss=>some (.bool (hZ a b))
 | .leq=>some (.bool (leBytes a b))
 | .gtr=>some (.bool (!leBytes a b))
 | .geq=>some (.bool (!hZ a b))
 |_=>none
def fy (op:BinOp) (t:TypeId) (x y:aj):Option aj:=
 match x,y with
 | .int k a,.int k' b=>match op with
   | .shl=>bif dz b 0 then none else some (.int k (k.wrap (a*2 ^ (min b.toNat k.bits))))
   | .shr=>bif dz b 0 then none else some (.int k (a.fdiv (2 ^ (min b.toNat k.bits))))
   |_=>bif k==k' then Dp op k a b else none
 | .str a,.str b=>Gg op a b
 |x,y=>match op with
  | .eql=>(qk P t x y).bind fun b=>some (.bool b)
  | .neq=>(qk P t x y).bind fun b=>some (.bool (!b))
  |_=>none
def wo (op:UnOp) (x:aj):Option aj:=
 match op,x with
 | .neg,.int k n=>some (.int k (k.wrap (0-n)))
 | .not,.bool b=>some (.bool !b)
 |_,_=>none
def yT (src dst:TypeId) (x:aj):Option aj:=
 (P.underlying src).bind fun _=>(P.underlying dst).bind fun d=>match d,x with
  | .int k,.int _ n=>some (.int k (k.wrap n))
  | .string,.str s=>some (.str s)
  |_,_=>none
def kn (kt:TypeId) (k:aj):List db->Nat->Option (Option (Nat×db))
 | [],_=>some none
 |e::es,i=>(ki P 8 kt k e.key).bind fun b=>bif b then some (some (i,e)) else kn kt k es (i+1)
def nW (t:TypeId) (k:aj):Option (TypeId×TypeId):=
 (P.underlying t).bind fun
  | .map kt e=>bif sr P 8 kt k then some (kt,e) else none
  |_=>none
def xL (kt:TypeId) (m k:aj) (s:St):Option (Option (Nat×db)):=
 match m with
 | .nilm=>some none
 | .map n=>(s.get mk n).bind fun
   | .map es _=>kn P kt k es 0
   |_=>none
 |_=>none
def lM (t:TypeId) (m k:aj) (ok:Bool) (s:St):Option aj:=
 (nW P t k).bind fun ke=>(eY P ke.2).bind fun z=>(xL P mk ke.1 m k s).bind fun
  |some x=>some (bif ok then .tup [x.2.val,.bool true] else x.2.val)
  |none=>some (bif ok then .tup [z,.bool false] else z)
def lS (t:TypeId) (m k v:aj) (s:St):Option St:=
 (nW P t k).bind fun ke=>match m with
  | .map n=>(s.get mk n).bind fun
    | .map es clock=>(kn P ke.1 k es 0).bind fun
      |some x=>bif su x.2.key k then some (s.put n (some (.map (es.set x.1 ⟨k,v,x.2.born⟩) clock))) else none
      |none=>some (s.put n (some (.map (es++[⟨k,v,clock⟩]) (clock+1))))
    |_=>none
  |_=>none
def tZ (t:TypeId) (m k:aj) (s:St):Option (aj×St):=
 (nW P t k).bind fun ke=>(eY P ke.2).bind fun z=>match m with
  | .map n=>(s.get mk n).bind fun
    | .map es clock=>(kn P ke.1 k es 0).bind fun
      |some x=>bif su x.2.key k then some (.tup [x.2.val,.int .i64 x.2.born],s.put n (some (.map (es.set x.1 ⟨k,x.2.val,x.2.born⟩) clock))) else none
      |none=>some (.tup [z,.int .i64 clock],s.put n (some (.map (es++[⟨k,z,clock⟩]) (clock+1))))
    |_=>none
  |_=>none
def yf (b:Nat) (v:aj):List db->Option (List db)
 | []=>none
 |e::es=>bif be e.born b then some (⟨e.key,v,e.born⟩::es) else(yf b v es).bind fun r=>some (e::r)
def u6 (m stamp v:aj) (s:St):Option St:=
 (fF stamp).bind fun b=>match m with
  | .map n=>(s.get mk n).bind fun
    | .map es clock=>(yf b v es).bind fun es'=>some (s.put n (some (.map es' clock)))
    |_=>none
  |_=>none
def lh (t:TypeId) (x:aj) (s:St):Option (aj×St):=
 (P.underlying t).bind fun
  | .map _ _=>match x with
    | .nilm=>some (.ptr s.next 0,s.new (.iter none 0 [] 0))
    | .map m=>(s.get mk m).bind fun
      | .map _ clock=>some (.ptr s.next 0,s.new (.iter (some m) clock [] clock))
      |_=>none
    |_=>none
  |_=>none
def dx (seen:List Nat) (es:List db):List db:=es.filter (fun e=> !seen.any (be e.born))
def oX (n m since clock:Nat) (seen:List Nat) (e:db) (s:St):aj×St:=
 (.tup [.bool true,e.key,e.val],s.put n (some (.iter (some m) since (seen++[e.born]) clock)))
def m9 (n m since:Nat) (seen:List Nat) (clock:Nat) (l:List db) (s:St):Option (aj×St):=
 match l with
 | []=>some (.tup [.bool false],s)
 |e::r=>bif(e::r).all (fun e=>bT e.born since) then
   match r with
   | []=>some (oX n m since clock seen e s)
   |_::_=>bif cy (e::r).length (kmax s.ci) then
     ((e::r)[ch s.ci % (e::r).length]?).bind fun e=>some ((oX n m since clock seen e s).1, { (oX n m since clock seen e s).2 with ci:=s.ci+1 })
    else none
  else none
def kx (it:aj) (isString:Bool) (s:St):Option (aj×St):=
 match it with
 | .ptr n 0=>(s.get mk n).bind fun
   | .iter none _ _ _=>bif isString then none else some (.tup [.bool false],s)
   | .iter (some m) since seen stepped=>bif isString then none else(s.get mk m).bind fun
     | .map es clock=>bif !seen.isEmpty&& !es.isEmpty&&es.all (fun e=>cy stepped e.born) then none
       else m9 ch kmax n m since seen clock (dx seen es) s
     |_=>none
   |_=>none
 |_=>none
def q9 (b:Nat):List db->Option db
 | []=>none
 |e::es=>bif be e.born b then some e else q9 b es
def pm (it:aj) (s:St):Option aj:=
 match it with
 | .ptr n 0=>(s.get mk n).bind fun
   | .iter (some m) _ seen stepped=>(s.get mk m).bind fun
     | .map es clock=>bif be clock stepped then
      (seen.getLast?).bind fun b=>(q9 b es).bind fun e=>some (.tup [e.key,e.val])
       else none
     |_=>none
   |_=>none
 |_=>none
def sD (t:TypeId) (l c:aj) (mu:Bool) (s:St):Option (aj×St):=
 (jp P t).bind fun E=>(fF l).bind fun l=>(fF c).bind fun c=>
  bif cy l c&&cy (c*E.b) 1099511627776&&cy c 1099511627776 then
   bif be l 0&& !mu then some (.list E.n [] (.own s.next),s.new .tok)
   else some (.arr E.n s.next 0 l l,s.new (.cells (gd E.z.cells l)))
  else none
def j2 (agg:Bool) (n:Nat) (x:aj) (s:St):Option (List aj):=
 match x with
 | .nils=>some []
 | .list sz xs _=>bif be sz n then some xs else none
 | .arr sz m off len _=>bif be sz n then(s.get mk m).bind fun
   | .cells cs=>(cut cs off (len*n)).bind fun c=>ip agg n len c
   |_=>none
   else none
 |_=>none
def lk (need bytes:Nat):Bool:=cy ((need*2+1024)*bytes) 140737488355328
def kr (E:EI) (mu:Bool) (xs:List aj) (s:St):Option (aj×St):=
 bif lk xs.length E.b then
  bif mu then some (.arr E.n s.next 0 xs.length xs.length,s.new (.cells (bQ xs)))
  else some (.list E.n xs (.own s.next),s.new .tok)
 else none
def lA (E:EI) (x:aj) (ys:List aj) (mu:Bool) (s:St):Option (aj×St):=
 match x with
 | .nils=>kr E mu ys s
 | .list sz xs .full=>bif be sz E.n then kr E mu (xs++ys) s else none
 | .list sz xs (.own k)=>(s.get mk k).bind fun
   | .tok=>bif lk (xs.length+ys.length) E.b&&be sz E.n then some (.list E.n (xs++ys) (.own s.next),(s.put k none).new .tok) else none
   |_=>none
 | .arr sz m off len lcap=>(s.get mk m).bind fun
   | .cells cs=>bif lk (len+ys.length) E.b&&be sz E.n then
    bif be (off+len*E.n) cs.length then
     some (.arr E.n s.next 0 (len+ys.length) (len+ys.length),(s.put m none).new (.cells (cs.drop off++bQ ys)))
    else bif cy (len+ys.length) lcap then
     (cV cs (off+len*E.n) (bQ ys)).bind fun cs'=>some (.arr E.n m off (len+ys.length) lcap,s.put m (some (.cells cs')))
    else none
     else none
   |_=>none
 |_=>none
def xn:aj->Bool
 | .nils=>true
 | .list _ _ _=>true
 | .arr _ _ _ _ _=>true
 |_=>false
def jN (t:TypeId) (x y:aj) (mu:Bool) (s:St):Option (aj×St):=
 (jp P t).bind fun E=>(j2 mk E.g E.n y s).bind fun ys=>
  match ys with
  | []=>bif xn x then some (x,s) else none
  |_::_=>lA mk E x ys mu s
def wX (t:TypeId) (x y:aj) (s:St):Option (aj×St):=
 (jp P t).bind fun E=>(j2 mk E.g E.n y s).bind fun ys=>
  match x with
  | .nils=>some (.int .i64 0,s)
  | .list _ [] _=>some (.int .i64 0,s)
  | .arr sz m off len _=>bif be sz E.n then(s.get mk m).bind fun
    | .cells cs=>(cV cs off (bQ (ys.take len))).bind fun cs'=>some (.int .i64 (ys.take len).length,s.put m (some (.cells cs')))
    |_=>none
    else none
  |_=>none
def gW (t:TypeId) (x:aj) (s:St):Option aj:=
 (P.underlying t).bind fun d=>match d,x with
  | .string,.str b=>some (.int .i64 b.length)
  | .array n _,_=>some (.int .i64 n)
  | .slice _,.nils=>some (.int .i64 0)
  | .slice _,.list _ xs _=>some (.int .i64 xs.length)
  | .slice _,.arr _ _ _ len _=>some (.int .i64 len)
  | .map _ _,.nilm=>some (.int .i64 0)
  | .map _ _,.map n=>(s.get mk n).bind fun
    | .map es _=>some (.int .i64 es.length)
    |_=>none
  |_,_=>none
def rX (t:TypeId) (x:aj) (s:St):Option St:=
 match x with
 | .nilm=>some s
 | .nils=>some s
 | .map n=>(s.get mk n).bind fun
   | .map _ clock=>some (s.put n (some (.map [] clock)))
   |_=>none
 | .list _ [] _=>some s
 | .arr sz m off len _=>bif be len 0 then some s else(jp P t).bind fun E=>
   bif be sz E.n then(s.get mk m).bind fun
    | .cells cs=>(cV cs off (gd E.z.cells len)).bind fun cs'=>some (s.put m (some (.cells cs')))
    |_=>none
   else none
 |_=>none
def rh (isMax:Bool):aj->List aj->Option aj
 | .int k a,[]=>some (.int k a)
 | .int k a,.int k' b::l=>bif k==k' then rh isMax (.int k (bif isMax then bif dz a b then b else a else bif dz b a then b else a)) l else none
 | .str a,[]=>some (.str a)
 | .str a,.str b::l=>rh isMax (.str (bif isMax then bif hZ a b then b else a else bif leBytes a b then a else b)) l
 |_,_=>none
def lK (t:TypeId):Bool:=
 match P.underlying t with
 |some (.slice _)=>true
 |_=>false
def lD (b:Builtin) (argTypes:List TypeId) (mu:Bool) (args:List aj) (s:St):Option (aj×St):=
 match b,argTypes,args with
 | .len,[t],[x]=>(gW P mk t x s).bind fun v=>some (v,s)
 | .append,[t,t2],[x,y]=>bif lK P t2 then jN P mk t x y mu s else none
 | .copy,[t,_],[x,y]=>wX P mk t x y s
 | .clear,[t],[x]=>(P.underlying t).bind fun _=>(rX P mk t x s).bind fun s'=>some (.tup [],s')
 | .min,_,x::l=>(rh false x l).bind fun v=>some (v,s)
 | .max,_,x::l=>(rh true x l).bind fun v=>some (v,s)
 |_,_,_=>none
def oJ (h:Nat) (dst:Option Tmp) (cs:List aj) (loc:Loc) (s:St):Option (aj×Loc×St):=
 bif be h 1 then dst.bind fun t=>some (.lref t (loc.gen t+1) 0,loc.set t (loc.gen t+1) cs,s)
 else some (.ptr s.next 0,loc,s.new (.cells cs))
def fK (x:Option aj) (l:Loc) (s:St):Option (aj×Loc×St):=x.bind fun a=>some (a,l,s)
def gX (x:Option (aj×St)) (l:Loc):Option (aj×Loc×St):=x.bind fun r=>some (r.1,l,r.2)
def lR (x:Option St) (l:Loc):Option (aj×Loc×St):=x.bind fun s=>some (ii,l,s)
def mY (hint:Tmp->Nat):Option Tmp->Nat
 |some t=>hint t
 |none=>0
def sO (env:bj) (c a b:Operand):Option aj:=
 (ev env c).bind fun
  | .bool true=>ev env a
  | .bool false=>ev env b
  |_=>none
def sG (loc:Loc):aj->Option aj
 | .lref a g b=>bif be (loc.gen a) g then some (.lref a g b) else none
 | .ptr a b=>some (.ptr a b)
 | .ro c=>some (.ro c)
 | .func (.func f) a b=>some (.func (.func f) a b)
 |_=>none
def iE (i:Nat):aj->Option aj
 | .tup l=>l[i]?
 |_=>none
def pF (env:bj) (fn:Fn) (first captured:Array Operand):Option aj:=
 match fn with
 | .func f=>(evcs env first.toList).bind fun a=>(evcs env captured.toList).bind fun b=>some (.func (.func f) a b)
 |_=>none
def mp (t:TypeId) (env:bj) (r:Option Operand) (s:St):Option (aj×St):=
 match r with
 |none=>some (.map s.next,s.new (.map [] 0))
 |some x=>(P.underlying t).bind fun
  | .map _ _=>(ev env x).bind fun
    | .int _ _=>some (.map s.next,s.new (.map [] 0))
    |_=>none
  |_=>none
def Aw (hint:Tmp->Nat) (dst:Option Tmp) (e:TypeId) (fr:Fr) (s:St):Option (aj×Loc×St):=
 (eY P e).bind fun z=>oJ (mY hint dst) dst z.cells fr.loc s
def Ay (hint:Tmp->Nat) (dst:Option Tmp) (x:Operand) (fr:Fr) (s:St):Option (aj×Loc×St):=
 (evc fr.env x).bind fun a=>oJ (mY hint dst) dst a.cells fr.loc s
def vL (t:TypeId) (a:Operand) (fr:Fr) (s:St):Option (aj×Loc×St):=
 (ev fr.env a).bind fun a=>fK (kZ P mk t a fr.loc s) fr.loc s
def vM (t:TypeId) (a x:Operand) (fr:Fr) (s:St):Option (aj×Loc×St):=
 (ev fr.env a).bind fun a=>(evc fr.env x).bind fun x=>(pS P mk t a x fr.loc s).bind fun r=>some (ii,r.1,r.2)
def Ax (op:BinOp) (t:TypeId) (x y:Operand) (fr:Fr) (s:St):Option (aj×Loc×St):=
 (evc fr.env x).bind fun x=>(evc fr.env y).bind fun y=>fK (fy P op t x y) fr.loc s
def xX (t:TypeId) (m k x:Operand) (fr:Fr) (s:St):Option (aj×Loc×St):=
 (evc fr.env m).bind fun m=>(evc fr.env k).bind fun k=>(evc fr.env x).bind fun x=>lR (lS P mk t m k x s) fr.loc
def AB (t:TypeId) (x i:Operand) (ok:Bool) (fr:Fr) (s:St):Option (aj×Loc×St):=
 (evc fr.env x).bind fun x=>(evc fr.env i).bind fun i=>fK (lM P mk t x i ok s) fr.loc s
def AC (hint:Tmp->Nat) (dst:Option Tmp) (t:TypeId) (l c:Operand) (fr:Fr) (s:St):Option (aj×Loc×St):=
 (ev fr.env l).bind fun l=>(ev fr.env c).bind fun c=>gX (sD P t l c (be (mY hint dst) 2) s) fr.loc
def vK (t:TypeId) (x i:Operand) (fr:Fr) (s:St):Option (aj×Loc×St):=
 (ev fr.env x).bind fun x=>(ev fr.env i).bind fun i=>fK (iH P fr.loc t x i) fr.loc s
def AA (t:TypeId) (x i:Operand) (fr:Fr) (s:St):Option (aj×Loc×St):=
 (evc fr.env x).bind fun x=>(ev fr.env i).bind fun i=>fK (qn P t x i) fr.loc s
def AD (t:TypeId) (m k:Operand) (fr:Fr) (s:St):Option (aj×Loc×St):=
 (evc fr.env m).bind fun m=>(evc fr.env k).bind fun k=>gX (tZ P mk t m k s) fr.loc
def Az (m st x:Operand) (fr:Fr) (s:St):Option (aj×Loc×St):=
 (evc fr.env m).bind fun m=>(evc fr.env st).bind fun st=>(evc fr.env x).bind fun x=>lR (u6 mk m st x s) fr.loc
def qw (hint:Tmp->Nat) (dst:Option Tmp) (c:Call) (fr:Fr) (s:St):Option (aj×Loc×St):=
 match c.callee with
 | .builtin b=>(evcs fr.env c.args.toList).bind fun args=>gX (lD P mk b c.argTypes.toList (be (mY hint dst) 2) args s) fr.loc
 |_=>none
def nZ (x:Operand) (g:aj->Option aj) (fr:Fr) (s:St):Option (aj×Loc×St):=
 (ev fr.env x).bind fun a=>fK (g a) fr.loc s
def kP (x:Operand) (g:aj->Option aj) (fr:Fr) (s:St):Option (aj×Loc×St):=
 (evc fr.env x).bind fun a=>fK (g a) fr.loc s
def kg (hint:Tmp->Nat) (dst:Option Tmp) (op:Op) (fr:Fr) (s:St):Option (aj×Loc×St):=
 match op with
 | .move x=>fK (ev fr.env x) fr.loc s
 | .assign x=>fK (ev fr.env x) fr.loc s
 | .pick c a b=>fK (sO fr.env c a b) fr.loc s
 | .alloc e=>Aw P hint dst e fr s
 | .box _ x=>Ay hint dst x fr s
 | .build t parts=>fK (gm P t parts.toList fr.env) fr.loc s
 | .buildSlice t len parts=>gX (dV P t len parts.toList (be (mY hint dst) 2) fr.env s) fr.loc
 | .load t a=>vL P mk t a fr s
 | .store t a x=>vM P mk t a x fr s
 | .nilCheck x=>nZ x (sG fr.loc) fr s
 | .binOp op t x y _=>Ax P op t x y fr s
 | .unOp op _ x=>kP x (wo op) fr s
 | .convert src dst x=>kP x (yT P src dst) fr s
 | .makeFunc fn first captured=>fK (pF fr.env fn first captured) fr.loc s
 | .makeMap t r=>gX (mp P t fr.env r s) fr.loc
 | .makeSlice t l c=>AC P hint dst t l c fr s
 | .slice t x lo hi mx=>kP x (fun x=>jS P mk t x lo hi mx fr.env s) fr s
 | .fieldAddr t x f=>nZ x (fun x=>fE P fr.loc t x f) fr s
 | .field t x f=>kP x (fun x=>yZ P t x f) fr s
 | .indexAddr t x i=>vK P t x i fr s
 | .index t x i=>AA P t x i fr s
 | .lookup t x i ok=>AB P mk t x i ok fr s
 | .mapUpdate t m k x=>xX P mk t m k x fr s
 | .insert t m k x=>xX P mk t m k x fr s
 | .mapEntry t m k=>AD P mk t m k fr s
 | .entryStore _ m st x=>Az mk m st x fr s
 | .range t x=>(evc fr.env x).bind fun x=>gX (lh P mk t x s) fr.loc
 | .next it isString=>(evc fr.env it).bind fun it=>gX (kx mk ch kmax it isString s) fr.loc
 | .entry it=>kP it (fun it=>pm mk it s) fr s
 | .extract x i=>nZ x (iE i) fr s
 | .call c=>qw P mk hint dst c fr s
 |_=>none
end
def callee (env:bj) (c:Call):Option (FuncId×List aj):=
 match c.callee with
 | .value f=>(ev env f).bind fun
   | .func (.func f) first captured=>(evcs env c.args.toList).bind fun args=>some (f,first++(args++captured))
   |_=>none
 |_=>none
inductive fN where
 |all
 |obj (n:Nat)
 |loc (t:Nat)
 |none
 deriving Inhabited
def sg (env:bj) (a:Operand):fN:=
 match ev env a with
 |some (.lref t _ _)=>.loc t
 |some (.ptr n _)=>.obj n
 |some (.ro _)=>.none
 |_=>.all
def pw (env:bj) (a:Operand):fN:=
 match ev env a with
 |some (.lref t _ _)=>.loc t
 |_=>.none
def xf (hint:Tmp->Nat) (dst:Option Tmp):fN:=
 match dst with
 |some t=>bif be (hint t) 1 then .loc t else .none
 |none=>.none
def dy (hint:Tmp->Nat) (dst:Option Tmp) (env:bj):Op->fN
 | .load _ a=>sg env a
 | .store _ a _=>sg env a
 | .fieldAddr _ x _=>pw env x
 | .indexAddr _ x _=>pw env x
 | .nilCheck x=>pw env x
 | .move _| .assign _| .pick .. | .build .. | .field .. | .index .. | .binOp .. | .unOp .. | .convert .. | .makeFunc .. | .extract .. =>.none
 | .slice _ x _ _ _=>match ev env x with
   |some (.ptr n _)=>.obj n
   |_=>.none
 | .alloc _=>xf hint dst
 | .box _ _=>xf hint dst
 | .buildSlice .. | .makeMap .. | .makeSlice .. =>.none
 | .call {callee:=.builtin .min, .. }=>.none
 | .call {callee:=.builtin .max, .. }=>.none
 | .call {callee:=.builtin .len,args, .. }=>match args[0]? with
   |some x=>match ev env x with
    |some (.map _)=>.all
    |_=>.none
   |none=>.none
 |_=>.all
def isStore:Op->Bool
 | .store .. =>true
 | .alloc _=>true
 | .box _ _=>true
 |_=>false
def fN.meets:fN->fN->Bool
 | .none,_=>false
 |_,.none=>false
 | .all,.all=>true
 | .all,.obj _=>true
 | .obj _,.all=>true
 | .obj n,.obj m=>be n m
 | .loc t,.loc u=>be t u
 |_,_=>false
structure dU where
 i:Nat
 c0:Nat
 c1:Nat
 foot:fN
 loud:Bool
 deriving Inhabited
inductive Rd where
 |ret (v:Option aj)
 |ask (n:Nat) (k:bH->Rd)
def ng (g:Nat->Option bH):Rd->Option aj
 | .ret v=>v
 | .ask n k=>(g n).bind fun o=>ng g (k o)
abbrev tx:=Option (Nat×(List aj->Option (List aj)))
structure cw where
 P:Program
 hint:FuncId->Tmp->Nat
 spec:FuncId->Option (List aj->Option aj)
 ch:Nat->Nat
 kmax:Nat->Nat
 specH:FuncId->Option (List aj->Rd):=fun _=>none
 specW:FuncId->Option (List aj->Option tx):=fun _=>none
def eX (ops:Array Oper) (env:bj) (o:Oper):Bool:=
 match o.guard with
 |none=>true
 |some (j,want)=>match(ops[j]?).bind (·.dst) with
  |some d=>match ax env d with
   | .bool b=>b==want
   |_=>false
  |none=>false
def ee (fr:Fr) (dst:Option Tmp) (v:aj) (loc:Loc):Option Fr:=
 match dst with
 |some d=>bif bT d fr.size then some ⟨fr.env.set d (some v),fr.size,loc⟩ else none
 |none=>some ⟨fr.env,fr.size,loc⟩
def al1:Operand->Option Nat
 | .tmp t=>some t
 |_=>none
def tY (ops:Array Oper) (o:Oper):List Nat:=
 o.op.operands.toList.filterMap al1++(match o.guard with
  |some (g,_)=>match(ops[g]?).bind (·.dst) with|some d=>[d]|none=>[]
  |none=>[])
def w4 (ops:Array Oper) (x y:Oper):Bool:=
 (match x.dst with
  |some d=> !(tY ops y).any (be d)&&(match y.dst with|some e=> !be d e|none=>true)
  |none=>true)&&
 (match y.dst with
  |some d=> !(tY ops x).any (be d)
  |none=>true)
def yP (ops:Array Oper) (x:Oper) (i:Nat):List Oper->List Nat->Bool
 | [],_=>true
 |y::l,bs=>((bs.headD 0).testBit i||w4 ops x y)&&yP ops x i l bs.tail
def kU (ops:Array Oper):Nat->List Oper->List Nat->Bool
 |_,[],_=>true
 |i,x::l,bs=>x.after.toList.all (fun e=> !Region.binds .any e||bT e.on i)&&(yP ops x i l bs.tail&&kU ops (i+1) l bs.tail)
def je (bi:Nat) (rs:List dU) (mk:bn):bn:=
 match rs with
 | []=>mk
 |r::rs=>bif bi.testBit r.i||be r.c0 r.c1 then je bi rs mk else(r.c0,r.c1)::je bi rs mk
def fits (bi:Nat) (foot:fN) (loud:Bool) (rs:List dU):Bool:=
 rs.all fun r=>bi.testBit r.i|| !((loud||r.loud)&&foot.meets r.foot)
section
variable (Q:cw)
def x8 (mk:bn) (fr:Fr) (s:St):ResultVar->Option aj
 | .tmp t=>evc fr.env (.tmp t)
 | .cell a t=>kZ Q.P mk t (ax fr.env a) fr.loc s
def gQ (mk:bn) (fr:Fr) (s:St):List ResultVar->Option (List aj)
 | []=>some []
 |r::l=>(x8 Q mk fr s r).bind fun v=>(gQ mk fr s l).bind fun vs=>bif v.clean then some (v::vs) else none
def jQ:List aj->aj
 | [v]=>v
 |vs=>.tup vs
structure lw where
 ops:FuncId->Array Oper->bn->List Oper->Fr->St->Option (Fr×St)
 draw:FuncId->Array Oper->List Nat->bn->List dU->Nat->List Oper->Fr->St->Option (Fr×St)
 code:FuncId->Code->bn->Fr->St->Option (Ex×Fr×St)
 call:FuncId->List aj->bn->St->Option (aj×St)
def lw.none:lw:=⟨fun _ _ _ _ _ _=>.none,fun _ _ _ _ _ _ _ _ _=>.none,fun _ _ _ _ _=>.none,fun _ _ _ _=>.none⟩
variable (r:lw)
def lF (c:Call) (mk:bn) (fr:Fr) (s:St):Option (aj×Loc×St):=
 (callee fr.env c).bind fun g=>(r.call g.1 g.2 mk s).bind fun v=>some (v.1,fr.loc,v.2)
def yg:List Tmp->List aj->bj->Option bj
 | [],[],e=>some e
 |t::ts,v::vs,e=>yg ts vs (e.set t (some v))
 |_,_,_=>none
def uu (f:FuncId) (env:bj) (size:Nat) (ps:List Tmp) (a b:Code):Ex×Fr×St->Option (aj×bH×St)
 |(.normal,_,s)=>some (.bool true,.loop f env size ps a b none,s)
 |(x,_,s)=>some (.bool false,.loop f env size ps a b (some x),s)
def tc (f:FuncId) (env:bj) (size:Nat) (ps:List Tmp) (a b:Code) (mk:bn):Ex×Fr×St->Option (aj×bH×St)
 |(.normal,fr,s)=>(r.code f b mk fr s).bind (uu f env size ps a b)
 |_=>none
def uv (o:bH) (args:List aj) (mk:bn) (s:St):Option (aj×bH×St):=
 match o with
 | .loop f env size ps a b none=>bif ps.all (fun t=>bT t size) then
  (yg ps args env).bind fun env'=>(r.code f a mk ⟨env',size,[]⟩ s).bind (tc r f env size ps a b mk)
   else none
 |_=>none
def lm (n:Nat) (args:List aj) (mk:bn) (s:St):Option (aj×St):=
 (s.get mk n).bind fun o=>(uv r o args mk (s.put n none)).bind fun x=>some (x.1,x.2.2.put n (some x.2.1))
def yieldee (env:bj) (c:Call):Option (Nat×List aj):=
 match c.callee with
 | .value f=>(ev env f).bind fun
   | .yld n=>(evcs env c.args.toList).bind fun args=>some (n,args)
   |_=>none
 |_=>none
def o0 (c:Call) (mk:bn) (fr:Fr) (s:St):Option (aj×Loc×St):=
 (yieldee fr.env c).bind fun g=>(lm r g.1 g.2 mk s).bind fun v=>some (v.1,fr.loc,v.2)
def mj (env:bj) (c:Call):Bool:=
 match c.callee with
 | .value f=>match ev env f with
   |some (.yld _)=>true
   |_=>false
 |_=>false
def fA (f:FuncId) (o:Oper) (mk:bn) (fr:Fr) (s:St):Option (aj×Loc×St):=
 match o.op with
 | .call c=>match c.callee with
   | .builtin _=>qw Q.P mk (Q.hint f) o.dst c fr s
   |_=>bif mj fr.env c then o0 r c mk fr s else lF r c mk fr s
 |op=>kg Q.P mk Q.ch Q.kmax (Q.hint f) o.dst op fr s
def kQ (f:FuncId) (all:Array Oper) (mk:bn) (l:List Oper) (fr:Fr) (s:St):Option (Fr×St):=
 match l with
 | []=>some (fr,s)
 |o::rest=>
  bif eX all fr.env o then
   (fA Q r f o mk fr s).bind fun x=>(ee fr o.dst x.1 x.2.1).bind fun fr'=>r.ops f all mk rest fr' x.2.2
  else(ee fr o.dst ii fr.loc).bind fun fr'=>r.ops f all mk rest fr' s
def St.least (s s':St):St:=⟨s'.heap,s'.next,bif cy s.minw s'.minw then s.minw else s'.minw,s'.ci⟩
def lH (f:FuncId) (all:Array Oper) (bs:List Nat) (mk:bn) (rs:List dU) (i:Nat) (l:List Oper) (fr:Fr) (s:St):Option (Fr×St):=
 match l with
 | []=>some (fr,s)
 |o::rest=>
  bif eX all fr.env o then
   (fA Q r f o (je (bs.headD 0) rs mk) fr ⟨s.heap,s.next,s.next,s.ci⟩).bind fun x=>
    bif fits (bs.headD 0) (dy (Q.hint f) o.dst fr.env o.op) (bT x.2.2.minw s.next||isStore o.op) rs&&be s.ci x.2.2.ci then
     (ee fr o.dst x.1 x.2.1).bind fun fr'=>
      r.draw f all bs.tail mk (⟨i,s.next,x.2.2.next,dy (Q.hint f) o.dst fr.env o.op,bT x.2.2.minw s.next||isStore o.op⟩::rs) (i+1) rest fr' (s.least x.2.2)
    else none
  else(ee fr o.dst ii fr.loc).bind fun fr'=>r.draw f all bs.tail mk rs (i+1) rest fr' s
def ni (f:FuncId) (b:Code) (mk:bn):Ex×Fr×St->Option (Ex×Fr×St)
 |(.normal,fr,s)=>r.code f b mk fr s
 |x=>some x
def u4 (f:FuncId) (a b:Code) (mk:bn) (fr:Fr) (s:St):aj->Option (Ex×Fr×St)
 | .bool true=>r.code f a mk fr s
 | .bool false=>r.code f b mk fr s
 |_=>none
def nM (id:Nat):Ex×Fr×St->Ex×Fr×St
 |(.exit i,fr,s)=>bif be i id then(.normal,fr,s) else(.exit i,fr,s)
 |x=>x
def AN (f:FuncId) (ops:Array Oper) (draw:Bool) (mk:bn) (fr:Fr) (s:St):Option (Ex×Fr×St):=
 (bif draw then bif kU ops 0 ops.toList (Region.before ops).toList then r.draw f ops (Region.before ops).toList mk [] 0 ops.toList fr s else none
  else r.ops f ops mk ops.toList fr s).bind fun x=>some (.normal,x.1,x.2)
def fq:Code->Bool
 | .seq a b=>fq a&&fq b
 | .cond _ a b=>fq a&&fq b
 | .block _ a=>fq a
 | .loop a=>fq a
 | .scope _=>false
 | .rangeFunc _ _ _ _=>false
 |_=>true
def ri:aj->Bool
 | .lref _ _ _=>false
 |_=>true
def ub:Option Ex->Ex
 |none=>.normal
 |some x=>x
def ug (mk:bn) (n:Nat) (fr:Fr) (s:St):Option (Ex×Fr×St):=
 (s.get mk n).bind fun
  | .loop _ _ _ _ _ _ p=>some (ub p,fr,s.put n none)
  |_=>none
def mf (P:Program) (h:FuncId):Bool:=
 match P.funcs[h]? with
 |some fn=>fn.body.isSome
 |none=>false
def rr (f:FuncId) (ps:List Tmp) (a b:Code) (mk:bn) (fr:Fr) (s:St):aj->Option (Ex×Fr×St)
 | .func (.func h) first captured=>bif mf Q.P h&&(fr.env.all ri&&(fq a&&fq b)) then
  (r.call h (first++(.yld s.next::captured)) mk (s.new (.loop f fr.env fr.size ps a b none))).bind fun x=>ug mk s.next fr x.2
   else none
 |_=>none
def rZ (f:FuncId) (c:Code) (mk:bn) (fr:Fr) (s:St):Option (Ex×Fr×St):=
 match c with
 | .skip=>some (.normal,fr,s)
 | .label _=>some (.normal,fr,s)
 | .ret=>some (.ret,fr,s)
 | .exit id=>some (.exit id,fr,s)
 | .seq a b=>(r.code f a mk fr s).bind (ni r f b mk)
 | .cond x a b=>(ev fr.env x).bind (u4 r f a b mk fr s)
 | .block id b=>(r.code f b mk fr s).bind fun x=>some (nM id x)
 | .scope b=>r.code f b mk fr s
 | .loop b=>(r.code f b mk fr s).bind (ni r f (.loop b) mk)
 | .region _ ops draw=>AN r f ops draw mk fr s
 | .rangeFunc g ps a b=>(ev fr.env g).bind (rr Q r f ps.toList a b mk fr s)
 |_=>none
def nS (fn:Func) (mk:bn):Ex×Fr×St->Option (aj×St)
 |(.exit _,_,_)=>none
 |(_,fr,s)=>(gQ Q mk fr s fn.results.toList).bind fun vs=>some (jQ vs,s)
def vV (s:St) (p:Nat×(List aj->Option (List aj))):bH->Option (aj×St)
 | .cells cs=>(p.2 cs).bind fun cs'=>some (.tup [],s.put p.1 (some (.cells cs')))
 |_=>none
def qz (mk:bn) (s:St):tx->Option (aj×St)
 |none=>some (.tup [],s)
 |some p=>(s.get mk p.1).bind (vV s p)
def jx (f:FuncId) (args:List aj) (mk:bn) (s:St):Option (aj×St):=
 match Q.spec f with
 |some sp=>(sp args).bind fun v=>some (v,s)
 |none=>match Q.specH f with
  |some sp=>(ng (s.get mk) (sp args)).bind fun v=>some (v,s)
  |none=>match Q.specW f with
  |some sp=>(sp args).bind (qz mk s)
  |none=>(Q.P.funcs[f]?).bind fun fn=>fn.body.bind fun c=>
   (r.code f c mk ⟨cY 0 args,bif cy args.length fn.ntmps then fn.ntmps else args.length,[]⟩ s).bind (nS Q fn mk)
def CM:lw:=⟨kQ Q r,lH Q r,rZ Q r,jx Q r⟩
end
def cN (Q:cw):Nat->lw
 |0=>.none
 |n+1=>CM Q (cN Q n)
end
namespace bv
variable {α:Type}
theorem get_nil (n:Nat):(bv.nil:bv α).get n=none:=rfl
theorem get_node (l:bv α) (v:Option α) (r:bv α) (n:Nat):
 (bv.node l v r).get n=if n=0 then v else if n % 2=1 then l.get (n / 2) else r.get (n / 2-1):=by
 show @nl (fun _=>Option α) (@nl (fun _=>Option α) (r.get (n / 2-1)) (l.get (n / 2)) (be (n % 2) 1)) v (be n 0)=_
 by_cases h0:n=0
 ·subst h0;rfl
 ·have e0:be n 0=false:=by
   cases h:be n 0
   ·rfl
   ·exact absurd (ik h) h0
  rw[if_neg h0,e0]
  by_cases h1:n % 2=1
  ·rw[if_pos h1,h1];rfl
  ·have e1:be (n % 2) 1=false:=by
    cases h:be (n % 2) 1
    ·rfl
    ·exact absurd (ik h) h1
   rw[if_neg h1,e1]
theorem one_zero (x:Option α) (n:Nat):one x 0 n= .node .nil x .nil:=rfl
theorem one_succ (x:Option α) (f n:Nat):
 one x (f+1) n=if n=0 then .node .nil x .nil else if n % 2=1 then .node (one x f (n / 2)) none .nil else .node .nil none (one x f (n / 2-1)):=by
 show @nl (fun _=>bv α) (@nl (fun _=>bv α) (.node .nil none (one x f (n / 2-1))) (.node (one x f (n / 2)) none .nil) (be (n % 2) 1)) (.node .nil x .nil) (be n 0)=_
 by_cases h0:n=0
 ·subst h0;rfl
 ·have e0:be n 0=false:=by
   cases h:be n 0
   ·rfl
   ·exact absurd (ik h) h0
  rw[if_neg h0,e0]
  by_cases h1:n % 2=1
  ·rw[if_pos h1,h1];rfl
  ·have e1:be (n % 2) 1=false:=by
    cases h:be (n % 2) 1
    ·rfl
    ·exact absurd (ik h) h1
   rw[if_neg h1,e1]
theorem get_one (x:Option α): ∀(f n m:Nat),n<=f->(one x f n).get m=if m=n then x else none:=by
 intro f
 induction f with
 |zero=>
  intro n m h
  obtain rfl:n=0:=by omega
  rw[one_zero,get_node,get_nil,get_nil]
  by_cases h:m=0<;>simp[h]
 |succ f ih=>
  intro n m h
  rw[one_succ]
  by_cases h0:n=0
  ·subst h0
   rw[if_pos rfl,get_node,get_nil,get_nil]
   by_cases h:m=0<;>simp[h]
  ·rw[if_neg h0]
   by_cases h1:n % 2=1
   ·rw[if_pos h1,get_node,ih _ _ (by omega),get_nil]
    by_cases hm:m=n
    ·subst hm;simp[h0,h1]
    ·rw[if_neg hm]
     by_cases m0:m=0
     ·simp[m0]
     ·by_cases m1:m % 2=1
      ·rw[if_neg m0,if_pos m1,if_neg (by omega)]
      ·simp[m0,m1]
   ·rw[if_neg h1,get_node,ih _ _ (by omega),get_nil]
    by_cases hm:m=n
    ·subst hm;simp[h0,h1]
    ·rw[if_neg hm]
     by_cases m0:m=0
     ·simp[m0]
     ·by_cases m1:m % 2=1
      ·simp[m0,m1]
      ·rw[if_neg m0,if_neg m1,if_neg (by omega)]
theorem set_nil (n:Nat) (x:Option α):(bv.nil:bv α).set n x=one x n n:=rfl
theorem set_node (l:bv α) (v:Option α) (r:bv α) (n:Nat) (x:Option α):
 (bv.node l v r).set n x=if n=0 then .node l x r else if n % 2=1 then .node (l.set (n / 2) x) v r else .node l v (r.set (n / 2-1) x):=by
 show @nl (fun _=>bv α) (@nl (fun _=>bv α) (.node l v (r.set (n / 2-1) x)) (.node (l.set (n / 2) x) v r) (be (n % 2) 1)) (.node l x r) (be n 0)=_
 by_cases h0:n=0
 ·subst h0;rfl
 ·have e0:be n 0=false:=by
   cases h:be n 0
   ·rfl
   ·exact absurd (ik h) h0
  rw[if_neg h0,e0]
  by_cases h1:n % 2=1
  ·rw[if_pos h1,h1];rfl
  ·have e1:be (n % 2) 1=false:=by
    cases h:be (n % 2) 1
    ·rfl
    ·exact absurd (ik h) h1
   rw[if_neg h1,e1]
theorem get_set (t:bv α): ∀(n m:Nat) (x:Option α),(t.set n x).get m=if m=n then x else t.get m:=by
 induction t with
 |nil=>intro n m x;rw[set_nil,get_one _ _ _ _ (bB _),get_nil]
 |node l v r il ir=>
  intro n m x
  rw[set_node]
  by_cases h0:n=0
  ·subst h0
   rw[if_pos rfl,get_node,get_node]
   by_cases h:m=0<;>simp[h]
  ·rw[if_neg h0]
   by_cases h1:n % 2=1
   ·rw[if_pos h1,get_node,get_node,il]
    by_cases hm:m=n
    ·subst hm;simp[h0,h1]
    ·rw[if_neg hm]
     by_cases m0:m=0
     ·simp[m0]
     ·by_cases m1:m % 2=1
      ·rw[if_neg m0,if_pos m1,if_neg (by omega),if_neg m0,if_pos m1]
      ·simp[m0,m1]
   ·rw[if_neg h1,get_node,get_node,ir]
    by_cases hm:m=n
    ·subst hm;simp[h0,h1]
    ·rw[if_neg hm]
     by_cases m0:m=0
     ·simp[m0]
     ·by_cases m1:m % 2=1
      ·simp[m0,m1]
      ·rw[if_neg m0,if_neg m1,if_neg (by omega),if_neg m0,if_neg m1]
@[simp] theorem get_set_same (t:bv α) (n:Nat) (x:Option α):(t.set n x).get n=x:=by rw[get_set,if_pos rfl]
end bv
namespace bv
theorem all_get {α:Type} {p:α->Bool}: ∀ {t:bv α},t.all p=true-> ∀ {n:Nat} {x:α},t.get n=some x->p x=true
 | .nil,_,n,x,h=>by cases h
 | .node l v r,h,n,x,hg=>by
   have h:(∀y,v=some y->p y=true)/\l.all p=true/\r.all p=true:=by
    cases v with
    |none=>
     have h:(true&&(l.all p&&r.all p))=true:=h
     simp only[i9,cZ] at h
     exact⟨fun _ e=>(by cases e),h⟩
    |some z=>
     have h:(p z&&(l.all p&&r.all p))=true:=h
     simp only[cZ] at h
     exact⟨fun _ e=>(by injection e with e;subst e;exact h.1),h.2⟩
   have hg:(@nl (fun _=>Option α) (@nl (fun _=>Option α) (r.get (n / 2-1)) (l.get (n / 2)) (be (n % 2) 1)) v (be n 0))=some x:=hg
   cases h0:be n 0 with
   |true=>rw[h0] at hg;exact h.1 x hg
   |false=>
    rw[h0] at hg
    cases h1:be (n % 2) 1 with
    |true=>rw[h1] at hg;exact all_get h.2.1 hg
    |false=>rw[h1] at hg;exact all_get h.2.2 hg
end bv
structure Gh where
 at_:Nat->Option Addr
 ro:Nat->Nat->Option aj
 dim:Nat->Option Nat
structure Gh.le (G G':Gh):Prop where
 at_: ∀n a,G.at_ n=some a->G'.at_ n=some a
 ro: ∀b o v,G.ro b o=some v->G'.ro b o=some v
 dim: ∀b d,G.dim b=some d->G'.dim b=some d
theorem Gh.le.refl (G:Gh):G.le G:=⟨fun _ _ h=>h,fun _ _ _ h=>h,fun _ _ h=>h⟩
theorem Gh.le.trans {G G' G'':Gh} (h:G.le G') (h':G'.le G''):G.le G'':=
 ⟨fun n a e=>h'.at_ n a (h.at_ n a e),fun b o v e=>h'.ro b o v (h.ro b o v e),fun b d e=>h'.dim b d (h.dim b d e)⟩
def wM (G:Gh) (sz:Nat) (a:Addr) (len cap:Nat):fD->Prop
 | .full=>cap=len
 | .own n=>G.at_ n=some ⟨a.block,a.off+len*sz,none⟩/\ ∃d,G.dim a.block=some d/\a.off+cap*sz<=d
 | .no=>True
theorem wM.mono {G G':Gh} (h:G.le G') {sz len cap:Nat} {a:Addr}: ∀ {r:fD},wM G sz a len cap r->wM G' sz a len cap r
 | .full,e=>e
 | .own _,⟨e,d,hd,hle⟩=>⟨h.at_ _ _ e,d,h.dim _ _ hd,hle⟩
 | .no,_=>trivial
def aj.scal:aj->Bool
 | .agg _=>false
 | .tup _=>false
 | .lref _ _ _=>false
 |_=>true
def dL (l:List aj):Bool:=l.all aj.scal
mutual
inductive VR (G:Gh):aj->Value->Prop
 |bool (b:Bool):VR G (.bool b) (.bool b)
 |int (k:IntKind) (n:Int):VR G (.int k n) (.int k n)
 |str (s:List UInt8):VR G (.str s) (.string ⟨⟨s⟩⟩)
 |agg {cs:List aj} {vs:List Value}:dL cs=true->cp G cs vs->VR G (.agg cs) (.agg ⟨vs⟩)
 |tup {cs:List aj} {vs:List Value}:cp G cs vs->VR G (.tup cs) (.tuple ⟨vs⟩)
 |nilp:VR G .nilp (.pointer none)
 |ptr {n off:Nat} {a:Addr}:G.at_ n=some a->VR G (.ptr n off) (.pointer (some ⟨a.block,a.off+off,none⟩))
 |ro {cs:List aj} {b o:Nat}:(∀i x,cs[i]? =some x->G.ro b (o+i)=some x)->VR G (.ro cs) (.pointer (some ⟨b,o,none⟩))
 |nils:VR G .nils (.slice none 0 0)
 |list {sz:Nat} {xs:List aj} {r:fD} {a:Addr} {cap:Nat}:(cap=0\/a.spot=none)->0<sz->(∀x∈xs,x.cells.length=sz)->xs.length<=cap->
  (∀i x,(bQ xs)[i]? =some x->G.ro a.block (a.off+i)=some x)->wM G sz a xs.length cap r->
  VR G (.list sz xs r) (.slice (some a) xs.length cap)
 |arr {sz n off len lcap:Nat} {a b:Addr} {cap d:Nat}:G.at_ n=some b->a.spot=none->0<sz->len<=lcap->lcap<=cap->
  (cap=0\/(a.block=b.block/\a.off=b.off+off))->G.dim b.block=some d->b.off+off+cap*sz<=d->
  VR G (.arr sz n off len lcap) (.slice (some a) len cap)
 |nilm:VR G .nilm (.map none)
 |map {n:Nat} {a:Addr}:G.at_ n=some a->VR G (.map n) (.map (some a.block))
 |nilf:VR G .nilf .nilFunc
 |func {f:FuncId} {first captured:List aj} {fs cs:List Value}:cp G first fs->cp G captured cs->VR G (.func (.func f) first captured) (.func (.func f) ⟨fs⟩ ⟨cs⟩)
 |nili:VR G .nili .nilIface
 |iface {t:TypeId} {v:aj} {x:Value}:VR G v x->VR G (.iface t v) (.iface t x)
 |yld {n:Nat} {a:Addr}:G.at_ n=some a->VR G (.yld n) (.func (.yield a.block) #[] #[])
 |roz {cs:List aj} {b:Nat}:(∀i x,cs[i]? =some x->G.ro b i=some x)->VR G (.roz cs) (.pointer (some ⟨b,0,none⟩))
inductive cp (G:Gh):List aj->List Value->Prop
 |nil:cp G [] []
 |cons {v:aj} {x:Value} {vs:List aj} {xs:List Value}:VR G v x->cp G vs xs->cp G (v::vs) (x::xs)
end
mutual
theorem VR.mono {G G':Gh} (h:G.le G'): ∀ {v:aj} {x:Value},VR G v x->VR G' v x
 |_,_,.bool b=>.bool b
 |_,_,.int k n=>.int k n
 |_,_,.str s=>.str s
 |_,_,.agg hc hs=>.agg hc (cp.mono h hs)
 |_,_,.tup hs=>.tup (cp.mono h hs)
 |_,_,.nilp=>.nilp
 |_,_,.ptr e=>.ptr (h.at_ _ _ e)
 |_,_,.ro e=>.ro fun i x hx=>h.ro _ _ _ (e i x hx)
 |_,_,.nils=>.nils
 |_,_,.list a b c d e f=>.list a b c d (fun i x hx=>h.ro _ _ _ (e i x hx)) (f.mono h)
 |_,_,.arr a b c d e f g i=>.arr (h.at_ _ _ a) b c d e f (h.dim _ _ g) i
 |_,_,.nilm=>.nilm
 |_,_,.map e=>.map (h.at_ _ _ e)
 |_,_,.nilf=>.nilf
 |_,_,.func a b=>.func (cp.mono h a) (cp.mono h b)
 |_,_,.nili=>.nili
 |_,_,.iface e=>.iface (VR.mono h e)
 |_,_,.yld e=>.yld (h.at_ _ _ e)
 |_,_,.roz e=>.roz fun i x hx=>h.ro _ _ _ (e i x hx)
theorem cp.mono {G G':Gh} (h:G.le G'): ∀ {vs:List aj} {xs:List Value},cp G vs xs->cp G' vs xs
 |_,_,.nil=>.nil
 |_,_,.cons a b=>.cons (VR.mono h a) (cp.mono h b)
end
section
variable {G:Gh}
theorem cp.length {vs:List aj} {xs:List Value} (h:cp G vs xs):vs.length=xs.length:=by
 induction vs generalizing xs with
 |nil=>cases h;rfl
 |cons v vs ih=>cases h with|cons a b=>simp[ih b]
theorem cp.get {vs:List aj} {xs:List Value} (h:cp G vs xs) {i:Nat} {v:aj} (hi:vs[i]? =some v): ∃x,xs[i]? =some x/\VR G v x:=by
 induction vs generalizing xs i with
 |nil=>simp at hi
 |cons u vs ih=>
  cases h with
  |cons a b=>
   cases i with
   |zero=>simp at hi;subst hi;exact⟨_,by simp,a⟩
   |succ i=>simp at hi;obtain⟨x,hx,hv⟩:=ih b hi;exact⟨x,by simpa using hx,hv⟩
theorem cp.append {a b:List aj} {x y:List Value} (h:cp G a x) (h':cp G b y):cp G (a++b) (x++y):=by
 induction a generalizing x with
 |nil=>cases h;simpa using h'
 |cons v a ih=>cases h with|cons p q=>exact .cons p (ih q)
theorem cp.drop {a:List aj} {x:List Value} (h:cp G a x) (n:Nat):cp G (a.drop n) (x.drop n):=by
 induction n generalizing a x with
 |zero=>simpa using h
 |succ n ih=>cases h with
  |nil=>simpa using cp.nil
  |cons p q=>simpa using ih q
theorem cp.take {a:List aj} {x:List Value} (h:cp G a x) (n:Nat):cp G (a.take n) (x.take n):=by
 induction n generalizing a x with
 |zero=>simpa using cp.nil
 |succ n ih=>cases h with
  |nil=>simpa using cp.nil
  |cons p q=>simpa using .cons p (ih q)
theorem VR.cells {v:aj} {x:Value} (h:VR G v x):cp G v.cells x.cells.toList:=by
 cases h<;>first
  |(simpa[aj.cells,Value.cells] using ‹cp G _ _›)
  |(refine .cons ?_ .nil;constructor<;>assumption)
theorem VR.scals_cells {v:aj} {x:Value} (h:VR G v x) (ht: ∀l,v≠ .tup l):dL v.cells=true:=by
 cases h<;>first
  |(exact absurd rfl (ht _))
  |assumption
  |rfl
theorem VR.one {v:aj} {x:Value} (h:VR G v x) (hs:v.scal=true):x.oneCell'=true:=by
 cases h<;>first|rfl|(simp[aj.scal] at hs)
end
structure rM (G:Gh) (e:db) (m:MapEntry):Prop where
 key:VR G e.key m.key
 val:VR G e.val m.val
 born:e.born=m.born
inductive ib (G:Gh):List db->List MapEntry->Prop
 |nil:ib G [] []
 |cons {e:db} {m:MapEntry} {es:List db} {ms:List MapEntry}:rM G e m->ib G es ms->ib G (e::es) (m::ms)
theorem rM.mono {G G':Gh} (h:G.le G') {e:db} {m:MapEntry} (x:rM G e m):rM G' e m:=⟨x.key.mono h,x.val.mono h,x.born⟩
theorem ib.mono {G G':Gh} (h:G.le G') {es:List db} {ms:List MapEntry} (x:ib G es ms):ib G' es ms:=by
 induction x with
 |nil=>exact .nil
 |cons a _ ih=>exact .cons (a.mono h) ih
def Jb (G:Gh):Option Nat->Option Nat->Prop
 |none,none=>True
 |some n,some b=> ∃a,G.at_ n=some a/\a.block=b
 |_,_=>False
def Ex.code:Ex->Code
 | .normal=>.skip
 | .exit id=>.exit id
 | .ret=>.ret
structure wK (G:Gh) (r:Loop) (env:bv aj) (size:Nat) (ps:List Tmp) (a b:Code) (p:Option Ex):Prop where
 state:r.state=(match p with|none=>.ready|some _=>.done)
 pending:r.pending=p.map Ex.code
 size:r.tmps.size=size
 env: ∀t,VR G (ax env t) (r.tmps.getD t undef)
 params:r.params.toList=ps
 assign:r.assign=a
 body:r.body=b
 flatA:fq a=true
 flatB:fq b=true
theorem wK.mono {G G':Gh} (h:G.le G') {r:Loop} {env:bv aj} {size:Nat} {ps:List Tmp} {a b:Code} {p:Option Ex} (x:wK G r env size ps a b p):wK G' r env size ps a b p:=
 ⟨x.state,x.pending,x.size,fun t=>(x.env t).mono h,x.params,x.assign,x.body,x.flatA,x.flatB⟩
def oz (G:Gh) (w:World) (a:Addr):bH->Prop
 | .cells cs=> ∃C e,w.heap[a.block]? =some (.cells C e (0,0))/\G.dim a.block=some C.size/\ ∀(i:Nat) v,cs[i]? =some v->v.scal=true/\ ∃x,C[a.off+i]? =some x/\VR G v x
 | .tok=> ∃C e,w.heap[a.block]? =some (.cells C e (0,0))
 | .map es clock=> ∃ES:Array MapEntry,w.heap[a.block]? =some (.map ES clock)/\ib G es ES.toList
 | .iter m since seen stepped=>a.off=0/\ ∃m',w.heap[a.block]? =some (.mapIter m' since ⟨seen⟩ stepped)/\Jb G m m'
 | .loop _ env size ps ca cb p=> ∃r:Loop,w.heap[a.block]? =some (.loop r)/\wK G r env size ps ca cb p
theorem oz.mono {G G':Gh} (h:G.le G') {w:World} {a:Addr}: ∀ {o:bH},oz G w a o->oz G' w a o
 | .cells _,⟨C,e,hb,hd,hc⟩=>⟨C,e,hb,h.dim _ _ hd,fun i v hi=>let⟨hs,x,hx,hv⟩:=hc i v hi;⟨hs,x,hx,hv.mono h⟩⟩
 | .tok,x=>x
 | .map _ _,⟨ES,hb,hs⟩=>⟨ES,hb,hs.mono h⟩
 | .iter m _ _ _,⟨h0,m',hb,hm⟩=>⟨h0,m',hb,by
  cases m<;>cases m'<;>first|exact hm|(obtain⟨a,ha,hb⟩:=hm;exact⟨a,h.at_ _ _ ha,hb⟩)⟩
 | .loop ..,⟨r,hb,hr⟩=>⟨r,hb,hr.mono h⟩
theorem oz.of_block {G:Gh} {w w':World} {a:Addr} (h:w'.heap[a.block]? =w.heap[a.block]?): ∀ {o:bH},oz G w a o->oz G w' a o
 | .cells _,⟨C,e,hb,hd,hc⟩=>⟨C,e,h.trans hb,hd,hc⟩
 | .tok,⟨C,e,hb⟩=>⟨C,e,h.trans hb⟩
 | .map _ _,⟨ES,hb,hs⟩=>⟨ES,h.trans hb,hs⟩
 | .iter _ _ _ _,⟨h0,m',hb,hm⟩=>⟨h0,m',h.trans hb,hm⟩
 | .loop ..,⟨r,hb,hr⟩=>⟨r,h.trans hb,hr⟩
def eM (G:Gh) (h:bv bH) (b:Nat):Prop:= ∃n a,h.get n≠none/\G.at_ n=some a/\a.block=b
structure WR (G:Gh) (h:bv bH) (w:World):Prop where
 obj: ∀n o,h.get n=some o-> ∃a,G.at_ n=some a/\a.spot=none/\oz G w a o
 sep: ∀n m a b,h.get n≠none->h.get m≠none->G.at_ n=some a->G.at_ m=some b->a.block=b.block->n=m
 ro: ∀b o v,G.ro b o=some v->v.scal=true/\ ∃x,w.cell? ⟨b,o,none⟩=some x/\VR G v x
 apart: ∀n ob a i v,h.get n=some ob->G.at_ n=some a->G.ro a.block i=some v->ob= .tok/\i<a.off
 dim: ∀b d,G.dim b=some d-> ∃C e,w.heap[b]? =some (.cells C e (0,0))/\C.size=d
 below: ∀n a,G.at_ n=some a->a.block<w.heap.size
def nH (w w':World):Prop:=w'.os=w.os/\w'.output=w.output/\w.heap.size<=w'.heap.size/\(∀a,a.block<w.heap.size->w'.frozen? a=w.frozen? a)/\w'.tape=w.tape/\w.drawn<=w'.drawn
theorem nH.refl (w:World):nH w w:=⟨rfl,rfl,bB _,fun _ _=>rfl,rfl,bB _⟩
theorem nH.trans {w w' w'':World} (x:nH w w') (y:nH w' w''):nH w w'':=⟨y.1.trans x.1,y.2.1.trans x.2.1,fW x.2.2.1 y.2.2.1,fun a h=>(y.2.2.2.1 a (gu h x.2.2.1)).trans (x.2.2.2.1 a h),y.2.2.2.2.1.trans x.2.2.2.2.1,fW x.2.2.2.2.2 y.2.2.2.2.2⟩
structure dr (G:Gh) (h:bv bH) (w:World) (G':Gh) (h':bv bH) (w':World) (lo hi:Nat):Prop where
 le:G.le G'
 size:w.heap.size<=w'.heap.size
 keep: ∀b,b<w.heap.size-> ¬eM G h b->w'.heap[b]? =w.heap[b]?
 owns: ∀b,b<w.heap.size->eM G' h' b->eM G h b
 names: ∀n a,G'.at_ n=some a->G.at_ n=none->lo<=n/\n<hi
 cells: ∀b o v,b<w.heap.size->G'.ro b o=some v->G.ro b o=none->eM G h b
 quiet:nH w w'
theorem dr.refl {G:Gh} {h:bv bH} {w:World} {lo hi:Nat}:dr G h w G h w lo hi:=
 ⟨.refl G,bB _,fun _ _ _=>rfl,fun _ _ h=>h,fun n a h h'=>(by rw[h] at h';cases h'),fun b o v _ h h'=>(by rw[h] at h';cases h'),.refl w⟩
theorem dr.trans {G G' G'':Gh} {h h' h'':bv bH} {w w' w'':World} {lo mid hi:Nat} (x:dr G h w G' h' w' lo mid) (y:dr G' h' w' G'' h'' w'' mid hi)
 (l1:lo<=mid) (l2:mid<=hi):dr G h w G'' h'' w'' lo hi where
 le:=x.le.trans y.le
 size:=fW x.size y.size
 keep b hb ho:=(y.keep b (gu hb x.size) fun o=>ho (x.owns b hb o)).trans (x.keep b hb ho)
 owns b hb o:=x.owns b hb (y.owns b (gu hb x.size) o)
 names n a h h0:=by
  cases e:G'.at_ n with
  |none=>have:=y.names n a h e;omega
  |some b=>have:=x.names n b e h0;omega
 cells b o v hb h h0:=by
  cases e:G'.ro b o with
  |none=>exact x.owns b hb (y.cells b o v (gu hb x.size) h e)
  |some u=>exact x.cells b o u hb e h0
 quiet:=x.quiet.trans y.quiet
def dN (w:World) (b:Nat) (o:Obj):World:= {w with heap:=w.heap.setIfInBounds b o }
@[simp] theorem vS (w:World) (b:Nat) (o:Obj):(dN w b o).heap.size=w.heap.size:=by simp[dN]
theorem iZ (w:World) (b c:Nat) (o:Obj) (hb:b<w.heap.size):(dN w b o).heap[c]? =if c=b then some o else w.heap[c]? :=by
 simp only[dN,wv]
 by_cases h:b=c
 ·subst h;simp[hb]
 ·simp[h,Ne.symm h]
theorem aj7 (w:World) (b:Nat) (o o':Obj):dN (dN w b o) b o'=dN w b o':=by
 simp[dN]
theorem aj8 (w:World) (b:Nat) (o:Obj) (h:w.heap[b]? =some o):dN w b o=w:=by
 have hb:b<w.heap.size:=by
  rcases im b w.heap.size with h'|h'
  ·exact h'
  ·simp[ux h'] at h
 have e:w.heap.setIfInBounds b o=w.heap:=by
  apply Array.ext_getElem?
  intro i
  rw[wv]
  by_cases hi:b=i
  ·subst hi;rw[if_pos rfl,if_pos hb,h]
  ·simp[hi]
 unfold dN
 rw[e]
theorem gL {w:World} {b:Nat} {o:Obj} (h:w.heap[b]? =some o):b<w.heap.size:=by
 rcases im b w.heap.size with h'|h'
 ·exact h'
 ·simp[ux h'] at h
theorem nN {w:World} {b i:Nat} {C:Array Value} {e:TypeId} {fz:Nat×Nat} (h:w.heap[b]? =some (.cells C e fz)):w.cell? ⟨b,i,none⟩=C[i]? :=by
 simp[World.cell?,h]
theorem ak7 {w:World} {b i:Nat} {C:Array Value} {e:TypeId} {fz:Nat×Nat} {v:Value} (h:w.heap[b]? =some (.cells C e fz)):
 w.setCell ⟨b,i,none⟩ v=dN w b (.cells (C.setIfInBounds i v) e fz):=by
 unfold World.setCell dN
 congr 1
 apply Array.ext_getElem?
 intro j
 rw[Bj,wv]
 by_cases hj:b=j
 ·subst hj
  rw[if_pos rfl,if_pos rfl,if_pos (gL h),h]
  simp
 ·simp[hj]
def jg (C:Array Value) (off:Nat):List Value->Array Value
 | []=>C
 |v::l=>jg (C.setIfInBounds off v) (off+1) l
@[simp] theorem amO (C:Array Value) (off:Nat) (l:List Value):(jg C off l).size=C.size:=by
  induction l generalizing C off with
  |nil=>rfl
  |cons v l ih=>simp[jg,ih]
theorem Bg (C:Array Value) (off:Nat) (l:List Value) (i:Nat) (h:off+l.length<=C.size):
 (jg C off l)[i]? =if off<=i/\i<off+l.length then l[i-off]? else C[i]? :=by
 induction l generalizing C off with
 |nil=>simp[jg];intro h1 h2;omega
 |cons v l ih=>
  simp only[aP] at h
  rw[jg,ih _ _ (by simp;omega),wv]
  by_cases h1:off=i
  ·subst h1
   rw[if_neg (by omega),if_pos rfl,if_pos (by omega),if_pos (by simp)]
   simp
  ·by_cases h2:off+1<=i/\i<off+1+l.length
   ·rw[if_pos h2,if_pos (by simp;omega)]
    have:i-off=(i-(off+1))+1:=by omega
    rw[this];simp
   ·rw[if_neg h2,if_neg h1,if_neg (by simp;omega)]
theorem akN {P:Program} {w:World} {b i:Nat} {C:Array Value} {e:TypeId} {v:Value} (h:w.heap[b]? =some (.cells C e (0,0))) (hi:i<C.size)
 (hv:v.oneCell'=true):(store ⟨b,i,none⟩ v).run P w= .ok () (dN w b (.cells (C.setIfInBounds i v) e (0,0))):=by
 rw[run_store _ _ _ _ _ hv,nN h]
 simp only[Array.getElem?_eq_getElem hi]
 have hf:w.frozen? ⟨b,i,none⟩=false:=by simp[World.frozen?,h]
 rw[hf,ak7 h]
 rfl
theorem l0 (b o i:Nat):(⟨b,o,none⟩:Addr).add i=⟨b,o+i,none⟩:=by
 unfold Addr.add
 split
 ·rename_i h;simp[h]
 ·rfl
theorem AX {P:Program} (b o:Nat) (e:TypeId): ∀(vs:List Value) (i:Nat) (w:World) (C:Array Value),w.heap[b]? =some (.cells C e (0,0))->o+i+vs.length<=C.size->
 (∀v∈vs,v.oneCell'=true)->(storeCells ⟨b,o,none⟩ vs i).run P w= .ok () (dN w b (.cells (jg C (o+i) vs) e (0,0))):=by
 intro vs
 induction vs with
 |nil=>intro i w C h _ _;simp[storeCells,jg,aj8 _ _ _ h]
 |cons v vs ih=>
  intro i w C h hl hv
  simp only[aP] at hl
  rw[storeCells,Sem.run_bind,l0,akN h (by omega) (hv v (by simp)),iQ,
   ih (i+1) _ _ (by rw[iZ _ _ _ _ (gL h),if_pos rfl]) (by simp;omega) (fun u hu=>hv u (by simp[hu])),aj7,jg]
  rfl
section
variable {G:Gh} {h:bv bH} {w:World}
theorem WR.of_heap {w':World} (x:WR G h w) (e:w'.heap=w.heap):WR G h w' where
 obj n o ho:=by
  obtain⟨a,ha,hs,hr⟩:=x.obj n o ho
  exact⟨a,ha,hs,hr.of_block (by rw[e])⟩
 sep:=x.sep
 ro b o v hv:=by
  obtain⟨hs,y,hy,hr⟩:=x.ro b o v hv
  exact⟨hs,y,by rw[<-hy];simp[World.cell?,e],hr⟩
 apart:=x.apart
 dim b d hd:=by rw[e];exact x.dim b d hd
 below n a ha:=by rw[e];exact x.below n a ha
theorem Yy {w w':World} (e:w'.heap=w.heap) (a:Addr):w'.frozen? a=w.frozen? a:=by simp[World.frozen?,e]
theorem dr.of_heap {w':World} {lo hi:Nat} (e:w'.heap=w.heap) (q:w'.os=w.os/\w'.output=w.output/\w'.tape=w.tape/\w.drawn<=w'.drawn):dr G h w G h w' lo hi:=
 ⟨.refl G,by rw[e];exact bB _,fun _ _ _=>by rw[e],fun _ _ h=>h,fun n a h h'=>(by rw[h] at h';cases h'),fun b o v _ h h'=>(by rw[h] at h';cases h'),⟨q.1,q.2.1,by rw[e];exact bB _,fun a _=>Yy e a,q.2.2.1,q.2.2.2⟩⟩
theorem WR.ro_lt (x:WR G h w) {b o:Nat} {v:aj} (hv:G.ro b o=some v):b<w.heap.size:=by
 obtain⟨_,y,hy,_⟩:=x.ro b o v hv
 exact World.block_lt_of_cell? w ⟨b,o,none⟩ hy
theorem WR.owned_lt (x:WR G h w) {b:Nat} (ho:eM G h b):b<w.heap.size:=by
 obtain⟨n,a,_,ha,rfl⟩:=ho;exact x.below n a ha
def Gh.more (G:Gh) (b:Nat) (R:Nat->Option aj) (D:Option Nat):Gh where
 at_:=G.at_
 ro c o:=if c=b then R o else G.ro c o
 dim c:=if c=b then D else G.dim c
def Gh.name (G:Gh) (n:Nat) (a:Addr):Gh where
 at_ m:=if m=n then some a else G.at_ m
 ro:=G.ro
 dim:=G.dim
theorem mP (w:World) (o:Obj) (c:Nat):(w.alloc o).heap[c]? =if c=w.heap.size then some o else w.heap[c]? :=by
 unfold World.alloc
 rw[Array.getElem?_push]
theorem WR.more_le (x:WR G h w) (R:Nat->Option aj) (D:Option Nat):G.le (G.more w.heap.size R D) where
 at_ _ _ e:=e
 ro b o v e:=by
  have:=x.ro_lt e
  simp only[Gh.more];rw[if_neg (by omega)];exact e
 dim b d e:=by
  obtain⟨C,t,hb,_⟩:=x.dim b d e
  have:=gL hb
  simp only[Gh.more];rw[if_neg (by omega)];exact e
theorem Gh.name_le (G:Gh) {n:Nat} (a:Addr) (hn:G.at_ n=none):G.le (G.name n a) where
 at_ m b e:=by
  simp only[Gh.name]
  rw[if_neg (by intro h;subst h;rw[hn] at e;cases e)];exact e
 ro _ _ _ e:=e
 dim _ _ e:=e
def Obj.warm:Obj->Prop
 | .cells _ _ z=>z=(0,0)
 |_=>True
theorem C6 {w:World} {b:Nat} {ob:Obj} (h:w.heap[b]? =some ob) (hw:Obj.warm ob) (a:Addr) (ha:a.block=b):w.frozen? a=false:=by
 subst ha
 unfold World.frozen?
 rw[h]
 cases ob<;>first
  |rfl
  |(simp only[Obj.warm] at hw;subst hw;simp)
theorem aka (w:World) {ob:Obj} (hw:Obj.warm ob):nH w (w.alloc ob):=by
 refine⟨rfl,rfl,by simp,fun a _=>?_,rfl,bB _⟩
 by_cases e:a.block=w.heap.size
 ·rw[C6 (w:=w.alloc ob) (b:=w.heap.size) (by rw[mP,if_pos rfl]) hw a e]
  unfold World.frozen?
  rw[e,ux (bB _)]
 ·unfold World.frozen?
  rw[mP,if_neg e]
theorem x5 (w:World) {b:Nat} {o ob:Obj} (h:w.heap[b]? =some o) (ho:Obj.warm o) (hw:Obj.warm ob):nH w (dN w b ob):=by
 refine⟨rfl,rfl,by simp,fun a _=>?_,rfl,bB _⟩
 by_cases e:a.block=b
 ·rw[C6 h ho a e,C6 (w:=dN w b ob) (b:=b) (by rw[iZ w b b ob (gL h),if_pos rfl]) hw a e]
 ·unfold World.frozen?
  rw[iZ w b _ ob (gL h),if_neg e]
theorem oz.warm {a:Addr} {o:bH} (h:oz G w a o): ∃ob,w.heap[a.block]? =some ob/\Obj.warm ob:=by
 cases o with
 |cells cs=>obtain⟨C,e,h,_⟩:=h;exact⟨_,h,rfl⟩
 |tok=>obtain⟨C,e,h⟩:=h;exact⟨_,h,rfl⟩
 |map es c=>obtain⟨ES,h,_⟩:=h;exact⟨_,h,trivial⟩
 |iter m a b c=>obtain⟨_,m',h,_⟩:=h;exact⟨_,h,trivial⟩
 |loop _ _ _ _ _ _ _=>obtain⟨r,h,_⟩:=h;exact⟨_,h,trivial⟩
theorem WR.alloc (x:WR G h w) (ob:Obj) (R:Nat->Option aj) (D:Option Nat)
 (hR: ∀o v,R o=some v->v.scal=true/\ ∃C e,ob= .cells C e (0,0)/\ ∃y,C[o]? =some y/\VR (G.more w.heap.size R D) v y)
 (hD: ∀d,D=some d-> ∃C e,ob= .cells C e (0,0)/\C.size=d) (hwm:Obj.warm ob:=by trivial):
 WR (G.more w.heap.size R D) h (w.alloc ob)/\ ∀lo hi,dr G h w (G.more w.heap.size R D) h (w.alloc ob) lo hi:=by
 have hle:=x.more_le R D
 refine⟨⟨?_,x.sep,?_,?_,?_,?_⟩,fun lo hi=>⟨hle,by simp,?_,?_,?_,?_,aka w hwm⟩⟩
 ·intro n o ho
  obtain⟨a,ha,hs,hr⟩:=x.obj n o ho
  refine⟨a,ha,hs,(hr.mono hle).of_block ?_⟩
  rw[mP,if_neg (Nat.ne_of_lt (x.below n a ha))]
 ·intro b o v hv
  simp only[Gh.more] at hv
  by_cases hb:b=w.heap.size
  ·rw[if_pos hb] at hv
   obtain⟨hs,C,e,rfl,y,hy,hr⟩:=hR o v hv
   refine⟨hs,y,?_,hr⟩
   subst hb
   rw[nN (by rw[mP,if_pos rfl]),hy]
  ·rw[if_neg hb] at hv
   obtain⟨hs,y,hy,hr⟩:=x.ro b o v hv
   refine⟨hs,y,?_,hr.mono hle⟩
   rw[<-hy];exact World.cell?_alloc_old w ob ⟨b,o,none⟩ hb
 ·intro n ob' a i v hn ha hv
  simp only[Gh.more] at hv
  rw[if_neg (Nat.ne_of_lt (x.below n a ha))] at hv
  exact x.apart n ob' a i v hn ha hv
 ·intro b d hd
  simp only[Gh.more] at hd
  rw[mP]
  by_cases hb:b=w.heap.size
  ·rw[if_pos hb] at hd ⊢
   obtain⟨C,e,rfl,hs⟩:=hD d hd
   exact⟨C,e,rfl,hs⟩
  ·rw[if_neg hb] at hd ⊢
   exact x.dim b d hd
 ·intro n a ha
  have:=x.below n a ha
  simp;omega
 ·intro b hb _;rw[mP,if_neg (Nat.ne_of_lt hb)]
 ·intro b _ ho;exact ho
 ·intro n a e e';simp only[Gh.more] at e;rw[e] at e';cases e'
 ·intro b o v hb e e'
  simp only[Gh.more] at e
  rw[if_neg (Nat.ne_of_lt hb)] at e
  rw[e] at e';cases e'
theorem WR.named (x:WR G h w) {n:Nat} {a:Addr} {o:bH} (hn:G.at_ n=none) (hb:a.block<w.heap.size) (hs:a.spot=none) (ho: ¬eM G h a.block)
 (hr:oz G w a o) (hc: ∀i v,G.ro a.block i=some v->o= .tok/\i<a.off):WR (G.name n a) (h.set n (some o)) w:=by
 have hle:=G.name_le a hn
 refine⟨?_,?_,?_,?_,x.dim,?_⟩
 ·intro m o' hm
  rw[bv.get_set] at hm
  by_cases e:m=n
  ·rw[if_pos e] at hm
   injection hm with hm;subst hm;subst e
   exact⟨a,by simp[Gh.name],hs,hr.mono hle⟩
  ·rw[if_neg e] at hm
   obtain⟨b,hb,hs,hr⟩:=x.obj m o' hm
   exact⟨b,by simp[Gh.name,e,hb],hs,hr.mono hle⟩
 ·intro m k c d hm hk hc hd he
  rw[bv.get_set] at hm hk
  simp only[Gh.name] at hc hd
  by_cases e1:m=n<;>by_cases e2:k=n
  ·rw[e1,e2]
  ·rw[if_pos e1] at hc
   rw[if_neg e2] at hd hk
   injection hc with hc;subst hc
   exact absurd ⟨k,d,hk,hd,he.symm⟩ ho
  ·rw[if_neg e1] at hc hm
   rw[if_pos e2] at hd
   injection hd with hd;subst hd
   exact absurd ⟨m,c,hm,hc,he⟩ ho
  ·rw[if_neg e1] at hc hm
   rw[if_neg e2] at hd hk
   exact x.sep m k c d hm hk hc hd he
 ·intro b o' v hv
  obtain⟨hs,y,hy,hr⟩:=x.ro b o' v hv
  exact⟨hs,y,hy,hr.mono hle⟩
 ·intro m ob b i v hm hb hv
  rw[bv.get_set] at hm
  simp only[Gh.name] at hb
  by_cases e:m=n
  ·rw[if_pos e] at hm hb
   injection hm with hm;injection hb with hb;subst hm;subst hb
   exact hc i v hv
  ·rw[if_neg e] at hm hb
   exact x.apart m ob b i v hm hb hv
 ·intro m b hb'
  simp only[Gh.name] at hb'
  by_cases e:m=n
  ·rw[if_pos e] at hb';injection hb' with hb';subst hb';exact hb
  ·rw[if_neg e] at hb';exact x.below m b hb'
theorem vN {n b:Nat} {a:Addr} {o:bH} (h':eM (G.name n a) (h.set n (some o)) b):b=a.block\/eM G h b:=by
 obtain⟨m,c,hm,hc,rfl⟩:=h'
 rw[bv.get_set] at hm
 simp only[Gh.name] at hc
 by_cases e:m=n
 ·rw[if_pos e] at hc;injection hc with hc;subst hc;exact .inl rfl
 ·rw[if_neg e] at hc hm;exact .inr ⟨m,c,hm,hc,rfl⟩
theorem WR.killed (x:WR G h w) (n:Nat):WR G (h.set n none) w:=by
 refine⟨?_,?_,x.ro,?_,x.dim,x.below⟩
 ·intro m o hm
  rw[bv.get_set] at hm
  by_cases e:m=n
  ·rw[if_pos e] at hm;cases hm
  ·rw[if_neg e] at hm;exact x.obj m o hm
 ·intro m k c d hm hk
  rw[bv.get_set] at hm hk
  by_cases e1:m=n
  ·rw[if_pos e1] at hm;exact absurd rfl hm
  ·by_cases e2:k=n
   ·rw[if_pos e2] at hk;exact absurd rfl hk
   ·rw[if_neg e1] at hm;rw[if_neg e2] at hk;exact x.sep m k c d hm hk
 ·intro m ob a i v hm
  rw[bv.get_set] at hm
  by_cases e:m=n
  ·rw[if_pos e] at hm;cases hm
  ·rw[if_neg e] at hm;exact x.apart m ob a i v hm
theorem sN {n b:Nat} (h':eM G (h.set n none) b):eM G h b:=by
 obtain⟨m,c,hm,hc,hb⟩:=h'
 rw[bv.get_set] at hm
 by_cases e:m=n
 ·rw[if_pos e] at hm;exact absurd rfl hm
 ·rw[if_neg e] at hm;exact⟨m,c,hm,hc,hb⟩
theorem Au (x:WR G h w) {n:Nat} {a:Addr} (hl:h.get n≠none) (ha:G.at_ n=some a): ¬eM G (h.set n none) a.block:=by
 rintro⟨m,c,hm,hc,hb⟩
 rw[bv.get_set] at hm
 by_cases e:m=n
 ·rw[if_pos e] at hm;exact absurd rfl hm
 ·rw[if_neg e] at hm;exact e (x.sep m n c a hm hl hc ha hb)
theorem dr.killed {n lo hi:Nat}:dr G h w G (h.set n none) w lo hi:=
 ⟨.refl G,bB _,fun _ _ _=>rfl,fun _ _ o=>sN o,fun n a h h'=>(by rw[h] at h';cases h'),fun b o v _ h h'=>(by rw[h] at h';cases h'),.refl w⟩
theorem WR.changed (x:WR G h w) {n:Nat} {a:Addr} {o o':bH} {ob:Obj} (hl:h.get n=some o) (ha:G.at_ n=some a)
 (hr:oz G (dN w a.block ob) a o')
 (hro: ∀i v,G.ro a.block i=some v->o'= .tok/\ ∃y,(dN w a.block ob).cell? ⟨a.block,i,none⟩=some y/\w.cell? ⟨a.block,i,none⟩=some y)
 (hd: ∀d,G.dim a.block=some d-> ∃C e,ob= .cells C e (0,0)/\C.size=d) (hwm:Obj.warm ob:=by trivial):
 WR G (h.set n (some o')) (dN w a.block ob)/\ ∀lo hi,dr G h w G (h.set n (some o')) (dN w a.block ob) lo hi:=by
 have hlt:=x.below n a ha
 have hblk: ∀c,(dN w a.block ob).heap[c]? =if c=a.block then some ob else w.heap[c]? :=fun c=>iZ w a.block c ob hlt
 have hown: ∀b,eM G (h.set n (some o')) b->eM G h b:=by
  rintro b ⟨m,c,hm,hc,hb⟩
  rw[bv.get_set] at hm
  by_cases e:m=n
  ·subst e;exact⟨m,c,by rw[hl];simp,hc,hb⟩
  ·rw[if_neg e] at hm;exact⟨m,c,hm,hc,hb⟩
 have hget: ∀m,(h.set n (some o')).get m≠none->h.get m≠none:=by
  intro m hm
  rw[bv.get_set] at hm
  by_cases e:m=n
  ·rw[e,hl];simp
  ·rw[if_neg e] at hm;exact hm
 refine⟨⟨?_,fun m k c d hm hk=>x.sep m k c d (hget m hm) (hget k hk),?_,?_,?_,?_⟩,fun lo hi=>⟨.refl G,by simp,?_,fun b _ ho=>hown b ho,fun n a h h'=>(by rw[h] at h';cases h'),fun b o v _ h h'=>(by rw[h] at h';cases h'),by
  obtain⟨c,hc,_,hrc⟩:=x.obj n o hl
  rw[ha] at hc;injection hc with hc;subst hc
  obtain⟨ob0,h1,h2⟩:=hrc.warm
  exact x5 w h1 h2 hwm⟩⟩
 ·intro m ob' hm
  rw[bv.get_set] at hm
  by_cases e:m=n
  ·rw[if_pos e] at hm;injection hm with hm;subst hm;subst e
   obtain⟨b,hb,hs,_⟩:=x.obj m o hl
   rw[ha] at hb;injection hb with hb;subst hb
   exact⟨a,ha,hs,hr⟩
  ·rw[if_neg e] at hm
   obtain⟨b,hb,hs,hr'⟩:=x.obj m ob' hm
   refine⟨b,hb,hs,hr'.of_block ?_⟩
   rw[hblk,if_neg]
   intro he
   exact e (x.sep m n b a (by rw[hm];simp) (by rw[hl];simp) hb ha he)
 ·intro b i v hv
  by_cases hb:b=a.block
  ·subst hb
   obtain⟨_,y,hy,hy'⟩:=hro i v hv
   obtain⟨hs,z,hz,hr'⟩:=x.ro a.block i v hv
   rw[hy'] at hz;injection hz with hz;subst hz
   exact⟨hs,y,hy,hr'⟩
  ·obtain⟨hs,z,hz,hr'⟩:=x.ro b i v hv
   refine⟨hs,z,?_,hr'⟩
   rw[<-hz];simp[World.cell?,hblk,hb]
 ·intro m ob' b i v hm hb hv
  rw[bv.get_set] at hm
  by_cases e:m=n
  ·rw[if_pos e] at hm;injection hm with hm;subst hm;subst e
   rw[ha] at hb;injection hb with hb;subst hb
   have h1:=(hro i v hv).1
   have h2:=x.apart m o a i v hl ha hv
   exact⟨h1,h2.2⟩
  ·rw[if_neg e] at hm
   exact x.apart m ob' b i v hm hb hv
 ·intro b d hd'
  rw[hblk]
  by_cases hb:b=a.block
  ·subst hb
   rw[if_pos rfl]
   obtain⟨C,e,rfl,hs⟩:=hd d hd'
   exact⟨C,e,rfl,hs⟩
  ·rw[if_neg hb];exact x.dim b d hd'
 ·intro m b hb;simp;exact x.below m b hb
 ·intro b hb ho
  rw[hblk,if_neg]
  intro he
  exact ho ⟨n,a,by rw[hl];simp,ha,he.symm⟩
end
theorem fp {a b:Nat} (h:be a b=true):a=b:=ik h
theorem uS {a b:Nat} (h:be a b=false):a≠b:=Nat.ne_of_beq_eq_false h
theorem mR {a b:Nat} (h:bT a b=true):a<b:=iL h
theorem jl {a b:Nat} (h:cy a b=true):a<=b:=iL h
theorem gH {α:Type} {c:Bool} {x y:Option α} {a:α} (h:(bif c then x else y)=some a):(c=true/\x=some a)\/(c=false/\y=some a):=by
 cases c<;>simp_all
theorem bX {α:Type} {c:Bool} {x:Option α} {a:α} (h:(bif c then x else none)=some a):c=true/\x=some a:=by
 cases c<;>simp_all
theorem Sm (G:Gh) {c:Value} {v:aj} (h:fH c=some v):VR G v c/\v.scal=true:=by
 unfold fH at h
 split at h<;>first
  |(injection h with h;subst h;exact⟨by constructor,rfl⟩)
  |(cases h)
theorem Sn (G:Gh): ∀ {l:List Value} {vs:List aj},xV l=some vs->cp G vs l/\dL vs=true
 | [],_,h=>by simp[xV] at h;subst h;exact⟨.nil,rfl⟩
 |c::l,_,h=>by
  simp only[xV,aG] at h
  obtain⟨a,ha,r,hr,h⟩:=h
  injection h with h;subst h
  obtain⟨h1,h2⟩:=Sm G ha
  obtain⟨h3,h4⟩:=Sn G hr
  exact⟨.cons h1 h3,by simp only[dL,mH,h2,i9];exact h4⟩
theorem rl (G:Gh) {c:Value} {v:aj} (h:ofValue c=some v):VR G v c/\ ∀l,v≠ .tup l:=by
 unfold ofValue at h
 split at h
 ·rename_i cs
  simp only[aG] at h
  obtain⟨l,hl,h⟩:=h
  injection h with h;subst h
  obtain⟨h1,h2⟩:=Sn G hl
  exact⟨by simpa using VR.agg h2 h1,by simp⟩
 ·obtain⟨h1,h2⟩:=Sm G h
  exact⟨h1,fun l e=>by subst e;simp[aj.scal] at h2⟩
def LV (G:Gh) (loc:Loc) (B:Nat->Nat) (v:aj) (x:Value):Prop:=
 match v with
 | .lref t g off=>g<=loc.gen t/\(∃ad,x= .pointer (some ad))/\(g=loc.gen t->x= .pointer (some ⟨B t,off,none⟩))
 |v=>VR G v x
theorem LV.of_VR {G:Gh} {loc:Loc} {B:Nat->Nat} {v:aj} {x:Value} (h:VR G v x):LV G loc B v x:=by
 cases h<;>(unfold LV;constructor<;>assumption)
theorem LV.clean {G:Gh} {loc:Loc} {B:Nat->Nat} {v:aj} {x:Value} (h:LV G loc B v x) (hc:v.clean=true):VR G v x/\ ∀l,v≠ .tup l:=by
 cases v<;>first
  |(simp[aj.clean] at hc;done)
  |exact⟨h,by simp⟩
theorem LV.mono {G G':Gh} (hle:G.le G') {loc:Loc} {B:Nat->Nat} {v:aj} {x:Value} (h:LV G loc B v x):LV G' loc B v x:=by
 cases v<;>first
  |exact VR.mono hle h
  |exact h
structure nG (G:Gh) (h:bv bH) (B:Nat->Nat) (loc:Loc) (w:World):Prop where
 cells: ∀t cs,loc.get t (loc.gen t)=some cs-> ∃C e,w.heap[B t]? =some (.cells C e (0,0))/\ ∀(i:Nat) v,cs[i]? =some v->v.scal=true/\ ∃x,C[i]? =some x/\VR G v x
 free: ∀t cs,loc.get t (loc.gen t)=some cs-> ¬eM G h (B t)
 ro: ∀t cs,loc.get t (loc.gen t)=some cs-> ∀o,G.ro (B t) o=none
 inj: ∀t u cs ds,loc.get t (loc.gen t)=some cs->loc.get u (loc.gen u)=some ds->B t=B u->t=u
theorem nG.ext {G G':Gh} {h h':bv bH} {B:Nat->Nat} {loc:Loc} {w w':World} {lo hi:Nat} (x:nG G h B loc w) (e:dr G h w G' h' w' lo hi):
 nG G' h' B loc w' where
 cells t cs ht:=by
  obtain⟨C,ty,hb,hc⟩:=x.cells t cs ht
  refine⟨C,ty,(e.keep _ (gL hb) (x.free t cs ht)).trans hb,fun i v hi=>?_⟩
  obtain⟨hs,y,hy,hv⟩:=hc i v hi
  exact⟨hs,y,hy,hv.mono e.le⟩
 free t cs ht ho:=by
  obtain⟨C,ty,hb,hc⟩:=x.cells t cs ht
  exact x.free t cs ht (e.owns _ (gL hb) ho)
 ro t cs ht o:=by
  obtain⟨C,ty,hb,hc⟩:=x.cells t cs ht
  cases hr:G'.ro (B t) o with
  |none=>rfl
  |some v=>exact absurd (e.cells _ o v (gL hb) hr (x.ro t cs ht o)) (x.free t cs ht)
 inj:=x.inj
structure dg (G:Gh) (h:bv bH) (B:Nat->Nat) (fr:Fr) (tmps:Array Value) (w:World):Prop where
 size:tmps.size=fr.size
 env: ∀t,LV G fr.loc B (ax fr.env t) (tmps.getD t undef)
 locs:nG G h B fr.loc w
section
variable {G:Gh} {h:bv bH} {B:Nat->Nat} {fr:Fr} {a:Act} {w:World}
theorem dg.ev (x:dg G h B fr a.tmps w) {o:Operand} {v:aj} (he:ev fr.env o=some v):LV G fr.loc B v (a.eval o):=by
 cases o with
 |tmp t=>simp[Ag.ev] at he;subst he;exact x.env t
 |const c=>exact LV.of_VR (rl G he).1
 |func f=>simp[Ag.ev] at he;subst he;exact LV.of_VR (.func .nil .nil)
 |global g=>simp[Ag.ev] at he
theorem dg.evc (x:dg G h B fr a.tmps w) {o:Operand} {v:aj} (he:evc fr.env o=some v):VR G v (a.eval o)/\ ∀l,v≠ .tup l:=by
 simp only[Ag.evc,aG] at he
 obtain⟨u,hu,he⟩:=he
 replace he:=bX he
 obtain⟨hc,he⟩:=he
 injection he with he;subst he
 exact(x.ev hu).clean hc
theorem dg.evcs (x:dg G h B fr a.tmps w): ∀ {l:List Operand} {vs:List aj},evcs fr.env l=some vs->cp G vs (l.map a.eval)/\ ∀v∈vs, ∀l,v≠ .tup l
 | [],_,he=>by simp[Ag.evcs] at he;subst he;exact⟨.nil,by simp⟩
 |o::l,_,he=>by
  simp only[Ag.evcs,aG] at he
  obtain⟨v,hv,r,hr,he⟩:=he
  injection he with he;subst he
  obtain⟨h1,h2⟩:=x.evc hv
  obtain⟨h3,h4⟩:=dg.evcs x hr
  exact⟨.cons h1 h3,by intro u hu;simp at hu;rcases hu with rfl|hu<;>first|exact h2|exact h4 u hu⟩
end
def LB (B:Nat->Nat) (loc:Loc) (b:Nat):Prop:= ∃t cs,loc.get t (loc.gen t)=some cs/\B t=b
structure iR (G:Gh) (h:bv bH) (w:World) (G':Gh) (h':bv bH) (w':World) (lo hi:Nat) (L:Nat->Prop):Prop where
 le:G.le G'
 size:w.heap.size<=w'.heap.size
 keep: ∀b,b<w.heap.size-> ¬eM G h b-> ¬L b->w'.heap[b]? =w.heap[b]?
 owns: ∀b,b<w.heap.size->eM G' h' b->eM G h b
 names: ∀n a,G'.at_ n=some a->G.at_ n=none->lo<=n/\n<hi
 cells: ∀b o v,b<w.heap.size->G'.ro b o=some v->G.ro b o=none->eM G h b
 quiet:nH w w'
theorem dr.toL {G G':Gh} {h h':bv bH} {w w':World} {lo hi:Nat} (x:dr G h w G' h' w' lo hi) (L:Nat->Prop):iR G h w G' h' w' lo hi L:=
 ⟨x.le,x.size,fun b hb ho _=>x.keep b hb ho,x.owns,x.names,x.cells,x.quiet⟩
def fP (P:Program) (G:Gh) (h:bv bH) (w:World) (B:Nat->Nat) (loc:Loc) (lo hi:Nat) (a:Act) (o:Oper) (v:aj) (loc':Loc) (h':bv bH):Prop:=
 ∃nx x w' G' B',(execOp a.eval o).run P w= .ok nx w'/\(nx= .value x\/(nx= .skip/\x=undef))/\WR G' h' w'/\iR G h w G' h' w' lo hi (LB B loc)/\
  nG G' h' B' loc' w'/\LV G' loc' B' v x/\(∀u y,LV G loc B u y->LV G' loc' B' u y)/\ ∀b,LB B' loc' b->LB B loc b\/w.heap.size<=b
section
variable {P:Program} {G:Gh} {h:bv bH} {B:Nat->Nat} {fr:Fr} {a:Act} {w:World} {o:Oper} {lo hi:Nat}
theorem fP.pure (wr:WR G h w) (x:dg G h B fr a.tmps w) {v:aj} {y:Value} (hrun:(execOp a.eval o).run P w= .ok (.value y) w) (hv:LV G fr.loc B v y):
 fP P G h w B fr.loc lo hi a o v fr.loc h:=
 ⟨_,y,w,G,B,hrun,.inl rfl,wr,dr.refl.toL _,x.locs,hv,fun _ _ h=>h,fun _ h=>.inl h⟩
theorem fP.heap (x:dg G h B fr a.tmps w) {v:aj} {y:Value} {nx:Next} {w':World} {G':Gh} {h':bv bH} (hrun:(execOp a.eval o).run P w= .ok nx w')
 (hn:nx= .value y\/(nx= .skip/\y=undef)) (wr:WR G' h' w') (e:dr G h w G' h' w' lo hi) (hv:LV G' fr.loc B v y):
 fP P G h w B fr.loc lo hi a o v fr.loc h':=
 ⟨nx,y,w',G',B,hrun,hn,wr,e.toL _,x.locs.ext e,hv,fun _ _ h=>h.mono e.le,fun _ h=>.inl h⟩
end
section
variable {P:Program} {mk:bn} {G:Gh} {h:bv bH} {B:Nat->Nat} {fr:Fr} {a:Act} {w:World} {o:Oper} {lo hi:Nat}
theorem jR {x:Option aj} {l l':Loc} {s s':St} {v:aj} (e:fK x l s=some (v,l',s')):x=some v/\l'=l/\s'=s:=by
 cases x with
 |none=>simp[fK] at e
 |some u=>simp[fK] at e;exact⟨by rw[e.1],e.2.1.symm,e.2.2.symm⟩
theorem ajq {x:Operand} (ho:o.op= .move x) (wr:WR G h w) (fx:dg G h B fr a.tmps w) {v:aj} (he:ev fr.env x=some v):
 fP P G h w B fr.loc lo hi a o v fr.loc h:=
 .pure wr fx (y:=a.eval x) (by simp[execOp,ho]) (fx.ev he)
theorem ai6 {x:Operand} (ho:o.op= .assign x) (wr:WR G h w) (fx:dg G h B fr a.tmps w) {v:aj} (he:ev fr.env x=some v):
 fP P G h w B fr.loc lo hi a o v fr.loc h:=
 .pure wr fx (y:=a.eval x) (by simp[execOp,ho]) (fx.ev he)
theorem ajt {c p q:Operand} (ho:o.op= .pick c p q) (wr:WR G h w) (fx:dg G h B fr a.tmps w) {v:aj} (he:sO fr.env c p q=some v):
 fP P G h w B fr.loc lo hi a o v fr.loc h:=by
 simp only[sO,aG] at he
 obtain⟨b,hb,he⟩:=he
 have hc:=fx.ev hb
 split at he
 ·have hc:VR G (.bool true) (a.eval c):=hc
  generalize hx:a.eval c=x at hc
  cases hc
  exact .pure wr fx (y:=a.eval p) (by simp[execOp,ho,hx,asBool]) (fx.ev he)
 ·have hc:VR G (.bool false) (a.eval c):=hc
  generalize hx:a.eval c=x at hc
  cases hc
  exact .pure wr fx (y:=a.eval q) (by simp[execOp,ho,hx,asBool]) (fx.ev he)
 ·cases he
theorem ajs {x:Operand} (ho:o.op= .nilCheck x) (wr:WR G h w) (fx:dg G h B fr a.tmps w) {u v:aj} (hu:ev fr.env x=some u) (he:sG fr.loc u=some v):
 fP P G h w B fr.loc lo hi a o v fr.loc h:=by
 have hl:=fx.ev hu
 unfold sG at he
 split at he
 ·rename_i t g off
  replace he:=bX he
  obtain⟨hg,he⟩:=he
  injection he with he;subst he
  have hg:=fp hg
  obtain⟨h1,_,h2⟩:g<=fr.loc.gen t/\(∃ad,a.eval x= .pointer (some ad))/\(g=fr.loc.gen t->a.eval x= .pointer (some ⟨B t,off,none⟩)):=hl
  have h2:=h2 hg.symm
  exact .pure wr fx (y:=a.eval x) (by simp[execOp,ho,h2]) ⟨h1,⟨_,h2⟩,fun _=>h2⟩
 ·injection he with he;subst he
  generalize hx:a.eval x=y at hl
  have hl':VR G _ y:=hl
  cases hl'
  exact .pure wr fx (y:=a.eval x) (by simp[execOp,ho,hx]) (by rw[hx];exact hl)
 ·injection he with he;subst he
  generalize hx:a.eval x=y at hl
  have hl':VR G _ y:=hl
  cases hl'
  exact .pure wr fx (y:=a.eval x) (by simp[execOp,ho,hx]) (by rw[hx];exact hl)
 ·injection he with he;subst he
  generalize hx:a.eval x=y at hl
  have hl':VR G _ y:=hl
  cases hl'
  exact .pure wr fx (y:=a.eval x) (by simp[execOp,ho,hx]) (by rw[hx];exact hl)
 ·cases he
end
theorem Loc.gen_set (l:Loc) (t g u:Nat) (cs:List aj):(Loc.set l t g cs).gen u=if u=t then g else Loc.gen l u:=by
 induction l with
 |nil=>
  simp only[Loc.set,Loc.gen]
  by_cases h:u=t
  ·subst h;simp
  ·have:be t u=false:=by cases e:be t u;rfl;exact absurd (fp e).symm h
   simp[this,h]
 |cons x l ih=>
  obtain⟨k,g',d⟩:=x
  simp only[Loc.set]
  cases e:be k t
  ·simp only[cF,Loc.gen]
   rw[ih]
   by_cases h:u=t
   ·subst h;simp[e]
   ·simp[h]
  ·have:=fp e;subst this
   simp only[cT,Loc.gen]
   by_cases h:u=k
   ·subst h;simp
   ·have:be k u=false:=by cases e:be k u;rfl;exact absurd (fp e).symm h
    simp[this,h]
theorem Loc.get_set (l:Loc) (t g u k:Nat) (cs:List aj):(Loc.set l t g cs).get u k=if u=t then(if k=g then some cs else none) else Loc.get l u k:=by
 have hb: ∀a b:Nat,be a b=decide (a=b):=fun a b=>by
  cases e:be a b
  ·exact(decide_eq_false (uS e)).symm
  ·exact(decide_eq_true (fp e)).symm
 induction l with
 |nil=>
  simp only[Loc.set,Loc.get,hb]
  by_cases h:u=t
  ·subst h
   by_cases h':k=g
   ·simp[h']
   ·simp[h',Ne.symm h']
  ·simp[h,Ne.symm h]
 |cons x l ih=>
  obtain⟨j,g',d⟩:=x
  simp only[Loc.set,hb]
  by_cases e:j=t
  ·subst e
   simp only[dT,cT,Loc.get,hb]
   by_cases h:u=j
   ·subst h
    by_cases h':k=g
    ·simp[h']
    ·simp[h',Ne.symm h']
   ·simp[h,Ne.symm h]
  ·simp only[e,decide_false,cF,Loc.get,hb]
   rw[ih]
   by_cases h:u=t
   ·subst h;simp[e]
   ·simp[h]
section
variable {P:Program} {G:Gh} {h:bv bH} {w:World}
theorem Gh.more_none (x:WR G h w):G.more w.heap.size (fun _=>none) none=G:=by
 cases G with
 |mk A R D=>
  simp only[Gh.more]
  congr 1
  ·funext c o
   by_cases e:c=w.heap.size
   ·rw[if_pos e]
    cases hr:R c o with
    |none=>rfl
    |some v=>have:=x.ro_lt (b:=c) (o:=o) (v:=v) hr;omega
   ·rw[if_neg e]
  ·funext c
   by_cases e:c=w.heap.size
   ·rw[if_pos e]
    cases hr:D c with
    |none=>rfl
    |some d=>obtain⟨C,t,hb,_⟩:=x.dim c d hr;have:=gL hb;omega
   ·rw[if_neg e]
theorem WR.fresh (x:WR G h w) (ob:Obj) (hwm:Obj.warm ob:=by trivial):WR G h (w.alloc ob)/\ ∀lo hi,dr G h w G h (w.alloc ob) lo hi:=by
 have:=x.alloc ob (fun _=>none) none (by simp) (by simp) hwm
 rwa [Gh.more_none x] at this
def Gh.boxed (G:Gh) (w:World) (n size:Nat):Gh:=(G.more w.heap.size (fun _=>none) (some size)).name n ⟨w.heap.size,0,none⟩
theorem WR.boxed (x:WR G h w) {n:Nat} (hn:G.at_ n=none) (C:Array Value) (e:TypeId) (cs:List aj)
 (hc: ∀(i:Nat) v,cs[i]? =some v->v.scal=true/\ ∃y,C[i]? =some y/\VR G v y):
 WR (G.boxed w n C.size) (h.set n (some (.cells cs))) (w.alloc (.cells C e))/\dr G h w (G.boxed w n C.size) (h.set n (some (.cells cs))) (w.alloc (.cells C e)) n (n+1):=by
 obtain⟨h1,h2⟩:=x.alloc (.cells C e) (fun _=>none) (some C.size) (by simp) (fun d hd=>⟨C,e,rfl,by injection hd⟩)
 have hno: ¬eM (G.more w.heap.size (fun _=>none) (some C.size)) h w.heap.size:=by
  rintro⟨m,a,hm,ha,hb⟩
  have:=x.below m a ha
  omega
 have h3:=h1.named (n:=n) (a:=⟨w.heap.size,0,none⟩) (o:=.cells cs) hn (by simp) rfl hno
  ⟨C,e,by rw[mP,if_pos rfl],by simp[Gh.more],fun i v hi=>by
    obtain⟨hs,y,hy,hv⟩:=hc i v hi
    exact⟨hs,y,by simpa using hy,hv.mono (h2 0 0).le⟩⟩
  (by simp[Gh.more])
 refine⟨h3,⟨(h2 0 0).le.trans (Gh.name_le _ _ hn),(h2 0 0).size,(h2 0 0).keep,?_,?_,?_,(h2 0 0).quiet⟩⟩
 ·intro b hb ho
  rcases vN ho with rfl|ho
  ·exact absurd hb (eU _)
  ·exact(h2 0 0).owns b hb ho
 ·intro m a hm h0
  simp only[Gh.boxed,Gh.name,Gh.more] at hm
  by_cases em:m=n
  ·omega
  ·rw[if_neg em,h0] at hm;cases hm
 ·intro b o v hb hv h0
  exact(h2 0 0).cells b o v hb hv h0
theorem Gh.boxed_at (G:Gh) (w:World) (n size:Nat):(G.boxed w n size).at_ n=some ⟨w.heap.size,0,none⟩:=by simp[Gh.boxed,Gh.name]
theorem Gh.boxed_dim (G:Gh) (w:World) (n size:Nat):(G.boxed w n size).dim w.heap.size=some size:=by simp[Gh.boxed,Gh.name,Gh.more]
theorem cp.rows {vs:List aj} {C:Array Value} (hv:cp G vs C.toList) (hs:dL vs=true):
 ∀(i:Nat) v,vs[i]? =some v->v.scal=true/\ ∃y,C[i]? =some y/\VR G v y:=by
 intro i v hi
 refine⟨?_,?_⟩
 ·have:=lX hi
  simp only[dL,np] at hs
  exact hs v this
 ·obtain⟨y,hy,hr⟩:=hv.get hi
  exact⟨y,by simpa using hy,hr⟩
end
section
variable {P:Program} {mk:bn} {G:Gh} {s s':St} {B:Nat->Nat} {fr:Fr} {a:Act} {w:World} {o:Oper}
theorem So {hh:Nat} {dst:Option Tmp} {cs:List aj} {v:aj} {loc':Loc} {C:Array Value} {e:TypeId} (wr:WR G s.heap w) (fx:dg G s.heap B fr a.tmps w)
 (hrun:(execOp a.eval o).run P w= .ok (.value (.pointer (some ⟨w.heap.size,0,none⟩))) (w.alloc (.cells C e)))
 (hc: ∀(i:Nat) v,cs[i]? =some v->v.scal=true/\ ∃y,C[i]? =some y/\VR G v y)
 (he:oJ hh dst cs fr.loc s=some (v,loc',s')) (hfree: ∀n,s.next<=n->n<s'.next->G.at_ n=none):
 fP P G s.heap w B fr.loc s.next s'.next a o v loc' s'.heap:=by
 unfold oJ at he
 rcases gH he with⟨_,he⟩|⟨_,he⟩
 ·simp only[aG] at he
  obtain⟨t,_,he⟩:=he
  simp only[bg,bL] at he
  obtain⟨rfl,rfl,rfl⟩:=he
  obtain⟨h1,h2⟩:=wr.fresh (.cells C e)
  have h3:=fx.locs.ext (h2 s.next s.next)
  refine⟨_,_,_,G,fun u=>if u=t then w.heap.size else B u,hrun,.inl rfl,h1,(h2 _ _).toL _,⟨?_,?_,?_,?_⟩,?_,?_,?_⟩
  ·intro u ds hu
   rw[Loc.gen_set,Loc.get_set] at hu
   by_cases eu:u=t
   ·rw[if_pos eu,if_pos eu,if_pos rfl] at hu
    injection hu with hu;subst hu
    rw[if_pos eu]
    exact⟨C,e,by rw[mP,if_pos rfl],hc⟩
   ·rw[if_neg eu,if_neg eu] at hu
    rw[if_neg eu]
    exact h3.cells u ds hu
  ·intro u ds hu
   rw[Loc.gen_set,Loc.get_set] at hu
   by_cases eu:u=t
   ·rw[if_pos eu]
    intro ho
    exact eU _ (wr.owned_lt ho)
   ·rw[if_neg eu,if_neg eu] at hu
    rw[if_neg eu]
    exact h3.free u ds hu
  ·intro u ds hu k
   rw[Loc.gen_set,Loc.get_set] at hu
   by_cases eu:u=t
   ·rw[if_pos eu]
    cases hr:G.ro w.heap.size k with
    |none=>rfl
    |some v=>exact absurd (wr.ro_lt hr) (eU _)
   ·rw[if_neg eu,if_neg eu] at hu
    rw[if_neg eu]
    exact h3.ro u ds hu k
  ·intro u u' ds ds' hu hu' hB
   rw[Loc.gen_set,Loc.get_set] at hu hu'
   have old: ∀ {q:Nat} {cs:List aj},fr.loc.get q (fr.loc.gen q)=some cs->B q<w.heap.size:=fun {q cs} hq=>by
    obtain⟨C,e,hb,_⟩:=fx.locs.cells q cs hq;exact gL hb
   by_cases eu:u=t<;>by_cases eu':u'=t
   ·rw[eu,eu']
   ·rw[if_neg eu',if_neg eu'] at hu'
    rw[if_pos eu,if_neg eu'] at hB
    have:=old hu';omega
   ·rw[if_neg eu,if_neg eu] at hu
    rw[if_neg eu,if_pos eu'] at hB
    have:=old hu;omega
   ·rw[if_neg eu,if_neg eu] at hu
    rw[if_neg eu',if_neg eu'] at hu'
    rw[if_neg eu,if_neg eu'] at hB
    exact fx.locs.inj u u' ds ds' hu hu' hB
  ·show _<=_/\_
   rw[Loc.gen_set,if_pos rfl]
   exact⟨bB _,⟨_,rfl⟩,fun _=>by simp⟩
  ·intro u y hl
   cases u with
   |lref q g off=>
    obtain⟨l1,l3,l2⟩:=hl
    show _<=_/\_
    rw[Loc.gen_set]
    by_cases eq:q=t
    ·subst eq
     rw[if_pos rfl]
     exact⟨by omega,l3,fun hg=>by omega⟩
    ·rw[if_neg eq]
     exact⟨l1,l3,fun hg=>by simp only[if_neg eq];exact l2 hg⟩
   |_=>exact hl
  ·rintro b ⟨u,ds,hu,rfl⟩
   rw[Loc.gen_set,Loc.get_set] at hu
   by_cases eu:u=t
   ·simp only[if_pos eu];exact .inr (bB _)
   ·rw[if_neg eu,if_neg eu] at hu
    simp only[if_neg eu]
    exact .inl ⟨u,ds,hu,rfl⟩
 ·simp only[bg,bL] at he
  obtain⟨rfl,rfl,rfl⟩:=he
  have hn:G.at_ s.next=none:=hfree s.next (bB _) (by simp[St.new])
  obtain⟨h1,h2⟩:=wr.boxed hn C e cs hc
  exact .heap fx hrun (.inl rfl) h1 h2 (LV.of_VR (by simpa using VR.ptr (off:=0) (Gh.boxed_at G w s.next C.size)))
theorem yu {t:TypeId} {z:aj} (hz:eY P t=some z): ∃i zv,P.info? t=some i/\i.zero=some zv/\ofValue zv=some z:=by
 simp only[eY,aG] at hz
 obtain⟨i,hi,zv,hzv,h⟩:=hz
 exact⟨i,zv,hi,hzv,h⟩
theorem qC {t:TypeId} {i:TypeInfo} {zv:Value} (hi:P.info? t=some i) (hz:i.zero=some zv) (w:World):(zeroValue t).run P w= .ok zv w:=by
 simp[zeroValue,typeInfo,hi,hz]
theorem ai5 {hint:Tmp->Nat} {dst:Option Tmp} {e:TypeId} {v:aj} {loc':Loc} (ho:o.op= .alloc e) (wr:WR G s.heap w) (fx:dg G s.heap B fr a.tmps w)
 (he:Aw P hint dst e fr s=some (v,loc',s')) (hfree: ∀n,s.next<=n->n<s'.next->G.at_ n=none):
 fP P G s.heap w B fr.loc s.next s'.next a o v loc' s'.heap:=by
 simp only[Aw,aG] at he
 obtain⟨z,hz,he⟩:=he
 obtain⟨i,zv,hi,hzv,hov⟩:=yu hz
 obtain⟨hv,ht⟩:=rl G hov
 exact So (C:=zv.cells) (e:=e) wr fx (by simp[execOp,ho,Instr.alloc,qC hi hzv,newVar,newRow]) (hv.cells.rows (hv.scals_cells ht)) he hfree
theorem ai8 {hint:Tmp->Nat} {dst:Option Tmp} {e:TypeId} {x:Operand} {v:aj} {loc':Loc} (ho:o.op= .box e x) (wr:WR G s.heap w) (fx:dg G s.heap B fr a.tmps w)
 (he:Ay hint dst x fr s=some (v,loc',s')) (hfree: ∀n,s.next<=n->n<s'.next->G.at_ n=none):
 fP P G s.heap w B fr.loc s.next s'.next a o v loc' s'.heap:=by
 simp only[Ay,aG] at he
 obtain⟨u,hu,he⟩:=he
 obtain⟨hv,ht⟩:=fx.evc hu
 exact So (C:=(a.eval x).cells) (e:=e) wr fx (by simp[execOp,ho,Instr.box,newVar,newRow]) (hv.cells.rows (hv.scals_cells ht)) he hfree
end
section
variable {P:Program} {mk:bn} {G:Gh} {s s':St} {B:Nat->Nat} {fr:Fr} {a:Act} {w:World} {o:Oper} {lo hi:Nat}
theorem dw {t:TypeId} {d:TypeDesc} (h:P.underlying t=some d) (w:World):(underlying t).run P w= .ok d w:=by
 simp[underlying,h]
theorem AW {t:TypeId} {b:Bool} (h:xm P t=some b) (w:World):(isAgg t).run P w= .ok b w:=by
 simp only[xm,aG] at h
 obtain⟨d,hd,h⟩:=h
 cases d<;>simp at h<;>subst h<;>simp[isAgg,dw hd]
theorem gY {t:TypeId} {n:Nat} (h:fu P t=some n) (w:World):(sizeOf t).run P w= .ok n w:=by
 simp only[fu,aG] at h
 obtain⟨i,hi,h⟩:=h
 injection h with h;subst h
 simp[sizeOf,typeInfo,hi]
theorem u5 {cs r:List aj} {off n:Nat} (h:cut cs off n=some r):r=(cs.drop off).take n/\r.length=n:=by
 simp only[cut] at h
 obtain⟨h1,h2⟩:=bX h
 injection h2 with h2
 exact⟨h2.symm,by rw[<-h2];exact fp h1⟩
theorem wY {cs r:List aj} {off n:Nat} (h:cut cs off n=some r) {i:Nat} {v:aj} (hi:r[i]? =some v):cs[off+i]? =some v:=by
 obtain⟨h1,h2⟩:=u5 h
 rw[h1,uA] at hi
 split at hi
 ·rwa [rD] at hi
 ·cases hi
theorem FR {cs:List aj} {f:Nat->Option Value} (hc: ∀(i:Nat) u,cs[i]? =some u->u.scal=true/\ ∃x,f i=some x/\VR G u x):
 ∃vs:List Value,cp G cs vs/\dL cs=true/\ ∀(i:Nat) x,vs[i]? =some x->f i=some x:=by
 induction cs generalizing f with
 |nil=>exact⟨[],.nil,rfl,by simp⟩
 |cons c cs ih=>
  obtain⟨hs,x,hx,hv⟩:=hc 0 c (by simp)
  obtain⟨vs,h1,h2,h3⟩:=ih (f:=fun i=>f (i+1)) (fun i u hi=>hc (i+1) u (by simpa using hi))
  refine⟨x::vs,.cons hv h1,by simp only[dL,mH,hs,i9];exact h2,?_⟩
  intro i y hi
  cases i with
  |zero=>simp at hi;subst hi;exact hx
  |succ i=>simp at hi;exact h3 i y hi
theorem vW {t:TypeId} {cs:List aj} {off:Nat} {v:aj} {b base:Nat} (h:fg P t cs off=some v)
 (hc: ∀(i:Nat) u,cs[i]? =some u->u.scal=true/\ ∃x,w.cell? ⟨b,base+i,none⟩=some x/\VR G u x):
 ∃y,(loadVar t ⟨b,base+off,none⟩).run P w= .ok y w/\VR G v y/\ ∀l,v≠ .tup l:=by
 simp only[fg,aG] at h
 obtain⟨g,hg,h⟩:=h
 replace h:=gH h
 rcases h with⟨g1,h⟩|⟨g1,h⟩<;>subst g1
 ·simp only[aG] at h
  obtain⟨n,hn,r,hr,h⟩:=h
  injection h with h;subst h
  obtain⟨vs,h1,h2,h3⟩:=FR (G:=G) (cs:=r) (f:=fun i=>w.cell? ⟨b,base+off+i,none⟩) (fun i u hi=>by
   have:=hc (off+i) u (wY hr hi)
   rwa [<-ou] at this)
  have hlen:vs.length=n:=by rw[<-h1.length];exact(u5 hr).2
  refine⟨.agg ⟨vs⟩,?_,.agg h2 h1,by simp⟩
  have hl:=run_loadCells_list (P:=P) (w:=w) ⟨b,base+off,none⟩ vs (fun j v hj=>by rw[l0];exact h3 j v hj)
  rw[hlen] at hl
  simp[loadVar,AW hg,gY hn,hl]
 ·split at h
  ·rename_i u rest hd
   injection h with h;subst h
   have hi:cs[off]? =some u:=by
    have:(cs.drop off)[0]? =some u:=by rw[hd];rfl
    simpa[rD] using this
   obtain⟨hs,x,hx,hv⟩:=hc off u hi
   refine⟨x,?_,hv,fun l e=>by subst e;simp[aj.scal] at hs⟩
   simp[loadVar,AW hg,hx]
  ·cases h
theorem iV {n:Nat} {ob:bH} (h:s.get mk n=some ob):s.heap.get n=some ob:=by
 unfold St.get at h
 cases e:dJ mk n<;>simp[e] at h
 exact h
theorem ajk {t:TypeId} {x:Operand} {v:aj} {loc':Loc} (ho:o.op= .load t x) (wr:WR G s.heap w) (fx:dg G s.heap B fr a.tmps w)
 (he:vL P mk t x fr s=some (v,loc',s')):fP P G s.heap w B fr.loc lo hi a o v loc' s'.heap:=by
 simp only[vL,aG] at he
 obtain⟨u,hu,he⟩:=he
 replace he:=jR he
 obtain⟨he,rfl,rfl⟩:=he
 have hl:=fx.ev hu
 unfold kZ at he
 split at he
 ·rename_i t' g off
  simp only[aG] at he
  obtain⟨cs,hcs,he⟩:=he
  obtain⟨h1,_,h2⟩:=hl
  have hg:g=fr.loc.gen t':=by
   clear he h2
   revert hcs
   generalize fr.loc=l at*
   induction l with
   |nil=>intro hcs;simp[Loc.get] at hcs
   |cons y l ih=>
    obtain⟨k,g',d⟩:=y
    intro hcs
    simp only[Loc.get,Loc.gen] at*
    cases e:be k t'
    ·rw[e] at hcs h1;simp only[cF] at hcs h1 ⊢;exact ih h1 hcs
    ·rw[e] at hcs h1;simp only[cT] at hcs h1 ⊢
     obtain⟨e',_⟩:=bX hcs
     exact(fp e').symm
  replace h2:=h2 hg
  subst hg
  obtain⟨C,e,hb,hc⟩:=fx.locs.cells t' cs hcs
  obtain⟨y,hy,hv,ht⟩:=vW (w:=w) (b:=B t') (base:=0) he (fun i u hi=>by
   obtain⟨hs,z,hz,hr⟩:=hc i u hi
   exact⟨hs,z,by rw[nN hb];simpa using hz,hr⟩)
  refine .pure wr fx (y:=y) ?_ (LV.of_VR hv)
  simp only[aQ] at hy
  simp[execOp,ho,h2,Instr.loadAt,Instr.sureAddr,hy]
 ·rename_i n off
  simp only[aG] at he
  obtain⟨ob,hob,he⟩:=he
  split at he
  ·rename_i cs
   have hl:VR G _ _:=hl
   generalize hx:a.eval x=y at hl
   cases hl
   rename_i ad hn
   obtain⟨ad',hn',hsp,C,e,hb,_,hc⟩:=wr.obj n _ (iV hob)
   rw[hn] at hn';injection hn' with hn';subst hn'
   obtain⟨y,hy,hv,ht⟩:=vW (w:=w) (b:=ad.block) (base:=ad.off) he (fun i u hi=>by
    obtain⟨hs,z,hz,hr⟩:=hc i u hi
    exact⟨hs,z,by rw[nN hb];exact hz,hr⟩)
   refine .pure wr fx (y:=y) ?_ (LV.of_VR hv)
   simp[execOp,ho,hx,Instr.loadAt,Instr.sureAddr,hy]
  ·cases he
 ·rename_i cs
  have hl:VR G _ _:=hl
  generalize hx:a.eval x=y at hl
  cases hl
  rename_i b base hro
  obtain⟨y,hy,hv,ht⟩:=vW (w:=w) (b:=b) (base:=base) he (fun i u hi=>wr.ro _ _ _ (hro i u hi))
  refine .pure wr fx (y:=y) ?_ (LV.of_VR hv)
  simp only[dc] at hy
  simp[execOp,ho,hx,Instr.loadAt,Instr.sureAddr,hy]
 ·cases he
theorem RG {l:Loc} {t g:Nat} {cs:List aj} (h:l.get t g=some cs):g=l.gen t:=by
 induction l with
 |nil=>simp[Loc.get] at h
 |cons y l ih=>
  obtain⟨k,g',d⟩:=y
  simp only[Loc.get,Loc.gen] at*
  cases e:be k t
  ·rw[e] at h;simp only[cF] at h ⊢;exact ih h
  ·rw[e] at h;simp only[cT] at h ⊢
   exact(fp (bX h).1).symm
theorem Uu {cs new cs':List aj} {off:Nat} (h:cV cs off new=some cs'):
 off+new.length<=cs.length/\cs'.length=cs.length/\ ∀i:Nat,cs'[i]? =if off<=i/\i<off+new.length then new[i-off]? else cs[i]? :=by
 simp only[cV] at h
 obtain⟨h1,h2⟩:=bX h
 have h1:=jl h1
 injection h2 with h2
 refine⟨h1,by rw[<-h2];simp;omega,fun i=>?_⟩
 rw[<-h2]
 by_cases c1:i<off
 ·rw[o8 (by simp;omega),if_neg (by omega),uA,if_pos c1]
 ·rw[pY (by simp;omega)]
  simp only[pZ,wF (by omega:off<=cs.length)]
  by_cases c2:i<off+new.length
  ·rw[o8 (by omega),if_pos ⟨by omega,c2⟩]
  ·rw[pY (by omega),if_neg (by omega),rD]
   congr 1;omega
theorem ya {cs new cs':List aj} {off base:Nat} {C:Array Value} {ys:List Value} (h:cV cs off new=some cs') (hy:cp G new ys) (hs:dL new=true) (hne:new≠ [])
 (hc: ∀(i:Nat) u,cs[i]? =some u->u.scal=true/\ ∃x,C[base+i]? =some x/\VR G u x):
 base+off+ys.length<=C.size/\ ∀(i:Nat) u,cs'[i]? =some u->u.scal=true/\ ∃x,(jg C (base+off) ys)[base+i]? =some x/\VR G u x:=by
 obtain⟨h1,h2,h3⟩:=Uu h
 have hl:=hy.length
 have hpos:0<new.length:=List.length_pos_iff.2 hne
 have hsz:base+off+ys.length<=C.size:=by
  have hi:off+new.length-1<cs.length:=by omega
  obtain⟨_,x,hx,_⟩:=hc (off+new.length-1) cs[off+new.length-1] (js hi)
  have:base+(off+new.length-1)<C.size:=by
   rcases im (base+(off+new.length-1)) C.size with h|h
   ·exact h
   ·simp[ux h] at hx
  omega
 refine⟨hsz,fun i u hi=>?_⟩
 rw[h3] at hi
 rw[Bg _ _ _ _ hsz]
 by_cases c:off<=i/\i<off+new.length
 ·rw[if_pos c] at hi
  rw[if_pos (by omega)]
  obtain⟨x,hx,hv⟩:=hy.get hi
  refine⟨?_,x,?_,hv⟩
  ·have:=lX hi
   simp only[dL,np] at hs
   exact hs u this
  ·rw[<-hx];congr 1;omega
 ·rw[if_neg c] at hi
  rw[if_neg (by omega)]
  exact hc i u hi
theorem cp.ones {vs:List aj} {ys:List Value} (hy:cp G vs ys) (hs:dL vs=true): ∀y∈ys,y.oneCell'=true:=by
 induction vs generalizing ys with
 |nil=>cases hy;simp
 |cons v vs ih=>
  cases hy with
  |cons p q=>
   simp only[dL,mH,cZ] at hs
   intro y hm
   simp at hm
   rcases hm with rfl|hm
   ·exact p.one hs.1
   ·exact ih q hs.2 y hm
theorem WR.putFree {h:bv bH} (x:WR G h w) {b:Nat} {C C':Array Value} {e:TypeId} (hb:w.heap[b]? =some (.cells C e (0,0))) (hs:C'.size=C.size) (ho: ¬eM G h b)
 (hr: ∀o,G.ro b o=none):WR G h (dN w b (.cells C' e (0,0))):=by
 have hlt:=gL hb
 have hblk: ∀c,(dN w b (.cells C' e (0,0))).heap[c]? =if c=b then some (.cells C' e (0,0)) else w.heap[c]? :=fun c=>iZ w b c _ hlt
 refine⟨?_,x.sep,?_,x.apart,?_,fun n a ha=>by simp;exact x.below n a ha⟩
 ·intro n o hn
  obtain⟨a,ha,hsp,hr⟩:=x.obj n o hn
  refine⟨a,ha,hsp,hr.of_block ?_⟩
  rw[hblk,if_neg]
  intro e'
  exact ho ⟨n,a,by rw[hn];simp,ha,e'⟩
 ·intro c o v hv
  by_cases e':c=b
  ·subst e';rw[hr] at hv;cases hv
  ·obtain⟨h1,y,hy,h2⟩:=x.ro c o v hv
   exact⟨h1,y,by rw[<-hy];simp[World.cell?,hblk,e'],h2⟩
 ·intro c d hd
  obtain⟨D,t,hc,hsz⟩:=x.dim c d hd
  rw[hblk]
  by_cases e':c=b
  ·subst e'
   rw[hb] at hc
   simp only[bg,Obj.cells.injEq] at hc
   obtain⟨rfl,rfl,_⟩:=hc
   exact⟨C',e,if_pos rfl,by omega⟩
  ·rw[if_neg e'];exact⟨D,t,hc,hsz⟩
theorem ajw {t:TypeId} {x z:Operand} {v:aj} {loc':Loc} (ho:o.op= .store t x z) (wr:WR G s.heap w) (fx:dg G s.heap B fr a.tmps w)
 (he:vM P mk t x z fr s=some (v,loc',s')):fP P G s.heap w B fr.loc lo hi a o v loc' s'.heap:=by
 simp only[vM,aG] at he
 obtain⟨u,hu,nv,hnv,r,hr,he⟩:=he
 simp only[bg,bL] at he
 obtain⟨rfl,rfl,rfl⟩:=he
 have hl:=fx.ev hu
 obtain⟨hv,ht⟩:=fx.evc hnv
 have hcs:=hv.cells
 have hsc:=hv.scals_cells ht
 simp only[pS,aG] at hr
 obtain⟨n,hn,hr⟩:=hr
 replace hr:=bX hr
 obtain⟨hcond,hr⟩:=hr
 simp only[cZ] at hcond
 have hlen:=fp hcond.1
 have hpos:=mR hcond.2
 have hne:nv.cells≠ []:=by intro e;rw[e] at hlen;simp at hlen;omega
 have hsize:(a.eval z).cells.size=n:=by
  have:=hcs.length
  rw[hlen] at this
  simpa using this.symm
 have hrun: ∀(b off:Nat) (C:Array Value) (e:TypeId),w.heap[b]? =some (.cells C e (0,0))->off+(a.eval z).cells.toList.length<=C.size->a.eval x= .pointer (some ⟨b,off,none⟩)->
  (execOp a.eval o).run P w= .ok .skip (dN w b (.cells (jg C off (a.eval z).cells.toList) e (0,0))):=by
  intro b off C e hb hle hx
  have h1:=AX (P:=P) b off e (a.eval z).cells.toList 0 w C hb (by omega) (hcs.ones hsc)
  simp only[dc] at h1
  simp[execOp,ho,hx,Instr.storeAt,Instr.sureAddr,storeVar,gY hn,hsize,h1]
 split at hr
 ·rename_i l g off
  simp only[aG] at hr
  obtain⟨cs,hcs',cs',hw,hr⟩:=hr
  simp only[bg] at hr
  obtain⟨rfl,rfl⟩:=hr
  have hg:=RG hcs'
  obtain⟨h1,_,h2⟩:=hl
  replace h2:=h2 hg
  subst hg
  obtain⟨C,e,hb,hc⟩:=fx.locs.cells l cs hcs'
  obtain⟨hle,hrows⟩:=ya (base:=0) hw hcs hsc hne (fun i u hi=>by simpa using hc i u hi)
  simp only[aQ] at hle hrows
  have hfree:=fx.locs.free l cs hcs'
  have hro:=fx.locs.ro l cs hcs'
  have hlt:=gL hb
  have hblk: ∀c,(dN w (B l) (.cells (jg C off (a.eval z).cells.toList) e (0,0))).heap[c]? =if c=B l then some (.cells (jg C off (a.eval z).cells.toList) e (0,0)) else w.heap[c]? :=fun c=>iZ w _ c _ hlt
  have hgens: ∀q,(fr.loc.set l (fr.loc.gen l) cs').gen q=fr.loc.gen q:=fun q=>by
   rw[Loc.gen_set]
   by_cases e':q=l
   ·rw[if_pos e',e']
   ·rw[if_neg e']
  have hgets: ∀q ds,(fr.loc.set l (fr.loc.gen l) cs').get q ((fr.loc.set l (fr.loc.gen l) cs').gen q)=some ds->
   (q=l/\ds=cs')\/(q≠l/\fr.loc.get q (fr.loc.gen q)=some ds):=fun q ds hq=>by
   rw[hgens,Loc.get_set] at hq
   by_cases e':q=l
   ·subst e'
    rw[if_pos rfl,if_pos rfl] at hq
    injection hq with hq
    exact .inl ⟨rfl,hq.symm⟩
   ·rw[if_neg e'] at hq;exact .inr ⟨e',hq⟩
  have hpres: ∀q ds,(fr.loc.set l (fr.loc.gen l) cs').get q ((fr.loc.set l (fr.loc.gen l) cs').gen q)=some ds-> ∃ds',fr.loc.get q (fr.loc.gen q)=some ds':=fun q ds hq=>by
   rcases hgets q ds hq with⟨rfl,_⟩|⟨_,hq⟩
   ·exact⟨cs,hcs'⟩
   ·exact⟨ds,hq⟩
  refine⟨_,undef,_,G,B,hrun (B l) off C e hb hle h2,.inr ⟨rfl,rfl⟩,wr.putFree hb (by simp) hfree hro,
   ⟨.refl G,by simp,?_,fun _ _ h=>h,fun n a h h'=>(by rw[h] at h';cases h'),fun b o v _ h h'=>(by rw[h] at h';cases h'),x5 w hb rfl rfl⟩,⟨?_,?_,?_,?_⟩,LV.of_VR (.tup .nil),?_,?_⟩
  ·intro b _ _ hnl
   rw[hblk,if_neg]
   intro e'
   exact hnl ⟨l,cs,hcs',e'.symm⟩
  ·intro q ds hq
   rcases hgets q ds hq with⟨rfl,rfl⟩|⟨hne',hq⟩
   ·exact⟨_,e,by rw[hblk,if_pos rfl],hrows⟩
   ·obtain⟨C',e',hb',hc'⟩:=fx.locs.cells q ds hq
    refine⟨C',e',?_,hc'⟩
    rw[hblk,if_neg];·exact hb'
    intro e''
    exact hne' (fx.locs.inj q l ds cs hq hcs' e'')
  ·intro q ds hq;obtain⟨ds',hq'⟩:=hpres q ds hq;exact fx.locs.free q ds' hq'
  ·intro q ds hq;obtain⟨ds',hq'⟩:=hpres q ds hq;exact fx.locs.ro q ds' hq'
  ·intro q q' ds ds' hq hq' hB
   obtain⟨d1,h1⟩:=hpres q ds hq
   obtain⟨d2,h2⟩:=hpres q' ds' hq'
   exact fx.locs.inj q q' d1 d2 h1 h2 hB
  ·intro u y hu
   cases u with
   |lref q g off=>show _<=_/\_;rw[hgens];exact hu
   |_=>exact hu
  ·rintro b ⟨q,ds,hq,rfl⟩
   obtain⟨ds',hq'⟩:=hpres q ds hq
   exact .inl ⟨q,ds',hq',rfl⟩
 ·rename_i m off
  simp only[aG] at hr
  obtain⟨ob,hob,hr⟩:=hr
  split at hr
  ·rename_i cs
   simp only[aG] at hr
   obtain⟨cs',hw,hr⟩:=hr
   simp only[bg] at hr
   obtain⟨rfl,rfl⟩:=hr
   have hl:VR G _ _:=hl
   generalize hx:a.eval x=y at hl
   cases hl
   rename_i ad had
   obtain⟨ad',had',hsp,C,e,hb,hdm,hc⟩:=wr.obj m _ (iV hob)
   rw[had] at had';injection had' with had';subst had'
   obtain⟨hle,hrows⟩:=ya (base:=ad.off) hw hcs hsc hne hc
   obtain⟨h1,h2⟩:=wr.changed (o':=.cells cs') (ob:=.cells (jg C (ad.off+off) (a.eval z).cells.toList) e (0,0)) (iV hob) had
    ⟨_,e,by rw[iZ _ _ _ _ (gL hb),if_pos rfl],by rw[hdm];simp,hrows⟩
    (fun i v hv=>by have:=(wr.apart m _ ad i v (iV hob) had hv).1;cases this)
    (fun d hd=>by
     obtain⟨D,t',hD,hsz⟩:=wr.dim _ d hd
     rw[hb] at hD
     simp only[bg,Obj.cells.injEq] at hD
     obtain⟨rfl,rfl,_⟩:=hD
     exact⟨_,e,rfl,by simpa using hsz⟩)
   exact .heap fx (hrun ad.block (ad.off+off) C e hb hle hx) (.inr ⟨rfl,rfl⟩) h1 (h2 _ _) (LV.of_VR (.tup .nil))
  ·cases hr
 ·cases hr
end
section
variable {P:Program} {G:Gh}
theorem sT {t:TypeId} {cs:List aj} {off:Nat} {v:aj} {vs:List Value} (h:fg P t cs off=some v) (hv:cp G cs vs) (hs:dL cs=true):
 ∃y,(∀w:World,(part t ⟨vs⟩ off).run P w= .ok y w)/\VR G v y/\ ∀l,v≠ .tup l:=by
 simp only[fg,aG] at h
 obtain⟨g,hg,h⟩:=h
 replace h:=gH h
 rcases h with⟨g1,h⟩|⟨g1,h⟩<;>subst g1
 ·simp only[aG] at h
  obtain⟨n,hn,r,hr,h⟩:=h
  injection h with h;subst h
  obtain⟨h1,h2⟩:=u5 hr
  refine⟨.agg ⟨(vs.drop off).take n⟩,fun w=>?_,.agg ?_ ?_,by simp⟩
  ·have:(⟨vs⟩:Array Value).extract off (off+n)=⟨(vs.drop off).take n⟩:=by
    apply lp
    simp[List.extract]
   simp only[part,Sem.run_bind,AW hg,iQ,if_true,gY hn,Sem.run_pure,this]
  ·rw[h1]
   simp only[dL,np] at hs ⊢
   exact fun x hx=>hs x (uB (rH hx))
  ·rw[h1];exact(hv.drop off).take n
 ·split at h
  ·rename_i u rest hd
   injection h with h;subst h
   have hi:cs[off]? =some u:=by
    have:(cs.drop off)[0]? =some u:=by rw[hd];rfl
    simpa[rD] using this
   obtain⟨y,hy,hr⟩:=hv.get hi
   refine⟨y,fun w=>?_,hr,fun l e=>?_⟩
   ·simp[part,AW hg,hy]
   ·subst e
    simp only[dL,np] at hs
    have:=hs _ (lX hi)
    simp[aj.scal] at this
  ·cases h
theorem Tc {rec:TypeId->aj->aj->Option Bool} {d:Nat} {e:TypeId} {n:Nat} {xs ys:List aj} {xv yv:List Value} (hx:cp G xs xv) (hy:cp G ys yv) (sx:dL xs=true) (sy:dL ys=true)
 (hrec: ∀ {x y:aj} {X Y:Value} {r:Bool},rec e x y=some r->VR G x X->VR G y Y-> ∀w:World,(tn d e X Y).run P w= .ok r w) (w:World):
 ∀(k i:Nat) {r:Bool},w9 P rec e n xs ys k i=some r->
  ((forIn (m:=Sem) (List.range' i k) ((none,()):Option Bool×Unit) fun i _=>do
   let a<-part e ⟨xv⟩ (i*n)
   let b<-part e ⟨yv⟩ (i*n)
   let q<-tn d e a b
   if(!q)=true then pure (ForInStep.done (some false,())) else pure (ForInStep.yield (none,()))).run P w)= .ok (bif r then none else some false,()) w
 |0,i,r,h=>by simp[w9] at h;subst h;simp
 |k+1,i,r,h=>by
  simp only[w9,aG] at h
  obtain⟨x,hx1,y,hy1,q,hq,h⟩:=h
  obtain⟨X,hX,vX,_⟩:=sT hx1 hx sx
  obtain⟨Y,hY,vY,_⟩:=sT hy1 hy sy
  have hrun:=hrec hq vX vY
  rw[tk,List.forIn_cons]
  simp only[Sem.run_bind,hX,hY,hrun,iQ]
  cases q
  ·simp at h;subst h;simp
  ·simp at h
   simpa using Tc hx hy sx sy hrec w k (i+1) h
theorem FX {rec:TypeId->aj->aj->Option Bool} {d:Nat} {xs ys:List aj} {xv yv:List Value} (hx:cp G xs xv) (hy:cp G ys yv) (sx:dL xs=true) (sy:dL ys=true)
 (hrec: ∀ {e:TypeId} {x y:aj} {X Y:Value} {r:Bool},rec e x y=some r->VR G x X->VR G y Y-> ∀w:World,(tn d e X Y).run P w= .ok r w) (w:World):
 ∀(fs:List Field) {r:Bool},u9 P rec xs ys fs=some r->(Op.eqFields d ⟨xv⟩ ⟨yv⟩ fs).run P w= .ok r w
 | [],r,h=>by simp[u9] at h;subst h;simp[Op.eqFields]
 |f::fs,r,h=>by
  simp only[u9] at h
  replace h:=gH h
  rcases h with⟨hn,h⟩|⟨hn,h⟩
  ·have hn:f.name= "_" :=by simpa using hn
   simp only[Op.eqFields,hn]
   simpa using FX hx hy sx sy hrec w fs h
  ·have hn:f.name≠ "_" :=by simpa using hn
   simp only[aG] at h
   obtain⟨x,hx1,y,hy1,q,hq,h⟩:=h
   obtain⟨X,hX,vX,_⟩:=sT hx1 hx sx
   obtain⟨Y,hY,vY,_⟩:=sT hy1 hy sy
   have hrun:=hrec hq vX vY
   simp only[Op.eqFields,if_pos hn,Sem.run_bind,hX,hY,hrun,iQ]
   cases q
   ·simp at h;subst h;simp
   ·simp at h
    simpa using FX hx hy sx sy hrec w fs h
theorem Ib {t:TypeId} {fs:Array Field} (h:P.underlying t=some (.struct fs)):P.fieldsOf t=fs:=by simp[Program.fieldsOf,h]
theorem AR: ∀(d:Nat) {t:TypeId} {x y:aj} {X Y:Value} {r:Bool},ki P d t x y=some r->VR G x X->VR G y Y->
 ∀(D:Nat),d<=D-> ∀w:World,(tn D t X Y).run P w= .ok r w
 |0,_,_,_,_,_,_,h,_,_=>by simp[ki] at h
 |d+1,t,x,y,X,Y,r,h,hx,hy=>by
  intro D hD w
  obtain⟨D,rfl⟩: ∃E,D=E+1:=⟨D-1,by omega⟩
  simp only[ki,aG] at h
  obtain⟨desc,ht,h⟩:=h
  have hu:=dw (w:=w) ht
  split at h
  ·cases hx;cases hy;injection h with h;subst h;simp[tn,hu]
  ·cases hx;cases hy
   replace h:=bX h
   obtain⟨hk,h⟩:=h
   injection h with h;subst h
   have hk:=of_decide_eq_true (by simpa using hk)
   subst hk
   simp[tn,hu,bD]
  ·cases hx;cases hy;injection h with h;subst h
   rename_i a b
   have:=run_equalIn_string (P:=P) w D t ⟨⟨a⟩⟩ ⟨⟨b⟩⟩ ht
   rw[this]
   have e1: ∀l:List UInt8,(ByteArray.mk ⟨l⟩).toList=l:=fun l=>ByteArray.toList_mk l
   rw[e1,e1]
  ·rename_i fs xs ys
   cases hx with|agg sx hx=>cases hy with|agg sy hy=>
   replace h:=gH h
   rcases h with⟨_,h⟩|⟨hp,h⟩
   ·cases h
   ·rw[run_equalIn_struct w D t _ _ (by rw[Ib ht];exact ht) hp,Ib ht]
    exact FX hx hy sx sy (fun {e x y X Y r} hr vx vy w=>AR d hr vx vy D (by omega) w) w _ h
  ·rename_i len e xs ys
   cases hx with|agg sx hx=>cases hy with|agg sy hy=>
   simp only[aG] at h
   obtain⟨n,hn,h⟩:=h
   have:=Tc hx hy sx sy (d:=D) (fun {x y X Y r} hr vx vy w=>AR d hr vx vy D (by omega) w) w len 0 h
   simp only[tn,Sem.run_bind,hu,iQ,gY hn]
   rw[Std.Legacy.Range.forIn_eq_forIn_range']
   simp only[Std.Legacy.Range.size,Nat.sub_zero,Nat.add_sub_cancel,Nat.div_one]
   rw[this]
   cases r<;>simp
  all_goals first
   |(cases hx;cases hy;injection h with h;subst h;simp[tn,hu];done)
   |(cases h)
end
section
variable {P:Program} {G:Gh}
theorem akL {op:BinOp} {k:IntKind} {a b:Int} {v:aj} (h:Dp op k a b=some v) (t:TypeId) (w:World) (h1:op≠ .shl) (h2:op≠ .shr):
 ∃y,(binOp op t (.int k a) (.int k b)).run P w= .ok y w/\VR G v y:=by
 cases op<;>simp only[Dp,bg,reduceCtorEq] at h<;>first
  |(subst h;exact⟨_,by simp[binOp];rfl,by constructor⟩)
  |(replace h:=gH h
    rcases h with⟨_,h⟩|⟨h0,h⟩
    ·cases h
    ·injection h with h;subst h
     have h0:b≠0:=by simpa[bD] using h0
     exact⟨_,by simp[binOp,Op.intDiv,h0];rfl,by constructor⟩)
  |exact absurd rfl h1
  |exact absurd rfl h2
theorem Rp (a b:List UInt8):leBytes a b=(hZ a b||a==b):=rfl
theorem akO {op:BinOp} {a b:List UInt8} {v:aj} (h:Gg op a b=some v) (t:TypeId) (w:World):
 ∃y,(binOp op t (.string ⟨⟨a⟩⟩) (.string ⟨⟨b⟩⟩)).run P w= .ok y w/\VR G v y:=by
 have e1: ∀l:List UInt8,(ByteArray.mk ⟨l⟩).toList=l:=fun l=>ByteArray.toList_mk l
 cases op<;>simp only[Gg,bg,reduceCtorEq] at h<;>first
  |(subst h;exact⟨_,by simp[binOp,Op.stringOp,e1];rfl,by constructor⟩)
  |(subst h;exact⟨_,by simp[binOp,Op.stringOp,e1,<-Rp];rfl,by constructor⟩)
  |(replace h:=bX h
    obtain⟨h0,h⟩:=h
    injection h with h;subst h
    have h0:=jl h0
    refine⟨.string ⟨⟨a++b⟩⟩,?_,.str _⟩
    have:=run_string_add_sum (P:=P) w ⟨⟨a⟩⟩ ⟨⟨b⟩⟩ (by show a.length+b.length<=_;omega)
    rw[show(ByteArray.mk ⟨a⟩++ByteArray.mk ⟨b⟩)=ByteArray.mk ⟨a++b⟩ from ByteArray.mk_append_mk a b] at this
    simpa[binOp] using this)
set_option maxHeartbeats 1000000 in
theorem Tb {t:TypeId} {x y:aj} {X Y:Value} {r:Bool} (h:qk P t x y=some r) (hx:VR G x X) (hy:VR G y Y) (ox oy:Operand) (op:BinOp) (w:World):
 (eqGuard op t ox oy X Y).run P w= .ok () w/\ ∀w:World,(Op.equal t X Y).run P w= .ok r w:=by
 have h8: ∀ {x y},ki P 8 t x y=some r->VR G x X->VR G y Y-> ∀w:World,(Op.equal t X Y).run P w= .ok r w:=fun h hx hy w=>AR 8 h hx hy 10000 (by omega) w
 unfold qk at h
 split at h
 ·replace h:=gH h
  rcases h with⟨_,h⟩|⟨hg,h⟩
  ·cases h
  ·refine⟨?_,h8 h hx hy⟩
   cases hx;cases hy
   exact run_eqGuard_agg w op t ox oy _ _ hg
 ·refine⟨?_,h8 h hx hy⟩
  rename_i hne
  simp only[ki,aG] at h
  obtain⟨desc,ht,h⟩:=h
  cases hx<;>cases hy<;>first
   |(exact absurd rfl (hne _ _ rfl))
   |(simp at h;done)
   |(cases op<;>simp[eqGuard])
theorem akI {op:BinOp} {t:TypeId} {x y v:aj} {X Y:Value} (h:fy P op t x y=some v) (hx:VR G x X) (hy:VR G y Y) (ox oy:Operand) (w:World):
 ∃z,((do eqGuard op t ox oy X Y;binOp op t X Y):Sem Value).run P w= .ok z w/\VR G v z:=by
 unfold fy at h
 split at h
 ·rename_i k a k' b
  cases hx;cases hy
  have hg: ∀w:World,(eqGuard op t ox oy (.int k a) (.int k' b)).run P w= .ok () w:=fun w=>by cases op<;>simp[eqGuard]
  simp only[Sem.run_bind,hg,iQ]
  split at h
  ·replace h:=gH h
   rcases h with⟨_,h⟩|⟨h0,h⟩
   ·cases h
   ·injection h with h;subst h
    have h0: ¬b<0:=by simpa[dz] using h0
    exact⟨_,by simp[binOp,Op.shift,h0];rfl,by constructor⟩
  ·replace h:=gH h
   rcases h with⟨_,h⟩|⟨h0,h⟩
   ·cases h
   ·injection h with h;subst h
    have h0: ¬b<0:=by simpa[dz] using h0
    exact⟨_,by simp[binOp,Op.shift,h0];rfl,by constructor⟩
  ·rename_i h1 h2
   replace h:=bX h
   obtain⟨hk,h⟩:=h
   have hk:k=k':=by simpa using hk
   subst hk
   exact akL h t w h1 h2
 ·cases hx;cases hy
  have hg: ∀(a b:ByteArray) (w:World),(eqGuard op t ox oy (.string a) (.string b)).run P w= .ok () w:=fun a b w=>by cases op<;>simp[eqGuard]
  simp only[Sem.run_bind,hg,iQ]
  exact akO h t w
 ·rename_i hni hns
  split at h
  ·simp only[aG] at h
   obtain⟨b,hb,h⟩:=h
   injection h with h;subst h
   obtain⟨hg,he⟩:=Tb hb hx hy ox oy .eql w
   refine⟨.bool b,?_,.bool b⟩
   simp only[Sem.run_bind,hg,iQ]
   cases hx<;>cases hy<;>first
    |(exact absurd rfl (hni _ _ _ _ rfl))
    |(exact absurd rfl (hns _ _ rfl))
    |(simp[binOp,he])
  ·simp only[aG] at h
   obtain⟨b,hb,h⟩:=h
   injection h with h;subst h
   obtain⟨hg,he⟩:=Tb hb hx hy ox oy .neq w
   refine⟨.bool (!b),?_,.bool (!b)⟩
   simp only[Sem.run_bind,hg,iQ]
   cases hx<;>cases hy<;>first
    |(exact absurd rfl (hni _ _ _ _ rfl))
    |(exact absurd rfl (hns _ _ rfl))
    |(simp[binOp,he])
  ·cases h
end
theorem Io {sz:Nat} {xs:List aj} (hsz: ∀x∈xs,x.cells.length=sz) {j:Nat} (hj:j<xs.length) {i:Nat} (hi:i<sz):
 (bQ xs)[j*sz+i]? =(iJ xs j).cells[i]? :=by
 induction xs generalizing j with
 |nil=>simp at hj
 |cons x xs ih=>
  have hx:=hsz x (by simp)
  cases j with
  |zero=>simp only[bQ,iJ,Nat.zero_mul,aQ];rw[o8 (by omega)]
  |succ j=>
   simp only[bQ,iJ]
   rw[pY (by rw[hx,uG];omega),hx]
   have:(j+1)*sz+i-sz=j*sz+i:=by rw[uG];omega
   rw[this]
   exact ih (fun y hy=>hsz y (by simp[hy])) (by simpa using hj)
theorem aiY {xs:List aj} {j:Nat} (hj:j<xs.length):iJ xs j∈xs:=by
 induction xs generalizing j with
 |nil=>simp at hj
 |cons x xs ih=>
  cases j with
  |zero=>simp[iJ]
  |succ j=>simp only[iJ];exact List.mem_cons_of_mem _ (ih (by simpa using hj))
theorem kK {sz:Nat} {xs:List aj} (hsz: ∀x∈xs,x.cells.length=sz):(bQ xs).length=xs.length*sz:=by
 induction xs with
 |nil=>simp[bQ]
 |cons x xs ih=>simp only[bQ,dp,aP,hsz x (by simp),ih (fun y hy=>hsz y (by simp[hy])),uG];omega
section
variable {P:Program} {mk:bn} {G:Gh} {s s':St} {B:Nat->Nat} {fr:Fr} {a:Act} {w:World} {o:Oper} {lo hi:Nat} {v:aj} {loc':Loc}
theorem ai7 {op:BinOp} {t yt:TypeId} {x y:Operand} (ho:o.op= .binOp op t x y yt) (wr:WR G s.heap w) (fx:dg G s.heap B fr a.tmps w)
 (he:Ax P op t x y fr s=some (v,loc',s')):fP P G s.heap w B fr.loc lo hi a o v loc' s'.heap:=by
 simp only[Ax,aG] at he
 obtain⟨p,hp,q,hq,he⟩:=he
 replace he:=jR he
 obtain⟨he,rfl,rfl⟩:=he
 obtain⟨z,hz,hv⟩:=akI he (fx.evc hp).1 (fx.evc hq).1 x y w
 refine .pure wr fx (y:=z) ?_ (LV.of_VR hv)
 simp only[execOp,ho]
 rw[Sem.run_bind,hz]
 rfl
theorem ajx {op:UnOp} {t:TypeId} {x:Operand} (ho:o.op= .unOp op t x) (wr:WR G s.heap w) (fx:dg G s.heap B fr a.tmps w)
 (he:kP x (wo op) fr s=some (v,loc',s')):fP P G s.heap w B fr.loc lo hi a o v loc' s'.heap:=by
 simp only[kP,aG] at he
 obtain⟨p,hp,he⟩:=he
 replace he:=jR he
 obtain⟨he,rfl,rfl⟩:=he
 have hv:=(fx.evc hp).1
 generalize hx:a.eval x=X at hv
 unfold wo at he
 split at he
 ·injection he with he;subst he;cases hv
  exact .pure wr fx (by simp[execOp,ho,hx,Op.unary,Op.intArith]) (LV.of_VR (.int _ _))
 ·injection he with he;subst he;cases hv
  exact .pure wr fx (by simp[execOp,ho,hx,Op.unary]) (LV.of_VR (.bool _))
 ·cases he
theorem ajc {src dst:TypeId} {x:Operand} (ho:o.op= .convert src dst x) (wr:WR G s.heap w) (fx:dg G s.heap B fr a.tmps w)
 (he:kP x (yT P src dst) fr s=some (v,loc',s')):fP P G s.heap w B fr.loc lo hi a o v loc' s'.heap:=by
 simp only[kP,aG] at he
 obtain⟨p,hp,he⟩:=he
 replace he:=jR he
 obtain⟨he,rfl,rfl⟩:=he
 have hv:=(fx.evc hp).1
 generalize hx:a.eval x=X at hv
 simp only[yT,aG] at he
 obtain⟨d1,h1,d2,h2,he⟩:=he
 split at he
 ·injection he with he;subst he;cases hv
  exact .pure wr fx (by simp[execOp,ho,hx,convert,dw h1,dw h2,Conv.intToInt]) (LV.of_VR (.int _ _))
 ·injection he with he;subst he;cases hv
  exact .pure wr fx (by simp[execOp,ho,hx,convert,dw h1,dw h2]) (LV.of_VR (.str _))
 ·cases he
theorem ajm {fn:Fn} {first captured:Array Operand} (ho:o.op= .makeFunc fn first captured) (wr:WR G s.heap w) (fx:dg G s.heap B fr a.tmps w)
 (he:pF fr.env fn first captured=some v):fP P G s.heap w B fr.loc lo hi a o v fr.loc s.heap:=by
 unfold pF at he
 split at he
 ·simp only[aG] at he
  obtain⟨p,hp,q,hq,he⟩:=he
  injection he with he;subst he
  rename_i f
  refine .pure wr fx (y:=.func (.func f) (first.map a.eval) (captured.map a.eval)) (by simp[execOp,ho,Instr.makeFunc]) (LV.of_VR ?_)
  have h1:=(fx.evcs hp).1
  have h2:=(fx.evcs hq).1
  have e1:first.map a.eval=⟨first.toList.map a.eval⟩:=by apply lp;simp
  have e2:captured.map a.eval=⟨captured.toList.map a.eval⟩:=by apply lp;simp
  rw[e1,e2]
  exact .func h1 h2
 ·cases he
theorem ajf {x:Operand} {i:Nat} (ho:o.op= .extract x i) (wr:WR G s.heap w) (fx:dg G s.heap B fr a.tmps w)
 (he:nZ x (iE i) fr s=some (v,loc',s')):fP P G s.heap w B fr.loc lo hi a o v loc' s'.heap:=by
 simp only[nZ,aG] at he
 obtain⟨p,hp,he⟩:=he
 replace he:=jR he
 obtain⟨he,rfl,rfl⟩:=he
 have hl:=fx.ev hp
 unfold iE at he
 split at he
 ·have hl:VR G _ _:=hl
  generalize hx:a.eval x=X at hl
  cases hl with
  |tup hs=>
   obtain⟨y,hy,hv⟩:=hs.get he
   exact .pure wr fx (y:=y) (by simp[execOp,ho,hx,Instr.extract,hy]) (LV.of_VR hv)
 ·cases he
theorem ajh {t:TypeId} {x:Operand} {f:Nat} (ho:o.op= .fieldAddr t x f) (wr:WR G s.heap w) (fx:dg G s.heap B fr a.tmps w)
 (he:nZ x (fun x=>fE P fr.loc t x f) fr s=some (v,loc',s')):fP P G s.heap w B fr.loc lo hi a o v loc' s'.heap:=by
 simp only[nZ,aG] at he
 obtain⟨p,hp,he⟩:=he
 replace he:=jR he
 obtain⟨he,rfl,rfl⟩:=he
 have hl:=fx.ev hp
 simp only[fE,aG] at he
 obtain⟨d,hd,he⟩:=he
 split at he
 ·rename_i fields
  simp only[aG] at he
  obtain⟨fd,hfd,n,hn,he⟩:=he
  replace he:=gH he
  rcases he with⟨_,he⟩|⟨h0,he⟩
  ·cases he
  ·have h0:=uS h0
   have hrun: ∀b off,a.eval x= .pointer (some ⟨b,off,none⟩)->(execOp a.eval o).run P w= .ok (.value (.pointer (some ⟨b,off+fd.offset,none⟩))) w:=by
    intro b off hx
    simp[execOp,ho,hx,Instr.fieldAt,dw hd,hfd,Instr.sureAddr,fieldPlace,gY hn,h0,l0]
   split at he
   ·rename_i l g off
    replace he:=bX he
    obtain⟨hg,he⟩:=he
    have hg:=(fp hg).symm
    injection he with he;subst he
    obtain⟨h1,_,h2⟩:=hl
    exact .pure wr fx (hrun _ _ (h2 hg)) ⟨h1,⟨_,rfl⟩,fun _=>rfl⟩
   ·injection he with he;subst he
    have hl:VR G _ _:=hl
    generalize hx:a.eval x=X at hl
    cases hl with
    |ptr hn=>exact .pure wr fx (hrun _ _ hx) (LV.of_VR (by rw[ou];exact .ptr hn))
   ·injection he with he;subst he
    have hl:VR G _ _:=hl
    generalize hx:a.eval x=X at hl
    cases hl with
    |ro hro=>exact .pure wr fx (hrun _ _ hx) (LV.of_VR (.ro fun i y hy=>by rw[ou];exact hro _ _ (by rwa [rD] at hy)))
   ·cases he
 ·cases he
theorem ajg {t:TypeId} {x:Operand} {f:Nat} (ho:o.op= .field t x f) (wr:WR G s.heap w) (fx:dg G s.heap B fr a.tmps w)
 (he:kP x (fun x=>yZ P t x f) fr s=some (v,loc',s')):fP P G s.heap w B fr.loc lo hi a o v loc' s'.heap:=by
 simp only[kP,aG] at he
 obtain⟨p,hp,he⟩:=he
 replace he:=jR he
 obtain⟨he,rfl,rfl⟩:=he
 have hv:=(fx.evc hp).1
 simp only[yZ,aG] at he
 obtain⟨d,hd,he⟩:=he
 split at he
 ·simp only[aG] at he
  obtain⟨fd,hfd,he⟩:=he
  split at he
  ·generalize hx:a.eval x=X at hv
   cases hv with
   |agg hs hvs=>
    obtain⟨y,hy,hr,_⟩:=sT he hvs hs
    exact .pure wr fx (y:=y) (by simp[execOp,ho,hx,Instr.field,dw hd,hfd,asAgg,hy]) (LV.of_VR hr)
  ·cases he
 ·cases he
theorem vH {i:aj} {n:Nat} (h:fF i=some n): ∃k,i= .int k (.ofNat n):=by
 unfold fF at h
 split at h
 ·injection h with h;subst h;exact⟨_,rfl⟩
 ·cases h
theorem ajj {t:TypeId} {x i:Operand} (ho:o.op= .indexAddr t x i) (wr:WR G s.heap w) (fx:dg G s.heap B fr a.tmps w)
 (he:vK P t x i fr s=some (v,loc',s')):fP P G s.heap w B fr.loc lo hi a o v loc' s'.heap:=by
 simp only[vK,aG] at he
 obtain⟨p,hp,q,hq,he⟩:=he
 replace he:=jR he
 obtain⟨he,rfl,rfl⟩:=he
 have hl:=fx.ev hp
 have hi:=fx.ev hq
 simp only[iH,aG] at he
 obtain⟨j,hj,d,hd,he⟩:=he
 obtain⟨k,rfl⟩:=vH hj
 have hi:VR G (.int k (.ofNat j)) (a.eval i):=hi
 generalize hI:a.eval i=I at hi
 cases hi
 split at he
 ·rename_i len e
  simp only[aG] at he
  obtain⟨n,hn,he⟩:=he
  replace he:=bX he
  obtain⟨hlt,he⟩:=he
  have hlt:=mR hlt
  have hrun: ∀b off,a.eval x= .pointer (some ⟨b,off,none⟩)->(execOp a.eval o).run P w= .ok (.value (.pointer (some ⟨b,off+j*n,none⟩))) w:=by
   intro b off hx
   simp[execOp,ho,hx,hI,Instr.indexAt,asIntOf,dw hd,Instr.sureAddr,gY hn,hlt,l0]
  split at he
  ·rename_i l g off
   replace he:=bX he
   obtain⟨hg,he⟩:=he
   have hg:=(fp hg).symm
   injection he with he;subst he
   obtain⟨h1,_,h2⟩:=hl
   exact .pure wr fx (hrun _ _ (h2 hg)) ⟨h1,⟨_,rfl⟩,fun _=>rfl⟩
  ·injection he with he;subst he
   have hl:VR G _ _:=hl
   generalize hx:a.eval x=X at hl
   cases hl with
   |ptr hn=>exact .pure wr fx (hrun _ _ hx) (LV.of_VR (by rw[ou];exact .ptr hn))
  ·injection he with he;subst he
   have hl:VR G _ _:=hl
   generalize hx:a.eval x=X at hl
   cases hl with
   |ro hro=>exact .pure wr fx (hrun _ _ hx) (LV.of_VR (.ro fun i y hy=>by rw[ou];exact hro _ _ (by rwa [rD] at hy)))
  ·cases he
 ·rename_i e
  simp only[aG] at he
  obtain⟨n,hn,he⟩:=he
  split at he
  ·rename_i sz xs r
   replace he:=bX he
   obtain⟨hc,he⟩:=he
   simp only[cZ] at hc
   obtain rfl:=fp hc.1
   have hlt:=mR hc.2
   injection he with he;subst he
   have hl:VR G _ _:=hl
   generalize hx:a.eval x=X at hl
   cases hl with
   |list hsp hpos hsz hcap hro hr=>
    rename_i ad cap
    obtain⟨b,off,sp⟩:=ad
    have hsp:sp=none:=by
     rcases hsp with h|h
     ·omega
     ·exact h
    subst hsp
    refine .pure wr fx (y:=.pointer (some ⟨b,off+j*sz,none⟩)) ?_ (LV.of_VR (.ro ?_))
    ·simp[execOp,ho,hx,hI,Instr.indexAt,asIntOf,dw hd,gY hn,hlt,l0]
    ·intro i y hy
     rw[ou]
     refine hro _ _ ?_
     have hi:i<sz:=by
      have:=hsz _ (aiY hlt)
      rcases im i (iJ xs j).cells.length with h|h
      ·omega
      ·simp[jF h] at hy
     rw[Io hsz hlt hi]
     exact hy
  ·rename_i sz m off len lcap
   replace he:=bX he
   obtain⟨hc,he⟩:=he
   simp only[cZ] at hc
   obtain rfl:=fp hc.1
   have hlt:=mR hc.2
   injection he with he;subst he
   have hl:VR G _ _:=hl
   generalize hx:a.eval x=X at hl
   cases hl with
   |arr hat hsp hpos hlen hcap hadr hdim hd'=>
    rename_i ad bd cap dm
    obtain⟨b,o',sp⟩:=ad
    simp only at hsp;subst hsp
    rcases hadr with h0|⟨rfl,rfl⟩
    ·omega
    ·refine .pure wr fx (y:=.pointer (some ⟨bd.block,bd.off+off+j*sz,none⟩)) ?_ (LV.of_VR ?_)
     ·simp[execOp,ho,hx,hI,Instr.indexAt,asIntOf,dw hd,gY hn,hlt,l0]
     ·rw[ou];exact .ptr hat
  ·cases he
 ·cases he
theorem aji {t:TypeId} {x i:Operand} (ho:o.op= .index t x i) (wr:WR G s.heap w) (fx:dg G s.heap B fr a.tmps w)
 (he:AA P t x i fr s=some (v,loc',s')):fP P G s.heap w B fr.loc lo hi a o v loc' s'.heap:=by
 simp only[AA,aG] at he
 obtain⟨p,hp,q,hq,he⟩:=he
 replace he:=jR he
 obtain⟨he,rfl,rfl⟩:=he
 have hl:=(fx.evc hp).1
 have hi:=fx.ev hq
 simp only[qn,aG] at he
 obtain⟨j,hj,d,hd,he⟩:=he
 obtain⟨k,rfl⟩:=vH hj
 have hi:VR G (.int k (.ofNat j)) (a.eval i):=hi
 generalize hI:a.eval i=I at hi
 cases hi
 generalize hx:a.eval x=X at hl
 split at he
 ·rename_i len e
  simp only[aG] at he
  obtain⟨n,hn,he⟩:=he
  replace he:=bX he
  obtain⟨hlt,he⟩:=he
  have hlt:=mR hlt
  split at he
  ·cases hl with
   |agg hs hvs=>
    obtain⟨y,hy,hr,_⟩:=sT he hvs hs
    exact .pure wr fx (y:=y) (by simp[execOp,ho,hx,hI,Instr.index,asIntOf,dw hd,gY hn,hlt,hy]) (LV.of_VR hr)
  ·cases he
 ·split at he
  ·rename_i bs
   split at he
   ·rename_i b rest hb
    injection he with he;subst he
    cases hl
    have hg:bs[j]? =some b:=by
     have:(bs.drop j)[0]? =some b:=by rw[hb];rfl
     simpa[rD] using this
    refine .pure wr fx (y:=.int .u8 b.toNat) ?_ (LV.of_VR (.int _ _))
    have hg':(ByteArray.mk ⟨bs⟩)[j]? =some b:=by
     have hlt:j<bs.length:=by
      rcases im j bs.length with h|h
      ·exact h
      ·simp[jF h] at hg
     rw[js hlt] at hg
     rw[getElem?_pos (ByteArray.mk ⟨bs⟩) j (by exact hlt)]
     exact hg
    simp[execOp,ho,hx,hI,Instr.index,asIntOf,dw hd,hg']
   ·cases he
  ·cases he
 ·cases he
end
section
variable {P:Program} {G:Gh} {h:bv bH} {B:Nat->Nat} {fr:Fr} {a:Act} {w:World}
theorem amw {cs new cs':List aj} {off:Nat} {vs ys:List Value} (hw:cV cs off new=some cs') (hv:cp G cs vs) (hy:cp G new ys):
 off+ys.length<=vs.length/\cp G cs' (vs.take off++(ys++vs.drop (off+ys.length))):=by
 simp only[cV] at hw
 obtain⟨h1,h2⟩:=bX hw
 have h1:=jl h1
 injection h2 with h2;subst h2
 have:=hv.length
 have:=hy.length
 refine⟨by omega,?_⟩
 rw[<-hy.length]
 exact(hv.take off).append (hy.append (hv.drop _))
theorem Tq {a b:List aj}:dL (a++b)=(dL a&&dL b):=by simp[dL]
theorem amx {cs new cs':List aj} {off:Nat} (hw:cV cs off new=some cs') (hv:dL cs=true) (hy:dL new=true):dL cs'=true:=by
 simp only[cV] at hw
 obtain⟨h1,h2⟩:=bX hw
 injection h2 with h2;subst h2
 simp only[dL,np,List.mem_append] at hv hy ⊢
 rintro x (hx|hx|hx)
 ·exact hv x (rH hx)
 ·exact hy x hx
 ·exact hv x (uB hx)
theorem Yq (cells:List Value) (off:Nat): ∀(ys:List Value) (k:Nat),off+k+ys.length<=cells.length-> ∀(C:Array Value),C.toList=cells->
 ((ys.zipIdx k).foldl (fun cs (x:Value×Nat)=>cs.setIfInBounds (off+x.2) x.1) C).toList=cells.take (off+k)++(ys++cells.drop (off+k+ys.length)):=by
 intro ys
 induction ys generalizing cells with
 |nil=>intro k _ C hC;simp[hC]
 |cons y ys ih=>
  intro k hk C hC
  simp only[aP] at hk
  simp only[List.zipIdx_cons,List.foldl_cons]
  rw[ih (cells.set (off+k) y) (k+1) (by simp;omega) _ (by simp[hC])]
  have e1:off+(k+1)=off+k+1:=by omega
  rw[e1]
  simp only[aP]
  have e2:(cells.set (off+k) y).take (off+k+1)=cells.take (off+k)++[y]:=by
   rw[List.take_set]
   apply List.ext_getElem?
   intro i
   by_cases h1:i<off+k
   ·rw[o8 (by simp;omega),List.getElem?_set_ne (by omega),uA,uA,if_pos (by omega),if_pos h1]
   ·by_cases h2:i=off+k
    ·subst h2
     rw[pY (by simp;omega),List.getElem?_set_self (by simp;omega)]
     simp[wF (by omega:off+k<=cells.length)]
    ·rw[jF (by simp;omega),jF (by simp;omega)]
  have e3:(cells.set (off+k) y).drop (off+k+1+ys.length)=cells.drop (off+k+(ys.length+1)):=by
   rw[List.drop_set,if_pos (by omega)]
   congr 1;omega
  rw[e2,e3]
  simp
theorem AU {place:Nat->Option (Nat×Nat)} (fx:dg G h B fr a.tmps w): ∀ {parts:List (Nat×Operand)} {cells cs:List aj} {C:Array Value},dQ place fr.env cells parts=some cs->cp G cells C.toList->dL cells=true->
 ∃D:Array Value,Instr.fill place C (parts.map fun(x:Nat×Operand)=>(x.1,a.eval x.2))=some D/\cp G cs D.toList/\dL cs=true
 | [],_,_,C,hf,hv,hs=>by simp[dQ] at hf;subst hf;exact⟨C,rfl,hv,hs⟩
 |(i,x)::rest,cells,cs,C,hf,hv,hs=>by
  simp only[dQ,aG] at hf
  obtain⟨u,hu,⟨off,size⟩,hp,hf⟩:=hf
  replace hf:=bX hf
  obtain⟨hl,hf⟩:=hf
  have hl:=fp hl
  simp only[aG] at hf
  obtain⟨c1,hw,hf⟩:=hf
  obtain⟨hx,ht⟩:=fx.evc hu
  have hc:=hx.cells
  obtain⟨hle,hv1⟩:=amw hw hv hc
  have hs1:=amx hw hs (hx.scals_cells ht)
  have hlen:=hc.length
  rw[hl] at hlen
  simp only[td] at hlen hle
  let C1:Array Value:=(a.eval x).cells.zipIdx.foldl (fun cs (x:Value×Nat)=>cs.setIfInBounds (off+x.2) x.1) C
  have hC1:C1.toList=C.toList.take off++((a.eval x).cells.toList++C.toList.drop (off+(a.eval x).cells.toList.length)):=by
   have:=Yq C.toList off (a.eval x).cells.toList 0 (by simp;omega) C rfl
   simp only[dc] at this
   rw[<-this]
   simp only[C1]
   rw[<-Array.foldl_toList,Array.toList_zipIdx]
  rw[<-hC1] at hv1
  obtain⟨D,hD,h2,h3⟩:=AU fx (place:=place) (parts:=rest) hf hv1 hs1
  refine⟨D,?_,h2,h3⟩
  simp only[List.map_cons,Instr.fill,hp]
  rw[if_neg]
  ·exact hD
  ·simp;omega
end
section
variable {P:Program} {mk:bn} {G:Gh} {s s':St} {B:Nat->Nat} {fr:Fr} {a:Act} {w:World} {o:Oper} {lo hi:Nat} {v:aj} {loc':Loc}
theorem RT (w:World): ∀ {fs:List Field} {pl:List (Nat×Nat)},xZ P fs=some pl->
 ((fs.mapM fun f=>do pure (f.offset,<-sizeOf f.type):Sem (List (Nat×Nat)))).run P w= .ok pl w
 | [],_,h=>by simp[xZ] at h;subst h;simp
 |f::fs,_,h=>by
  simp only[xZ,aG] at h
  obtain⟨n,hn,r,hr,h⟩:=h
  injection h with h;subst h
  simp only[List.mapM_cons,Sem.run_bind,gY hn,iQ,Sem.run_pure,RT w hr]
theorem ai9 {t:TypeId} {parts:Array (Nat×Operand)} (ho:o.op= .build t parts) (wr:WR G s.heap w) (fx:dg G s.heap B fr a.tmps w)
 (he:gm P t parts.toList fr.env=some v):fP P G s.heap w B fr.loc lo hi a o v fr.loc s.heap:=by
 simp only[gm,aG] at he
 obtain⟨z,hz,d,hd,he⟩:=he
 obtain⟨i,zv,hi,hzv,hov⟩:=yu hz
 obtain⟨hzr,hzt⟩:=rl G hov
 split at he
 ·rename_i fields
  simp only[aG] at he
  obtain⟨pl,hpl,cs,hf,he⟩:=he
  injection he with he;subst he
  obtain⟨D,hD,hv,hs⟩:=AU fx hf hzr.cells (hzr.scals_cells hzt)
  refine .pure wr fx (y:=.agg D) ?_ (LV.of_VR (by simpa using VR.agg hs hv))
  have hm:=RT (P:=P) w hpl
  simp at hm
  have hD':Instr.fill (fun x=>pl[x]?) zv.cells (parts.toList.map fun(x:Nat×Operand)=>(x.1,a.eval x.2))=some D:=hD
  simp[execOp,ho,Instr.build,qC hi hzv,dw hd,Array.mapM_eq_mapM_toList,hm,hD']
 ·rename_i len e
  simp only[aG] at he
  obtain⟨n,hn,cs,hf,he⟩:=he
  injection he with he;subst he
  obtain⟨D,hD,hv,hs⟩:=AU fx hf hzr.cells (hzr.scals_cells hzt)
  refine .pure wr fx (y:=.agg D) ?_ (LV.of_VR (by simpa using VR.agg hs hv))
  simp[execOp,ho,Instr.build,qC hi hzv,dw hd,gY hn,hD]
 ·cases he
theorem AO {z:List aj} {zs:List Value} (hz:cp G z zs): ∀n:Nat, ∃R:List Value,cp G (gd z n) R/\R.length=n*zs.length/\ ∀i:Nat,i<n*zs.length->R[i]? =zs[i % zs.length]?
 |0=>⟨[],.nil,by simp,by simp⟩
 |n+1=>by
  obtain⟨R,h1,h2,h3⟩:=AO hz n
  refine⟨zs++R,hz.append h1,by simp[h2,uG];omega,fun i hi=>?_⟩
  by_cases h:i<zs.length
  ·rw[o8 h,Nat.mod_eq_of_lt h]
  ·rw[pY (by omega)]
   have:i-zs.length<n*zs.length:=by rw[uG] at hi;omega
   rw[h3 _ this,Nat.mod_eq_sub_mod (by omega:i≥zs.length)]
theorem AP {z:List aj} (hz:dL z=true): ∀n:Nat,dL (gd z n)=true
 |0=>rfl
 |n+1=>by simp[gd,Tq,hz,AP hz n]
theorem GA {zs:Array Value} {R:List Value} {n:Nat} (h1:R.length=n*zs.toList.length) (h2: ∀i:Nat,i<n*zs.toList.length->R[i]? =zs.toList[i % zs.toList.length]?):
 ((Array.range (n*zs.size)).map (fun i=>zs[i % zs.size]!))=⟨R⟩:=by
 apply lp
 simp only[Array.toList_map,Array.toList_range]
 apply List.ext_getElem?
 intro i
 simp only[td] at h1 h2
 by_cases hi:i<n*zs.size
 ·rw[h2 i hi]
  have hpos:0<zs.size:=by
   rcases tl zs.size with h|h
   ·rw[h] at hi;omega
   ·exact h
  simp[hi,Nat.mod_lt i hpos]
 ·rw[jF (by simp;omega),jF (by omega)]
theorem uW {g:Bool} {sz:Nat} (hg:g=false->sz=1): ∀ {n:Nat} {cs xs:List aj},ip g sz n cs=some xs->dL cs=true->xs.length=n/\bQ xs=cs/\ ∀x∈xs,x.cells.length=sz
 |0,[],_,h,_=>by simp[ip] at h;subst h;exact⟨rfl,rfl,by simp⟩
 |0,_::_,_,h,_=>by simp[ip] at h
 |n+1,cs,xs,h,hs=>by
  simp only[ip] at h
  replace h:=gH h
  rcases h with⟨g1,h⟩|⟨g1,h⟩
  ·simp only[aG] at h
   obtain⟨e,hc,r,hr,h⟩:=h
   injection h with h;subst h
   obtain⟨h1,h2⟩:=u5 hc
   have hs':dL (cs.drop sz)=true:=by
    simp only[dL,np] at hs ⊢
    exact fun x hx=>hs x (uB hx)
   obtain⟨a1,a2,a3⟩:=uW hg hr hs'
   refine⟨by simp[a1],?_,?_⟩
   ·simp only[bQ,aj.cells,a2,h1,nq,nr]
   ·intro x hx
    simp at hx
    rcases hx with rfl|hx
    ·exact h2
    ·exact a3 x hx
  ·split at h
   ·rename_i u rest
    simp only[aG] at h
    obtain⟨r,hr,h⟩:=h
    injection h with h;subst h
    simp only[dL,mH,cZ] at hs
    obtain⟨a1,a2,a3⟩:=uW hg hr hs.2
    have hu:u.cells=[u]:=by cases u<;>first|rfl|(simp[aj.scal] at hs)
    refine⟨by simp[a1],by simp[bQ,hu,a2],?_⟩
    intro x hx
    simp at hx
    rcases hx with rfl|hx
    ·rw[hu,hg g1];rfl
    ·exact a3 x hx
   ·cases h
def Gh.fixed (G:Gh) (w:World) (cs:List aj):Gh:=G.more w.heap.size (fun i=>cs[i]?) (none)
theorem Gh.fixed_ro (G:Gh) (w:World) (cs:List aj) (i:Nat):(G.fixed w cs).ro w.heap.size i=cs[i]? :=by simp[Gh.fixed,Gh.more]
theorem WR.fixed {h:bv bH} (x:WR G h w) {cs:List aj} {C:Array Value} (e:TypeId) (hv:cp G cs C.toList) (hs:dL cs=true):
 WR (G.fixed w cs) h (w.alloc (.cells C e))/\ ∀lo hi,dr G h w (G.fixed w cs) h (w.alloc (.cells C e)) lo hi:=
 x.alloc (.cells C e) (fun i=>cs[i]?) none (fun i v hi=>by
  obtain⟨h1,y,hy,h2⟩:=hv.rows hs i v hi
  exact⟨h1,C,e,rfl,y,hy,h2.mono (x.more_le _ _)⟩) (by simp)
theorem r0 {e:TypeId} {E:EI} (h:tI P e=some E):fu P e=some E.n/\B0 P e=some E.b/\xm P e=some E.g/\0<E.n/\(E.g=false->E.n=1)/\
 ∃i zv,0<E.b/\P.info? e=some i/\i.zero=some zv/\ofValue zv=some E.z/\zv.cells.size=E.n/\i.bytes=E.b:=by
 simp only[tI,aG] at h
 obtain⟨n,hn,b,hb,g,hg,z,hz,h⟩:=h
 replace h:=bX h
 obtain⟨hc,h⟩:=h
 injection h with h;subst h
 simp only[cZ,tf] at hc
 obtain⟨i,zv,hi,hzv,hov⟩:=yu hz
 refine⟨hn,hb,hg,mR hc.1.1.1,?_,i,zv,mR hc.2,hi,hzv,hov,?_,?_⟩
 ·intro hg'
  rcases hc.1.2 with h|h
  ·have hg':g=false:=hg'
   rw[hg'] at h;cases h
  ·exact fp h
 ·have:=((rl ⟨fun _=>none,fun _ _=>none,fun _=>none⟩ hov).1.cells).length
  rw[fp hc.1.1.2] at this
  simpa using this.symm
 ·simp only[B0,aG] at hb
  obtain⟨i',hi',hb⟩:=hb
  rw[hi] at hi';injection hi' with hi';subst hi'
  injection hb
theorem yh {t:TypeId} {E:EI} (h:jp P t=some E): ∃e,P.underlying t=some (.slice e)/\tI P e=some E:=by
 simp only[jp,aG] at h
 obtain⟨d,hd,h⟩:=h
 split at h
 ·exact⟨_,hd,h⟩
 ·cases h
theorem aja {hh:Nat} {t:TypeId} {len:Nat} {parts:Array (Nat×Operand)} (ho:o.op= .buildSlice t len parts) (wr:WR G s.heap w) (fx:dg G s.heap B fr a.tmps w)
 (he:gX (dV P t len parts.toList (be hh 2) fr.env s) fr.loc=some (v,loc',s')) (hfree: ∀n,s.next<=n->n<s'.next->G.at_ n=none):
 fP P G s.heap w B fr.loc s.next s'.next a o v loc' s'.heap:=by
 simp only[gX,aG] at he
 obtain⟨⟨v1,s1⟩,he,hq⟩:=he
 simp only[bg,bL] at hq
 obtain⟨rfl,rfl,rfl⟩:=hq
 simp only[dV,aG] at he
 obtain⟨E,hE,he⟩:=he
 obtain⟨e,hd,hE⟩:=yh hE
 obtain⟨hn,_,hg,hpos,hg1,i,zv,_,hi,hzv,hov,hzs,_⟩:=r0 hE
 replace he:=bX he
 obtain⟨hle,he⟩:=he
 have hle:=jl hle
 obtain⟨hzr,hzt⟩:=rl G hov
 simp only[aG] at he
 obtain⟨cs,hf,he⟩:=he
 obtain⟨R,hR,hRl,hRg⟩:=AO hzr.cells len
 obtain⟨D,hD,hv,hs⟩:=AU (C:=⟨R⟩) fx hf hR (AP (hzr.scals_cells hzt) len)
 have hrow:=GA (zs:=zv.cells) hRl hRg
 rw[hzs] at hrow
 have hlen:D.size=len*E.n:=by
  have h1:=hv.length
  have h2:cs.length=len*E.n:=by
   clear he hD hv hs
   have hl:(gd E.z.cells len).length=len*E.n:=by rw[hR.length,hRl];simp[hzs]
   revert hf
   generalize gd E.z.cells len=c0 at hl
   generalize parts.toList=ps
   intro hf
   induction ps generalizing c0 with
   |nil=>simp[dQ] at hf;subst hf;exact hl
   |cons p ps ih=>
    obtain⟨k,x⟩:=p
    simp only[dQ,aG] at hf
    obtain⟨u,hu,⟨off,size⟩,hp,hf⟩:=hf
    replace hf:=bX hf
    obtain⟨_,hf⟩:=hf
    simp only[aG] at hf
    obtain⟨c1,hw,hf⟩:=hf
    exact ih c1 (by rw[(Uu hw).2.1];exact hl) hf
  simp at h1;omega
 have hrun:(execOp a.eval o).run P w= .ok (.value (.slice (some ⟨w.heap.size,0,none⟩) len len)) (w.alloc (.cells D e)):=by
  have h0: ¬len*E.n>2 ^ 24:=by omega
  by_cases hz:len*E.n=0
  ·have hR0:R=[]:=by
    have:R.length=0:=by rw[hRl,td,hzs];exact hz
    exact List.length_eq_zero_iff.1 this
   subst hR0
   have hD':Instr.fill (fun i=>some (i*E.n,E.n)) #[] (parts.toList.map fun(x:Nat×Operand)=>(x.1,a.eval x.2))=some D:=hD
   have hm0: ∀(f:Nat->Value),Array.map f (Array.range 0)= #[]:=fun f=>by apply lp;simp
   simp[execOp,ho,Instr.buildSlice,dw hd,gY hn,hz,hm0,hD',newRow]
  ·have hD':Instr.fill (fun i=>some (i*E.n,E.n)) ⟨R⟩ (parts.toList.map fun(x:Nat×Operand)=>(x.1,a.eval x.2))=some D:=hD
   simp[execOp,ho,Instr.buildSlice,dw hd,gY hn,hz,qC hi hzv,hzs,hrow,hD',newRow,h0]
 replace he:=gH he
 rcases he with⟨_,he⟩|⟨_,he⟩
 ·simp only[bg,bL] at he
  obtain⟨rfl,rfl⟩:=he
  have hn0:G.at_ s.next=none:=hfree s.next (bB _) (by simp[St.new])
  obtain⟨h1,h2⟩:=wr.boxed hn0 D e cs (hv.rows hs)
  refine .heap fx hrun (.inl rfl) h1 h2 (LV.of_VR ?_)
  exact .arr (Gh.boxed_at G w s.next D.size) rfl hpos (bB _) (bB _) (.inr ⟨rfl,rfl⟩) (Gh.boxed_dim G w s.next D.size) (by simp[hlen])
 ·simp only[aG] at he
  obtain⟨xs,hx,he⟩:=he
  simp only[bg,bL] at he
  obtain⟨rfl,rfl⟩:=he
  obtain⟨c1,c2,c3⟩:=uW hg1 hx hs
  obtain⟨h1,h2⟩:=wr.fixed e hv hs
  refine .heap fx hrun (.inl rfl) h1 (h2 _ _) (LV.of_VR ?_)
  subst c1
  exact .list (.inr rfl) hpos c3 (bB _) (fun i x hx=>by rw[c2] at hx;simpa[Gh.fixed_ro] using hx) rfl
theorem ajn {t:TypeId} {r:Option Operand} (ho:o.op= .makeMap t r) (wr:WR G s.heap w) (fx:dg G s.heap B fr a.tmps w)
 (he:gX (mp P t fr.env r s) fr.loc=some (v,loc',s')) (hfree: ∀n,s.next<=n->n<s'.next->G.at_ n=none):
 fP P G s.heap w B fr.loc s.next s'.next a o v loc' s'.heap:=by
 simp only[gX,aG] at he
 obtain⟨⟨v1,s1⟩,he,hq⟩:=he
 simp only[bg,bL] at hq
 obtain⟨rfl,rfl,rfl⟩:=hq
 have fin:v1= .map s.next->s1=s.new (.map [] 0)->(execOp a.eval o).run P w= .ok (.value (.map (some w.heap.size))) (w.alloc (.map #[] 0))->fP P G s.heap w B fr.loc s.next s1.next a o v1 fr.loc s1.heap:=by
  rintro rfl rfl hrun
  have hn0:G.at_ s.next=none:=hfree s.next (bB _) (by simp[St.new])
  obtain⟨h1,h2⟩:=wr.fresh (.map #[] 0)
  have hno: ¬eM G s.heap w.heap.size:=fun ho=>eU _ (wr.owned_lt ho)
  have h3:=h1.named (n:=s.next) (a:=⟨w.heap.size,0,none⟩) (o:=.map [] 0) hn0 (by simp) rfl hno
   ⟨#[],by rw[mP,if_pos rfl],.nil⟩
   (fun i v hv=>absurd (wr.ro_lt hv) (eU _))
  have e2:=h2 s.next (s.next+1)
  refine .heap fx hrun (.inl rfl) h3 ⟨e2.le.trans (Gh.name_le _ _ hn0),e2.size,e2.keep,?_,?_,?_,e2.quiet⟩ (LV.of_VR (.map (a:=⟨w.heap.size,0,none⟩) (by simp[Gh.name])))
  ·intro b hb ho
   rcases vN ho with rfl|ho
   ·exact absurd hb (eU _)
   ·exact ho
  ·intro m a' hm h0
   simp only[Gh.name] at hm
   by_cases em:m=s.next
   ·subst em;exact⟨bB _,by simp[St.new]⟩
   ·rw[if_neg em,h0] at hm;cases hm
  ·intro b o' u hb hv h0
   exact e2.cells b o' u hb hv h0
 unfold mp at he
 rcases r with _|x
 ·simp only[bg,bL] at he
  exact fin he.1.symm he.2.symm (by simp[execOp,ho,Instr.makeMap])
 ·simp only[aG] at he
  obtain⟨d,hd,he⟩:=he
  split at he
  ·simp only[aG] at he
   obtain⟨u,hu,he⟩:=he
   have hl:=fx.ev hu
   split at he
   ·simp only[bg,bL] at he
    have hl:VR G _ _:=hl
    generalize hx:a.eval x=X at hl
    cases hl
    exact fin he.1.symm he.2.symm (by simp[execOp,ho,hx,Instr.makeMap,dw hd,asInt,asIntOf])
   ·cases he
  ·cases he
end
section
variable {P:Program} {G:Gh}
theorem FY {rec:TypeId->aj->Bool} {d:Nat} {emp:Bool} {xs:List aj} {xv:List Value} (hx:cp G xs xv) (sx:dL xs=true)
 (hrec: ∀ {e:TypeId} {x:aj} {X:Value},rec e x=true->VR G x X-> ∀w:World,(Instr.checkKey emp d e X).run P w= .ok () w) (w:World):
 ∀(fs:List Field),xD P rec xs fs=true->
  (forIn (m:=Sem) fs PUnit.unit fun f _=>do
   if f.name≠ "_" then do
    Instr.checkKey emp d f.type (<-part f.type ⟨xv⟩ f.offset)
    pure (ForInStep.yield PUnit.unit)
   else pure (ForInStep.yield PUnit.unit)).run P w= .ok PUnit.unit w
 | [],_=>by simp
 |f::fs,h=>by
  simp only[xD] at h
  rw[List.forIn_cons]
  cases hn:(f.name== "_")
  ·simp only[hn,cF] at h
   have hn:f.name≠ "_" :=by simpa using hn
   split at h
   ·rename_i a ha
    simp only[cZ] at h
    obtain⟨X,hX,vX,_⟩:=sT ha hx sx
    simp only[if_pos hn,Sem.run_bind,hX,iQ,hrec h.1 vX,Sem.run_pure]
    exact FY hx sx hrec w fs h.2
   ·cases h
  ·simp only[hn,cT] at h
   have hn: ¬f.name≠ "_" :=by simpa using hn
   simp only[if_neg hn,Sem.run_bind,iQ,Sem.run_pure]
   exact FY hx sx hrec w fs h
theorem Tf {rec:TypeId->aj->Bool} {d:Nat} {emp:Bool} {e:TypeId} {n:Nat} {xs:List aj} {xv:List Value} (hx:cp G xs xv) (sx:dL xs=true) (hn:fu P e=some n)
 (hrec: ∀ {x:aj} {X:Value},rec e x=true->VR G x X-> ∀w:World,(Instr.checkKey emp d e X).run P w= .ok () w) (w:World):
 ∀(k i:Nat),z8 P rec e n xs k i=true->
  (forIn (m:=Sem) (List.range' i k) PUnit.unit fun i _=>do
   Instr.checkKey emp d e (<-part e ⟨xv⟩ (i*(<-sizeOf e)))
   pure (ForInStep.yield PUnit.unit)).run P w= .ok PUnit.unit w
 |0,_,_=>by simp
 |k+1,i,h=>by
  simp only[z8] at h
  rw[tk,List.forIn_cons]
  split at h
  ·rename_i a ha
   simp only[cZ] at h
   obtain⟨X,hX,vX,_⟩:=sT ha hx sx
   simp only[Sem.run_bind,gY hn,hX,iQ,hrec h.1 vX,Sem.run_pure]
   exact Tf hx sx hn hrec w k (i+1) h.2
  ·cases h
theorem ye {emp:Bool}: ∀(d:Nat) {t:TypeId} {x:aj} {X:Value},sr P d t x=true->VR G x X-> ∀(D:Nat),d<=D-> ∀w:World,(Instr.checkKey emp D t X).run P w= .ok () w
 |0,_,_,_,h,_=>by simp[sr] at h
 |d+1,t,x,X,h,hx=>by
  intro D hD w
  obtain⟨D,rfl⟩: ∃E,D=E+1:=⟨D-1,by omega⟩
  simp only[sr] at h
  split at h
  ·rename_i ht;cases hx;simp[Instr.checkKey,dw ht]
  ·rename_i ht;cases hx;simp[Instr.checkKey,dw ht]
  ·rename_i ht;cases hx;simp[Instr.checkKey,dw ht]
  ·rename_i ht
   cases hx with|agg sx hx=>
   have:=FY (emp:=emp) hx sx (d:=D) (fun {e x X} hr vx w=>ye d hr vx D (by omega) w) w _ h
   simp only[Instr.checkKey,Sem.run_bind,dw ht,iQ]
   rw[<-Array.forIn_toList]
   simp at this ⊢
   rw[this]
   rfl
  ·rename_i len e xs ht
   cases hx with|agg sx hx=>
   split at h
   ·rename_i n hn
    have:=Tf (emp:=emp) hx sx hn (d:=D) (fun {x X} hr vx w=>ye d hr vx D (by omega) w) w len 0 h
    simp only[Instr.checkKey,Sem.run_bind,dw ht,iQ]
    rw[Std.Legacy.Range.forIn_eq_forIn_range']
    simp at this ⊢
    rw[this]
    rfl
   ·cases h
  ·cases h
theorem ib.length {es:List db} {ms:List MapEntry} (h:ib G es ms):es.length=ms.length:=by
 induction h with
 |nil=>rfl
 |cons _ _ ih=>simp[ih]
theorem ib.get {es:List db} {ms:List MapEntry} (h:ib G es ms) {i:Nat} {e:db} (hi:es[i]? =some e): ∃m,ms[i]? =some m/\rM G e m:=by
 induction h generalizing i with
 |nil=>simp at hi
 |cons a _ ih=>
  cases i with
  |zero=>simp at hi;subst hi;exact⟨_,by simp,a⟩
  |succ i=>simp at hi;obtain⟨m,hm,hr⟩:=ih hi;exact⟨m,by simpa using hm,hr⟩
theorem ib.append {a b:List db} {x y:List MapEntry} (h:ib G a x) (h':ib G b y):ib G (a++b) (x++y):=by
 induction h with
 |nil=>simpa using h'
 |cons p _ ih=>exact .cons p ih
theorem ib.set {es:List db} {ms:List MapEntry} (h:ib G es ms) (i:Nat) {e:db} {m:MapEntry} (hr:rM G e m):ib G (es.set i e) (ms.set i m):=by
 induction h generalizing i with
 |nil=>simpa using ib.nil
 |cons a b ih=>
  cases i with
  |zero=>exact .cons hr b
  |succ i=>exact .cons a (ih i)
def C5 (G:Gh) (es:List db) (i0:Nat):Option (Nat×db)->Option (Nat×Value)->Prop
 |none,none=>True
 |some (i,e),some (j,v)=>i=j/\i0<=i/\es[i-i0]? =some e/\VR G e.val v
 |_,_=>False
theorem Td {kt:TypeId} {k:aj} {K:Value} (hk:VR G k K) (w:World): ∀ {es:List db} {ms:List MapEntry} {i:Nat} {r:Option (Nat×db)},ib G es ms->kn P kt k es i=some r->
 ∃q,(Instr.findAsking kt K ms i).run P w= .ok q w/\C5 G es i r q
 |_,_,i,r,.nil,h=>by simp[kn] at h;subst h;exact⟨none,by simp[Instr.findAsking],trivial⟩
 |_,_,i,r,.cons (e:=e) (m:=m) (es:=es) (ms:=ms) he hs,h=>by
  simp only[kn,aG] at h
  obtain⟨b,hb,h⟩:=h
  have hrun:=AR 8 hb hk he.key 10000 (by omega) w
  have hrun:(Op.equal kt K m.key).run P w= .ok b w:=hrun
  cases b
  ·simp only[cF] at h
   obtain⟨q,hq,hf⟩:=Td hk w hs h
   refine⟨q,by simp[Instr.findAsking,hrun,hq],?_⟩
   cases r<;>cases q<;>first
    |trivial
    |(obtain⟨h1,h2,h3,h4⟩:=hf
      refine⟨h1,by omega,?_,h4⟩
      rename_i p _
      have:p.1-i=(p.1-(i+1))+1:=by omega
      rw[this];simpa using h3)
    |exact hf.elim
  ·simp only[cT,bg] at h
   subst h
   exact⟨some (i,m.val),by simp[Instr.findAsking,hrun],rfl,bB _,by simp,he.val⟩
theorem Tn {kt:TypeId} {desc:TypeDesc} {x y:aj} {X Y:Value} {b r:Bool} (ht:P.underlying kt=some desc) (hb:ki P 8 kt x y=some b) (hx:VR G x X) (hy:VR G y Y)
 (hs:Instr.sameNow desc X Y=some r):r=b:=by
 simp only[ki,ht,Option.bind_some] at hb
 cases hx<;>cases hy<;>cases desc<;>simp[Instr.sameNow] at hs hb
 all_goals first
  |(rw[<-hs,<-hb];done)
  |(obtain⟨h1,h2⟩:=hs;subst h1;simp[bD] at hb;rw[<-h2,<-hb];done)
  |skip
 ·rename_i a b'
  rw[<-hs,<-hb]
  rw[beq_toListBytes]
  have e1: ∀l:List UInt8,(ByteArray.mk ⟨l⟩).toList=l:=fun l=>ByteArray.toList_mk l
  rw[e1,e1]
theorem Ih {kt:TypeId} {desc:TypeDesc} {k:aj} {K:Value} (ht:P.underlying kt=some desc) (hk:VR G k K): ∀ {es:List db} {ms:List MapEntry} {i:Nat} {r:Option (Nat×db)} {q:Option (Nat×Value)},
 ib G es ms->kn P kt k es i=some r->Instr.findNow desc K ms i=some q->C5 G es i r q
 |_,_,i,r,q,.nil,h,hn=>by
  simp[kn] at h;subst h
  simp[Instr.findNow] at hn;subst hn
  trivial
 |_,_,i,r,q,.cons (e:=e) (m:=m) (es:=es) (ms:=ms) he hs,h,hn=>by
  simp only[kn,aG] at h
  obtain⟨b,hb,h⟩:=h
  simp only[Instr.findNow] at hn
  split at hn
  ·rename_i hsn
   have:=Tn ht hb hk he.key hsn
   subst this
   simp only[cT,bg] at h
   subst h
   injection hn with hn;subst hn
   exact⟨rfl,bB _,by simp,he.val⟩
  ·rename_i hsn
   have:=Tn ht hb hk he.key hsn
   subst this
   simp only[cF] at h
   have hf:=Ih ht hk hs h hn
   cases r<;>cases q<;>first
    |trivial
    |(obtain⟨h1,h2,h3,h4⟩:=hf
      refine⟨h1,by omega,?_,h4⟩
      rename_i p _
      have:p.1-i=(p.1-(i+1))+1:=by omega
      rw[this];simpa using h3)
    |exact hf.elim
  ·cases hn
theorem AV {kt:TypeId} {k:aj} {K:Value} (hk:VR G k K) (w:World) {es:List db} {ms:List MapEntry} {r:Option (Nat×db)} {desc:TypeDesc} (ht:P.underlying kt=some desc) (hs:ib G es ms) (h:kn P kt k es 0=some r):
 ∃q,(Instr.findKey kt K ms).run P w= .ok q w/\C5 G es 0 r q:=by
 simp only[Instr.findKey,Sem.run_bind,dw ht,iQ]
 cases hn:Instr.findNow desc K ms 0 with
 |some q=>exact⟨q,by simp,Ih ht hk hs h hn⟩
 |none=>exact Td hk w hs h
end
section
variable {P:Program} {mk:bn} {G:Gh} {s s':St} {B:Nat->Nat} {fr:Fr} {a:Act} {w:World} {o:Oper} {lo hi:Nat} {v:aj} {loc':Loc}
theorem nh {r:Nat} {ES:Array MapEntry} {c:Nat} (h:w.heap[r]? =some (.map ES c)):(getObj r).run P w= .ok (.map ES c) w:=by
 simp[getObj,Sem.run,h]
theorem vZ {r:Nat} {ES:Array MapEntry} {c:Nat} (ob:Obj) (h:w.heap[r]? =some (.map ES c)):(setObj r ob).run P w= .ok () (dN w r ob):=by
 simp[setObj,Sem.run,h,dN]
theorem yd {r:Nat} {m:Option Nat} {since st:Nat} {seen:Array Nat} (h:w.heap[r]? =some (.mapIter m since seen st)):(getObj r).run P w= .ok (.mapIter m since seen st) w:=by
 simp[getObj,Sem.run,h]
theorem Tk {r:Nat} {m:Option Nat} {since st:Nat} {seen:Array Nat} (ob:Obj) (h:w.heap[r]? =some (.mapIter m since seen st)):(setObj r ob).run P w= .ok () (dN w r ob):=by
 simp[setObj,Sem.run,h,dN]
theorem EX {t:TypeId} {k:aj} {ke:TypeId×TypeId} (h:nW P t k=some ke):P.underlying t=some (.map ke.1 ke.2)/\sr P 8 ke.1 k=true/\ ∃d,P.underlying ke.1=some d:=by
 simp only[nW,aG] at h
 obtain⟨d,hd,h⟩:=h
 split at h
 ·replace h:=bX h
  obtain⟨hk,h⟩:=h
  injection h with h;subst h
  refine⟨hd,hk,?_⟩
  simp only[sr] at hk
  split at hk<;>first|(rename_i hu;exact⟨_,hu⟩)|cases hk
 ·cases h
theorem rd (wr:WR G s.heap w) {n:Nat} {es:List db} {clock:Nat} (hg:s.get mk n=some (.map es clock)):
 ∃ad ES,G.at_ n=some ad/\ad.spot=none/\w.heap[ad.block]? =some (.map ES clock)/\ib G es ES.toList:=by
 obtain⟨ad,h1,h2,ES,h3,h4⟩:=wr.obj n _ (iV hg)
 exact⟨ad,ES,h1,h2,h3,h4⟩
theorem ajl {t:TypeId} {x i:Operand} {ok:Bool} (ho:o.op= .lookup t x i ok) (wr:WR G s.heap w) (fx:dg G s.heap B fr a.tmps w)
 (he:AB P mk t x i ok fr s=some (v,loc',s')):fP P G s.heap w B fr.loc lo hi a o v loc' s'.heap:=by
 simp only[AB,aG] at he
 obtain⟨p,hp,k,hk,he⟩:=he
 replace he:=jR he
 obtain⟨he,rfl,rfl⟩:=he
 have hm:=(fx.evc hp).1
 have hK:=(fx.evc hk).1
 simp only[lM,aG] at he
 obtain⟨ke,hke,z,hz,r,hr,he⟩:=he
 obtain⟨hd,hko,desc,hdk⟩:=EX hke
 obtain⟨ti,zv,hi,hzv,hov⟩:=yu hz
 obtain⟨hzr,hzt⟩:=rl G hov
 have hck: ∀(b:Bool) (w:World),(Instr.checkKey b 10000 ke.1 (a.eval i)).run P w= .ok () w:=fun b w=>ye 8 hko hK 10000 (by omega) w
 have key: ∃ES:List MapEntry,(∃q,(Instr.findKey ke.1 (a.eval i) ES).run P w= .ok q w/\(match r with|none=>q=none|some e=> ∃j u,q=some (j,u)/\VR G e.2.val u))/\
  ((a.eval x= .map none/\ES=[])\/ ∃b E c,a.eval x= .map (some b)/\w.heap[b]? =some (.map E c)/\E.toList=ES):=by
  unfold xL at hr
  generalize hX:a.eval x=X at hm
  split at hr
  ·injection hr with hr;subst hr
   cases hm
   obtain⟨q,hq,hf⟩:=AV (P:=P) (G:=G) (kt:=ke.1) hK w hdk .nil (r:=none) (by simp[kn])
   cases q with
   |none=>exact⟨[],⟨none,hq,rfl⟩,.inl ⟨rfl,rfl⟩⟩
   |some q=>exact hf.elim
  ·rename_i n
   simp only[aG] at hr
   obtain⟨ob,hob,hr⟩:=hr
   split at hr
   ·cases hm with
    |map hat=>
    obtain⟨ad,ES,h1,h2,h3,h4⟩:=rd wr hob
    rw[hat] at h1;injection h1 with h1;subst h1
    obtain⟨q,hq,hf⟩:=AV hK w hdk h4 hr
    refine⟨ES.toList,⟨q,hq,?_⟩,.inr ⟨_,ES,_,rfl,h3,rfl⟩⟩
    cases r<;>cases q<;>first
     |rfl
     |exact hf.elim
     |(obtain⟨h1,h2,h3,h4⟩:=hf;exact⟨_,_,rfl,h4⟩)
   ·cases hr
  ·cases hr
 obtain⟨ES,⟨q,hq,hqr⟩,hcase⟩:=key
 have hrun: ∃y ys,(execOp a.eval o).run P w= .ok (.value (if ok then .tuple #[y,.bool ys] else y)) w/\VR G v (if ok then .tuple #[y,.bool ys] else y):=by
  have fin: ∀(y:Value) (ys:Bool),(q=none/\y=zv/\ys=false\/ ∃j,q=some (j,y)/\ys=true)->(execOp a.eval o).run P w= .ok (.value (if ok then .tuple #[y,.bool ys] else y)) w:=by
   intro y ys hy
   rcases hcase with⟨hX,rfl⟩|⟨b,E,c,hX,hb,rfl⟩
   ·rcases hy with⟨rfl,rfl,rfl⟩|⟨j,rfl,rfl⟩
    ·have hq':(Instr.findKey ke.1 (a.eval i) (#[]:Array MapEntry).toList).run P w= .ok none w:=hq
     simp[execOp,ho,hX,Instr.lookup,dw hd,hck,hq,qC hi hzv]
    ·simp[execOp,ho,hX,Instr.lookup,dw hd,hck,hq]
   ·rcases hy with⟨rfl,rfl,rfl⟩|⟨j,rfl,rfl⟩
    ·simp[execOp,ho,hX,Instr.lookup,dw hd,nh hb,hck,hq,qC hi hzv]
    ·simp[execOp,ho,hX,Instr.lookup,dw hd,nh hb,hck,hq]
  cases r with
  |none=>
   simp only[bg] at he
   subst he
   refine⟨zv,false,fin zv false (.inl ⟨hqr,rfl,rfl⟩),?_⟩
   cases ok
   ·exact hzr
   ·exact .tup (.cons hzr (.cons (.bool _) .nil))
  |some e=>
   obtain⟨j,u,hj,hu⟩:=hqr
   simp only[bg] at he
   subst he
   refine⟨u,true,fin u true (.inr ⟨j,hj,rfl⟩),?_⟩
   cases ok
   ·exact hu
   ·exact .tup (.cons hu (.cons (.bool _) .nil))
 obtain⟨y,ys,h1,h2⟩:=hrun
 exact .pure wr fx h1 (LV.of_VR h2)
theorem Tp {x y:aj} {X Y:Value} (h:v8 x y=true) (hx:VR G x X) (hy:VR G y Y): ∀n,Instr.sameBits n X Y=true:=by
 intro n
 unfold v8 at h
 split at h
 ·cases hx;cases hy;cases n<;>simpa[Instr.sameBits] using h
 ·rename_i j p k q
  cases hx;cases hy
  simp only[cZ] at h
  have h1:=h.1
  have h2:p=q:=by simpa[bD] using h.2
  cases n<;>simp[Instr.sameBits,h2]<;>simpa using h1
 ·rename_i p q
  cases hx;cases hy
  have h:p=q:=by simpa using h
  subst h
  have e:(ByteArray.mk ⟨p⟩==ByteArray.mk ⟨p⟩)=true:=by rw[beq_toListBytes];simp
  cases n<;>simp only[Instr.sameBits]<;>exact e
 ·cases h
theorem Hs {n:Nat}: ∀ {x y:List aj} {X Y:List Value},tG x y=true->cp G x X->cp G y Y->X.length=Y.length/\((X.zip Y).all fun p=>Instr.sameBits n p.1 p.2)=true
 | [],[],_,_,_,.nil,.nil=>by simp
 |x::xs,y::ys,_,_,h,.cons a b,.cons c d=>by
  simp only[tG,cZ] at h
  obtain⟨h1,h2⟩:=Hs (n:=n) h.2 b d
  refine⟨by simp[h1],?_⟩
  simp only[List.zip_cons_cons,mH,cZ]
  exact⟨Tp h.1 a c n,h2⟩
 | [],_::_,_,_,h,_,_=>by simp[tG] at h
 |_::_,[],_,_,h,_,_=>by simp[tG] at h
theorem Rj {x y:aj} {X Y:Value} (h:su x y=true) (hx:VR G x X) (hy:VR G y Y):Instr.sameBits 10000 X Y=true:=by
 unfold su at h
 split at h
 ·cases hx with|agg _ hx=>cases hy with|agg _ hy=>
  obtain⟨h1,h2⟩:=Hs (n:=9999) h hx hy
  show Instr.sameBits (9999+1) _ _=true
  simp only[Instr.sameBits,cZ]
  exact⟨by simpa using h1,by simpa using h2⟩
 ·exact Tp h hx hy 10000
theorem vC (wr:WR G s.heap w) {n:Nat} {es es':List db} {clock clock':Nat} (hg:s.get mk n=some (.map es clock)) {ad:Addr} (hat:G.at_ n=some ad) {ES ES':Array MapEntry} (hb:w.heap[ad.block]? =some (.map ES clock))
 (hs:ib G es' ES'.toList):
 WR G (s.put n (some (.map es' clock'))).heap (dN w ad.block (.map ES' clock'))/\ ∀lo hi,dr G s.heap w G (s.put n (some (.map es' clock'))).heap (dN w ad.block (.map ES' clock')) lo hi:=by
 refine wr.changed (iV hg) hat ⟨ES',by rw[iZ _ _ _ _ (gL hb),if_pos rfl],hs⟩ ?_ ?_
 ·intro i v hv
  have:=(wr.apart n _ ad i v (iV hg) hat hv).1
  cases this
 ·intro d hd
  obtain⟨C,e,hC,_⟩:=wr.dim _ d hd
  rw[hb] at hC;cases hC
theorem Fj (ES:Array MapEntry) (j:Nat) (f:MapEntry->MapEntry) {m:MapEntry} (hm:ES.toList[j]? =some m):(ES.modify j f).toList=ES.toList.set j (f m):=by
 apply List.ext_getElem?
 intro q
 rw[yy,Bj,List.getElem?_set]
 by_cases e:j=q
 ·subst e
  have hm':ES[j]? =some m:=by simpa using hm
  have hlt:j<ES.toList.length:=by
   rcases im j ES.toList.length with h|h
   ·exact h
   ·simp[jF h] at hm
  rw[if_pos rfl,if_pos rfl,if_pos hlt,hm'];rfl
 ·rw[if_neg e,if_neg e];simp
theorem Sq {t:TypeId} {m k x:Operand} (ho:o.op= .mapUpdate t m k x\/o.op= .insert t m k x) (wr:WR G s.heap w) (fx:dg G s.heap B fr a.tmps w)
 (he:xX P mk t m k x fr s=some (v,loc',s')):fP P G s.heap w B fr.loc lo hi a o v loc' s'.heap:=by
 simp only[xX,aG] at he
 obtain⟨mv,hm,kv,hk,xv,hx,he⟩:=he
 simp only[lR,aG] at he
 obtain⟨s1,he,hq⟩:=he
 simp only[bg,bL] at hq
 obtain⟨rfl,rfl,rfl⟩:=hq
 have hM:=(fx.evc hm).1
 have hK:=(fx.evc hk).1
 have hX:=(fx.evc hx).1
 have hex:(execOp a.eval o).run P w=((Instr.mapUpdate t (a.eval m) (a.eval k) (a.eval x)).run P w).andThen fun _ w'=>.ok .skip w':=by
  rcases ho with ho|ho<;>simp[execOp,ho]
 simp only[lS,aG] at he
 obtain⟨ke,hke,he⟩:=he
 obtain⟨hd,hko,desc,hdk⟩:=EX hke
 have hck: ∀(b:Bool) (w:World),(Instr.checkKey b 10000 ke.1 (a.eval k)).run P w= .ok () w:=fun b w=>ye 8 hko hK 10000 (by omega) w
 split at he
 ·rename_i n
  simp only[aG] at he
  obtain⟨ob,hob,he⟩:=he
  split at he
  ·rename_i es clock
   generalize hMv:a.eval m=M at hM
   cases hM with
   |map hat=>
   rename_i ad
   obtain⟨ad',ES,h1,h2,h3,h4⟩:=rd wr hob
   rw[hat] at h1;injection h1 with h1;subst h1
   simp only[aG] at he
   obtain⟨r,hr,he⟩:=he
   obtain⟨q,hq,hf⟩:=AV hK w hdk h4 hr
   split at he
   ·rename_i e
    obtain⟨j,e⟩:=e
    replace he:=bX he
    obtain⟨hks,he⟩:=he
    injection he with he;subst he
    cases q with
    |none=>exact hf.elim
    |some q=>
     obtain⟨j',u⟩:=q
     obtain⟨rfl,_,hje,hu⟩:=hf
     simp only[Nat.sub_zero] at hje
     obtain⟨me,hme,her⟩:=h4.get hje
     have hsb:=Rj hks her.key hK
     have hme':ES[j]? =some me:=by simpa using hme
     obtain⟨c1,c2⟩:=vC (clock':=clock) (es':=es.set j ⟨kv,xv,e.born⟩) (ES':=ES.modify j fun e=> {e with key:=a.eval k,val:=a.eval x }) wr hob hat h3
      (by rw[Fj ES j _ hme];exact h4.set j ⟨hK,hX,her.born⟩)
     refine .heap fx ?_ (.inr ⟨rfl,rfl⟩) c1 (c2 _ _) (LV.of_VR (.tup .nil))
     rw[hex]
     simp[hMv,Instr.mapUpdate,dw hd,nh h3,hck,hq,Instr.keyThatStays,hme',hsb,vZ _ h3]
   ·injection he with he;subst he
    cases q with
    |some q=>exact hf.elim
    |none=>
     obtain⟨c1,c2⟩:=vC (clock':=clock+1) (es':=es++[⟨kv,xv,clock⟩]) (ES':=ES.push {key:=a.eval k,val:=a.eval x,born:=clock }) wr hob hat h3
      (by simpa using h4.append (.cons ⟨hK,hX,rfl⟩ .nil))
     refine .heap fx ?_ (.inr ⟨rfl,rfl⟩) c1 (c2 _ _) (LV.of_VR (.tup .nil))
     rw[hex]
     simp[hMv,Instr.mapUpdate,dw hd,nh h3,hck,hq,vZ _ h3]
  ·cases he
 ·cases he
theorem ajp {t:TypeId} {m k:Operand} (ho:o.op= .mapEntry t m k) (wr:WR G s.heap w) (fx:dg G s.heap B fr a.tmps w)
 (he:AD P mk t m k fr s=some (v,loc',s')):fP P G s.heap w B fr.loc lo hi a o v loc' s'.heap:=by
 simp only[AD,aG] at he
 obtain⟨mv,hm,kv,hk,he⟩:=he
 simp only[gX,aG] at he
 obtain⟨⟨v1,s1⟩,he,hq⟩:=he
 simp only[bg,bL] at hq
 obtain⟨rfl,rfl,rfl⟩:=hq
 have hM:=(fx.evc hm).1
 have hK:=(fx.evc hk).1
 simp only[tZ,aG] at he
 obtain⟨ke,hke,z,hz,he⟩:=he
 obtain⟨hd,hko,desc,hdk⟩:=EX hke
 obtain⟨ti,zv,hi,hzv,hov⟩:=yu hz
 obtain⟨hzr,hzt⟩:=rl G hov
 have hck: ∀(b:Bool) (w:World),(Instr.checkKey b 10000 ke.1 (a.eval k)).run P w= .ok () w:=fun b w=>ye 8 hko hK 10000 (by omega) w
 split at he
 ·rename_i n
  simp only[aG] at he
  obtain⟨ob,hob,he⟩:=he
  split at he
  ·rename_i es clock
   generalize hMv:a.eval m=M at hM
   cases hM with
   |map hat=>
   rename_i ad
   obtain⟨ad',ES,h1,h2,h3,h4⟩:=rd wr hob
   rw[hat] at h1;injection h1 with h1;subst h1
   simp only[aG] at he
   obtain⟨r,hr,he⟩:=he
   obtain⟨q,hq,hf⟩:=AV hK w hdk h4 hr
   split at he
   ·rename_i e
    obtain⟨j,e⟩:=e
    replace he:=bX he
    obtain⟨hks,he⟩:=he
    simp only[bg,bL] at he
    obtain⟨rfl,rfl⟩:=he
    cases q with
    |none=>exact hf.elim
    |some q=>
     obtain⟨j',u⟩:=q
     obtain⟨rfl,_,hje,hu⟩:=hf
     simp only[Nat.sub_zero] at hje
     obtain⟨me,hme,her⟩:=h4.get hje
     have hsb:=Rj hks her.key hK
     have hme':ES[j]? =some me:=by simpa using hme
     obtain⟨c1,c2⟩:=vC (clock':=clock) (es':=es.set j ⟨kv,e.val,e.born⟩) (ES':=ES.modify j fun e=> {e with key:=a.eval k }) wr hob hat h3
      (by rw[Fj ES j _ hme];exact h4.set j ⟨hK,her.val,her.born⟩)
     refine .heap fx (y:=.tuple #[u,.int .i64 me.born]) ?_ (.inl rfl) c1 (c2 _ _) (LV.of_VR ?_)
     ·simp[execOp,ho,hMv,Instr.mapEntry,dw hd,nh h3,hck,hq,Instr.keyThatStays,hme',hsb,vZ _ h3,goInt]
     ·rw[her.born];exact .tup (.cons hu (.cons (.int _ _) .nil))
   ·simp only[bg,bL] at he
    obtain⟨rfl,rfl⟩:=he
    cases q with
    |some q=>exact hf.elim
    |none=>
     obtain⟨c1,c2⟩:=vC (clock':=clock+1) (es':=es++[⟨kv,z,clock⟩]) (ES':=ES.push {key:=a.eval k,val:=zv,born:=clock }) wr hob hat h3
      (by simpa using h4.append (.cons ⟨hK,hzr,rfl⟩ .nil))
     refine .heap fx (y:=.tuple #[zv,.int .i64 clock]) ?_ (.inl rfl) c1 (c2 _ _) (LV.of_VR (.tup (.cons hzr (.cons (.int _ _) .nil))))
     simp[execOp,ho,hMv,Instr.mapEntry,dw hd,nh h3,hck,hq,qC hi hzv,vZ _ h3,goInt]
  ·cases he
 ·cases he
theorem Tx {b:Nat} {u:aj}: ∀ {es es':List db} {ms:List MapEntry} {U:Value},yf b u es=some es'->ib G es ms->VR G u U->
 ∃j m,ms.findIdx? (fun e=>(e.born:Int)==(b:Int))=some j/\ms[j]? =some m/\ib G es' (ms.set j {m with val:=U })
 | [],_,_,_,h,_,_=>by simp[yf] at h
 |e::es,es',_,U,h,.cons (m:=m) (ms:=ms) he hs,hu=>by
  simp only[yf] at h
  replace h:=gH h
  rcases h with⟨hb,h⟩|⟨hb,h⟩
  ·injection h with h;subst h
   have hb:=fp hb
   have hmb:m.born=b:=by rw[<-he.born,hb]
   exact⟨0,m,by simp[List.findIdx?_cons,hmb],by simp,.cons ⟨he.key,hu,he.born⟩ hs⟩
  ·have hb:=uS hb
   simp only[aG] at h
   obtain⟨r,hr,h⟩:=h
   injection h with h;subst h
   obtain⟨j,m',h1,h2,h3⟩:=Tx hr hs hu
   have hmb: ¬m.born=b:=by rw[<-he.born];exact hb
   refine⟨j+1,m',?_,by simpa using h2,.cons he h3⟩
   have hmb':((m.born:Int)==(b:Int))=false:=by
    simp only[beq_eq_false_iff_ne,ne_eq]
    intro e;exact hmb (Int.ofNat_inj.1 e)
   simp[List.findIdx?_cons,hmb',h1]
theorem aje {t:TypeId} {m st x:Operand} (ho:o.op= .entryStore t m st x) (wr:WR G s.heap w) (fx:dg G s.heap B fr a.tmps w)
 (he:Az mk m st x fr s=some (v,loc',s')):fP P G s.heap w B fr.loc lo hi a o v loc' s'.heap:=by
 simp only[Az,aG] at he
 obtain⟨mv,hm,sv,hsv,xv,hx,he⟩:=he
 simp only[lR,aG] at he
 obtain⟨s1,he,hq⟩:=he
 simp only[bg,bL] at hq
 obtain⟨rfl,rfl,rfl⟩:=hq
 have hM:=(fx.evc hm).1
 have hS:=(fx.evc hsv).1
 have hX:=(fx.evc hx).1
 simp only[u6,aG] at he
 obtain⟨b,hb,he⟩:=he
 obtain⟨k,rfl⟩:=vH hb
 generalize hSv:a.eval st=S at hS
 cases hS
 split at he
 ·rename_i n
  simp only[aG] at he
  obtain⟨ob,hob,he⟩:=he
  split at he
  ·rename_i es clock
   generalize hMv:a.eval m=M at hM
   cases hM with
   |map hat=>
   rename_i ad
   obtain⟨ad',ES,h1,h2,h3,h4⟩:=rd wr hob
   rw[hat] at h1;injection h1 with h1;subst h1
   simp only[aG] at he
   obtain⟨es',hes,he⟩:=he
   injection he with he;subst he
   obtain⟨j,me,hj,hme,hr⟩:=Tx hes h4 hX
   have hj':ES.findIdx? (fun e=>(e.born:Int)==(b:Int))=some j:=by cases ES with|mk l=>simpa using hj
   obtain⟨c1,c2⟩:=vC (clock':=clock) (es':=es') (ES':=ES.modify j fun e=> {e with val:=a.eval x }) wr hob hat h3
    (by rw[Fj ES j _ hme];exact hr)
   refine .heap fx ?_ (.inr ⟨rfl,rfl⟩) c1 (c2 _ _) (LV.of_VR (.tup .nil))
   simp[execOp,ho,hMv,hSv,Instr.entryStore,nh h3,asInt,asIntOf,hj',vZ _ h3]
  ·cases he
 ·cases he
theorem aju {t:TypeId} {x:Operand} (ho:o.op= .range t x) (wr:WR G s.heap w) (fx:dg G s.heap B fr a.tmps w)
 (he:((evc fr.env x).bind fun x=>gX (lh P mk t x s) fr.loc)=some (v,loc',s')) (hfree: ∀n,s.next<=n->n<s'.next->G.at_ n=none):
 fP P G s.heap w B fr.loc s.next s'.next a o v loc' s'.heap:=by
 simp only[aG] at he
 obtain⟨xv,hx,he⟩:=he
 simp only[gX,aG] at he
 obtain⟨⟨v1,s1⟩,he,hq⟩:=he
 simp only[bg,bL] at hq
 obtain⟨rfl,rfl,rfl⟩:=hq
 have hX:=(fx.evc hx).1
 simp only[lh,aG] at he
 obtain⟨d,hd,he⟩:=he
 have fin: ∀(m:Option Nat) (m':Option Nat) (c:Nat),Jb G m m'->v1= .ptr s.next 0->s1=s.new (.iter m c [] c)->
  (execOp a.eval o).run P w= .ok (.value (.pointer (some ⟨w.heap.size,0,none⟩))) (w.alloc (.mapIter m' c #[] c))->fP P G s.heap w B fr.loc s.next s1.next a o v1 fr.loc s1.heap:=by
  rintro m m' c hm rfl rfl hrun
  have hn0:G.at_ s.next=none:=hfree s.next (bB _) (by simp[St.new])
  obtain⟨h1,h2⟩:=wr.fresh (.mapIter m' c #[] c)
  have hno: ¬eM G s.heap w.heap.size:=fun ho=>eU _ (wr.owned_lt ho)
  have h3:=h1.named (n:=s.next) (a:=⟨w.heap.size,0,none⟩) (o:=.iter m c [] c) hn0 (by simp) rfl hno
   ⟨rfl,m',by rw[mP,if_pos rfl],hm⟩
   (fun i v hv=>absurd (wr.ro_lt hv) (eU _))
  have e2:=h2 s.next (s.next+1)
  refine .heap fx hrun (.inl rfl) h3 ⟨e2.le.trans (Gh.name_le _ _ hn0),e2.size,e2.keep,?_,?_,?_,e2.quiet⟩ (LV.of_VR (by simpa using VR.ptr (G:=G.name s.next ⟨w.heap.size,0,none⟩) (n:=s.next) (off:=0) (a:=⟨w.heap.size,0,none⟩) (by simp[Gh.name])))
  ·intro b hb ho
   rcases vN ho with rfl|ho
   ·exact absurd hb (eU _)
   ·exact ho
  ·intro m a' hm h0
   simp only[Gh.name] at hm
   by_cases em:m=s.next
   ·subst em;exact⟨bB _,by simp[St.new]⟩
   ·rw[if_neg em,h0] at hm;cases hm
  ·intro b o' u hb hv h0
   exact e2.cells b o' u hb hv h0
 generalize hXv:a.eval x=X at hX
 split at he
 ·split at he
  ·simp only[bg,bL] at he
   cases hX
   exact fin none none 0 trivial he.1.symm he.2.symm (by simp[execOp,ho,hXv,Instr.range,dw hd])
  ·rename_i m
   simp only[aG] at he
   obtain⟨ob,hob,he⟩:=he
   split at he
   ·simp only[bg,bL] at he
    cases hX with
    |map hat=>
    rename_i ad
    obtain⟨ad',ES,h1,h2,h3,h4⟩:=rd wr hob
    rw[hat] at h1;injection h1 with h1;subst h1
    exact fin (some m) (some ad.block) _ ⟨ad,hat,rfl⟩ he.1.symm he.2.symm (by simp[execOp,ho,hXv,Instr.range,dw hd,nh h3])
   ·cases he
  ·cases he
 ·cases he
theorem Fu (a b:Nat):be a b=(a==b):=by
 cases h:be a b
 ·exact(beq_eq_false_iff_ne.2 (uS h)).symm
 ·exact(beq_iff_eq.2 (fp h)).symm
theorem oS (a b:Nat):cy a b=decide (a<=b):=by
 cases h:cy a b
 ·have: ¬a<=b:=fun h'=>by rw[Nat.ble_eq_true_of_le h'] at h;cases h
  exact(decide_eq_false this).symm
 ·exact(decide_eq_true (jl h)).symm
theorem Vk {es:List db} {ms:List MapEntry} (h:ib G es ms) (st:Nat):ms.all (fun e=>decide (e.born≥st))=es.all (fun e=>cy st e.born):=by
 induction h with
 |nil=>rfl
 |cons a b ih=>simp only[mH,ih,oS,a.born]
theorem al9 {seen:List Nat} {es:List db} {ms:List MapEntry} (h:ib G es ms):ib G (dx seen es) (ms.filter fun e=> !(⟨seen⟩:Array Nat).contains e.born):=by
 induction h with
 |nil=>exact .nil
 |cons a b ih=>
  rename_i e m es ms
  have e1:seen.any (be e.born)=(⟨seen⟩:Array Nat).contains m.born:=by
   rw[a.born]
   have: ∀l:List Nat,l.any (be m.born)=(⟨l⟩:Array Nat).contains m.born:=by
    intro l
    have h0:(⟨l⟩:Array Nat).contains m.born=l.contains m.born:=by simp
    rw[h0]
    clear h0
    induction l with
    |nil=>rfl
    |cons y l ihl=>
     simp only[List.any_cons,List.contains_cons,ihl,Fu]
   exact this seen
  unfold dx at ih ⊢
  simp only[yz,e1]
  split
  ·exact .cons a ih
  ·exact ih
theorem Yd {es:List db} {ms:List MapEntry} (h:ib G es ms) {since:Nat} (ha:es.all (fun e=>bT e.born since)=true):
 ms.filter (fun e=>decide (e.born<since))=ms/\ms.filter (fun e=>decide (e.born≥since))=[]:=by
 induction h with
 |nil=>exact⟨rfl,rfl⟩
 |cons a b ih=>
  rename_i e m es ms
  simp only[mH,cZ] at ha
  obtain⟨h1,h2⟩:=ih ha.2
  have hlt:=mR ha.1
  rw[a.born] at hlt
  refine⟨?_,?_⟩
  ·rw[yz,if_pos (by simpa using hlt),h1]
  ·rw[yz,if_neg (by simp;omega),h2]
noncomputable def jA (mk:bn) (it:aj) (s:St):Nat:=
 match it with
 | .ptr n _=>match s.get mk n with
   |some (.iter (some m) _ seen _)=>match s.get mk m with
    |some (.map es _)=>(dx seen es).length
    |_=>0
   |_=>0
 |_=>0
theorem ajr {ch:Nat->Nat} {kmax:Nat->Nat} {x:Operand} {isString:Bool} {xv:aj} (ho:o.op= .next x isString) (wr:WR G s.heap w) (fx:dg G s.heap B fr a.tmps w)
 (hx:evc fr.env x=some xv) (he:gX (kx mk ch kmax xv isString s) fr.loc=some (v,loc',s'))
 (hch:2<=jA mk xv s->ch s.ci % jA mk xv s=(w.tape w.drawn (.mapNext (jA mk xv s))) % jA mk xv s):
 fP P G s.heap w B fr.loc lo hi a o v loc' s'.heap:=by
 simp only[gX,aG] at he
 obtain⟨⟨v1,s1⟩,he,hq⟩:=he
 simp only[bg,bL] at hq
 obtain⟨rfl,rfl,rfl⟩:=hq
 have hX:=(fx.evc hx).1
 generalize hXv:a.eval x=X at hX
 unfold kx at he
 split at he
 ·rename_i n
  simp only[aG] at he
  obtain⟨ob,hob,he⟩:=he
  cases hX with
  |ptr hat=>
  rename_i ad
  obtain⟨ad',hat',hsp,hobj⟩:=wr.obj n _ (iV hob)
  rw[hat] at hat';injection hat' with hat';subst hat'
  split at he
  ·replace he:=gH he
   rcases he with⟨_,he⟩|⟨hstr,he⟩
   ·cases he
   ·obtain⟨h0,m',hb,hm⟩:=hobj
    cases m' with
    |some _=>exact hm.elim
    |none=>
     simp only[bg,bL] at he
     obtain⟨rfl,rfl⟩:=he
     refine .pure wr fx (y:=.tuple #[.bool false]) ?_ (LV.of_VR (.tup (.cons (.bool _) .nil)))
     simp[execOp,ho,hXv,h0,Instr.next,yd hb,hstr]
  ·rename_i m since seen stepped
   replace he:=gH he
   rcases he with⟨_,he⟩|⟨hstr,he⟩
   ·cases he
   ·obtain⟨h0,m',hb,hm⟩:=hobj
    cases m' with
    |none=>exact hm.elim
    |some mb=>
     obtain⟨am,ham,rfl⟩:=hm
     simp only[aG] at he
     obtain⟨ob2,hob2,he⟩:=he
     split at he
     ·rename_i es clock
      obtain⟨am',ES,h1,h2,h3,h4⟩:=rd wr hob2
      rw[ham] at h1;injection h1 with h1;subst h1
      have hcount:jA mk (.ptr n 0) s=(dx seen es).length:=by simp[jA,hob,hob2]
      rw[hcount] at hch
      replace he:=gH he
      rcases he with⟨_,he⟩|⟨hgo,he⟩
      ·cases he
      ·have hL:=al9 (seen:=seen) h4
       have hgo':(!(⟨seen⟩:Array Nat).isEmpty&& !ES.isEmpty&&ES.all (fun e=>decide (e.born≥stepped)))=false:=by
        rw[<-hgo]
        have q1:(⟨seen⟩:Array Nat).isEmpty=seen.isEmpty:=by cases seen<;>rfl
        have q2:ES.isEmpty=es.isEmpty:=by
         cases ES with|mk l=>
         have:=h4.length
         cases l<;>cases es<;>first|rfl|simp at this
        have q3:ES.all (fun e=>decide (e.born≥stepped))=es.all (fun e=>cy stepped e.born):=by
         rw[<-Vk h4 stepped]
         cases ES with|mk l=>simp
        rw[q1,q2,q3]
       have hbase: ∀(K:Value->World->Prop),True:=fun _=>trivial
       have hleft:(ES.filter fun e=> !(⟨seen⟩:Array Nat).contains e.born)=⟨ES.toList.filter fun e=> !(⟨seen⟩:Array Nat).contains e.born⟩:=by
        apply lp;simp
       have hXv':a.eval x= .pointer (some ⟨ad.block,0,none⟩):=by rw[hXv,h0]
       generalize hML:(ES.toList.filter fun e=> !(⟨seen⟩:Array Nat).contains e.born)=ML at hL hleft
       generalize hUL:dx seen es=UL at hL he hch
       clear hbase hUL
       unfold m9 at he
       split at he
       ·
        simp only[bg,bL] at he
        obtain⟨rfl,rfl⟩:=he
        cases hL
        refine .pure wr fx (y:=.tuple #[.bool false]) ?_ (LV.of_VR (.tup (.cons (.bool _) .nil)))
        simp only[execOp,ho,hXv',Instr.next,Sem.run_bind,yd hb,iQ,hstr,nh h3,hgo',hleft]
        simp[Question.forced]
       ·rename_i e r
        replace he:=bX he
        obtain⟨hall,he⟩:=he
        obtain⟨f1,f2⟩:=Yd hL hall
        have g1:(⟨ML⟩:Array MapEntry).filter (fun e=>decide (e.born<since))=⟨ML⟩:=by apply lp;simpa using f1
        have g2:(⟨ML⟩:Array MapEntry).filter (fun e=>decide (e.born≥since))= #[]:=by apply lp;simpa using f2
        have hlen:=hL.length
        have hne:(⟨ML⟩:Array MapEntry).isEmpty=false:=by
         cases ML with
         |nil=>simp at hlen
         |cons _ _=>rfl
        have hcand:((if(⟨ML⟩:Array MapEntry).isEmpty=true then #[none] else #[])++((⟨ML⟩:Array MapEntry)++ #[]).map some)=(⟨ML.map some⟩:Array (Option MapEntry)):=by
         rw[hne];apply lp;simp
        have step: ∀(j:Nat) (e1:db) (w1:World),w1.heap=w.heap->nH w w1->(e::r)[j]? =some e1-> ∃m1,ML[j]? =some m1/\rM G e1 m1/\
         WR G (oX n m since clock seen e1 s).2.heap (dN w1 ad.block (.mapIter (some am.block) since ((⟨seen⟩:Array Nat).push m1.born) clock))/\
         ∀lo hi,dr G s.heap w G (oX n m since clock seen e1 s).2.heap (dN w1 ad.block (.mapIter (some am.block) since ((⟨seen⟩:Array Nat).push m1.born) clock)) lo hi:=by
         intro j e1 w1 hw1 hq1 hj
         obtain⟨m1,hm1,hr1⟩:=hL.get hj
         refine⟨m1,hm1,hr1,?_⟩
         have wr1:=wr.of_heap hw1
         have hb1:w1.heap[ad.block]? =some (.mapIter (some am.block) since ⟨seen⟩ stepped):=by rw[hw1];exact hb
         obtain⟨c1,c2⟩:=wr1.changed (o':=.iter (some m) since (seen++[e1.born]) clock) (ob:=.mapIter (some am.block) since ((⟨seen⟩:Array Nat).push m1.born) clock) (iV hob) hat
          ⟨h0,some am.block,by rw[iZ _ _ _ _ (gL hb1),if_pos rfl,hr1.born];congr 2;apply lp;simp,am,ham,rfl⟩
          (fun i u hu=>by have:=(wr.apart n _ ad i u (iV hob) hat hu).1;cases this)
          (fun d hd=>by obtain⟨C,e',hC,_⟩:=wr.dim _ d hd;rw[hb] at hC;cases hC)
         refine⟨c1,fun lo hi=>?_⟩
         have:=c2 lo hi
         exact⟨this.le,by rw[<-hw1];exact this.size,fun b hb=>by rw[<-hw1] at hb ⊢;exact this.keep b hb,fun b hb=>by rw[<-hw1] at hb;exact this.owns b hb,this.names,fun b o v hb=>by rw[<-hw1] at hb;exact this.cells b o v hb,hq1.trans this.quiet⟩
        cases r with
        |nil=>
         simp only[bg] at he
         obtain⟨m1,hm1,hr1,c1,c2⟩:=step 0 e w rfl (.refl w) (by simp)
         have hML1:ML=[m1]:=by
          cases ML with
          |nil=>simp at hlen
          |cons y ys=>
           cases ys with
           |nil=>simp at hm1;rw[hm1]
           |cons _ _=>simp at hlen
         have e1:v1=(oX n m since clock seen e s).1:=by rw[he]
         have e2:s1=(oX n m since clock seen e s).2:=by rw[he]
         subst e1;subst e2
         refine .heap fx (y:=.tuple #[.bool true,m1.key,m1.val]) ?_ (.inl rfl) c1 (c2 _ _) (LV.of_VR (.tup (.cons (.bool _) (.cons hr1.key (.cons hr1.val .nil)))))
         subst hML1
         simp only[execOp,ho,hXv',Instr.next,Sem.run_bind,yd hb,iQ,hstr,nh h3,hgo',hleft,g1,g2,hcand]
         simp[Question.forced,Tk _ hb]
        |cons e' r'=>
         replace he:=bX he
         obtain⟨_,he⟩:=he
         simp only[aG] at he
         obtain⟨e1,hj,he⟩:=he
         simp only[bg,bL] at he
         obtain⟨m1,hm1,hr1,c1,c2⟩:=step _ e1 w.drew rfl ⟨rfl,rfl,bB _,fun _ _=>rfl,rfl,Nat.le_succ _⟩ hj
         obtain⟨rfl,rfl⟩:=he
         have hMLlen:ML.length=(e::e'::r').length:=hlen.symm
         have hnf: ¬ML.length<=1:=by rw[hMLlen];simp
         have hidx:(w.tape w.drawn (.mapNext ML.length)) % ML.length=ch s.ci % (e::e'::r').length:=by rw[hMLlen];exact(hch (by simp)).symm
         refine .heap fx (y:=.tuple #[.bool true,m1.key,m1.val]) ?_ (.inl rfl) c1 (c2 _ _) (LV.of_VR (.tup (.cons (.bool _) (.cons hr1.key (.cons hr1.val .nil)))))
         generalize ch s.ci % (e::e'::r').length=J at hm1 hidx
         have hb':w.drew.heap[ad.block]? =some (.mapIter (some am.block) since ⟨seen⟩ stepped):=hb
         simp only[execOp,ho,hXv',Instr.next,Sem.run_bind,yd hb,iQ,hstr,nh h3,hgo',hleft,g1,g2,hcand]
         simp[Question.forced,Question.cut,hnf,hidx,hm1,Tk _ hb']
     ·cases he
  ·cases he
 ·cases he
theorem Ig {b:Nat}: ∀ {es:List db} {e:db} {ms:List MapEntry},q9 b es=some e->ib G es ms-> ∃m,ms.find? (fun e=>e.born==b)=some m/\rM G e m
 | [],_,_,h,_=>by simp[q9] at h
 |e::es,e',_,h,.cons (m:=m) (ms:=ms) he hs=>by
  simp only[q9] at h
  replace h:=gH h
  rcases h with⟨hb,h⟩|⟨hb,h⟩
  ·injection h with h;subst h
   have hb:=fp hb
   exact⟨m,by rw[List.find?_cons_of_pos];rw[<-he.born,hb];simp,he⟩
  ·have hb:=uS hb
   obtain⟨m',h1,h2⟩:=Ig h hs
   refine⟨m',?_,h2⟩
   rw[List.find?_cons_of_neg];·exact h1
   rw[<-he.born];simpa using hb
theorem ajd {x:Operand} (ho:o.op= .entry x) (wr:WR G s.heap w) (fx:dg G s.heap B fr a.tmps w)
 (he:kP x (fun it=>pm mk it s) fr s=some (v,loc',s')):fP P G s.heap w B fr.loc lo hi a o v loc' s'.heap:=by
 simp only[kP,aG] at he
 obtain⟨xv,hx,he⟩:=he
 replace he:=jR he
 obtain⟨he,rfl,rfl⟩:=he
 have hX:=(fx.evc hx).1
 generalize hXv:a.eval x=X at hX
 unfold pm at he
 split at he
 ·rename_i n
  simp only[aG] at he
  obtain⟨ob,hob,he⟩:=he
  cases hX with
  |ptr hat=>
  rename_i ad
  obtain⟨ad',hat',hsp,hobj⟩:=wr.obj n _ (iV hob)
  rw[hat] at hat';injection hat' with hat';subst hat'
  split at he
  ·rename_i m since seen stepped
   obtain⟨h0,m',hb,hm⟩:=hobj
   cases m' with
   |none=>exact hm.elim
   |some mb=>
    obtain⟨am,ham,rfl⟩:=hm
    simp only[aG] at he
    obtain⟨ob2,hob2,he⟩:=he
    split at he
    ·rename_i es clock
     obtain⟨am',ES,h1,h2,h3,h4⟩:=rd wr hob2
     rw[ham] at h1;injection h1 with h1;subst h1
     replace he:=bX he
     obtain⟨hc,he⟩:=he
     obtain rfl:=fp hc
     simp only[aG] at he
     obtain⟨b,hlast,e,hfe,he⟩:=he
     injection he with he;subst he
     obtain⟨me,hme,her⟩:=Ig hfe h4
     have hme':ES.find? (fun e=>e.born==b)=some me:=by cases ES with|mk l=>simpa using hme
     have hback:(⟨seen⟩:Array Nat).back?=some b:=by
      rw[<-hlast];simp
     refine .pure wr fx (y:=.tuple #[me.key,me.val]) ?_ (LV.of_VR (.tup (.cons her.key (.cons her.val .nil))))
     simp[execOp,ho,hXv,h0,Instr.entry,yd hb,hback,nh h3,hme']
    ·cases he
  ·cases he
 ·cases he
end
theorem Ut {n:Nat} (h:n<9223372036854775808):IntKind.i64.wrap (Int.ofNat n)=Int.ofNat n:=by
 have:=IntWalk.i64_in (Int.ofNat n) (by constructor<;>simp<;>omega)
 exact this
section
variable {P:Program} {mk:bn} {G:Gh} {s s':St} {B:Nat->Nat} {fr:Fr} {a:Act} {w:World} {o:Oper} {lo hi:Nat} {v:aj} {loc':Loc}
def Gh.listed (G:Gh) (w:World) (n:Nat) (cs:List aj) (size:Nat):Gh:=(G.more w.heap.size (fun i=>cs[i]?) (some size)).name n ⟨w.heap.size,cs.length,none⟩
theorem Gh.listed_at (G:Gh) (w:World) (n:Nat) (cs:List aj) (size:Nat):(G.listed w n cs size).at_ n=some ⟨w.heap.size,cs.length,none⟩:=by simp[Gh.listed,Gh.name]
theorem Gh.listed_dim (G:Gh) (w:World) (n:Nat) (cs:List aj) (size:Nat):(G.listed w n cs size).dim w.heap.size=some size:=by simp[Gh.listed,Gh.name,Gh.more]
theorem Gh.listed_ro (G:Gh) (w:World) (n:Nat) (cs:List aj) (size i:Nat):(G.listed w n cs size).ro w.heap.size i=cs[i]? :=by simp[Gh.listed,Gh.name,Gh.more]
theorem WR.listed {h:bv bH} (x:WR G h w) {n:Nat} (hn:G.at_ n=none) (C:Array Value) (e:TypeId) (cs:List aj)
 (hc: ∀(i:Nat) v,cs[i]? =some v->v.scal=true/\ ∃y,C[i]? =some y/\VR G v y):
 WR (G.listed w n cs C.size) (h.set n (some .tok)) (w.alloc (.cells C e))/\dr G h w (G.listed w n cs C.size) (h.set n (some .tok)) (w.alloc (.cells C e)) n (n+1):=by
 obtain⟨h1,h2⟩:=x.alloc (.cells C e) (fun i=>cs[i]?) (some C.size) (fun i v hi=>by
  obtain⟨hs,y,hy,hv⟩:=hc i v hi
  exact⟨hs,C,e,rfl,y,hy,hv.mono (x.more_le _ _)⟩) (fun d hd=>⟨C,e,rfl,by injection hd⟩)
 have hno: ¬eM (G.more w.heap.size (fun i=>cs[i]?) (some C.size)) h w.heap.size:=by
  rintro⟨m,a,hm,ha,hb⟩
  have:=x.below m a ha
  omega
 have h3:=h1.named (n:=n) (a:=⟨w.heap.size,cs.length,none⟩) (o:=.tok) hn (by simp) rfl hno
  ⟨C,e,by rw[mP,if_pos rfl]⟩
  (fun i v hv=>by
   simp only[Gh.more,if_true] at hv
   refine⟨rfl,?_⟩
   rcases im i cs.length with h|h
   ·exact h
   ·simp[jF h] at hv)
 refine⟨h3,⟨(h2 0 0).le.trans (Gh.name_le _ _ hn),(h2 0 0).size,(h2 0 0).keep,?_,?_,?_,(h2 0 0).quiet⟩⟩
 ·intro b hb ho
  rcases vN ho with rfl|ho
  ·exact absurd hb (eU _)
  ·exact(h2 0 0).owns b hb ho
 ·intro m a hm h0
  simp only[Gh.listed,Gh.name,Gh.more] at hm
  by_cases em:m=n
  ·omega
  ·rw[if_neg em,h0] at hm;cases hm
 ·intro b o v hb hv h0
  exact(h2 0 0).cells b o v hb hv h0
theorem ajo {hint:Tmp->Nat} {dst:Option Tmp} {t:TypeId} {l c:Operand} (ho:o.op= .makeSlice t l c) (wr:WR G s.heap w) (fx:dg G s.heap B fr a.tmps w)
 (he:AC P hint dst t l c fr s=some (v,loc',s')) (hfree: ∀n,s.next<=n->n<s'.next->G.at_ n=none):
 fP P G s.heap w B fr.loc s.next s'.next a o v loc' s'.heap:=by
 simp only[AC,aG] at he
 obtain⟨lv,hl,cv,hc,he⟩:=he
 simp only[gX,aG] at he
 obtain⟨⟨v1,s1⟩,he,hq⟩:=he
 simp only[bg,bL] at hq
 obtain⟨rfl,rfl,rfl⟩:=hq
 simp only[sD,aG] at he
 obtain⟨E,hE,ln,hln,cn,hcn,he⟩:=he
 obtain⟨e,hd,hE⟩:=yh hE
 obtain⟨hn,_,hg,hpos,hg1,i,zv,_,hi,hzv,hov,hzs,hib⟩:=r0 hE
 obtain⟨hzr,hzt⟩:=rl G hov
 obtain⟨kl,rfl⟩:=vH hln
 obtain⟨kc,rfl⟩:=vH hcn
 have hL:VR G _ _:=fx.ev hl
 have hC:VR G _ _:=fx.ev hc
 generalize hLv:a.eval l=L at hL
 generalize hCv:a.eval c=C at hC
 cases hL;cases hC
 replace he:=bX he
 obtain⟨hcond,he⟩:=he
 simp only[cZ] at hcond
 have h1:=jl hcond.1.1
 have h2:=jl hcond.1.2
 have h3:=jl hcond.2
 obtain⟨R,hR,hRl,hRg⟩:=AO hzr.cells cn
 have hrow:=GA (zs:=zv.cells) hRl hRg
 rw[hzs] at hrow
 have hRlen:R.length=cn*E.n:=by rw[hRl,td,hzs]
 have hrun:(execOp a.eval o).run P w= .ok (.value (.slice (some ⟨w.heap.size,0,none⟩) ln cn)) (w.alloc (.cells ⟨R⟩ e)):=by
  have w1:=Ut (n:=ln) (by omega)
  have w2:=Ut (n:=cn) (by omega)
  have t1: ¬((cn:Int)<0):=by omega
  have t2: ¬((i.bytes:Int)*(cn:Int)>2 ^ 48):=by
   rw[hib]
   have:((E.b:Int)*(cn:Int))=((cn*E.b:Nat):Int):=by rw[Nat.mul_comm];simp
   rw[this];omega
  have t3: ¬((ln:Int)<0):=by omega
  have t4: ¬((ln:Int)>(cn:Int)):=by omega
  simp only[execOp,ho,hLv,hCv,Instr.makeSlice,Sem.run_bind,dw hd,iQ,asInt,asIntOf,Sem.run_pure,typeInfo,run_program,hi,w1,w2]
  by_cases hz:cn*E.n=0
  ·have hR0:R=[]:=List.length_eq_zero_iff.1 (by rw[hRlen];exact hz)
   subst hR0
   have hm0: ∀(f:Nat->Value),Array.map f (Array.range 0)= #[]:=fun f=>by apply lp;simp
   simp[t4,gY hn,hz,hm0,newRow]
   rintro((hh|hh)|hh)
   ·exact absurd hh t1
   ·exact absurd hh (by simpa using t2)
   ·exact absurd hh t3
  ·simp[t4,gY hn,hz,qC hi hzv,hzs,hrow,newRow]
   rintro((hh|hh)|hh)
   ·exact absurd hh t1
   ·exact absurd hh (by simpa using t2)
   ·exact absurd hh t3
 have hzr':=AP (hzr.scals_cells hzt)
 have hpre: ∀(i:Nat) u,(gd E.z.cells ln)[i]? =some u->u.scal=true/\ ∃y,(⟨R⟩:Array Value)[i]? =some y/\VR G u y:=by
  intro i u hu
  have hle: ∀(p q:Nat),p<=q-> ∀(i:Nat) u,(gd E.z.cells p)[i]? =some u->(gd E.z.cells q)[i]? =some u:=by
   intro p
   induction p with
   |zero=>intro q _ i u hu;simp[gd] at hu
   |succ p ih=>
    intro q hq i u hu
    obtain⟨q,rfl⟩: ∃q',q=q'+1:=⟨q-1,by omega⟩
    simp only[gd] at hu ⊢
    by_cases hi:i<E.z.cells.length
    ·rw[o8 hi] at hu ⊢;exact hu
    ·rw[pY (by omega)] at hu ⊢;exact ih q (by omega) _ _ hu
  have:=hR.rows (C:=⟨R⟩) (hzr' cn) i u (hle ln cn h1 i u hu)
  exact this
 replace he:=gH he
 rcases he with⟨hz,he⟩|⟨_,he⟩
 ·simp only[cZ] at hz
  obtain rfl:=fp hz.1
  simp only[bg,bL] at he
  obtain⟨rfl,rfl⟩:=he
  have hn0:G.at_ s.next=none:=hfree s.next (bB _) (by simp[St.new])
  obtain⟨c1,c2⟩:=wr.listed hn0 ⟨R⟩ e [] (by simp)
  refine .heap fx hrun (.inl rfl) c1 c2 (LV.of_VR ?_)
  exact .list (.inr rfl) hpos (by simp) (iB _) (by simp[bQ]) ⟨by simpa using Gh.listed_at G w s.next [] R.length,R.length,Gh.listed_dim G w s.next [] R.length,by simp[hRlen]⟩
 ·simp only[bg,bL] at he
  obtain⟨rfl,rfl⟩:=he
  have hn0:G.at_ s.next=none:=hfree s.next (bB _) (by simp[St.new])
  obtain⟨c1,c2⟩:=wr.boxed hn0 ⟨R⟩ e _ hpre
  refine .heap fx hrun (.inl rfl) c1 c2 (LV.of_VR ?_)
  exact .arr (Gh.boxed_at G w s.next _) rfl hpos (bB _) h1 (.inr ⟨rfl,rfl⟩) (Gh.boxed_dim G w s.next _) (by simp[hRlen])
end
section
variable {P:Program} {mk:bn} {G:Gh} {s s':St} {B:Nat->Nat} {fr:Fr} {a:Act} {w:World} {o:Oper} {lo hi:Nat} {v:aj} {loc':Loc}
theorem akM {t ty:TypeId} {x:aj} {X:Value} (h:gW P mk t x s=some v) (hx:VR G x X) (wr:WR G s.heap w): ∃y,(rC #[t] ty #[X]).run P w= .ok y w/\VR G v y:=by
 simp only[gW,aG] at h
 obtain⟨d,hd,h⟩:=h
 split at h
 ·injection h with h;subst h;cases hx
  exact⟨_,by simp[rC,dw hd,goInt]<;>rfl,.int _ _⟩
 ·injection h with h;subst h
  exact⟨_,by simp[rC,dw hd,goInt]<;>rfl,.int _ _⟩
 ·injection h with h;subst h;cases hx
  exact⟨_,by simp[rC,dw hd,goInt]<;>rfl,.int _ _⟩
 ·injection h with h;subst h;cases hx
  exact⟨_,by simp[rC,dw hd,goInt]<;>rfl,.int _ _⟩
 ·injection h with h;subst h;cases hx
  exact⟨_,by simp[rC,dw hd,goInt]<;>rfl,.int _ _⟩
 ·injection h with h;subst h;cases hx
  exact⟨_,by simp[rC,dw hd,goInt]<;>rfl,.int _ _⟩
 ·simp only[aG] at h
  obtain⟨ob,hob,h⟩:=h
  split at h
  ·injection h with h;subst h
   cases hx with
   |map hat=>
   obtain⟨ad,ES,h1,h2,h3,h4⟩:=rd wr hob
   rw[hat] at h1;injection h1 with h1;subst h1
   refine⟨.int .i64 ES.size,by simp[rC,dw hd,nh h3,goInt],?_⟩
   have:=h4.length
   rw[this];simpa using VR.int (G:=G) .i64 (ES.size:Int)
  ·cases h
 ·cases h
theorem Tg {isMax:Bool} (w:World): ∀ {l:List aj} {x v:aj} {X:Value} {L:List Value},rh isMax x l=some v->VR G x X->cp G l L->
 ∃y,(L.foldlM (if isMax then Builtin.max2 else Builtin.min2) X).run P w= .ok y w/\VR G v y:=by
 have e1: ∀l:List UInt8,(ByteArray.mk ⟨l⟩).toList=l:=fun l=>ByteArray.toList_mk l
 intro l
 induction l with
 |nil=>
  intro x v X L h hx hl
  cases hl
  unfold rh at h
  split at h<;>first
   |(simp at*;done)
   |(injection h with h;subst h;exact⟨X,by simp,hx⟩)
   |(cases h)
 |cons y l ih=>
  intro x v X L h hx hl
  cases hl with
  |cons hy hl=>
  rename_i Y L
  unfold rh at h
  split at h
  ·rename_i heq;cases heq
  ·rename_i k p k' q l' heq
   simp only[mI] at heq
   obtain⟨rfl,rfl⟩:=heq
   replace h:=bX h
   obtain⟨hk,h⟩:=h
   cases hx;cases hy
   cases isMax
   ·obtain⟨z,hz,hv⟩:=ih h (.int _ _) hl
    refine⟨z,?_,hv⟩
    simp only[List.foldlM_cons,qK,if_false,Sem.run_bind,Builtin.min2,Sem.run_pure,iQ]
    simp only[qK,if_false,cF,dz] at hz
    rw[<-hz]
    congr 3
    by_cases hq:q<p<;>simp[hq]
   ·obtain⟨z,hz,hv⟩:=ih h (.int _ _) hl
    refine⟨z,?_,hv⟩
    simp only[List.foldlM_cons,if_true,Sem.run_bind,Builtin.max2,Sem.run_pure,iQ]
    simp only[if_true,cT,dz] at hz
    rw[<-hz]
    congr 3
    by_cases hq:p<q<;>simp[hq]
  ·rename_i heq;cases heq
  ·rename_i p q l' heq
   simp only[mI] at heq
   obtain⟨rfl,rfl⟩:=heq
   cases hx;cases hy
   cases isMax
   ·obtain⟨z,hz,hv⟩:=ih h (.str _) hl
    refine⟨z,?_,hv⟩
    simp only[List.foldlM_cons,qK,if_false,Sem.run_bind,Builtin.min2,Op.stringOp,asBool,Sem.run_pure,iQ,e1]
    simp only[qK,if_false,cF,Rp] at hz
    rw[<-hz]
    cases hq:(hZ p q||p==q)<;>simp
   ·obtain⟨z,hz,hv⟩:=ih h (.str _) hl
    refine⟨z,?_,hv⟩
    simp only[List.foldlM_cons,if_true,Sem.run_bind,Builtin.max2,Op.stringOp,asBool,Sem.run_pure,iQ,e1]
    simp only[if_true,cT] at hz
    rw[<-hz]
    cases hq:(hZ p q)<;>simp
  ·cases h
end
theorem alr (s:List UInt8) (l h:Nat):(ByteArray.mk ⟨s⟩).extract l h=ByteArray.mk ⟨(s.take h).drop l⟩:=by
 apply ByteArray.ext
 rw[ByteArray.data_extract]
 apply lp
 simp only[Array.toList_extract,List.extract]
 rw[List.drop_take]
section
variable {P:Program} {mk:bn} {G:Gh} {s s':St} {B:Nat->Nat} {fr:Fr} {a:Act} {w:World} {o:Oper} {lo hi:Nat} {v:aj} {loc':Loc}
def wH (x:Option Value) (d n:Nat):Prop:=(x=none/\n=d)\/ ∃k,x=some (.int k (.ofNat n))
theorem lO (fx:dg G s.heap B fr a.tmps w) {x:Option Operand} {d n:Nat} (h:jK fr.env x d=some n):wH (x.map a.eval) d n:=by
 cases x with
 |none=>simp[jK] at h;exact .inl ⟨rfl,h.symm⟩
 |some x=>
  simp only[jK,aG] at h
  obtain⟨u,hu,h⟩:=h
  obtain⟨k,rfl⟩:=vH h
  have hl:VR G _ _:=fx.ev hu
  generalize hX:a.eval x=X at hl
  cases hl
  exact .inr ⟨k,by simp[hX]⟩
theorem yb {isS:Bool} {len cap l h:Nat} {lv hv:Option Value} (hl:wH lv 0 l) (hh:wH hv len h) (h1:h<=cap) (h2:l<=h) (w:World):
 (Instr.sliceBounds isS len cap lv hv none).run P w= .ok (l,h,cap) w:=by
 have e1: ∀n m:Nat,n<=m->(0<=(Int.ofNat n)/\(Int.ofNat n)<=(m:Int)):=fun n m hnm=>⟨Int.natCast_nonneg n,Int.ofNat_le.2 hnm⟩
 rcases hl with⟨rfl,rfl⟩|⟨k,rfl⟩<;>rcases hh with⟨rfl,rfl⟩|⟨k',rfl⟩<;>
  simp[Instr.sliceBounds,Instr.sliceBound,asIntOf,h1,h2]
theorem Ta {len cap l h m:Nat} {lv hv mv:Option Value} (hl:wH lv 0 l) (hh:wH hv len h) (hm: ∃k,mv=some (.int k (.ofNat m))) (hs:hv.isSome=true) (h0:m<=cap) (h1:h<=m) (h2:l<=h) (w:World):
 (Instr.sliceBounds true len cap lv hv mv).run P w= .ok (l,h,m) w:=by
 obtain⟨km,rfl⟩:=hm
 rcases hh with⟨rfl,rfl⟩|⟨k',rfl⟩
 ·simp at hs
 ·rcases hl with⟨rfl,rfl⟩|⟨k,rfl⟩<;>simp[Instr.sliceBounds,Instr.sliceBound,asIntOf,h0,h1,h2]
theorem Yj {sz:Nat} {xs:List aj} (hsz: ∀x∈xs,x.cells.length=sz) {h l:Nat} (_h1:h<=xs.length) (_h2:l<=h):
 ∀(i:Nat) u,(bQ ((xs.take h).drop l))[i]? =some u->(bQ xs)[l*sz+i]? =some u:=by
 have hd: ∀(l:Nat) (xs:List aj),(∀x∈xs,x.cells.length=sz)->bQ (xs.drop l)=(bQ xs).drop (l*sz):=by
  intro l
  induction l with
  |zero=>intro xs _;simp
  |succ l ih=>
   intro xs hx
   cases xs with
   |nil=>simp[bQ]
   |cons x xs=>
    simp only[List.drop_succ_cons,bQ]
    rw[ih xs (fun y hy=>hx y (by simp[hy])),uG,Nat.add_comm,<-List.drop_drop,List.drop_append_of_le_length (by rw[hx x (by simp)];exact bB _)]
    rw[<-hx x (by simp),List.drop_length,cq]
 have ht: ∀(xs ys:List aj),bQ (xs++ys)=bQ xs++bQ ys:=by
  intro xs ys
  induction xs with
  |nil=>simp[bQ]
  |cons x xs ih=>simp[bQ,ih]
 intro i u hu
 rw[hd l _ (fun y hy=>hsz y (rH hy)),rD] at hu
 have e:bQ xs=bQ (xs.take h)++bQ (xs.drop h):=by rw[<-ht,nr]
 rw[e]
 rcases im (l*sz+i) (bQ (xs.take h)).length with hlt|hge
 ·rw[o8 hlt];exact hu
 ·rw[jF hge] at hu;cases hu
theorem ajv {t:TypeId} {x:Operand} {lop hop mop:Option Operand} (ho:o.op= .slice t x lop hop mop) (wr:WR G s.heap w) (fx:dg G s.heap B fr a.tmps w)
 (he:kP x (fun x=>jS P mk t x lop hop mop fr.env s) fr s=some (v,loc',s')):fP P G s.heap w B fr.loc lo hi a o v loc' s'.heap:=by
 simp only[kP,aG] at he
 obtain⟨xv,hx,he⟩:=he
 replace he:=jR he
 obtain⟨he,rfl,rfl⟩:=he
 have hX:=(fx.evc hx).1
 generalize hXv:a.eval x=X at hX
 simp only[jS,aG] at he
 obtain⟨d,hd,he⟩:=he
 split at he
 ·split at he
  ·rename_i bs
   simp only[aG] at he
   obtain⟨h,hh,l,hl,he⟩:=he
   replace he:=bX he
   obtain⟨hc,he⟩:=he
   simp only[cZ] at hc
   injection he with he;subst he
   cases hX
   refine .pure wr fx (y:=.string ⟨⟨(bs.take h).drop l⟩⟩) ?_ (LV.of_VR (.str _))
   have hb:=yb (P:=P) (isS:=false) (cap:=bs.length) (lO fx hl) (lO fx hh) (jl hc.2) (jl hc.1) w
   have hsz:(ByteArray.mk ⟨bs⟩).size=bs.length:=rfl
   simp[execOp,ho,hXv,Instr.sliceAt,Instr.slice,dw hd,hsz,hb,alr]
  ·cases he
 ·rename_i e
  simp only[aG] at he
  obtain⟨n,hn,he⟩:=he
  split at he
  ·simp only[aG] at he
   obtain⟨h,hh,l,hl,m,hm,he⟩:=he
   replace he:=bX he
   obtain⟨hc,he⟩:=he
   simp only[cZ] at hc
   have hiso:=hc.2
   obtain rfl:=fp hc.1.1.1
   obtain rfl:=fp hc.1.1.2
   obtain rfl:=fp hc.1.2
   injection he with he;subst he
   cases hX
   refine .pure wr fx (y:=.slice none 0 0) ?_ (LV.of_VR .nils)
   cases mop with
   |none=>
    have hb:=yb (P:=P) (isS:=true) (cap:=0) (lO fx hl) (lO fx hh) (bB _) (bB _) w
    simp[execOp,ho,hXv,Instr.sliceAt,Instr.slice,dw hd,hb,gY hn]
   |some mx=>
    have hbm:=lO fx hm
    rcases hbm with⟨h0,_⟩|⟨km,hkm⟩
    ·cases h0
    ·cases hop with
     |none=>simp at hiso
     |some hx=>
      have hb:=Ta (P:=P) (cap:=0) (lO fx hl) (lO fx hh) ⟨km,hkm⟩ rfl (bB _) (bB _) (bB _) w
      simp only[qQ] at hb
      simp[execOp,ho,hXv,Instr.sliceAt,Instr.slice,dw hd,hb,gY hn]
  ·rename_i sz xs r
   simp only[aG] at he
   obtain⟨h,hh,l,hl,he⟩:=he
   replace he:=bX he
   obtain⟨hc,he⟩:=he
   simp only[cZ] at hc
   obtain rfl:=fp hc.1.1
   have hlh:=jl hc.1.2
   have hhl:=jl hc.2
   cases hX with
   |list hsp hpos hsz hcap hro hr=>
   rename_i ad cap
   obtain⟨b,off,sp⟩:=ad
   have hsp0:0<cap->sp=none:=fun h0=>by
    rcases hsp with h|h
    ·omega
    ·exact h
   have hlen:((xs.take h).drop l).length=h-l:=by simp;omega
   have hmem: ∀y∈(xs.take h).drop l,y.cells.length=sz:=fun y hy=>hsz y (rH (uB hy))
   have hcells: ∀(i:Nat) u,(bQ ((xs.take h).drop l))[i]? =some u->G.ro b (off+l*sz+i)=some u:=fun i u hu=>by
    rw[ou];exact hro _ _ (Yj hsz hhl hlh i u hu)
   split at he
   ·injection he with he;subst he
    have hb:=yb (P:=P) (isS:=true) (cap:=cap) (lO fx hl) (lO fx hh) (by omega) hlh w
    refine .pure wr fx (y:=.slice (some (if cap=l then⟨b,off,sp⟩ else⟨b,off+l*sz,none⟩)) (h-l) (cap-l)) ?_ (LV.of_VR ?_)
    ·by_cases hcl:cap=l
     ·subst hcl
      simp[execOp,ho,hXv,Instr.sliceAt,Instr.slice,dw hd,hb,gY hn]
     ·obtain rfl:=hsp0 (by omega)
      simp[execOp,ho,hXv,Instr.sliceAt,Instr.slice,dw hd,hb,gY hn,hcl,l0]
    ·rw[<-hlen]
     refine .list (by by_cases hcl:cap=l;exact .inl (by omega);exact .inr (by rw[if_neg hcl])) hpos hmem (by rw[hlen];omega) ?_ ?_
     ·intro i u hu
      by_cases hcl:cap=l
      ·have:(xs.take h).drop l=[]:=List.length_eq_zero_iff.1 (by rw[hlen];omega)
       rw[this] at hu;simp[bQ] at hu
      ·rw[if_neg hcl];exact hcells i u hu
     ·rw[hlen]
      cases hcnd:(be h xs.length&&(bT l h||be l 0)) with
      |false=>trivial
      |true=>
       simp only[cZ,tf] at hcnd
       have hhx:=fp hcnd.1
       simp only[cT]
       cases r with
       |full=>simp only[wM] at hr ⊢;omega
       |no=>trivial
       |own k=>
        obtain⟨hk,dm,hdm,hle⟩:=hr
        simp only at hle
        have hcase:l<h\/l=0:=hcnd.2.imp mR fp
        have key:(l=0/\(if cap=l then(⟨b,off,sp⟩:Addr) else⟨b,off+l*sz,none⟩)=⟨b,off,sp⟩)\/(if cap=l then(⟨b,off,sp⟩:Addr) else⟨b,off+l*sz,none⟩)=⟨b,off+l*sz,none⟩:=by
         rcases hcase with hc|rfl
         ·exact .inr (by rw[if_neg (by omega)])
         ·refine .inl ⟨rfl,?_⟩
          by_cases h0:cap=0
          ·rw[if_pos h0]
          ·obtain rfl:=hsp0 (by omega)
           rw[if_neg h0];simp
        rcases key with⟨rfl,hk'⟩|hk'
        ·rw[hk']
         subst hhx
         exact⟨by simpa using hk,dm,hdm,by simpa using hle⟩
        ·rw[hk']
         subst hhx
         refine⟨?_,dm,hdm,?_⟩
         ·rw[hk]
          congr 2
          simp only
          have:xs.length*sz=l*sz+(xs.length-l)*sz:=by rw[<-mL];congr 1;omega
          omega
         ·simp only
          have:cap*sz=l*sz+(cap-l)*sz:=by rw[<-mL];congr 1;omega
          omega
   ·simp only[aG] at he
    obtain⟨m,hm,he⟩:=he
    replace he:=bX he
    obtain⟨hmh,he⟩:=he
    simp only[cZ] at hmh
    obtain rfl:=fp hmh.1
    injection he with he;subst he
    have hbm:=lO fx hm
    rcases hbm with⟨h0,_⟩|⟨km,hkm⟩
    ·cases h0
    ·have hb:=Ta (P:=P) (cap:=cap) (lO fx hl) (lO fx hh) ⟨km,hkm⟩ (by simpa using hmh.2) (by omega) (bB _) hlh w
     simp only[qQ] at hb
     refine .pure wr fx (y:=.slice (some (if m=l then⟨b,off,sp⟩ else⟨b,off+l*sz,none⟩)) (m-l) (m-l)) ?_ (LV.of_VR ?_)
     ·by_cases hcl:m=l
      ·subst hcl
       simp[execOp,ho,hXv,Instr.sliceAt,Instr.slice,dw hd,hb,gY hn]
      ·obtain rfl:=hsp0 (by omega)
       simp[execOp,ho,hXv,Instr.sliceAt,Instr.slice,dw hd,hb,gY hn,hcl,l0]
     ·rw[<-hlen]
      refine .list (by by_cases hcl:m=l;exact .inl (by omega);exact .inr (by rw[if_neg hcl])) hpos hmem (bB _) ?_ rfl
      intro i u hu
      by_cases hcl:m=l
      ·have:(xs.take m).drop l=[]:=List.length_eq_zero_iff.1 (by rw[hlen];omega)
       rw[this] at hu;simp[bQ] at hu
      ·rw[if_neg hcl];exact hcells i u hu
  ·rename_i sz n' off len lcap
   simp only[aG] at he
   obtain⟨h,hh,l,hl,he⟩:=he
   replace he:=bX he
   obtain⟨hc,he⟩:=he
   simp only[cZ] at hc
   obtain rfl:=fp hc.1.1.1
   have hlh:=jl hc.1.1.2
   have hhl:=jl hc.1.2
   cases mop with
   |some _=>simp at hc
   |none=>
   injection he with he;subst he
   cases hX with
   |arr hat hsp hpos hlen hcap hadr hdim hle=>
   rename_i ad bd cap dm
   obtain⟨b,aoff,sp⟩:=ad
   simp only at hsp;subst hsp
   have hb:=yb (P:=P) (isS:=true) (cap:=cap) (lO fx hl) (lO fx hh) (by omega) hlh w
   refine .pure wr fx (y:=.slice (some (if cap=l then⟨b,aoff,none⟩ else⟨b,aoff+l*sz,none⟩)) (h-l) (cap-l)) ?_ (LV.of_VR ?_)
   ·by_cases hcl:cap=l
    ·subst hcl
     simp[execOp,ho,hXv,Instr.sliceAt,Instr.slice,dw hd,hb,gY hn]
    ·simp[execOp,ho,hXv,Instr.sliceAt,Instr.slice,dw hd,hb,gY hn,hcl,l0]
   ·have hmul:cap*sz=l*sz+(cap-l)*sz:=by rw[<-mL];congr 1;omega
    refine .arr hat (by split<;>rfl) hpos (by omega) (by omega) ?_ hdim (by omega)
    rcases hadr with h0|⟨h1,h2⟩
    ·exact .inl (by omega)
    ·by_cases hcl:cap=l
     ·exact .inl (by omega)
     ·rw[if_neg hcl]
      exact .inr ⟨h1,by simp only at h2 ⊢;omega⟩
  ·cases he
 ·rename_i len e
  simp only[aG] at he
  obtain⟨n,hn,he⟩:=he
  split at he
  ·rename_i m off
   simp only[aG] at he
   obtain⟨h,hh,l,hl,ob,hob,he⟩:=he
   split at he
   ·rename_i cs
    replace he:=bX he
    obtain⟨hc,he⟩:=he
    simp only[cZ] at hc
    have hlh:=jl hc.1.1.1.1
    have hhl:=jl hc.1.1.1.2
    have hnz:0<len*n:=mR hc.1.2
    have hpos:0<n:=Nat.pos_of_mul_pos_left hnz
    have hin:=jl hc.2
    cases mop with
    |some _=>simp at hc
    |none=>
    injection he with he;subst he
    cases hX with
    |ptr hat=>
    rename_i ad
    obtain⟨ad',hat',hsp,C,ty,hb,hdm,hcs⟩:=wr.obj m _ (iV hob)
    rw[hat] at hat';injection hat' with hat';subst hat'
    have hbd:=yb (P:=P) (isS:=false) (cap:=len) (lO fx hl) (lO fx hh) hhl hlh w
    have hsz:ad.off+cs.length<=C.size\/cs.length=0:=by
     rcases tl cs.length with h0|h0
     ·exact .inr h0
     ·obtain⟨_,y,hy,_⟩:=hcs (cs.length-1) cs[cs.length-1] (js (by omega))
      have:ad.off+(cs.length-1)<C.size:=by
       rcases im (ad.off+(cs.length-1)) C.size with h|h
       ·exact h
       ·simp[ux h] at hy
      exact .inl (by omega)
    have hmul:len*n=l*n+(len-l)*n:=by rw[<-mL];congr 1;omega
    ·refine .pure wr fx (y:=.slice (some (if len=l then⟨ad.block,ad.off+off,none⟩ else⟨ad.block,ad.off+off+l*n,none⟩)) (h-l) (len-l)) ?_ (LV.of_VR ?_)
     ·by_cases hcl:len=l
      ·subst hcl
       simp[execOp,ho,hXv,Instr.sliceAt,dw hd,Instr.sureAddr,hbd,gY hn]
      ·simp[execOp,ho,hXv,Instr.sliceAt,dw hd,Instr.sureAddr,hbd,gY hn,hcl,l0]
     ·refine .arr hat (by split<;>rfl) hpos (by omega) (bB _) ?_ hdm (by omega)
      by_cases hcl:len=l
      ·exact .inl (by omega)
      ·rw[if_neg hcl]
       exact .inr ⟨rfl,by simp only;omega⟩
   ·cases he
  ·cases he
 ·cases he
end
section
variable {P:Program} {mk:bn} {G:Gh} {s s':St} {B:Nat->Nat} {fr:Fr} {a:Act} {w:World} {o:Oper} {lo hi:Nat} {v:aj} {loc':Loc}
theorem VR.slice_len {x:aj} {X:Value} (h:VR G x X) (hs:xn x=true): ∃b n c,X= .slice b n c:=by
 cases h<;>first|(simp[xn] at hs;done)|exact⟨_,_,_,rfl⟩
theorem yc {g:Bool} {n:Nat} {y:aj} {Y:Value} {ys:List aj} (hg:g=false->n=1) (hpos:0<n) (h:j2 mk g n y s=some ys) (hy:VR G y Y) (wr:WR G s.heap w):
 ∃C:Array Value,(∀w':World,w'.heap=w.heap->(th Y).run P w'= .ok ys.length w'/\ ∀k,k<=ys.length->(o7 n k Y).run P w'= .ok ⟨C.toList.take (k*n)⟩ w')/\cp G (bQ ys) C.toList/\dL (bQ ys)=true/\ ∀u∈ys,u.cells.length=n:=by
 unfold j2 at h
 split at h
 ·injection h with h;subst h;cases hy
  refine⟨#[],fun w' hw'=>⟨by simp[th],fun k hk=>?_⟩,.nil,rfl,by simp⟩
  obtain rfl:k=0:=by simpa using hk
  simp[o7]
 ·rename_i sz xs r
  replace h:=bX h
  obtain⟨hsz,h⟩:=h
  obtain rfl:=fp hsz
  injection h with h;subst h
  cases hy with
  |list hsp hp hm hcap hro hr=>
  rename_i ad cap
  obtain⟨b,off,sp⟩:=ad
  have hsp0:0<cap->sp=none:=fun h0=>by
   rcases hsp with h|h
   ·omega
   ·exact h
  obtain⟨vs,h1,h2,h3⟩:=FR (G:=G) (cs:=bQ xs) (f:=fun i=>w.cell? ⟨b,off+i,none⟩) (fun i u hu=>wr.ro _ _ _ (hro i u hu))
  refine⟨⟨vs⟩,fun w' hw'=>⟨by simp[th],fun k hk=>?_⟩,h1,h2,hm⟩
  have hcell: ∀ad,w'.cell? ad=w.cell? ad:=fun ad=>by simp[World.cell?,hw']
  have hlen:(vs.take (k*sz)).length=k*sz:=by
   rw[pZ,<-h1.length,kK hm]
   exact wF (uF _ hk)
  have hl:=run_loadCells_list (P:=P) (w:=w') ⟨b,off,sp⟩ (vs.take (k*sz)) (fun j v hj=>by
   have hk0:0<cap:=by
    have hjl:j<(vs.take (k*sz)).length:=by
     rcases im j (vs.take (k*sz)).length with h|h
     ·exact h
     ·simp[jF h] at hj
    rw[hlen] at hjl
    rcases tl k with h|h
    ·subst h;omega
    ·omega
   obtain rfl:=hsp0 hk0
   rw[l0,hcell]
   refine h3 j v ?_
   rw[uA] at hj
   split at hj
   ·exact hj
   ·cases hj)
  rw[hlen] at hl
  simpa[o7] using hl
 ·rename_i sz m off len lcap
  replace h:=bX h
  obtain⟨hsz,h⟩:=h
  obtain rfl:=fp hsz
  simp only[aG] at h
  obtain⟨ob,hob,h⟩:=h
  split at h
  ·rename_i cs
   simp only[aG] at h
   obtain⟨c,hc,h⟩:=h
   cases hy with
   |arr hat hsp hp hlen hcap hadr hdim hle=>
   rename_i ad bd cap dm
   obtain⟨b,aoff,sp⟩:=ad
   simp only at hsp;subst hsp
   obtain⟨bd',hat',hsp',C,ty,hb,_,hcs⟩:=wr.obj m _ (iV hob)
   rw[hat] at hat';injection hat' with hat';subst hat'
   have hsc:dL c=true:=by
    simp only[dL,np]
    intro u hu
    obtain⟨i,hi⟩:=List.mem_iff_getElem?.1 hu
    exact(hcs _ u (wY hc hi)).1
   obtain⟨c1,c2,c3⟩:=uW hg h hsc
   obtain⟨vs,h1,h2,h3⟩:=FR (G:=G) (cs:=c) (f:=fun i=>w.cell? ⟨bd.block,bd.off+off+i,none⟩) (fun i u hu=>by
    obtain⟨q1,y,hy,q2⟩:=hcs _ u (wY hc hu)
    exact⟨q1,y,by rw[nN hb,ou];exact hy,q2⟩)
   refine⟨⟨vs⟩,fun w' hw'=>⟨by simp[th,c1],fun k hk=>?_⟩,by rw[c2];exact h1,by rw[c2];exact h2,c3⟩
   have hcell: ∀ad,w'.cell? ad=w.cell? ad:=fun ad=>by simp[World.cell?,hw']
   rw[c1] at hk
   have hvl:vs.length=len*sz:=by rw[<-h1.length];exact(u5 hc).2
   have hlen':(vs.take (k*sz)).length=k*sz:=by
    rw[pZ,hvl]
    exact wF (uF _ hk)
   rcases hadr with h0|⟨e1,e2⟩
   ·obtain rfl:k=0:=by omega
    simp[o7,loadCells,loadCellsFrom]
   ·simp only at e1 e2
    subst e1;subst e2
    have hl:=run_loadCells_list (P:=P) (w:=w') ⟨bd.block,bd.off+off,none⟩ (vs.take (k*sz)) (fun j v hj=>by
     rw[l0,hcell]
     refine h3 j v ?_
     rw[uA] at hj
     split at hj
     ·exact hj
     ·cases hj)
    rw[hlen'] at hl
    simpa[o7] using hl
  ·cases h
 ·cases h
theorem IA (newLen:Nat): ∀(r c:Nat),Builtin.growBy newLen r c<=max c (newLen+(newLen+768) / 4)
 |0,c=>by simp[Builtin.growBy];omega
 |r+1,c=>by
  unfold Builtin.growBy
  split
  ·omega
  ·have:=IA newLen r (c+(c+768) / 4)
   omega
theorem aiX {need cap:Nat} (h:cap<need):Bl need cap<=need*2+1024:=by
 unfold Bl
 split
 ·omega
 ·split
  ·omega
  ·have:=IA need 4 cap
   omega
theorem akx {need b cap:Nat} (h:lk need b=true) (hc:cap<need): ¬Bl need cap*b>2 ^ 48:=by
 have h1:=jl h
 have h2:=aiX hc
 have:Bl need cap*b<=(need*2+1024)*b:=uF _ h2
 omega
theorem aky {need b:Nat} (h:lk need b=true) (hb:0<b):need<2 ^ 47:=by
 have h1:=jl h
 have:need*2+1024<=(need*2+1024)*b:=Nat.le_mul_of_pos_right _ hb
 omega
theorem akG {t t2 ty e:TypeId} {E:EI} (hd:P.underlying t=some (.slice e)) (hE:tI P e=some E) (ht2:lK P t2=true) {base:Option Addr} {len cap k:Nat} {Y:Value} {CX CY:Array Value}
 (hk: ∀w':World,w'.heap=w.heap->(th Y).run P w'= .ok k w') (hX: ∀w':World,w'.heap=w.heap->(o7 E.n len (.slice base len cap)).run P w'= .ok CX w')
 (hY: ∀w':World,w'.heap=w.heap->(o7 E.n k Y).run P w'= .ok CY w') (hn:cap<len+k) (hr:lk (len+k) E.b=true) (hx:CX.size=len*E.n) (hy:CY.size=k*E.n):
 ∃(newCap:Nat) (R:Array Value),len+k<=newCap/\R.size=newCap*E.n/\(∀i:Nat,i<(len+k)*E.n->R[i]? =(CX++CY)[i]?)/\
  (rB #[t,t2] ty #[.slice base len cap,Y]).run P w= .ok (.slice (some ⟨w.heap.size,0,none⟩) (len+k) newCap) (w.drew.alloc (.cells R e)):=by
 obtain⟨hsz,_,hg,hpos,hg1,i,zv,hb0,hi,hzv,hov,hzs,hib⟩:=r0 hE
 have hcap:=akx hr hn
 have hmax:=aky hr hb0
 let newCap:=(Question.appendCap (len+k) cap e).cut (w.tape w.drawn (.appendCap (len+k) cap e))
 have hnc:len+k<=newCap:=by simp only[newCap,Question.cut];omega
 refine⟨newCap,CX++CY++Builtin.zeroCells zv.cells (newCap-(len+k)),hnc,?_,?_,?_⟩
 ·simp only[Array.size_append,hx,hy,Builtin.zeroCells,Array.size_map,Array.size_range,hzs]
  rw[<-mL,<-mL];congr 1;omega
 ·intro i hi
  rw[Array.getElem?_append_left]
  simp only[Array.size_append,hx,hy]
  rw[<-mL];exact hi
 ·have ht2': ∃e2,P.underlying t2=some (.slice e2):=by
   unfold lK at ht2
   split at ht2
   ·rename_i e2 h;exact⟨e2,h⟩
   ·cases ht2
  obtain⟨e2,ht2'⟩:=ht2'
  have hle: ¬len+k<=cap:=by omega
  have hX':=hX w.drew rfl
  have hY':=hY w.drew rfl
  simp[rB,dw hd,gY hsz,dw ht2',hk w rfl,hle,typeInfo,hi,hib,hcap,Question.forced,hX',hY',qC hi hzv,newRow]
  rw[if_neg (fun h=>by have:=h.2;omega)]
theorem FV {t t2 ty e:TypeId} {E:EI} (hd:P.underlying t=some (.slice e)) (hE:tI P e=some E) (ht2:lK P t2=true) {b off len cap k:Nat} {Y:Value} {CY C:Array Value} {et:TypeId}
 (hk:(th Y).run P w= .ok k w) (hY:(o7 E.n k Y).run P w= .ok CY w) (hn:len+k<=cap) (hb:w.heap[b]? =some (.cells C et (0,0)))
 (hfit:off+len*E.n+CY.size<=C.size) (hone: ∀y∈CY.toList,y.oneCell'=true):
 (rB #[t,t2] ty #[.slice (some ⟨b,off,none⟩) len cap,Y]).run P w= .ok (.slice (some ⟨b,off,none⟩) (len+k) cap) (dN w b (.cells (jg C (off+len*E.n) CY.toList) et (0,0))):=by
 obtain⟨hsz,_,hg,hpos,hg1,i,zv,hb0,hi,hzv,hov,hzs,hib⟩:=r0 hE
 have ht2': ∃e2,P.underlying t2=some (.slice e2):=by
  unfold lK at ht2
  split at ht2
  ·rename_i e2 h;exact⟨e2,h⟩
  ·cases ht2
 obtain⟨e2,ht2'⟩:=ht2'
 have hst:=AX (P:=P) b (off+len*E.n) et CY.toList 0 w C hb (by simpa using hfit) hone
 simp only[dc] at hst
 simp[rB,dw hd,gY hsz,dw ht2',hk,hn,hY,l0,hst]
theorem akH {t t2 ty e:TypeId} {E:EI} (hd:P.underlying t=some (.slice e)) (hE:tI P e=some E) (ht2:lK P t2=true) {base:Option Addr} {len cap:Nat} {Y:Value}
 (hk:(th Y).run P w= .ok 0 w) (hY:(o7 E.n 0 Y).run P w= .ok #[] w) (hn:len<=cap):
 (rB #[t,t2] ty #[.slice base len cap,Y]).run P w= .ok (.slice base len cap) w:=by
 obtain⟨hsz,_,hg,hpos,hg1,i,zv,hb0,hi,hzv,hov,hzs,hib⟩:=r0 hE
 have ht2': ∃e2,P.underlying t2=some (.slice e2):=by
  unfold lK at ht2
  split at ht2
  ·rename_i e2 h;exact⟨e2,h⟩
  ·cases ht2
 obtain⟨e2,ht2'⟩:=ht2'
 cases base<;>simp[rB,dw hd,gY hsz,dw ht2',hk,hn,hY,storeCells]
theorem sf (xs ys:List aj):bQ (xs++ys)=bQ xs++bQ ys:=by
 induction xs with
 |nil=>simp[bQ]
 |cons x xs ih=>simp[bQ,ih]
theorem VR.cap_le {x:aj} {b:Option Addr} {n c:Nat} (h:VR G x (.slice b n c)):n<=c:=by
 cases h<;>omega
theorem aif {E:EI} {mu:Bool} {zs:List aj} {v1:aj} {s1 s2:St} {e:TypeId} {newCap:Nat} {R:Array Value} (hpos:0<E.n) (wr:WR G s2.heap w)
 (he:kr E mu zs s2=some (v1,s1)) (hn0:G.at_ s2.next=none) (hz: ∀z∈zs,z.cells.length=E.n) (hcap:zs.length<=newCap) (hR:R.size=newCap*E.n)
 (hc: ∀(i:Nat) v,(bQ zs)[i]? =some v->v.scal=true/\ ∃y,R[i]? =some y/\VR G v y):
 s1.next=s2.next+1/\ ∃G',WR G' s1.heap (w.drew.alloc (.cells R e))/\dr G s2.heap w G' s1.heap (w.drew.alloc (.cells R e)) s2.next (s2.next+1)/\VR G' v1 (.slice (some ⟨w.heap.size,0,none⟩) zs.length newCap):=by
 have wr':WR G s2.heap w.drew:=wr.of_heap rfl
 have fixExt: ∀ {G' h'},dr G s2.heap w.drew G' h' (w.drew.alloc (.cells R e)) s2.next (s2.next+1)->dr G s2.heap w G' h' (w.drew.alloc (.cells R e)) s2.next (s2.next+1):=
  fun x=>⟨x.le,x.size,x.keep,x.owns,x.names,x.cells,nH.trans (⟨rfl,rfl,bB _,fun _ _=>rfl,rfl,Nat.le_succ _⟩:nH w w.drew) x.quiet⟩
 simp only[kr] at he
 replace he:=bX he
 obtain⟨_,he⟩:=he
 replace he:=gH he
 rcases he with⟨_,he⟩|⟨_,he⟩
 ·simp only[bg,bL] at he
  obtain⟨rfl,rfl⟩:=he
  obtain⟨c1,c2⟩:=wr'.boxed hn0 R e (bQ zs) hc
  exact⟨rfl,_,c1,fixExt c2,.arr (Gh.boxed_at G w.drew s2.next R.size) rfl hpos (bB _) hcap (.inr ⟨rfl,rfl⟩) (Gh.boxed_dim G w.drew s2.next R.size) (by simp[hR])⟩
 ·simp only[bg,bL] at he
  obtain⟨rfl,rfl⟩:=he
  obtain⟨c1,c2⟩:=wr'.listed hn0 R e (bQ zs) hc
  refine⟨rfl,_,c1,fixExt c2,.list (.inr rfl) hpos hz hcap (fun i x hx=>by rw[aQ];exact(Gh.listed_ro G w.drew s2.next (bQ zs) R.size i).trans hx) ⟨?_,R.size,Gh.listed_dim G w.drew s2.next (bQ zs) R.size,by simp[hR]⟩⟩
  rw[Gh.listed_at,kK hz]
  simp
def Gh.grown (G:Gh) (b e0:Nat) (cs:List aj):Gh where
 at_:=G.at_
 ro c o:=if c=b/\e0<=o/\o<e0+cs.length then cs[o-e0]? else G.ro c o
 dim:=G.dim
theorem WR.extend {h:bv bH} (wr:WR G h w) {k n b e0:Nat} (hk:h.get k=some .tok) (hat:G.at_ k=some ⟨b,e0,none⟩) (hn:G.at_ n=none) {C:Array Value} {et:TypeId} (hb:w.heap[b]? =some (.cells C et (0,0)))
 {cs:List aj} {CY:Array Value} (hv:cp G cs CY.toList) (hs:dL cs=true) (hfit:e0+CY.size<=C.size):
 WR ((G.grown b e0 cs).name n ⟨b,e0+cs.length,none⟩) ((h.set k none).set n (some .tok)) (dN w b (.cells (jg C e0 CY.toList) et (0,0)))/\
 dr G h w ((G.grown b e0 cs).name n ⟨b,e0+cs.length,none⟩) ((h.set k none).set n (some .tok)) (dN w b (.cells (jg C e0 CY.toList) et (0,0))) n (n+1):=by
 have hlt:=gL hb
 have hlen:cs.length=CY.size:=by simpa using hv.length
 have hblk: ∀c,(dN w b (.cells (jg C e0 CY.toList) et (0,0))).heap[c]? =if c=b then some (.cells (jg C e0 CY.toList) et (0,0)) else w.heap[c]? :=fun c=>iZ w b c _ hlt
 have hold: ∀i v,G.ro b i=some v->i<e0:=fun i v hi=>(wr.apart k _ _ i v hk hat hi).2
 have hown:eM G h b:=⟨k,_,by rw[hk];simp,hat,rfl⟩
 have hle:G.le (G.grown b e0 cs):=⟨fun _ _ e=>e,fun c o v e=>by
  simp only[Gh.grown]
  rw[if_neg]
  ·exact e
  ·rintro⟨rfl,h1,_⟩
   have:=hold o v e
   omega,fun _ _ e=>e⟩
 have wk:=wr.killed k
 have hno: ¬eM G (h.set k none) b:=Au (a:=⟨b,e0,none⟩) wr (by rw[hk];simp) hat
 have w1:WR (G.grown b e0 cs) (h.set k none) (dN w b (.cells (jg C e0 CY.toList) et (0,0))):=by
  refine⟨?_,wk.sep,?_,?_,?_,fun m c hm=>by simp;exact wk.below m c hm⟩
  ·intro m ob hm
   obtain⟨c,hc,hsp,hr⟩:=wk.obj m ob hm
   refine⟨c,hc,hsp,(hr.mono hle).of_block ?_⟩
   rw[hblk,if_neg]
   intro e
   exact hno ⟨m,c,by rw[hm];simp,hc,e⟩
  ·intro c i v hi
   simp only[Gh.grown] at hi
   by_cases hin:c=b/\e0<=i/\i<e0+cs.length
   ·rw[if_pos hin] at hi
    obtain⟨rfl,h1,h2⟩:=hin
    obtain⟨q1,y,hy,q2⟩:=hv.rows hs _ v hi
    refine⟨q1,y,?_,q2.mono hle⟩
    rw[nN (by rw[hblk,if_pos rfl]),Bg _ _ _ _ (by simpa using hfit),if_pos (by simp;omega)]
    simpa using hy
   ·rw[if_neg hin] at hi
    obtain⟨q1,y,hy,q2⟩:=wr.ro c i v hi
    refine⟨q1,y,?_,q2.mono hle⟩
    by_cases e:c=b
    ·subst e
     have:=hold i v hi
     rw[nN hb] at hy
     rw[nN (by rw[hblk,if_pos rfl]),Bg _ _ _ _ (by simpa using hfit),if_neg (by omega)]
     exact hy
    ·rw[<-hy];simp[World.cell?,hblk,e]
  ·intro m ob c i v hm hc hi
   simp only[Gh.grown] at hi
   rw[if_neg] at hi
   ·exact wk.apart m ob c i v hm hc hi
   ·rintro⟨e,_,_⟩
    exact hno ⟨m,c,by rw[hm];simp,hc,e⟩
  ·intro c d hd
   obtain⟨D,t,hD,hsz⟩:=wr.dim c d hd
   rw[hblk]
   by_cases e:c=b
   ·subst e
    rw[hb] at hD
    simp only[bg,Obj.cells.injEq] at hD
    obtain⟨rfl,rfl,_⟩:=hD
    exact⟨_,et,if_pos rfl,by simpa using hsz⟩
   ·rw[if_neg e];exact⟨D,t,hD,hsz⟩
 have hno': ¬eM (G.grown b e0 cs) (h.set k none) b:=hno
 have w2:=w1.named (n:=n) (a:=⟨b,e0+cs.length,none⟩) (o:=.tok) hn (by simp;exact hlt) rfl hno' ⟨_,et,by rw[hblk,if_pos rfl]⟩ (fun i v hi=>by
  refine⟨rfl,?_⟩
  simp only[Gh.grown] at hi
  by_cases hin:e0<=i/\i<e0+cs.length
  ·exact hin.2
  ·rw[if_neg (by simpa using hin)] at hi
   have:=hold i v hi
   show i<e0+cs.length
   omega)
 refine⟨w2,⟨hle.trans (Gh.name_le _ _ hn),by simp,?_,?_,?_,?_,x5 w hb rfl rfl⟩⟩
 ·intro c hc ho
  rw[hblk,if_neg]
  intro e;subst e;exact ho hown
 ·intro c hc ho
  rcases vN ho with rfl|ho
  ·exact hown
  ·exact sN (show eM G (h.set k none) c from ho)
 ·intro m c hm h0
  simp only[Gh.name,Gh.grown] at hm
  by_cases em:m=n
  ·omega
  ·rw[if_neg em,h0] at hm;cases hm
 ·intro c i v hc hi h0
  simp only[Gh.name,Gh.grown] at hi
  by_cases hin:c=b/\e0<=i/\i<e0+cs.length
  ·rw[hin.1];exact hown
  ·rw[if_neg hin,h0] at hi;cases hi
theorem WR.rehome {h:bv bH} (wr:WR G h w) {m n:Nat} {cs0:List aj} {ad bd:Addr} (hm:h.get m=some (.cells cs0)) (hat:G.at_ m=some bd) (hn:G.at_ n=none) {C C':Array Value} {et:TypeId} (hb:w.heap[bd.block]? =some (.cells C et (0,0)))
 (hs:C'.size=C.size) (hdm:G.dim bd.block=some C.size) (had:ad.block=bd.block) (hsp:ad.spot=none) {cs:List aj} (hc: ∀(i:Nat) v,cs[i]? =some v->v.scal=true/\ ∃y,C'[ad.off+i]? =some y/\VR G v y):
 WR (G.name n ad) ((h.set m none).set n (some (.cells cs))) (dN w bd.block (.cells C' et (0,0)))/\
 dr G h w (G.name n ad) ((h.set m none).set n (some (.cells cs))) (dN w bd.block (.cells C' et (0,0))) n (n+1):=by
 have hlt:=gL hb
 have hown:eM G h bd.block:=⟨m,bd,by rw[hm];simp,hat,rfl⟩
 have hro: ∀i,G.ro bd.block i=none:=fun i=>by
  cases hr:G.ro bd.block i with
  |none=>rfl
  |some v=>have:=(wr.apart m _ bd i v hm hat hr).1;cases this
 have hno:=Au wr (by rw[hm];simp) hat
 have w1:=(wr.killed m).putFree hb hs hno hro
 have w2:=w1.named (n:=n) (a:=ad) (o:=.cells cs) hn (by rw[had];simpa using hlt) hsp (by rw[had];exact hno)
  ⟨C',et,by rw[had,iZ _ _ _ _ hlt,if_pos rfl],by rw[had,hs];exact hdm,hc⟩ (fun i v hi=>by rw[had,hro] at hi;cases hi)
 refine⟨w2,⟨Gh.name_le _ _ hn,by simp,?_,?_,?_,?_,x5 w hb rfl rfl⟩⟩
 ·intro c hc' ho
  rw[iZ _ _ _ _ hlt,if_neg]
  intro e;subst e;exact ho hown
 ·intro c hc' ho
  rcases vN ho with rfl|ho
  ·rw[had];exact hown
  ·exact sN ho
 ·intro q c hq h0
  simp only[Gh.name] at hq
  by_cases em:q=n
  ·omega
  ·rw[if_neg em,h0] at hq;cases hq
 ·intro c i v hc' hi h0
  simp only[Gh.name] at hi
  rw[hi] at h0;cases h0
theorem dr.after_kill {h h':bv bH} {G':Gh} {w':World} {m lo hi:Nat} (x:dr G (h.set m none) w G' h' w' lo hi):dr G h w G' h' w' lo hi:=
 ⟨x.le,x.size,fun b hb ho=>x.keep b hb (fun o=>ho (sN o)),fun b hb o=>sN (x.owns b hb o),x.names,fun b i v hb h1 h2=>sN (x.cells b i v hb h1 h2),x.quiet⟩
theorem B7 {g:Bool} {sz:Nat} (hg:g=false->sz=1): ∀(n:Nat) (cs:List aj),cs.length=n*sz-> ∃xs,ip g sz n cs=some xs
 |0,cs,h=>by
  have:cs=[]:=List.length_eq_zero_iff.1 (by simpa using h)
  subst this
  exact⟨[],rfl⟩
 |n+1,cs,h=>by
  rw[uG] at h
  cases hgv:g with
  |true=>
   obtain⟨r,hr⟩:=B7 hg n (cs.drop sz) (by simp;omega)
   rw[hgv] at hr
   refine⟨.agg (cs.take sz)::r,?_⟩
   have hc:cut cs 0 sz=some (cs.take sz):=by
    simp only[cut,nq]
    have:be (cs.take sz).length sz=true:=by rw[Fu];simp;omega
    rw[this];rfl
   simp[ip,hc,hr]
  |false=>
   have h1:=hg hgv
   subst h1
   cases cs with
   |nil=>simp at h
   |cons c cs=>
    obtain⟨r,hr⟩:=B7 hg n cs (by simp at h;omega)
    rw[hgv] at hr
    exact⟨c::r,by simp[ip,hr]⟩
theorem akF {t t2 ty:TypeId} {x y:aj} {X Y:Value} {mu:Bool} (he:jN P mk t x y mu s=some (v,s')) (ht2:lK P t2=true) (hx:VR G x X) (hy:VR G y Y) (wr:WR G s.heap w)
 (hfree: ∀n,s.next<=n->n<s'.next->G.at_ n=none):
 ∃Z w' G',(rB #[t,t2] ty #[X,Y]).run P w= .ok Z w'/\WR G' s'.heap w'/\dr G s.heap w G' s'.heap w' s.next s'.next/\VR G' v Z:=by
 simp only[jN,aG] at he
 obtain⟨E,hE,ys,hys,he⟩:=he
 obtain⟨e,hd,hE⟩:=yh hE
 obtain⟨hsz,_,hg,hpos,hg1,ti,zv,hb0,hi,hzv,hov,hzs,hib⟩:=r0 hE
 obtain⟨CY,hYr,hvY,hsY,hmY⟩:=yc (P:=P) hg1 hpos hys hy wr
 have hCYl:CY.size=ys.length*E.n:=by
  have:=hvY.length
  rw[kK hmY] at this
  simpa using this.symm
 have hk: ∀w':World,w'.heap=w.heap->(th Y).run P w'= .ok ys.length w':=fun w' h=>(hYr w' h).1
 have hY: ∀w':World,w'.heap=w.heap->(o7 E.n ys.length Y).run P w'= .ok CY w':=fun w' h=>by
  have:=(hYr w' h).2 ys.length (bB _)
  rw[wD (by simp[hCYl])] at this
  exact this
 have grow: ∀(mu:Bool) (xs:List aj) (base:Option Addr) (cap:Nat) (CX:Array Value) (s2:St) (v1:aj) (s1:St),X= .slice base xs.length cap->WR G s2.heap w->s2.next=s.next->
  (∀w':World,w'.heap=w.heap->(o7 E.n xs.length (.slice base xs.length cap)).run P w'= .ok CX w')->cp G (bQ xs) CX.toList->dL (bQ xs)=true->(∀u∈xs,u.cells.length=E.n)->
  cap<xs.length+ys.length->kr E mu (xs++ys) s2=some (v1,s1)->G.at_ s.next=none->
  s1.next=s.next+1/\ ∃Z w' G',(rB #[t,t2] ty #[X,Y]).run P w= .ok Z w'/\WR G' s1.heap w'/\dr G s2.heap w G' s1.heap w' s.next (s.next+1)/\VR G' v1 Z:=by
  intro mu xs base cap CX s2 v1 s1 hX wr2 hs2 hXr hvX hsX hmX hcap hmade hn0
  have hCXl:CX.size=xs.length*E.n:=by
   have:=hvX.length
   rw[kK hmX] at this
   simpa using this.symm
  have hroom:lk (xs.length+ys.length) E.b=true:=by
   simp only[kr,dp] at hmade
   exact(bX hmade).1
  obtain⟨newCap,R,r1,r2,r3,r4⟩:=akG (ty:=ty) hd hE ht2 hk hXr hY hcap hroom hCXl hCYl
  have hvXY:cp G (bQ (xs++ys)) (CX++CY).toList:=by rw[sf];simpa using hvX.append hvY
  have hsXY:dL (bQ (xs++ys))=true:=by rw[sf,Tq,hsX,hsY];rfl
  have hmXY: ∀z∈xs++ys,z.cells.length=E.n:=by
   intro z hz
   rcases List.mem_append.1 hz with h|h
   ·exact hmX z h
   ·exact hmY z h
  obtain⟨q1,G',q2,q3,q4⟩:=aif (e:=e) (newCap:=newCap) (R:=R) hpos wr2 hmade (by rw[hs2];exact hn0) hmXY (by simpa using r1) r2 (fun i u hu=>by
   obtain⟨p1,y,hy,p2⟩:=hvXY.rows hsXY i u hu
   refine⟨p1,y,?_,p2⟩
   rw[r3 i];·exact hy
   have:i<(bQ (xs++ys)).length:=by
    rcases im i (bQ (xs++ys)).length with h|h
    ·exact h
    ·simp[jF h] at hu
   rw[kK hmXY] at this
   simpa using this)
  rw[hs2] at q1 q3
  refine⟨q1,_,_,G',by rw[hX];exact r4,q2,q3,by simpa using q4⟩
 split at he
 ·
  replace he:=bX he
  obtain⟨hsl,he⟩:=he
  simp only[bg,bL] at he
  obtain⟨rfl,rfl⟩:=he
  obtain⟨b,n,c,rfl⟩:=hx.slice_len hsl
  have h0:CY= #[]:=by
   have:CY.size=0:=by simpa using hCYl
   exact Array.eq_empty_of_size_eq_zero this
  subst h0
  exact⟨_,w,G,akH hd hE ht2 (hk w rfl) (hY w rfl) hx.cap_le,wr,.refl,hx⟩
 ·rename_i y0 yr
  have hfr:s'.next=s.next+1->G.at_ s.next=none:=fun h=>hfree s.next (bB _) (by omega)
  generalize hyr:(y0::yr)=yl at*
  have hyne:0<yl.length:=by rw[<-hyr];simp
  clear hyr
  unfold lA at he
  split at he
  ·
   cases hx
   have hnx:s'.next=s.next+1:=by
    simp only[kr] at he
    have h1:=(bX he).2
    rcases gH h1 with⟨_,h2⟩|⟨_,h2⟩<;>(simp only[bg,bL] at h2;rw[<-h2.2];rfl)
   obtain⟨q1,Z,w',G',q2,q3,q4,q5⟩:=grow mu [] none 0 #[] s v s' rfl wr rfl (fun w' _=>by simp[o7]) (by simpa[bQ] using cp.nil) rfl (by simp) (by simpa using hyne) (by simpa using he) (hfr hnx)
   rw[q1]
   exact⟨Z,w',G',q2,q3,q4,q5⟩
  ·
   rename_i sz xs
   replace he:=bX he
   obtain⟨hsz',he⟩:=he
   obtain rfl:=fp hsz'
   have hnx:s'.next=s.next+1:=by
    simp only[kr] at he
    have h1:=(bX he).2
    rcases gH h1 with⟨_,h2⟩|⟨_,h2⟩<;>(simp only[bg,bL] at h2;rw[<-h2.2];rfl)
   obtain⟨CX,hXr,hvX,hsX,hmX⟩:=yc (P:=P) (mk:=mk) (s:=s) (ys:=xs) (g:=E.g) (n:=E.n) hg1 hpos (by simp[j2]) hx wr
   have hCXl:CX.size=xs.length*E.n:=by
    have:=hvX.length
    rw[kK hmX] at this
    simpa using this.symm
   cases hx with
   |list hsp hp hm hcap hro hr=>
   rename_i ad cap
   obtain rfl:cap=xs.length:=hr
   obtain⟨q1,Z,w',G',q2,q3,q4,q5⟩:=grow mu xs (some ad) xs.length CX s v s' rfl wr rfl (fun w' h=>by
    have:=(hXr w' h).2 xs.length (bB _)
    rwa [wD (by simp[hCXl])] at this) hvX hsX hmX (by omega) he (hfr hnx)
   rw[q1]
   exact⟨Z,w',G',q2,q3,q4,q5⟩
  ·
   rename_i sz xs k
   simp only[aG] at he
   obtain⟨ob,hob,he⟩:=he
   split at he
   ·replace he:=bX he
    obtain⟨hc,he⟩:=he
    simp only[cZ] at hc
    obtain rfl:=fp hc.2
    simp only[bg,bL] at he
    obtain⟨rfl,rfl⟩:=he
    have hn0:G.at_ s.next=none:=hfr rfl
    obtain⟨CX,hXr,hvX,hsX,hmX⟩:=yc (P:=P) (mk:=mk) (s:=s) (ys:=xs) (g:=E.g) (n:=E.n) hg1 hpos (by simp[j2]) hx wr
    have hCXl:CX.size=xs.length*E.n:=by
     have:=hvX.length
     rw[kK hmX] at this
     simpa using this.symm
    cases hx with
    |list hsp hp hm hcap hro hr=>
    rename_i ad cap
    obtain⟨b,off,sp⟩:=ad
    have hsp0:0<cap->sp=none:=fun h0=>by
     rcases hsp with h|h
     ·omega
     ·exact h
    obtain⟨hat,dm,hdm,hle⟩:=hr
    simp only at hat hdm hle
    by_cases hfit:xs.length+yl.length<=cap
    ·
     obtain rfl:=hsp0 (by omega)
     obtain⟨C,et,hC,hCs⟩:=wr.dim _ dm hdm
     have hmul:(xs.length+yl.length)*E.n<=cap*E.n:=uF _ hfit
     rw[mL] at hmul
     obtain⟨c1,c2⟩:=wr.extend (iV hob) hat hn0 hC hvY hsY (by rw[hCYl];omega)
     refine⟨_,_,_,FV hd hE ht2 (hk w rfl) (hY w rfl) hfit hC (by rw[hCYl];omega) (hvY.ones hsY),c1,c2,?_⟩
     rw[<-dp]
     refine .list (.inr rfl) hpos ?_ (by simpa using hfit) ?_ ⟨?_,dm,?_,hle⟩
     ·intro z hz
      rcases List.mem_append.1 hz with h|h
      ·exact hmX z h
      ·exact hmY z h
     ·intro i u hu
      rw[sf] at hu
      simp only[Gh.name,Gh.grown]
      by_cases h1:i<(bQ xs).length
      ·rw[o8 h1] at hu
       rw[kK hmX] at h1
       rw[if_neg (by rintro⟨_,h2,_⟩;omega)]
       exact hro i u hu
      ·rw[pY (by omega)] at hu
       rw[kK hmX] at h1 hu
       have h3:i-xs.length*E.n<(bQ yl).length:=by
        rcases im (i-xs.length*E.n) (bQ yl).length with h|h
        ·exact h
        ·simp[jF h] at hu
       rw[if_pos (by refine⟨?_,?_,?_⟩<;>first|trivial|omega),<-hu]
       congr 1;omega
     ·simp only[Gh.name,if_true]
      rw[kK hmY]
      congr 2
      simp only[dp,mL];omega
     ·exact hdm
    ·
     have hmade:kr E false (xs++yl) (s.put k none)=some (.list E.n (xs++yl) (.own s.next),(s.put k none).new .tok):=by
      simp only[kr,dp,hc.1,cT,cF]
      rfl
     obtain⟨q1,Z,w',G',q2,q3,q4,q5⟩:=grow false xs (some ⟨b,off,sp⟩) cap CX (s.put k none) _ _ rfl (wr.killed k) rfl (fun w' h=>by
      have:=(hXr w' h).2 xs.length (bB _)
      rwa [wD (by simp[hCXl])] at this) hvX hsX hmX (by omega) hmade hn0
     exact⟨Z,w',G',q2,q3,dr.after_kill q4,q5⟩
   ·cases he
  ·
   rename_i sz m off len lcap
   simp only[aG] at he
   obtain⟨ob,hob,he⟩:=he
   split at he
   ·rename_i cs
    replace he:=bX he
    obtain⟨hc,he⟩:=he
    simp only[cZ] at hc
    obtain rfl:=fp hc.2
    have hx0:=hx
    cases hx with
    |arr hat hsp hp hlen hcap hadr hdim hle=>
    rename_i ad bd cap dm
    obtain⟨b,aoff,sp⟩:=ad
    simp only at hsp;subst hsp
    obtain⟨bd',hat',hsp',C,et,hC,hdC,hcs⟩:=wr.obj m _ (iV hob)
    rw[hat] at hat';injection hat' with hat';subst hat'
    have hdd:dm=C.size:=by rw[hdim] at hdC;injection hdC
    replace he:=gH he
    rcases he with⟨hend,he⟩|⟨_,he⟩
    ·have hend:=fp hend
     simp only[bg,bL] at he
     obtain⟨rfl,rfl⟩:=he
     have hn0:G.at_ s.next=none:=hfr rfl
     by_cases hfit:len+yl.length<=cap
     ·rcases hadr with h0|⟨e1,e2⟩
      ·omega
      ·simp only at e1 e2
       subst e1;subst e2
       have hmul:(len+yl.length)*E.n<=cap*E.n:=uF _ hfit
       rw[mL] at hmul
       have hfit':bd.off+off+len*E.n+CY.toList.length<=C.size:=by simp[hCYl];omega
       obtain⟨c1,c2⟩:=wr.rehome (n:=s.next) (ad:=⟨bd.block,bd.off+off,none⟩) (C':=jg C (bd.off+off+len*E.n) CY.toList) (cs:=cs.drop off++bQ yl) (iV hob) hat hn0 hC (by simp) hdC rfl rfl (fun i u hu=>by
        show _/\ ∃y,(jg C (bd.off+off+len*E.n) CY.toList)[bd.off+off+i]? =some y/\_
        rw[Bg _ _ _ _ hfit']
        by_cases h1:i<(cs.drop off).length
        ·rw[o8 h1,rD] at hu
         simp only[tj] at h1
         rw[if_neg (by omega),ou]
         exact hcs _ u hu
        ·rw[pY (by omega)] at hu
         simp only[tj] at h1 hu
         obtain⟨p1,y,hy,p2⟩:=hvY.rows hsY _ u hu
         have h3:i-(cs.length-off)<(bQ yl).length:=by
          rcases im (i-(cs.length-off)) (bQ yl).length with h|h
          ·exact h
          ·simp[jF h] at hu
         rw[kK hmY] at h3
         rw[if_pos (by simp[hCYl];omega)]
         refine⟨p1,y,?_,p2⟩
         rw[<-hy,<-yy]
         congr 1;omega)
       refine⟨_,_,_,FV hd hE ht2 (hk w rfl) (hY w rfl) hfit hC (by simpa using hfit') (hvY.ones hsY),c1,c2,?_⟩
       exact .arr (b:=⟨bd.block,bd.off+off,none⟩) (by simp[Gh.name]) rfl hpos (bB _) hfit (.inr ⟨rfl,by simp⟩) (show G.dim bd.block=some dm from hdim) (by simpa using hle)
     ·have hcl:(cs.drop off).length=len*E.n:=by simp;omega
      obtain⟨xs,hxs⟩:=B7 hg1 len (cs.drop off) hcl
      have hsd:dL (cs.drop off)=true:=by
       simp only[dL,np]
       intro u hu
       obtain⟨i,hi⟩:=List.mem_iff_getElem?.1 (uB hu)
       exact(hcs i u hi).1
      obtain⟨k1,k2,k3⟩:=uW hg1 hxs hsd
      have hel:j2 mk E.g E.n (.arr E.n m off len lcap) s=some xs:=by
       have hcut:cut cs off (len*E.n)=some (cs.drop off):=by
        simp only[cut]
        have:(cs.drop off).take (len*E.n)=cs.drop off:=wD (by omega)
        rw[this,Fu]
        simp only[hcl,bS,cT]
       simp[j2,hob,hcut,hxs]
      obtain⟨CX,hXr,hvX,hsX,hmX⟩:=yc (P:=P) hg1 hpos hel hx0 wr
      have hCXl:CX.size=xs.length*E.n:=by
       have:=hvX.length
       rw[kK hmX] at this
       simpa using this.symm
      have hmade:kr E true (xs++yl) (s.put m none)=some (.arr E.n s.next 0 (len+yl.length) (len+yl.length),(s.put m none).new (.cells (cs.drop off++bQ yl))):=by
       simp only[kr,dp,k1,hc.1,cT,sf,k2]
       rfl
      obtain⟨q1,Z,w',G',q2,q3,q4,q5⟩:=grow true xs (some ⟨b,aoff,none⟩) cap CX (s.put m none) _ _ (by rw[k1]) (wr.killed m) rfl (fun w' h=>by
       have:=(hXr w' h).2 xs.length (bB _)
       rw[wD (by simp[hCXl])] at this
       rw[k1] at this ⊢
       exact this) hvX hsX hmX (by omega) hmade hn0
      exact⟨Z,w',G',q2,q3,dr.after_kill q4,q5⟩
    ·replace he:=bX he
     obtain⟨hin,he⟩:=he
     have hin:=jl hin
     simp only[aG] at he
     obtain⟨cs',hw,he⟩:=he
     simp only[bg,bL] at he
     obtain⟨rfl,rfl⟩:=he
     rcases hadr with h0|⟨e1,e2⟩
     ·omega
     ·simp only at e1 e2
      subst e1;subst e2
      have hne:bQ yl≠ []:=by
       intro e
       have h0:=kK hmY
       rw[e,aW] at h0
       have:=Nat.mul_pos hyne hpos
       omega
      obtain⟨hle2,hrows⟩:=ya (base:=bd.off) hw hvY hsY hne hcs
      have hfit':bd.off+off+len*E.n+CY.toList.length<=C.size:=by rw[ou bd.off];exact hle2
      obtain⟨c1,c2⟩:=wr.changed (o':=.cells cs') (ob:=.cells (jg C (bd.off+off+len*E.n) CY.toList) et (0,0)) (iV hob) hat
       ⟨_,et,by rw[iZ _ _ _ _ (gL hC),if_pos rfl],by rw[hdC];simp,by rw[ou bd.off];exact hrows⟩
       (fun i u hu=>by have:=(wr.apart m _ bd i u (iV hob) hat hu).1;cases this)
       (fun d hd=>by rw[hdC] at hd;injection hd with hd;exact⟨_,et,rfl,by simpa using hd⟩)
      exact⟨_,_,_,FV hd hE ht2 (hk w rfl) (hY w rfl) (by omega) hC (by simpa using hfit') (hvY.ones hsY),c1,c2 _ _,.arr hat rfl hpos hin hcap (.inr ⟨rfl,rfl⟩) hdim hle⟩
   ·cases he
  ·cases he
theorem akK {t t2 ty:TypeId} {x y:aj} {X Y:Value} (he:wX P mk t x y s=some (v,s')) (hx:VR G x X) (hy:VR G y Y) (wr:WR G s.heap w):
 ∃Z w',(wx #[t,t2] ty #[X,Y]).run P w= .ok Z w'/\WR G s'.heap w'/\(∀lo hi,dr G s.heap w G s'.heap w' lo hi)/\VR G v Z:=by
 simp only[wX,aG] at he
 obtain⟨E,hE,ys,hys,he⟩:=he
 obtain⟨e,hd,hE⟩:=yh hE
 obtain⟨hsz,_,hg,hpos,hg1,ti,zv,hb0,hi,hzv,hov,hzs,hib⟩:=r0 hE
 obtain⟨CY,hYr,hvY,hsY,hmY⟩:=yc (P:=P) hg1 hpos hys hy wr
 obtain⟨hk,hY⟩:=hYr w rfl
 split at he
 ·simp only[bg,bL] at he
  obtain⟨rfl,rfl⟩:=he
  cases hx
  have h0:=hY 0 (iB _)
  exact⟨_,w,by simp[wx,dw hd,hk,gY hsz,h0,goInt],wr,fun _ _=>.refl,.int _ _⟩
 ·simp only[bg,bL] at he
  obtain⟨rfl,rfl⟩:=he
  cases hx
  have h0:=hY 0 (iB _)
  exact⟨_,w,by simp[wx,dw hd,hk,gY hsz,h0,goInt,storeCells],wr,fun _ _=>.refl,.int _ _⟩
 ·rename_i sz m off len lcap
  replace he:=bX he
  obtain⟨hc,he⟩:=he
  obtain rfl:=fp hc
  simp only[aG] at he
  obtain⟨ob,hob,he⟩:=he
  split at he
  ·rename_i cs
   simp only[aG] at he
   obtain⟨cs',hw,he⟩:=he
   simp only[bg,bL] at he
   obtain⟨rfl,rfl⟩:=he
   cases hx with
   |arr hat hsp hp hlen hcap hadr hdim hle=>
   rename_i ad bd cap dm
   obtain⟨b,aoff,sp⟩:=ad
   simp only at hsp;subst hsp
   obtain⟨bd',hat',hsp',C,et,hC,hdC,hcs⟩:=wr.obj m _ (iV hob)
   rw[hat] at hat';injection hat' with hat';subst hat'
   have hl:(ys.take len).length=Nat.min ys.length len:=by rw[pZ];exact Nat.min_comm _ _
   have hkk:=hY (Nat.min ys.length len) (Nat.min_le_left _ _)
   have hmT: ∀u∈ys.take len,u.cells.length=E.n:=fun u hu=>hmY u (rH hu)
   have hft:bQ (ys.take len)=(bQ ys).take ((ys.take len).length*E.n):=by
    have key: ∀(A D:List aj),(∀u∈A,u.cells.length=E.n)->bQ A=(bQ (A++D)).take (A.length*E.n):=fun A D hA=>by
     rw[sf,List.take_append_of_le_length (by rw[kK hA];exact bB _),wD (by rw[kK hA];exact bB _)]
    have:=key (ys.take len) (ys.drop len) hmT
    rwa [nr] at this
   have hvT:cp G (bQ (ys.take len)) (CY.toList.take (Nat.min ys.length len*E.n)):=by rw[hft,hl];exact hvY.take _
   have hsT:dL (bQ (ys.take len))=true:=by
    rw[hft]
    simp only[dL,np] at hsY ⊢
    exact fun u hu=>hsY u (rH hu)
   by_cases hz:Nat.min ys.length len=0
   ·have hfe:bQ (ys.take len)=[]:=by
     have:=kK hmT
     rw[hl,hz,Nat.zero_mul] at this
     exact List.length_eq_zero_iff.1 this
    have hcs':cs'=cs:=by
     rw[hfe] at hw
     simp only[cV,aW,dc,cq,nr] at hw
     have:=(bX hw).2
     injection this with this
     exact this.symm
    subst hcs'
    rw[hz] at hkk
    have hsame:(s.put m (some (.cells cs'))).heap.get=s.heap.get:=by
     funext q
     show(s.heap.set m (some (.cells cs'))).get q=_
     rw[bv.get_set]
     by_cases e':q=m
     ·rw[if_pos e',e',iV hob]
     ·rw[if_neg e']
    have hown: ∀q,eM G (s.put m (some (.cells cs'))).heap q↔eM G s.heap q:=fun q=>by unfold eM;rw[hsame]
    refine⟨.int .i64 0,w,by simp[wx,dw hd,hk,gY hsz,hz,hkk,goInt,storeCells],?_,fun lo hi=>?_,?_⟩
    ·exact⟨fun q ob h=>wr.obj q ob (by rw[<-hsame];exact h),fun q r a b h1 h2=>wr.sep q r a b (by rw[<-hsame];exact h1) (by rw[<-hsame];exact h2),wr.ro,fun q ob a i v h=>wr.apart q ob a i v (by rw[<-hsame];exact h),wr.dim,wr.below⟩
    ·exact⟨.refl G,bB _,fun _ _ _=>rfl,fun q _ h=>(hown q).1 h,fun n a h h'=>(by rw[h] at h';cases h'),fun b o v _ h h'=>(by rw[h] at h';cases h'),.refl _⟩
    ·rw[hl,hz];exact .int _ _
   ·have hne:bQ (ys.take len)≠ []:=by
     intro e'
     have h0:=kK hmT
     rw[e',aW,hl] at h0
     have:=Nat.mul_pos (Nat.pos_of_ne_zero hz) hpos
     omega
    rcases hadr with h0|⟨e1,e2⟩
    ·have:Nat.min ys.length len<=len:=Nat.min_le_right _ _
     omega
    ·simp only at e1 e2
     subst e1;subst e2
     obtain⟨hle2,hrows⟩:=ya (base:=bd.off) hw hvT hsT hne hcs
     obtain⟨c1,c2⟩:=wr.changed (o':=.cells cs') (ob:=.cells (jg C (bd.off+off) (CY.toList.take (Nat.min ys.length len*E.n))) et (0,0)) (iV hob) hat
      ⟨_,et,by rw[iZ _ _ _ _ (gL hC),if_pos rfl],by rw[hdC];simp,hrows⟩
      (fun i u hu=>by have:=(wr.apart m _ bd i u (iV hob) hat hu).1;cases this)
      (fun d hd=>by rw[hdC] at hd;injection hd with hd;exact⟨_,et,rfl,by simpa using hd⟩)
     have hst:=AX (P:=P) bd.block (bd.off+off) et (CY.toList.take (Nat.min ys.length len*E.n)) 0 w C hC (by simpa using hle2) (hvT.ones hsT)
     simp only[dc] at hst
     refine⟨.int .i64 (Nat.min ys.length len:Nat),_,by simp[wx,dw hd,hk,gY hsz,hkk,hst,goInt],c1,c2,?_⟩
     rw[hl];exact .int _ _
  ·cases he
 ·cases he
theorem akJ {t ty:TypeId} {x:aj} {X:Value} (he:rX P mk t x s=some s') (hu: ∃d,P.underlying t=some d) (hx:VR G x X) (wr:WR G s.heap w):
 ∃w',(tg #[t] ty #[X]).run P w= .ok (.tuple #[]) w'/\WR G s'.heap w'/\ ∀lo hi,dr G s.heap w G s'.heap w' lo hi:=by
 obtain⟨d,hd⟩:=hu
 unfold rX at he
 split at he
 ·injection he with he;subst he;cases hx
  exact⟨w,by simp[tg,dw hd],wr,fun _ _=>.refl⟩
 ·injection he with he;subst he;cases hx
  exact⟨w,by simp[tg,dw hd],wr,fun _ _=>.refl⟩
 ·simp only[aG] at he
  obtain⟨ob,hob,he⟩:=he
  split at he
  ·injection he with he;subst he
   cases hx with
   |map hat=>
   obtain⟨ad,ES,h1,h2,h3,h4⟩:=rd wr hob
   rw[hat] at h1;injection h1 with h1;subst h1
   obtain⟨c1,c2⟩:=vC (es':=[]) (ES':= #[]) wr hob hat h3 .nil
   exact⟨_,by simp[tg,dw hd,nh h3,vZ _ h3],c1,c2⟩
  ·cases he
 ·injection he with he;subst he;cases hx
  exact⟨w,by simp[tg,dw hd],wr,fun _ _=>.refl⟩
 ·rename_i sz m off len lcap
  replace he:=gH he
  rcases he with⟨h0,he⟩|⟨h0,he⟩
  ·obtain rfl:=fp h0
   injection he with he;subst he;cases hx
   exact⟨w,by simp[tg,dw hd],wr,fun _ _=>.refl⟩
  ·have h0:=uS h0
   simp only[aG] at he
   obtain⟨E,hE,he⟩:=he
   obtain⟨e,hd',hE⟩:=yh hE
   obtain⟨hsz,_,hg,hpos,hg1,ti,zv,hb0,hi,hzv,hov,hzs,hib⟩:=r0 hE
   replace he:=bX he
   obtain⟨hc,he⟩:=he
   obtain rfl:=fp hc
   simp only[aG] at he
   obtain⟨ob,hob,he⟩:=he
   split at he
   ·rename_i cs
    simp only[aG] at he
    obtain⟨cs',hw,he⟩:=he
    injection he with he;subst he
    cases hx with
    |arr hat hsp hp hlen hcap hadr hdim hle=>
    rename_i ad bd cap dm
    obtain⟨b,aoff,sp⟩:=ad
    simp only at hsp;subst hsp
    obtain⟨bd',hat',hsp',C,et,hC,hdC,hcs⟩:=wr.obj m _ (iV hob)
    rw[hat] at hat';injection hat' with hat';subst hat'
    obtain⟨hzr,hzt⟩:=rl G hov
    obtain⟨R,hR,hRl,hRg⟩:=AO hzr.cells len
    have hrow:=GA (zs:=zv.cells) hRl hRg
    rcases hadr with h00|⟨e1,e2⟩
    ·omega
    ·simp only at e1 e2
     subst e1;subst e2
     have hne:gd E.z.cells len≠ []:=by
      intro e'
      have h1:=hR.length
      rw[e',aW,hRl,td,hzs] at h1
      have:=Nat.mul_pos (Nat.pos_of_ne_zero h0) hpos
      omega
     have hsR:=AP (hzr.scals_cells hzt) len
     obtain⟨hle2,hrows⟩:=ya (base:=bd.off) hw hR hsR hne hcs
     obtain⟨c1,c2⟩:=wr.changed (o':=.cells cs') (ob:=.cells (jg C (bd.off+off) R) et (0,0)) (iV hob) hat
      ⟨_,et,by rw[iZ _ _ _ _ (gL hC),if_pos rfl],by rw[hdC];simp,hrows⟩
      (fun i u hu=>by have:=(wr.apart m _ bd i u (iV hob) hat hu).1;cases this)
      (fun d hd=>by rw[hdC] at hd;injection hd with hd;exact⟨_,et,rfl,by simpa using hd⟩)
     have hst:=AX (P:=P) bd.block (bd.off+off) et R 0 w C hC (by simpa using hle2) (hR.ones hsR)
     simp only[dc] at hst
     have hzc:Builtin.zeroCells zv.cells len=⟨R⟩:=hrow
     obtain⟨len,rfl⟩: ∃l,len=l+1:=⟨len-1,by omega⟩
     exact⟨_,by simp[tg,dw hd',qC hi hzv,hzc,hst],c1,c2⟩
   ·cases he
 ·cases he
theorem ajb {hint:Tmp->Nat} {dst:Option Tmp} {c:Call} (ho:o.op= .call c) (wr:WR G s.heap w) (fx:dg G s.heap B fr a.tmps w)
 (he:qw P mk hint dst c fr s=some (v,loc',s')) (hfree: ∀n,s.next<=n->n<s'.next->G.at_ n=none):
 fP P G s.heap w B fr.loc s.next s'.next a o v loc' s'.heap:=by
 unfold qw at he
 split at he
 ·rename_i b hcal
  simp only[aG] at he
  obtain⟨args,hargs,he⟩:=he
  simp only[gX,aG] at he
  obtain⟨⟨v1,s1⟩,he,hq⟩:=he
  simp only[bg,bL] at hq
  obtain⟨rfl,rfl,rfl⟩:=hq
  obtain⟨hA,hAt⟩:=fx.evcs hargs
  have hres: ∀(nx:Sem Value),(∀cs,builtin b c.argTypes o.type cs (c.args.map a.eval)=(do pure (.value (<-nx))))->(execOp a.eval o).run P w=(nx.run P w).andThen fun y w'=>.ok (.value y) w':=by
   intro nx hnx
   simp[execOp,ho,resolve,hcal,invoke,hnx]
  have hmap:c.args.map a.eval=⟨c.args.toList.map a.eval⟩:=by apply lp;simp
  have htyp:c.argTypes=⟨c.argTypes.toList⟩:=rfl
  generalize hM:c.args.toList.map a.eval=M at hA hmap
  generalize hT:c.argTypes.toList=T at he htyp
  unfold lD at he
  split at he
  ·
   cases hA with|cons hx hl=>
   cases hl
   simp only[aG] at he
   obtain⟨y,hy,he⟩:=he
   simp only[bg,bL] at he
   obtain⟨rfl,rfl⟩:=he
   obtain⟨Y,hr,hv⟩:=akM (ty:=o.type) hy hx wr
   refine .pure wr fx (y:=Y) ?_ (LV.of_VR hv)
   rw[hres (rC c.argTypes o.type (c.args.map a.eval)) (fun _=>rfl),hmap,htyp,hr]
   rfl
  ·
   cases hA with|cons hx hl=>
   cases hl with|cons hy hl=>
   cases hl
   replace he:=bX he
   obtain⟨ht2,he⟩:=he
   obtain⟨Z,w',G',hr,h1,h2,h3⟩:=akF (ty:=o.type) he ht2 hx hy wr hfree
   refine .heap fx ?_ (.inl rfl) h1 h2 (LV.of_VR h3)
   rw[hres (rB c.argTypes o.type (c.args.map a.eval)) (fun _=>rfl),hmap,htyp,hr]
   rfl
  ·
   cases hA with|cons hx hl=>
   cases hl with|cons hy hl=>
   cases hl
   obtain⟨Z,w',hr,h1,h2,h3⟩:=akK (ty:=o.type) he hx hy wr
   refine .heap fx ?_ (.inl rfl) h1 (h2 _ _) (LV.of_VR h3)
   rw[hres (wx c.argTypes o.type (c.args.map a.eval)) (fun _=>rfl),hmap,htyp,hr]
   rfl
  ·
   cases hA with|cons hx hl=>
   cases hl
   simp only[aG] at he
   obtain⟨d,hd,s2,hs2,he⟩:=he
   simp only[bg,bL] at he
   obtain⟨rfl,rfl⟩:=he
   obtain⟨w',hr,h1,h2⟩:=akJ (ty:=o.type) hs2 ⟨d,hd⟩ hx wr
   refine .heap fx (y:=.tuple #[]) ?_ (.inl rfl) h1 (h2 _ _) (LV.of_VR (.tup .nil))
   rw[hres (tg c.argTypes o.type (c.args.map a.eval)) (fun _=>rfl),hmap,htyp,hr]
   rfl
  ·
   simp only[aG] at he
   obtain⟨y,hy,he⟩:=he
   simp only[bg,bL] at he
   obtain⟨rfl,rfl⟩:=he
   cases hA with
   |cons hx hl=>
    obtain⟨Y,hr,hv⟩:=Tg (P:=P) (isMax:=false) w hy hx hl
    refine .pure wr fx (y:=Y) ?_ (LV.of_VR hv)
    rw[hres (Builtin.min_ c.argTypes o.type (c.args.map a.eval)) (fun _=>rfl),hmap]
    simp only[Builtin.min_]
    simp only[qK,if_false] at hr
    rw[hr];rfl
  ·
   simp only[aG] at he
   obtain⟨y,hy,he⟩:=he
   simp only[bg,bL] at he
   obtain⟨rfl,rfl⟩:=he
   cases hA with
   |cons hx hl=>
    obtain⟨Y,hr,hv⟩:=Tg (P:=P) (isMax:=true) w hy hx hl
    refine .pure wr fx (y:=Y) ?_ (LV.of_VR hv)
    rw[hres (Builtin.max_ c.argTypes o.type (c.args.map a.eval)) (fun _=>rfl),hmap]
    simp only[Builtin.max_]
    simp only[if_true] at hr
    rw[hr];rfl
  ·cases he
 ·cases he
end
end Go.Ag
