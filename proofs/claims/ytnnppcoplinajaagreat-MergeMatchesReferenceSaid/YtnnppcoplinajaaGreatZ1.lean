/- The program as the evaluator takes it: codes. -/
import Derived.Test.YtnnppcoplinajaaGreatAg3
import Derived.Test.YtnnppcoplinajaaGreatProg
import Derived.KernelRfl
import Derived.Laws.Externs
set_option linter.defProp false
open Go.Callee renaming builtin→AI,value→oE
open Go.IntKind renaming i64→kq
open List renaming range→iv
open Nat renaming beq→aJ,ble→br,blt→bk,eq_of_beq_eq_true→iw
open Go.Op renaming binOp→fZ,buildSlice→xg,call→kS
open Go.Operand renaming const→dK,func→pK,tmp→aR
open Prod.mk renaming injEq→bj
open Go.ResultVar renaming cell→oK,tmp→bR
open Go.Proofs.Tryz renaming prog→ar
open Go.Value renaming int→kT,string→jO
namespace Go.Proofs.YtnnppcoplinajaaGreat
open Go.Ag
structure bT (N:Nat) (fn:Func) (k:SC) (n:Nat) (rs:List ResultVar):Prop where
 a:ar.funcs[N]? =some fn
 b:fn.body.map fP=some k
 c:fn.ntmps=n
 d:fn.results.toList=rs
variable{n:Nat}
def bT.of{N:Nat}{fn:Func}{k:SC}{rs:List ResultVar}(h:(ar.funcs[N]?,fn.body.map fP,fn.ntmps,fn.results.toList)=(some fn,some k,n,rs):=by kernel_rfl):bT N fn k n rs:=by
 simp only[bj] at h;exact⟨h.1,h.2.1,h.2.2.1,h.2.2.2⟩
def Jz:List Oper->Nat->Bool->SG
 | [],_,_=>.never
 |o::_,0,w=>match o.dst with
  |some d=>.when d w
  |none=>.never
 |_::l,n+1,w=>Jz l n w
def Pt(all:List Oper):Option (Nat×Bool)->SG
 |none=>.aw
 |some (j,w)=>Jz all j w
def DH(all:List Oper):List Oper->List aB
 | []=>[]
 |o::l=>⟨o.dst,o.op,Pt all o.guard⟩::DH all l
def Px:List (List Nat)->List Nat
 | []=>[]
 |a::_=>a
def Du:Nat->List (List Nat)->List (List Nat)
 |0,l=>l
 |_+1,[]=>[]
 |n+1,_::l=>Du n l
def uM:Code->Nat
 | .seq a b=>uM a+uM b
 | .cond _ a b=>uM a+uM b
 | .block _ b=>uM b
 | .loop b=>uM b
 | .region _ _ true=>1
 |_=>0
def v8:Code->List (List Nat)->SC
 | .ret,_=>.ret
 | .exit id,_=>.exit id
 | .seq a b,l=>.seq (v8 a l) (v8 b (Du (uM a) l))
 | .cond x a b,l=>.cond x (v8 a l) (v8 b (Du (uM a) l))
 | .block id b,l=>.block id (v8 b l)
 | .loop b,l=>.loop (v8 b l)
 | .region _ ops false,_=>.region (DH ops.toList ops.toList)
 | .region _ ops true,l=>.draw (DH ops.toList ops.toList) (Px l)
 |_,_=>.skip
def Ps(f:Func)(l:List (List Nat)):SC:=
 match f.body with
 |some c=>v8 c l
 |none=>.skip
def U9(t:Nat)(c:SC):SC:=
 match c with
 | .seq a b=>(match t with
   |0=>a
   |_+1=>b)
 | .cond _ a b=>(match t with
   |0=>a
   |_+1=>b)
 | .block _ b=>b
 | .loop b=>b
 |c=>c
def Iu:List Nat->SC->SC
 | [],c=>c
 |t::p,c=>Iu p (U9 t c)
def yU(a b:SC):Prop:=a=b
def yU.r(a:SC):yU a a:=rfl
structure ck (f:Func) (l:List (List Nat)) where
 y:SC
 h:yU y (Ps f l):=by(conv=>arg 2;arg 1;whnf);dsimp only[Ps,v8,uM,DH,Pt,Jz,Px,Du];exact yU.r _
structure dM (k:SC) (p:List Nat) where
 y:SC
 h:yU y (Iu p k):=by(conv=>arg 2;arg 2;whnf);dsimp only[Iu,U9];exact yU.r _
abbrev gI(r:List aB):SC:=.region r
abbrev fI(a b:SC):SC:=.seq a b
abbrev bQ(r:List aB)(k:SC):SC:=.seq (.region r) k
abbrev kH(t:Nat)(a b:SC):SC:=.cond (aR t) a b
abbrev I6(t n:Nat):SC:=.cond (aR t) .skip (.exit n)
abbrev ri(t n:Nat)(k:SC):SC:=.seq (.cond (aR t) .skip (.exit n)) k
abbrev gn(n:Nat)(k:SC):SC:=.block n k
abbrev oe(k:SC):SC:=.loop k
abbrev tP:SC:=.ret
abbrev oB:SC:=.skip
abbrev tS(r:List aB)(b:List Nat)(k:SC):SC:=.seq (.draw r b) k
abbrev aE(a b:Nat):aB:=⟨some a,Op.move (aR b),.aw⟩
abbrev bg(a b c:Nat):aB:=⟨some a,Op.load b (aR c),.aw⟩
abbrev bJ(a b:Nat):aB:=⟨some a,Op.assign (aR b),.aw⟩
abbrev cm(a b c d:Nat):aB:=⟨some a,Op.fieldAddr b (aR c) d,.aw⟩
abbrev iH(a b c:Nat):aB:=⟨some a,kS ⟨AI Builtin.len,#[aR b],#[c]⟩,.aw⟩
abbrev jY(a b c d:Nat):aB:=⟨some a,Op.indexAddr b (aR c) (aR d),.aw⟩
abbrev dD(a b c:Nat):aB:=⟨none,Op.store a (aR b) (aR c),.aw⟩
abbrev io(a b:Nat):aB:=⟨some a,fZ BinOp.add 3 (aR b) (dK (kT kq 1)) 3,.aw⟩
abbrev pk(a:Nat):aB:=⟨some a,Op.assign (dK (Value.bool false)),.aw⟩
abbrev GN(a:Nat)(b:Int):aB:=⟨some a,Op.assign (dK (kT kq b)),.aw⟩
abbrev nH(a b c d:Nat):aB:=⟨some a,fZ BinOp.lss b (aR c) (aR d) b,.aw⟩
abbrev ou(a b c:Nat):aB:=⟨some a,Op.box b (aR c),.aw⟩
abbrev jA(a b c d e f:Nat):aB:=⟨some a,kS ⟨oE (pK b),#[aR c,aR d],#[e,f]⟩,.aw⟩
abbrev ow(a b c d:Nat):aB:=⟨some a,Op.load b (aR c),(.when d true)⟩
abbrev eL(a b:Nat):aB:=⟨some a,Op.nilCheck (aR b),.aw⟩
abbrev jk(a:Nat):aB:=⟨some a,Op.assign (dK (Value.slice none 0 0)),.aw⟩
abbrev vg(a b c:Nat):aB:=⟨some a,Op.move (aR b),(.when c true)⟩
abbrev sD(a b c:Nat):aB:=⟨some a,Op.pick (aR b) (dK (Value.bool true)) (aR c),.aw⟩
abbrev hZ(a b c:Nat):aB:=⟨some a,Op.extract (aR b) c,.aw⟩
abbrev jl(a b:Nat):aB:=⟨some a,Op.alloc b,.aw⟩
abbrev yj(a b c:Nat):aB:=⟨some a,Op.move (aR b),(.when c false)⟩
abbrev sE(a b c d:Nat):aB:=⟨some a,Op.load b (aR c),(.when d false)⟩
abbrev Ac(a b c d e:Nat):aB:=⟨some a,Op.fieldAddr b (aR c) d,(.when e true)⟩
abbrev qY(a b c:Nat):aB:=⟨some a,Op.pick (aR b) (aR c) (dK (Value.bool false)),.aw⟩
abbrev pj(a b c d:Nat):aB:=⟨some a,kS ⟨oE (pK b),#[aR c],#[d]⟩,.aw⟩
abbrev nI(a b c d:Nat):aB:=⟨some a,kS ⟨AI Builtin.append,#[aR b,aR c],#[d,d]⟩,.aw⟩
abbrev Ad(a b c d e:Nat):aB:=⟨some a,Op.fieldAddr b (aR c) d,(.when e false)⟩
abbrev qZ(a b:Nat):aB:=⟨some a,Op.unOp UnOp.not 4 (aR b),.aw⟩
abbrev sF(a b c d:Nat):aB:=⟨some a,fZ BinOp.eql b (aR c) (aR d) b,.aw⟩
abbrev sG(a:Nat):aB:=⟨some a,Op.move (dK (kT kq 0)),.aw⟩
abbrev Ck(a:Nat):aB:=⟨some a,Op.assign (dK (Value.bool true)),.aw⟩
abbrev sH(a b c:Nat):aB:=⟨some a,xg b 1 #[(0,aR c)],.aw⟩
abbrev aqn(a b c d:Nat):aB:=⟨some a,fZ BinOp.neq b (aR c) (aR d) b,.aw⟩
abbrev rc(a b c:Nat)(d:Int):aB:=⟨some a,Op.indexAddr b (aR c) (dK (kT kq d)),.aw⟩
abbrev Cl(a b c d e:Nat):aB:=⟨some a,kS ⟨oE (pK b),#[aR c],#[d]⟩,(.when e false)⟩
abbrev aqo(a b c d e:Nat):aB:=⟨some a,Op.indexAddr b (aR c) (aR d),(.when e true)⟩
abbrev TA(a b:Nat)(c:Int):aB:=⟨some a,fZ BinOp.geq 3 (aR b) (dK (kT kq c)) 3,.aw⟩
abbrev Cm(a b c:Nat):aB:=⟨some a,Op.unOp UnOp.not 4 (aR b),(.when c false)⟩
abbrev aqp(a b c d:Nat):aB:=⟨some a,kS ⟨AI Builtin.len,#[aR b],#[c]⟩,(.when d false)⟩
abbrev aku(a b c d:Nat):aB:=⟨some a,Op.pick (aR b) (aR c) (dK (Value.bool false)),(.when d false)⟩
abbrev TB(a:Nat):aB:=⟨some a,Op.assign (dK (jO {data:= #[] })),.aw⟩
abbrev vh(a b c d:Nat):aB:=⟨some a,Op.lookup b (aR c) (aR d) false,.aw⟩
abbrev GH(a b:Nat)(c:Int):aB:=⟨some a,fZ BinOp.lss 3 (aR b) (dK (kT kq c)) 3,.aw⟩
abbrev yk(a b:Nat):aB:=⟨some a,fZ BinOp.sub 3 (aR b) (dK (kT kq 1)) 3,.aw⟩
abbrev ym(a b c d e f g:Nat):aB:=⟨some a,kS ⟨oE (pK b),#[aR c,aR d,aR e],#[f,g,g]⟩,.aw⟩
abbrev aqq(a b:Nat)(c:Int):aB:=⟨some a,fZ BinOp.eql 3 (aR b) (dK (kT kq c)) 3,.aw⟩
abbrev GI(a b c d e f:Nat):aB:=⟨some a,kS ⟨oE (pK b),#[aR c,aR d],#[e,e]⟩,(.when f true)⟩
abbrev aqr(a b:Nat)(c:Int)(d:Nat):aB:=⟨some a,fZ BinOp.gtr 3 (aR b) (dK (kT kq c)) 3,(.when d false)⟩
abbrev aqs(a b:Nat)(c:Int):aB:=⟨some a,fZ BinOp.gtr 3 (aR b) (dK (kT kq c)) 3,.aw⟩
abbrev TC(a b c d:Nat):aB:=⟨some a,Op.build b #[(0,aR c),(1,aR d)],.aw⟩
abbrev TD(a b c d e:Nat):aB:=⟨some a,fZ BinOp.eql b (aR c) (aR d) b,(.when e true)⟩
abbrev yn(a b c d e:Nat):aB:=⟨some a,kS ⟨oE (aR b),#[aR c,aR d],#[e,e]⟩,.aw⟩
abbrev akv(a b c d e:Nat):aB:=⟨some a,fZ BinOp.lss b (aR c) (aR d) b,(.when e true)⟩
abbrev akw(a b c d e:Nat):aB:=⟨some a,Op.indexAddr b (aR c) (aR d),(.when e false)⟩
abbrev TE(a b c d e:Nat):aB:=⟨some a,fZ BinOp.neq b (aR c) (aR d) b,(.when e false)⟩
abbrev GJ(a b:Nat):aB:=⟨some a,Op.makeMap b none,.aw⟩
abbrev Ae(a b c d e:Nat):aB:=⟨some a,Op.build b #[(0,aR c),(1,aR d),(2,aR e)],.aw⟩
abbrev aqt(a b c d:Nat):aB:=⟨some a,xg b 2 #[(0,aR c),(1,aR d)],.aw⟩
abbrev akx(a b c d:Nat):aB:=⟨some a,kS ⟨AI Builtin.len,#[aR b],#[c]⟩,(.when d true)⟩
abbrev aky(a b:Nat):aB:=⟨some a,Op.build b #[],.aw⟩
abbrev GK(a b c d:Nat):aB:=⟨none,Op.mapUpdate a (aR b) (aR c) (aR d),.aw⟩
abbrev LI(a b c d e:Nat):aB:=⟨some a,kS ⟨oE (pK b),#[aR c],#[d]⟩,(.when e true)⟩
abbrev aqu(a b:Nat)(c:Int)(d:Nat):aB:=⟨some a,fZ BinOp.lss 3 (aR b) (dK (kT kq c)) 3,(.when d true)⟩
abbrev aqv(a b c d:Nat):aB:=⟨some a,kS ⟨oE (aR b),#[aR c],#[d]⟩,.aw⟩
abbrev akz(a b c d e:Nat):aB:=⟨some a,fZ BinOp.eql b (aR c) (aR d) b,(.when e false)⟩
abbrev aqw(a b:Nat)(c:Int):aB:=⟨some a,fZ BinOp.neq 3 (aR b) (dK (kT kq c)) 3,.aw⟩
abbrev akA(a b c:Nat):aB:=⟨some a,Op.makeSlice b (aR c) (aR c),.aw⟩
abbrev aqx(a b c:Nat):aB:=⟨some a,fZ BinOp.sub 3 (aR b) (dK (kT kq 1)) 3,(.when c true)⟩
abbrev aqy(a b c d:Nat):aB:=⟨some a,fZ BinOp.geq 9 (aR b) (aR c) 9,(.when d true)⟩
abbrev TF(a b:Nat):aB:=⟨some a,fZ BinOp.eql 9 (aR b) (dK (jO {data:= #[] })) 9,.aw⟩
abbrev aqz(a b:Nat):aB:=⟨some a,xg b 0 #[],.aw⟩
abbrev LJ(a b c d e f g h i:Nat):aB:=⟨some a,kS ⟨oE (pK b),#[aR c,aR d,aR e,aR f],#[g,h,h,i]⟩,.aw⟩
abbrev LK(a b c:Nat):aB:=⟨some a,Op.build b #[(0,aR c)],.aw⟩
abbrev akB(a b c:Nat):aB:=⟨some a,Op.range b (aR c),.aw⟩
abbrev akC(a b:Nat):aB:=⟨some a,Op.next (aR b) false,.aw⟩
abbrev akD(a b:Nat):aB:=⟨some a,Op.entry (aR b),.aw⟩
abbrev GL(a b:Nat):aB:=⟨some a,fZ BinOp.neq 151 (aR b) (dK (Value.pointer none)) 151,.aw⟩
abbrev akE(a:Nat):aB:=⟨some a,Op.assign (dK (Value.pointer none)),.aw⟩
abbrev GM(a b c:Nat):aB:=⟨some a,Op.nilCheck (aR b),(.when c true)⟩
abbrev TG(a b c:Nat):aB:=⟨some a,fZ BinOp.eql b (aR c) (dK (Value.pointer none)) b,.aw⟩
abbrev aqA(a b:Nat)(c:Int):aB:=⟨some a,fZ BinOp.leq 3 (aR b) (dK (kT kq c)) 3,.aw⟩
abbrev akF(a b:Nat)(c:Int)(d:Nat):aB:=⟨some a,fZ BinOp.lss 3 (aR b) (dK (kT kq c)) 3,(.when d false)⟩
abbrev LL(a b c d:Nat):aB:=⟨some a,Op.slice 25 (aR b) (some (aR c)) (some (aR d)) none,.aw⟩
abbrev akG(a b c d e f g:Nat):aB:=⟨some a,kS ⟨oE (pK b),#[aR c,aR d],#[e,f]⟩,(.when g false)⟩
abbrev aqB(a b:Nat):aB:=⟨some a,fZ BinOp.neq 9 (aR b) (dK (jO {data:= #[] })) 9,.aw⟩
abbrev akH(a b c d:Nat):aB:=⟨some a,Op.slice b (aR c) (some (aR d)) none none,.aw⟩
abbrev aqC(a b:Nat)(c:Int)(d:Nat):aB:=⟨some a,fZ BinOp.geq 3 (aR b) (dK (kT kq c)) 3,(.when d false)⟩
abbrev LM(a:Nat):aB:=⟨some a,xg 25 1 #[(0,dK (jO {data:= #[111,98,106,101,99,116] }))],.aw⟩
abbrev aqD(a b c d:Nat):aB:=⟨some a,fZ BinOp.gtr b (aR c) (aR d) b,.aw⟩
abbrev akI(a b c d e f:Nat):aB:=⟨some a,kS ⟨oE (pK b),#[aR c,pK d],#[e,f]⟩,.aw⟩
abbrev aqE:aB:=⟨some 2,Op.assign (dK Value.nilFunc),.aw⟩
abbrev aqF(a:Nat):aB:=⟨some 3,Op.makeFunc (Fn.func a) #[] #[aR 1],.aw⟩
abbrev akJ(a b c d:Nat):aB:=⟨some a,Op.index b (aR c) (aR d),.aw⟩
abbrev aqG(a b:Nat)(c:Int)(d:Nat):aB:=⟨some a,fZ BinOp.eql 3 (aR b) (dK (kT kq c)) 3,(.when d false)⟩
abbrev TH(a b c:Nat):aB:=⟨none,Op.mapUpdate a (aR b) (aR c) (dK (Value.bool true)),.aw⟩
abbrev LN(a b c:Nat):aB:=⟨some a,fZ BinOp.sub 3 (aR b) (aR c) 3,.aw⟩
def PA(n:Nat):List (Nat×Nat)->Nat
 | []=>0
 |(k,v)::l=>bif aJ k n then v else PA n l
def ac4:List (Nat×List (Nat×Nat)):=[
(3,[(4,1),(5,1),(7,1)]),
(4,[(3,1),(4,1)]),
(5,[(2,1),(3,1),(7,1),(12,1),(16,1)]),
(7,[(3,1),(4,1),(5,1),(10,1)]),
(8,[(3,1),(4,1),(8,1),(16,1)]),
(9,[(3,1),(4,1),(8,1),(17,1)]),
(10,[(3,1),(4,1),(8,1)]),
(11,[(3,1),(4,1),(8,1),(13,1),(14,1)]),
(12,[(3,1),(4,1),(5,1),(8,1),(10,1)]),
(13,[(3,1),(4,1),(5,1),(8,1),(10,1)]),
(14,[(3,1),(4,1),(5,1),(8,1)]),
(15,[(1,1),(3,1),(6,1),(7,1)]),
(16,[(3,1),(4,1)]),
(18,[(2,1),(10,1),(14,1)]),
(19,[(2,1),(3,1)]),
(20,[(2,1),(3,1)]),
(21,[(2,1),(4,1),(10,1),(12,1)]),
(22,[(2,1),(4,1),(9,1),(11,1)]),
(23,[(2,1),(3,1)]),
(24,[(2,1),(3,1)]),
(25,[(3,1),(4,1)]),
(26,[(3,1),(4,1),(5,1)]),
(27,[(3,1)]),
(28,[(2,1),(4,1)]),
(29,[(3,1),(4,1)]),
(30,[(1,1)]),
(31,[(1,1),(5,1)]),
(32,[(2,1)]),
(33,[(2,1),(6,1)]),
(34,[(2,1),(3,1),(4,1),(8,1)]),
(36,[(1,1),(2,1),(4,1),(5,1),(8,1),(9,1),(12,1)]),
(37,[(3,1),(4,1)]),
(38,[(6,1),(17,1)]),
(39,[(5,1),(11,1),(40,2),(120,2)]),
(43,[(2,1),(4,1),(9,1),(10,1)]),
(45,[(1,1),(2,1),(4,1),(6,1),(8,1),(9,1),(10,1),(11,1),(12,1),(16,1)]),
(46,[(3,1),(4,1),(5,1)]),
(47,[(3,1),(4,1),(5,1),(6,1),(15,1)]),
(48,[(3,1),(4,1),(5,1),(6,1),(8,1),(12,1),(17,1),(19,1),(21,1)]),
(50,[(3,1),(4,1),(5,1),(6,1),(10,1)]),
(51,[(3,1),(4,1),(5,1),(6,1),(10,1)]),
(54,[(0,1)]),
(56,[(2,1)]),
(57,[(2,1),(7,1),(10,1)]),
(58,[(1,1),(6,1)]),
(59,[(1,1),(3,1),(10,1),(13,1),(19,1),(21,1),(176,2)]),
(60,[(1,1)]),
(61,[(1,1),(8,1)]),
(62,[(1,1)]),
(63,[(3,1),(4,1)]),
(64,[(2,1),(3,1)]),
(65,[(1,1),(5,1)]),
(68,[(3,1),(4,1),(5,1),(9,1),(11,1)]),
(69,[(2,1)]),
(71,[(3,1),(4,1),(5,1),(10,1)]),
(72,[(2,1)]),
(74,[(1,1)]),
(77,[(2,1)]),
(79,[(2,1)]),
(80,[(7,2)]),
(83,[(6,1)]),
(84,[(6,1)]),
(86,[(5,1),(6,1)]),
(87,[(2,1),(3,1),(7,1)]),
(88,[(6,1),(10,1),(16,1)]),
(89,[(1,1),(2,1)]),
(91,[(1,1)]),
(93,[(1,1)]),
(96,[(1,1),(5,1),(7,1)]),
(97,[(3,1),(4,1),(6,1),(7,1),(9,1),(10,1)]),
(98,[(2,1)]),
(99,[(8,1),(9,1)]),
(100,[(1,1)]),
(107,[(2,1),(3,1)]),
(110,[(1,1)]),
(111,[(4,1),(5,1),(6,1),(8,1),(11,1),(13,1),(15,1),(17,1)]),
(112,[(2,1),(3,1),(4,1)]),
(113,[(3,1)]),
(114,[(4,1),(5,1),(6,1),(7,1)]),
(115,[(2,1),(4,1)]),
(116,[(2,1),(3,1)]),
(117,[(2,1),(3,1),(15,1)]),
(118,[(3,1),(4,1),(6,1),(14,1),(15,1)]),
(119,[(1,1),(3,1)]),
(122,[(0,1)]),
(123,[(6,1)]),
(124,[(2,1),(7,1),(10,1)]),
(125,[(1,1)]),
(126,[(1,1),(2,1),(4,1),(6,1)]),
(127,[(1,1),(5,1),(10,1),(12,1),(93,2)]),
(129,[(2,1),(4,1)]),
(131,[(11,1),(15,1)]),
(132,[(2,1),(7,1)]),
(135,[(2,1),(3,1)]),
(137,[(1,1),(5,1),(7,1),(11,1)]),
(138,[(25,2)]),
(142,[(1,1),(6,1),(8,1)]),
(143,[(3,1),(7,1)]),
(144,[(3,1)]),
(145,[(3,1)]),
(146,[(1,1)]),
(147,[(2,1),(4,1),(5,1)]),
(148,[(2,1),(3,1)]),
(149,[(1,1)]),
(150,[(1,1)]),
(151,[(1,1)]),
(152,[(2,1)]),
(156,[(2,1)]),
(157,[(7,1)]),
(158,[(2,1)]),
(159,[(1,1)]),
(162,[(3,1)]),
(163,[(3,1)]),
(164,[(5,1)]),
(168,[(1,1)]),
(170,[(1,1)]),
(172,[(2,1)]),
(175,[(6,1)]),
(176,[(2,1),(3,1)]),
(179,[(1,1)]),
(180,[(1,1),(3,1)]),
(182,[(3,1)]),
(183,[(3,1),(4,1),(11,1)]),
(184,[(2,1),(4,1)]),
(193,[(3,1)]),
(195,[(2,1),(3,1),(4,1)]),
(196,[(3,1),(4,1),(5,1),(6,1),(8,1)]),
(197,[(2,1),(4,1),(5,1)]),
(198,[(2,1)]),
(199,[(2,1),(3,1)]),
(201,[(1,1)]),
(202,[(2,1)]),
(204,[(4,1),(5,1),(12,1)]),
(205,[(1,1)]),
(206,[(3,1),(4,1)]),
(208,[(4,1),(5,1),(8,1),(9,1),(10,1)]),
(210,[(6,1)]),
(211,[(1,1)]),
(212,[(1,1)]),
(213,[(1,1),(5,1),(9,1)]),
(214,[(7,1)]),
(215,[(3,1)]),
(219,[(3,1)]),
(221,[(2,1),(3,1)]),
(224,[(6,1),(12,1),(19,2),(92,2),(97,2)]),
(225,[(2,1),(3,1)]),
(237,[(4,1)]),
(239,[(1,1)]),
(242,[(1,1)]),
(243,[(2,1)]),
(245,[(1,1),(5,1)]),
(246,[(2,1),(3,1)]),
(247,[(3,1)]),
(248,[(4,1)]),
(249,[(2,1)]),
(250,[(2,1)]),
(251,[(1,1)]),
(253,[(2,1)]),
(254,[(2,1),(3,1)]),
(255,[(2,1),(3,1)]),
(256,[(2,1),(8,1)]),
(260,[(0,1),(1,1)]),
(264,[(2,1)]),
(270,[(2,1),(3,1)]),
(272,[(4,1)]),
(276,[(4,1),(5,1),(6,1),(10,1)]),
(277,[(4,1),(5,1),(6,1),(7,1)]),
(279,[(2,1),(3,1)]),
(280,[(10,1),(13,1),(19,1),(22,1)]),
(281,[(7,1),(8,1),(9,1),(10,1)]),
(282,[(8,1),(13,1),(18,1)]),
(284,[(11,2)]),
(285,[(11,2)]),
(290,[(2,1),(3,1)]),
(292,[(2,1),(3,1)]),
(293,[(2,1),(4,1),(8,1)]),
(294,[(3,1)]),
(296,[(1,1)]),
(297,[(1,1)]),
(298,[(3,1)]),
(303,[(4,1)]),
(305,[(2,1),(3,1)]),
(306,[(7,1)]),
(307,[(2,1)]),
(308,[(2,1),(3,1)]),
(310,[(2,1),(3,1)]),
(311,[(4,1)]),
(312,[(1,1),(2,1)]),
(313,[(3,1),(4,1),(5,1)]),
(314,[(2,1),(3,1),(5,1),(6,1)]),
(339,[(4,1)]),
(340,[(7,1)]),
(341,[(1,1),(2,1)]),
(343,[(1,1)]),
(344,[(5,1),(6,1),(10,1)]),
(345,[(2,1),(3,1)]),
(346,[(1,1),(2,1)]),
(347,[(2,1),(7,1)]),
(349,[(4,1)]),
(350,[(10,1)]),
(351,[(2,1)]),
(352,[(4,1)]),
(354,[(3,1),(4,1),(5,1)]),
(355,[(2,1),(3,1)]),
(364,[(2,1)]),
(369,[(3,1)]),
(378,[(4,1),(5,1)]),
(379,[(2,1),(3,1)]),
(381,[(5,1)]),
(391,[(14,2)]),
(396,[(2,1)]),
(397,[(1,1),(3,1)]),
(398,[(1,1)]),
(399,[(1,1)]),
(400,[(1,1)]),
(401,[(2,1),(3,1),(4,1)]),
(406,[(3,1)]),
(420,[(2,1),(3,1),(4,1)]),
(421,[(2,1),(3,1)]),
(422,[(2,1),(3,1)]),
(429,[(1,1)]),
(430,[(1,1)]),
(442,[(3,1),(4,1),(5,1)]),
(444,[(1,1)]),
(445,[(2,1),(3,1)]),
(446,[(2,1),(3,1)]),
(447,[(3,1),(4,1),(5,1)]),
(450,[(3,1),(7,1)]),
(451,[(1,1)]),
(452,[(3,1)]),
(462,[(4,1)]),
(467,[(12,2),(24,2)]),
(468,[(1,1),(2,1)]),
(470,[(2,1),(3,1)]),
(471,[(2,1),(3,1),(4,1)]),
(472,[(3,1),(4,1),(5,1),(6,1),(12,1),(14,1)]),
(474,[(2,1)]),
(500,[(1,1)]),
(501,[(3,1),(4,1),(5,1)]),
(503,[(2,1),(3,1)]),
(504,[(3,1),(4,1),(5,1)]),
(506,[(2,1),(3,1)]),
(507,[(3,1)]),
(515,[(3,1),(8,1)])]
def PB(f t:Nat):List (Nat×List (Nat×Nat))->Nat
 | []=>0
 |(k,v)::l=>bif aJ k f then PA t v else PB f t l
def aH(f:FuncId)(t:Tmp):Nat:=PB f t ac4
noncomputable def QS(sp:FuncId->Option (List ae->Option ae)):bF:= {P:=ar,hint:=aH,spec:=sp,ch:=fun _=>0,kmax:=fun _=>2 }
def WA(sp:FuncId->Option (List ae->Option ae)):(QS sp).P=ar:=rfl
def WB(sp:FuncId->Option (List ae->Option ae)):(QS sp).hint=aH:=rfl
def WC(sp:FuncId->Option (List ae->Option ae)):(QS sp).spec=sp:=rfl
def afu:List Nat:=[0,1,0,7,15,0,32,0,224,480,1023,2047]
def QF:=({y:=_}:ck Tryz.f20 [afu]).1
def afv:=({y:=_}:dM QF [1,1,0,1,0,0]).1
def EL:bT 20 Tryz.f20 QF 32 [bR 4]:=.of
def adh:aH 20 2=1/\aH 20 3=1:=by and_intros<;>kernel_rfl
abbrev agp:List aB:=[pk 2]
def Q9:=({y:=_}:ck Tryz.f31 []).1
def ago:=({y:=_}:dM Q9 [1,1,0,1,0,0]).1
def Fa:bT 31 Tryz.f31 Q9 29 [bR 2]:=.of
def PL:aH 31 1=1/\aH 31 5=1:=by and_intros<;>kernel_rfl
def ags:List Nat:=[0,1,0,7,15,31,63,0,128,0,896,1920,3968,8064,16383,32767]
abbrev agw:List aB:=[pk 4]
def Fd:=({y:=_}:ck Tryz.f33 [ags]).1
def agt:=({y:=_}:dM Fd [1,1,0,1,0,0,1,0,0,1,1,0,1,0,0]).1
def agu:=({y:=_}:dM Fd [1,1,0,1,0,0,1,0,0,1,1,1,1,0,0]).1
def agv:=({y:=_}:dM Fd [1,1,0,1,0,0]).1
def Fe:bT 33 Tryz.f33 Fd 79 [bR 4]:=.of
def PM:aH 33 2=1/\aH 33 6=1:=by and_intros<;>kernel_rfl
def k46:=({y:=_}:ck Tryz.f46 []).1
def FI:bT 46 Tryz.f46 k46 17 [bR 6]:=.of
def adr:aH 46 3=1/\aH 46 4=1/\aH 46 5=1:=by and_intros<;>kernel_rfl
def KB:List Nat:=[0,1,0,7,0,31,0,0,255,511,1023]
def agY:List Nat:=[0,1,3,7,0,16,48,112,0,256,768,1792,4095,8191,0]
def agX:List Nat:=[0,1,0,4,12,28,0,124,252,508,1020,2047,4095,8191]
abbrev RD:List aB:=[aky 32 24,dD 24 6 32,jk 7]
abbrev RE:List aB:=[bg 33 24 3,pj 34 100 33 24,bg 35 24 4,pj 36 100 35 24,bg 37 24 5,pj 38 100 37 24,GJ 39 145,GJ 40 147,⟨some 41,Op.build 149 #[(0,aR 34),(1,aR 36),(2,aR 38),(3,aR 39),(4,aR 40)],.aw⟩,ou 42 149 41,bJ 8 42]
def KC:SC:=(bQ [akC 63 62,hZ 64 63 0] (ri 64 2 (gn 3 (bQ [akD 65 62,hZ 66 65 0,bJ 11 66] (bQ [aE 67 8,aE 68 11,jA 69 101 67 68 144 9,bJ 12 69] (bQ [aE 70 12,GL 71 70] (kH 71 (gI [aE 72 8,eL 73 72,cm 74 149 73 3,bg 75 145 74,aE 76 11,aE 77 12,GK 145 75 76 77]) oB)))))))
def RA:SC:=(bQ [nH 58 3 57 56] (ri 58 0 (fI (gn 1 (bQ [jY 59 150 55 57,bg 60 145 59,bJ 10 60] (bQ [aE 61 10,akB 62 145 61] (gn 2 (oe KC))))) (gI [io 78 57,aE 57 78]))))
def RB:SC:=(bQ [nH 87 3 86 85] (ri 87 4 (fI (gn 5 (bQ [jY 88 25 84 86,bg 89 9 88,bJ 14 89] (gI [aE 90 8,aE 91 8,eL 92 91,cm 93 149 92 3,bg 94 145 93,aE 95 14,vh 96 145 94 95,jA 97 104 90 96 144 151]))) (gI [io 98 86,aE 86 98]))))
abbrev BN:List aB:=[cm 110 24 15 0,bg 111 22 110,aE 112 8,eL 113 112,cm 114 149 113 3,bg 115 145 114,aE 116 17,vh 117 145 115 116,eL 118 117,bg 119 52 118,sH 120 22 119,nI 121 111 120 22,cm 122 24 15 0,dD 22 122 121]
def RC:SC:=(bQ [nH 107 3 106 105] (ri 107 6 (fI (gn 7 (bQ [jY 108 25 104 106,bg 109 9 108,bJ 17 109] (.draw BN agX))) (gI [io 123 106,aE 106 123]))))
def k47:SC:=(bQ [ou 3 24 0,ou 4 24 1,ou 5 24 2,jl 6 24,jk 7] (fI (bQ [bg 19 24 3,pj 20 31 19 24,qZ 21 20,aE 22 21,sE 23 24 4 22,Cl 24 31 23 24 22,Cm 25 24 22,sD 26 22 25,aE 27 26,sE 28 24 5 27,Cl 29 31 28 24 27,Cm 30 29 27,sD 31 27 30] (kH 31 (bQ RD tP) oB)) (tS RE KB (fI (tS [aE 43 8,eL 44 43,cm 45 149 44 0,bg 46 145 45,aE 47 8,eL 48 47,cm 49 149 48 1,bg 50 145 49,aE 51 8,eL 52 51,cm 53 149 52 2,bg 54 145 53,⟨some 55,xg 150 3 #[(0,aR 46),(1,aR 50),(2,aR 54)],.aw⟩,iH 56 55 150,sG 57] agY (gn 0 (oe RA))) (fI (bQ [aE 79 8,eL 80 79,cm 81 149 80 3,bg 82 145 81,pj 83 103 82 145,pj 84 102 83 155,iH 85 84 25,sG 86] (gn 4 (oe RB))) (bQ [jl 15 24] (fI (bQ [aE 99 8,eL 100 99,cm 101 149 100 3,bg 102 145 101,pj 103 103 102 145,pj 104 102 103 155,iH 105 104 25,sG 106] (gn 6 (oe RC))) (bQ [aE 124 8,eL 125 124,cm 126 149 125 4,bg 127 147 126,pj 128 106 127 147,akI 129 105 128 107 160 164,bJ 18 129] (bQ [bg 130 24 15,aE 131 18,dD 24 6 130,bJ 7 131] tP)))))))))
def wx:bT 47 Tryz.f47 k47 132 [oK 6 24,bR 7]:=.of
def uR:aH 47 3=1/\aH 47 4=1/\aH 47 5=1/\aH 47 6=1/\aH 47 15=1/\aH 47 42=0/\aH 47 55=0/\aH 47 56=0/\aH 47 85=0/\aH 47 105=0/\aH 47 120=0/\aH 47 121=0:=by and_intros<;>kernel_rfl
def ahk:List Nat:=[0,0,3,7,0,0,48,112,255]
def RK:=({y:=_}:ck Tryz.f49 [ahk]).1
def ahl:=({y:=_}:dM RK [1,1,0,1,0,0]).1
def FP:bT 49 Tryz.f49 RK 26 [bR 4]:=.of
def JL:aH 49 7=0/\aH 49 9=0/\aH 49 13=0:=by and_intros<;>kernel_rfl
def RN:List Nat:=[0,1,0,7,15,0,32,0,224,480,1023]
def RM:List Nat:=[0,1,0,7,15,0,32,0,224,480,1023]
def uT:=({y:=_}:ck Tryz.f64 [RN,RM]).1
def BO:=({y:=_}:dM uT [1,1,0,1,0,0]).1
def BP:=({y:=_}:dM uT [1,1,1,0,1,0,0]).1
def wy:bT 64 Tryz.f64 uT 80 [bR 4]:=.of
def qj:aH 64 2=1/\aH 64 3=1/\aH 64 29=0/\aH 64 32=0/\aH 64 38=0/\aH 64 41=0/\aH 64 47=0/\aH 64 65=0:=by and_intros<;>kernel_rfl
def ahn:List Nat:=[0,0,3,7,0,0,48,112,255]
def RR:=({y:=_}:ck Tryz.f70 [ahn]).1
def aho:=({y:=_}:dM RR [1,1,0,1,0,0]).1
def FR:bT 70 Tryz.f70 RR 26 [bR 4]:=.of
def PQ:aH 70 7=0/\aH 70 9=0/\aH 70 12=0:=by and_intros<;>kernel_rfl
def ahq:List Nat:=[0,1,3,7,15,31,63,127,255,511,1023,2047,4095,8191,16383,32767,65535,131071,262143,524287,131071,1179647,3276799,8388607,16777215,33554431,67108863,134217727,268435455,536870911,1073741823]
abbrev ahr:List aB:=[pk 2]
def k75:=({y:=_}:ck Tryz.f75 [ahq]).1
def FS:bT 75 Tryz.f75 k75 72 [bR 2]:=.of
def JM:aH 75 1=0/\aH 75 3=0/\aH 75 4=0:=by and_intros<;>kernel_rfl
def Qb:=({y:=_}:ck Tryz.f100 []).1
def J1:=({y:=_}:dM Qb [1,1,0,1,0,0]).1
def DT:bT 100 Tryz.f100 Qb 22 [bR 2]:=.of
def DM:aH 100 1=1/\aH 100 5=0/\aH 100 8=0/\aH 100 12=0:=by and_intros<;>kernel_rfl
def ad2:List Nat:=[0,1,3,7,0,31,0,64,192,448,0,1984,0,4096,12288,28672,0,126976,63,266239,1048575]
def Qc:List Nat:=[0,1,3,7,15,31,63,127,255,511,1023,2047,4095,8191,16383,2047,34815,100351,231423,524287,1048575,2097151,4194303,8388607,16777215,33554431,4194303,71303167,205520895,473956351,1073741823,2147483647,4294967295]
abbrev ad4:List aB:=[aE 33 6,bJ 4 33]
abbrev ad5:List aB:=[aE 40 6,GL 41 40,aE 42 41,vg 43 7 42,⟨some 44,fZ BinOp.neq 151 (aR 43) (dK (Value.pointer none)) 151,(.when 42 true)⟩,qY 45 42 44,aE 46 45,vg 47 5 46,⟨some 48,fZ BinOp.neq 151 (aR 47) (dK (Value.pointer none)) 151,(.when 46 true)⟩,qY 49 46 48,aE 50 49,vg 51 6 50,GM 52 51 50,Ac 53 52 52 1 50,ow 54 3 53 50,vg 55 5 50,GM 56 55 50,Ac 57 52 56 1 50,ow 58 3 57 50,TD 59 3 54 58 50,qY 60 50 59,aE 61 60,vg 62 7 61,GM 63 62 61,Ac 64 52 63 1 61,ow 65 3 64 61,vg 66 5 61,GM 67 66 61,Ac 68 52 67 1 61,ow 69 3 68 61,TD 70 3 65 69 61,qY 71 61 70,bJ 39 71]
abbrev ad6:List aB:=[aE 72 0,aE 73 5,aE 74 6,aE 75 7,LJ 76 186 72 73 74 75 144 151 151,bJ 4 76]
abbrev ad7:List aB:=[aE 77 0,aE 78 1,He 79 (kS {callee:=oE (pK 187),args:= #[aR 77,aR 78,dK (jO {data:= #[111,98,106,101,99,116] })],argTypes:= #[144,9,9] })]
abbrev ad3:List aB:=[aE 80 6,aE 81 7,jA 82 188 80 81 151 151,bJ 4 82]
def ad1:=({y:=_}:ck Tryz.f101 [ad2,Qc]).1
def DU:bT 101 Tryz.f101 ad1 83 [bR 4]:=.of
def ad8:=({y:=_}:ck Tryz.f102 []).1
def DV:bT 102 Tryz.f102 ad8 9 [bR 2]:=.of
def ad9:=({y:=_}:ck Tryz.f103 []).1
def DW:bT 103 Tryz.f103 ad9 4 [bR 2]:=.of
def ac5:aH 103 1=0:=by kernel_rfl
def Qd:List Nat:=[0,1,3,7,0,31,0,64,192,448,0,1984,4095,8191]
abbrev BG:List aB:=[aE 31 0,eL 32 31,cm 33 149 32 1,bg 34 145 33,aE 35 5,vh 36 145 34 35,aE 37 0,eL 38 37,cm 39 149 38 2,bg 40 145 39,aE 41 5,vh 42 145 40 41,jA 43 188 36 42 151 151,bJ 6 43]
abbrev Qf:List aB:=[aE 44 6,GL 45 44]
abbrev Qg:List aB:=[aE 46 0,eL 47 46,cm 48 149 47 3,bg 49 145 48,aE 50 5,aE 51 6,GK 145 49 50 51]
abbrev Qh:List aB:=[aE 52 0,aE 53 5,He 54 (kS {callee:=oE (pK 187),args:= #[aR 52,aR 53,dK (jO {data:= #[111,98,106,101,99,116] })],argTypes:= #[144,9,9] })]
abbrev Qe:List aB:=[aE 55 0,aE 56 6,jA 57 104 55 56 144 151]
def J2:SC:=(bQ [nH 13 3 12 11] (ri 13 0 (fI (gn 1 (bQ [jY 14 25 10 12,bg 15 9 14,bJ 5 15] (fI (bQ [aE 16 0,eL 17 16,cm 18 149 17 3,bg 19 145 18,aE 20 5,vh 21 145 19 20,GL 22 21] (kH 22 (.exit 1) oB)) (bQ [aE 23 0,eL 24 23,cm 25 149 24 0,bg 26 145 25,aE 27 5,vh 28 145 26 27,bJ 6 28] (fI (bQ [aE 29 6,TG 30 151 29] (kH 30 (.draw BG Qd) oB)) (bQ Qf (kH 45 (bQ Qg (bQ Qh (gI Qe))) oB))))))) (gI [io 58 12,aE 12 58]))))
def aea:SC:=(bQ [aE 7 1,eL 8 7,cm 9 52 8 3,bg 10 25 9,iH 11 10 25,sG 12] (gn 0 (oe J2)))
def DX:bT 104 Tryz.f104 aea 59 []:=.of
def ac6:aH 104 11=0:=by kernel_rfl
def aeb:=({y:=_}:ck Tryz.f105 []).1
def DY:bT 105 Tryz.f105 aeb 12 [bR 4]:=.of
def aec:=({y:=_}:ck Tryz.f106 []).1
def DZ:bT 106 Tryz.f106 aec 4 [bR 2]:=.of
def ac7:aH 106 1=0:=by kernel_rfl
def aee:List Nat:=[0,1,0,4,15,0,32,0,128,511,1023,2047,4095]
def aed:=({y:=_}:ck Tryz.f107 [aee]).1
def D0:bT 107 Tryz.f107 aed 17 [bR 4]:=.of
def PC:aH 107 2=1/\aH 107 3=1/\aH 107 15=0:=by and_intros<;>kernel_rfl
def Qi:=({y:=_}:ck Tryz.f108 []).1
def aef:=({y:=_}:dM Qi [1,1,0,1,0,0]).1
def D1:bT 108 Tryz.f108 Qi 18 [bR 2]:=.of
def ac8:aH 108 7=0:=by kernel_rfl
def aeg:=({y:=_}:ck Tryz.f109 []).1
def D2:bT 109 Tryz.f109 aeg 8 [bR 4]:=.of
def aeh:List Nat:=[0,1,0,7,15,31,63,127,255,511,1023,2047,4095,2047,10239,32767,65535,131071,2047,264191,2047,1837055,3934207,8128511,16777215,33554431,67108863]
abbrev aej:List aB:=[pk 2]
def Qj:=({y:=_}:ck Tryz.f110 [aeh]).1
def aei:=({y:=_}:dM Qj [1,1,0,1,0,0]).1
def D3:bT 110 Tryz.f110 Qj 42 [bR 2]:=.of
def ac9:aH 110 1=1:=by kernel_rfl
def aeF:=({y:=_}:ck Tryz.f130 []).1
def Ed:bT 130 Tryz.f130 aeF 9 [bR 4]:=.of
def Qr:=({y:=_}:ck Tryz.f136 []).1
def aeG:=({y:=_}:dM Qr [1,0,1,0,0]).1
def Ee:bT 136 Tryz.f136 Qr 36 [bR 4]:=.of
def PF:aH 136 10=0/\aH 136 32=0/\aH 136 34=0:=by and_intros<;>kernel_rfl
abbrev aeI:List aB:=[cm 14 52 1 0,bg 15 9 14,pj 16 161 15 9,aE 17 16,Ac 18 52 1 1 17,ow 19 3 18 17,LI 20 240 19 3 17,⟨some 21,fZ BinOp.neq 9 (aR 20) (dK (jO {data:= #[] })) 9,(.when 17 true)⟩,qY 22 17 21,aE 23 22,vg 24 3 23,qY 25 23 24,aE 26 25,Ac 27 52 1 4 26,ow 28 50 27 26,LI 29 241 28 50 26,qY 30 26 29,aE 31 30,ow 32 52 1 31,LI 33 242 32 52 31,qY 34 31 33,bJ 2 34]
def aeH:=({y:=_}:ck Tryz.f146 []).1
def Ef:bT 146 Tryz.f146 aeH 35 [bR 2]:=.of
def ada:aH 146 1=1:=by kernel_rfl
def Qs:=({y:=_}:ck Tryz.f161 []).1
def aeJ:=({y:=_}:dM Qs [1,0,1,0,0]).1
def Ei:bT 161 Tryz.f161 Qs 28 [bR 2]:=.of
abbrev aeL:List aB:=[TB 2]
def aeK:=({y:=_}:ck Tryz.f162 []).1
def Ej:bT 162 Tryz.f162 aeK 14 [bR 2]:=.of
def adb:aH 162 3=1:=by kernel_rfl
abbrev aeN:List aB:=[pk 2]
def Qt:=({y:=_}:ck Tryz.f163 []).1
def aeM:=({y:=_}:dM Qt [1,1,0,1,0,0]).1
def Ek:bT 163 Tryz.f163 Qt 39 [bR 2]:=.of
def adc:aH 163 3=1:=by kernel_rfl
abbrev aeP:List aB:=[pk 2]
def Qu:=({y:=_}:ck Tryz.f164 []).1
def aeO:=({y:=_}:dM Qu [1,1,0,1,0,0]).1
def El:bT 164 Tryz.f164 Qu 39 [bR 2]:=.of
def JH:aH 164 5=1/\aH 164 30=0:=by and_intros<;>kernel_rfl
abbrev aeR:List aB:=[bg 25 44 3,aE 26 0,aE 27 0,TH 44 25 26,dD 9 2 27]
abbrev aeS:List aB:=[aE 28 6,aE 29 28,yj 30 0 29,Cl 31 163 30 9 29,Cm 32 31 29,sD 33 29 32,bJ 5 33]
def aeQ:=({y:=_}:ck Tryz.f166 []).1
def Em:bT 166 Tryz.f166 aeQ 34 [bR 5]:=.of
def aeT:=({y:=_}:ck Tryz.f167 []).1
def En:bT 167 Tryz.f167 aeT 9 [bR 4]:=.of
def aeU:=({y:=_}:ck Tryz.f168 []).1
def Eo:bT 168 Tryz.f168 aeU 21 [bR 2]:=.of
def ade:aH 168 1=1:=by kernel_rfl
def aeW:List Nat:=[0,1,3,0,8,24,63,127]
def aeV:=({y:=_}:ck Tryz.f185 [aeW]).1
def Ep:bT 185 Tryz.f185 aeV 21 [bR 4]:=.of
def Qv:List Nat:=[0,1,3,7,0,16,48,112,0,256,768,1792,4095,8191,16383,16383,32767,131071]
def Qw:List Nat:=[0,0,2,6,14,0,32,96,224,0,512,1536,3584,0,8192,24576,57344,131071,262143,524287]
def aeY:List Nat:=[0,1,3,7,0,16,48,112,0,256,768,1792,4095,8191,16383,16383,32767,131071]
abbrev Qy:List aB:=[aE 20 1,eL 21 20,cm 22 52 21 3,bg 23 25 22,aE 24 2,eL 25 24,cm 26 52 25 3,bg 27 25 26,aE 28 3,eL 29 28,cm 30 52 29 3,bg 31 25 30,ym 32 280 23 27 31 25 25,aE 19 32,hZ 33 19 0,hZ 34 19 1,bJ 10 33,bJ 11 34]
abbrev Qz:List aB:=[aE 35 10,cm 36 52 9 3,dD 25 36 35]
abbrev QA:List aB:=[aE 37 11,qZ 38 37,aE 39 38,sE 40 52 9 39,Cl 41 75 40 52 39,Cm 42 41 39,sD 43 39 42]
abbrev Kb:List aB:=[aE 44 0,aE 45 1,eL 46 45,cm 47 52 46 0,bg 48 9 47,He 49 (kS {callee:=oE (pK 187),args:= #[aR 44,aR 48,dK (jO {data:= #[114,101,102,115] })],argTypes:= #[144,9,9] })]
abbrev Kc:List aB:=[aE 50 1,eL 51 50,cm 52 52 51 3,bg 53 25 52,cm 54 52 9 3,dD 25 54 53]
abbrev BJ:List aB:=[aE 55 0,aE 56 1,eL 57 56,cm 58 52 57 0,bg 59 9 58,aE 60 1,eL 61 60,cm 62 52 61 2,bg 63 49 62,aE 64 2,eL 65 64,cm 66 52 65 2,bg 67 49 66,aE 68 3,eL 69 68,cm 70 52 69 2,bg 71 49 70,⟨some 72,kS ⟨oE (pK 281),#[aR 55,aR 59,aR 63,aR 67,aR 71],#[144,9,49,49,49]⟩,.aw⟩,cm 73 52 9 2,dD 49 73 72]
def Qx:SC:=(bQ [nH 95 3 94 93] (ri 95 0 (fI (gn 1 (bQ [jY 96 25 92 94,bg 97 9 96,bJ 15 97] (gI [aE 98 0,aE 99 1,eL 100 99,cm 101 52 100 0,bg 102 9 101,aE 103 15,⟨some 104,fZ BinOp.add 9 (dK (jO {data:= #[116,97,103,32] })) (aR 103) 9,.aw⟩,ym 105 187 98 102 104 144 9]))) (gI [io 106 94,aE 94 106]))))
def aeX:SC:=(bQ [akE 8] (bQ [aE 16 1,eL 17 16,bg 18 52 17,jl 9 52,dD 52 9 18] (tS Qy Qv (bQ Qz (fI (bQ QA (kH 43 (bQ Kb (gI Kc)) oB)) (tS BJ Qw (tS [aE 75 1,eL 76 75,cm 77 52 76 4,bg 78 50 77,aE 79 2,eL 80 79,cm 81 52 80 4,bg 82 50 81,aE 83 3,eL 84 83,cm 85 52 84 4,bg 86 50 85,ym 87 282 78 82 86 50 50,aE 74 87,hZ 88 74 0,hZ 89 74 1,bJ 12 88,bJ 13 89] aeY (bQ [aE 90 12,cm 91 52 9 4,dD 50 91 90] (fI (bQ [aE 92 13,iH 93 92 25,sG 94] (gn 0 (oe Qx))) (bQ [bJ 8 9] tP))))))))))
def Er:bT 186 Tryz.f186 aeX 107 [bR 8]:=.of
def PG:aH 186 9=0/\aH 186 93=0:=by and_intros<;>kernel_rfl
def aeZ:=({y:=_}:ck Tryz.f187 []).1
def Es:bT 187 Tryz.f187 aeZ 13 []:=.of
def ae0:=({y:=_}:ck Tryz.f188 []).1
def Et:bT 188 Tryz.f188 ae0 19 [bR 4]:=.of
def ae1:=({y:=_}:ck Tryz.f189 []).1
def Eu:bT 189 Tryz.f189 ae1 5 [bR 2]:=.of
def QB:=({y:=_}:ck Tryz.f190 []).1
def ae2:=({y:=_}:dM QB [1,0,0]).1
def Ev:bT 190 Tryz.f190 QB 14 []:=.of
def ae3:=({y:=_}:ck Tryz.f191 []).1
def Ew:bT 191 Tryz.f191 ae3 5 [bR 2]:=.of
def QC:=({y:=_}:ck Tryz.f193 []).1
def ae4:=({y:=_}:dM QC [1,0,0]).1
def Ey:bT 193 Tryz.f193 QC 14 []:=.of
def adf:aH 193 3=1:=by kernel_rfl
def ae5:=({y:=_}:ck Tryz.f194 []).1
def Ez:bT 194 Tryz.f194 ae5 8 [bR 4]:=.of
def QE:=({y:=_}:ck Tryz.f198 []).1
def afs:=({y:=_}:dM QE [1,0,1,0,0]).1
def EH:bT 198 Tryz.f198 QE 22 [bR 4]:=.of
def adg:aH 198 2=1:=by kernel_rfl
def QI:=({y:=_}:ck Tryz.f223 []).1
def afw:=({y:=_}:dM QI [1,0,1,0,0]).1
def EM:bT 223 Tryz.f223 QI 19 [bR 4]:=.of
def adi:aH 223 7=0:=by kernel_rfl
def afx:=({y:=_}:ck Tryz.f228 []).1
def EN:bT 228 Tryz.f228 afx 20 [bR 4]:=.of
def afy:=({y:=_}:ck Tryz.f232 []).1
def EO:bT 232 Tryz.f232 afy 20 [bR 4]:=.of
def afz:=({y:=_}:ck Tryz.f239 []).1
def EP:bT 239 Tryz.f239 afz 21 [bR 2]:=.of
def adj:aH 239 1=1:=by kernel_rfl
abbrev afB:List aB:=[TB 2]
def afA:=({y:=_}:ck Tryz.f240 []).1
def ER:bT 240 Tryz.f240 afA 15 [bR 2]:=.of
def adk:aH 240 4=0:=by kernel_rfl
def afC:List Nat:=[0,0,3,7,15,31,63,127,255,255,1023,2047,4095,8191,16383,32767,65535,131071,131071,524287,1048575,2097151,4194303,8388607,16777215,33554431,67108863,134217727,268435455,536870911,536870911,1610612735,4294967295,8589934591,17179869183,536870911,536870911,103616086015,241055039487,515932946431,1099511627775,2199023255551,4398046511103]
abbrev afE:List aB:=[pk 2]
def QJ:=({y:=_}:ck Tryz.f241 [afC]).1
def afD:=({y:=_}:dM QJ [1,1,0,1,0,0]).1
def ET:bT 241 Tryz.f241 QJ 56 [bR 2]:=.of
def afF:List Nat:=[0,1,0,7,15,31,63,127,255,511,1023,2047,4095,8191,16383,32767,65535,131071,65535,327679,1048575,2097151,65535,4259839,65535,29425663,62980095,134217727,268435455,536870911,1073741823,2147483647,4294967295,8589934591,17179869183,34359738367,34359738367,103079215103,34359738367,515396075519,1065151889407,2199023255551,4398046511103,8796093022207]
abbrev QN:List aB:=[pk 2]
abbrev afG:List aB:=[aE 61 4,cm 62 52 1 3,bg 63 25 62,aE 64 5,jY 65 25 63 64,bg 66 9 65,TH 44 61 66]
abbrev afH:List aB:=[aE 15 5,io 16 15,bJ 5 16]
def QK:=({y:=_}:ck Tryz.f242 [afF]).1
def QL:=({y:=_}:dM QK [1,1,1,1,0,1,0,0]).1
def EU:bT 242 Tryz.f242 QK 87 [bR 2]:=.of
def adl:aH 242 1=1:=by kernel_rfl
def QO:=({y:=_}:ck Tryz.f261 []).1
def afI:=({y:=_}:dM QO [1,0,1,0,0]).1
def EV:bT 261 Tryz.f261 QO 19 [bR 4]:=.of
def afJ:=({y:=_}:ck Tryz.f279 []).1
def EW:bT 279 Tryz.f279 afJ 38 [bR 4]:=.of
def adm:aH 279 2=1/\aH 279 3=1:=by and_intros<;>kernel_rfl
def Ki:List Nat:=[0,0,2,0,8,30,62,127,0,0,512,0,2048,7680,15872,32767,0,0,131072,0,524288,1966080,4063232,8388607,16777215,33554431,67108863,67108863,134217727,536870911]
def QP:SC:=(bQ [nH 37 3 36 35] (ri 37 0 (fI (gn 1 (bQ [jY 38 429 34 36,bg 39 432 38,jl 10 432,dD 432 10 39] (gI [aE 40 8,cm 41 432 10 0,bg 42 3 41,cm 43 432 10 1,bg 44 3 43,GK 132 40 42 44]))) (gI [io 45 36,aE 36 45]))))
def QQ:SC:=(bQ [nH 51 3 50 49] (ri 51 2 (fI (gn 3 (bQ [jY 52 429 48 50,bg 53 432 52,jl 13 432,dD 432 13 53] (bQ [aE 55 8,cm 56 432 13 0,bg 57 3 56,⟨some 58,Op.lookup 132 (aR 55) (aR 57) true,.aw⟩,aE 54 58,hZ 59 54 0,hZ 60 54 1,bJ 14 59,bJ 15 60] (bQ [aE 61 15] (kH 61 (gI [aE 62 11,cm 63 432 13 0,bg 64 3 63,cm 65 432 13 1,bg 66 3 65,aE 67 14,Ae 68 435 64 66 67,sH 69 433 68,nI 70 62 69 433,bJ 11 70]) oB))))) (gI [io 71 50,aE 50 71]))))
abbrev tC:List aB:=[aE 99 16,cm 100 435 22 0,bg 101 3 100,cm 102 435 19 0,bg 103 3 102,LN 104 101 103,yk 105 104,jA 106 377 99 105 436 3,aE 107 17,cm 108 435 22 1,bg 109 3 108,cm 110 435 19 1,bg 111 3 110,LN 112 109 111,yk 113 112,jA 114 377 107 113 436 3,aE 115 18,cm 116 435 22 2,bg 117 3 116,cm 118 435 19 2,bg 119 3 118,LN 120 117 119,yk 121 120,jA 122 377 115 121 436 3,ym 123 376 106 114 122 25 25,aE 98 123,hZ 124 98 0,hZ 125 98 1,bJ 23 124,bJ 24 125]
abbrev QR:List aB:=[bg 144 435 22,dD 435 19 144]
abbrev QU:List aB:=[io 145 94,aE 94 145]
def Kj:SC:=(bQ [nH 95 3 94 93] (ri 95 4 (fI (gn 5 (bQ [jY 96 433 92 94,bg 97 435 96,jl 22 435,dD 435 22 97] (tS tC Ki (fI (bQ [aE 126 24,qZ 127 126] (kH 127 (bQ [jk 6,pk 7] tP) oB)) (bQ [aE 128 20,aE 129 23,nI 130 128 129 25,bJ 20 130] (fI (bQ [cm 131 435 22 0,bg 132 3 131,aE 133 0,iH 134 133 25,nH 135 3 132 134] (kH 135 (gI [aE 136 20,aE 137 0,cm 138 435 22 0,bg 139 3 138,jY 140 25 137 139,bg 141 9 140,sH 142 25 141,nI 143 136 142 25,bJ 20 143]) oB)) (gI QR))))))) (gI QU))))
def afK:SC:=(bQ [jk 6,pk 7] (fI (bQ [aE 25 0,aE 26 1,aE 27 2,⟨some 28,xg 499 3 #[(0,aR 25),(1,aR 26),(2,aR 27)],.aw⟩,pj 29 374 28 499,qZ 30 29] (kH 30 (bQ [jk 6,pk 7] tP) oB)) (bQ [GJ 31 132,bJ 8 31] (fI (bQ [aE 32 0,aE 33 2,jA 34 375 32 33 25 25,iH 35 34 429,sG 36] (gn 0 (oe QP))) (bQ [jk 11] (fI (bQ [aE 46 0,aE 47 1,jA 48 375 46 47 25 25,iH 49 48 429,sG 50] (gn 2 (oe QQ))) (bQ [aE 72 11,aE 73 0,iH 74 73 25,aE 75 1,iH 76 75 25,aE 77 2,iH 78 77 25,Ae 79 435 74 76 78,sH 80 433 79,nI 81 72 80 433,bJ 11 81] (bQ [aE 82 0,LK 83 438 82,ou 84 438 83,aE 85 1,LK 86 438 85,ou 87 438 86,aE 88 2,LK 89 438 88,ou 90 438 89,bJ 16 84,bJ 17 87,bJ 18 90] (bQ [⟨some 91,Op.build 435 #[(0,dK (kT kq (-1))),(1,dK (kT kq (-1))),(2,dK (kT kq (-1)))],.aw⟩,jl 19 435,dD 435 19 91] (bQ [jk 20] (fI (bQ [aE 92 11,iH 93 92 433,sG 94] (gn 4 (oe Kj))) (bQ [aE 146 20,bJ 6 146,Ck 7] tP))))))))))))
def EX:bT 280 Tryz.f280 afK 147 [bR 6,bR 7]:=.of
def o0:aH 280 10=1/\aH 280 13=1/\aH 280 19=1/\aH 280 22=1/\aH 280 28=0/\aH 280 35=0/\aH 280 49=0/\aH 280 69=0/\aH 280 70=0/\aH 280 74=0/\aH 280 76=0/\aH 280 78=0/\aH 280 80=0/\aH 280 81=0/\aH 280 84=0/\aH 280 87=0/\aH 280 90=0/\aH 280 93=0/\aH 280 130=0/\aH 280 134=0/\aH 280 142=0/\aH 280 143=0:=by and_intros<;>kernel_rfl
def afL:=({y:=_}:ck Tryz.f281 []).1
def wh:bT 281 Tryz.f281 afL 31 [oK 10 49]:=.of
def JI:aH 281 7=1/\aH 281 8=1/\aH 281 9=1/\aH 281 10=1/\aH 281 29=0:=by and_intros<;>kernel_rfl
def afP:List Nat:=[0,0,2,7,0,0,32,15,255,511]
abbrev wl:List aB:=[aE 48 9,cm 49 92 13 0,bg 50 9 49,vh 51 442 48 50,aE 52 10,cm 53 92 13 1,bg 54 9 53,eL 55 51,jY 56 444 55 52,dD 9 56 54]
def Kk:SC:=(bQ [nH 36 3 35 34] (ri 36 2 (fI (gn 3 (bQ [jY 37 50 33 35,bg 38 92 37,jl 13 92,dD 92 13 38] (fI (bQ [aE 39 9,cm 40 92 13 0,bg 41 9 40,vh 42 442 39 41,TG 43 443 42] (kH 43 (gI [aE 44 9,cm 45 92 13 0,bg 46 9 45,jl 47 444,GK 442 44 46 47]) oB)) (.draw wl afP)))) (gI [io 57 35,aE 35 57]))))
def EZ:SC:=(bQ [GH 27 26 3] (ri 27 0 (fI (gn 1 (bQ [aE 28 26,akJ 29 441 25 26,bJ 10 28,bJ 11 29] (fI (bQ [aE 30 11,pj 31 164 30 50,qZ 32 31] (kH 32 (bQ [jk 6,jk 7] tP) oB)) (bQ [aE 33 11,iH 34 33 50,sG 35] (gn 2 (oe Kk)))))) (gI [io 58 26,aE 26 58]))))
abbrev QW:List aB:=[bg 79 444 18,rc 80 444 18 0,bg 81 9 80,rc 82 444 18 1,bg 83 9 82,rc 84 444 18 1,bg 85 9 84,Ae 86 444 81 83 85,sF 87 444 79 86,bJ 78 87]
abbrev QX:List aB:=[bg 88 444 18,rc 89 444 18 0,bg 90 9 89,rc 91 444 18 1,bg 92 9 91,rc 93 444 18 0,bg 94 9 93,Ae 95 444 90 92 94,sF 96 444 88 95,bJ 78 96]
abbrev Km:List aB:=[rc 97 444 18 1,bg 98 9 97,bJ 19 98]
abbrev Kn:List aB:=[bg 100 444 18,rc 101 444 18 0,bg 102 9 101,rc 103 444 18 0,bg 104 9 103,rc 105 444 18 2,bg 106 9 105,Ae 107 444 102 104 106,sF 108 444 100 107,bJ 99 108]
abbrev Ko:List aB:=[rc 109 444 18 2,bg 110 9 109,bJ 19 110]
abbrev Kl:List aB:=[aE 74 15,aE 75 17,sH 76 25 75,nI 77 74 76 25,bJ 15 77]
abbrev QY:List aB:=[aE 112 19,TF 113 112,bJ 111 113]
abbrev QZ:List aB:=[aE 115 14,iH 116 115 50,GH 117 116 60,bJ 114 117]
abbrev Q0:List aB:=[aE 118 14,aE 119 17,aE 120 19,TC 121 92 119 120,sH 122 50 121,nI 123 118 122 50,bJ 14 123]
abbrev Q5:List aB:=[aE 125 15,aE 126 17,jA 127 130 125 126 25 9,qZ 128 127,bJ 124 128]
abbrev Q6:List aB:=[aE 129 15,aE 130 17,sH 131 25 130,nI 132 129 131 25,bJ 15 132]
def QV:SC:=(bQ [nH 64 3 63 62] (ri 64 4 (fI (gn 5 (bQ [jY 65 25 61 63,bg 66 9 65,bJ 17 66] (bQ [aE 67 9,aE 68 17,vh 69 442 67 68,eL 70 69,bg 71 444 70,jl 18 444,dD 444 18 71] (bQ [rc 72 444 18 0,bg 73 9 72,bJ 19 73] (fI (gn 6 (fI (bQ QW (kH 78 oB (gI QX))) (kH 78 (gI Km) (bQ Kn (kH 99 (gI Ko) (gI Kl)))))) (gn 7 (bQ QY (kH 111 oB (bQ QZ (kH 114 (gI Q0) (bQ Q5 (kH 124 (gI Q6) oB)))))))))))) (gI [io 133 63,aE 63 133]))))
abbrev Q7:List aB:=[aE 134 14,aE 135 15,bJ 6 134,bJ 7 135]
def afM:SC:=(bQ [jk 6,jk 7] (bQ [aE 20 0,aE 21 1,aE 22 2,Ae 23 441 20 21 22,jl 8 441,dD 441 8 23] (bQ [GJ 24 442,bJ 9 24] (fI (bQ [bg 25 441 8,sG 26] (gn 0 (oe EZ))) (bQ [jk 14] (bQ [jk 15] (fI (bQ [aE 59 9,pj 60 380 59 442,pj 61 102 60 155,iH 62 61 25,sG 63] (gn 4 (oe QV))) (bQ Q7 tP))))))))
def EY:bT 282 Tryz.f282 afM 136 [bR 6,bR 7]:=.of
def rZ:aH 282 8=1/\aH 282 13=1/\aH 282 18=1/\aH 282 34=0/\aH 282 47=0/\aH 282 62=0/\aH 282 76=0/\aH 282 77=0/\aH 282 116=0/\aH 282 122=0/\aH 282 123=0/\aH 282 131=0/\aH 282 132=0:=by and_intros<;>kernel_rfl
def afR:List Nat:=[0,1,3,7,0,16,48,112,255,0,512,1536,3584,0,8192,24576,57344,131071,0,262144,786432,1835008,0,4194304,12582912,29360128,67108863,0,134217728,402653184,939524096,2147483647,0,4294967296,12884901888,30064771072,68719476735,137438953471,274877906943,549755813887,1099511627775]
def afQ:=({y:=_}:ck Tryz.f283 [afR]).1
def E0:bT 283 Tryz.f283 afQ 45 [bR 4]:=.of
def adn:aH 283 43=0:=by kernel_rfl
noncomputable def wn:Code:=
 ((qz (Tryz.f284.body.getD .ret)).getD 0 (.ret,.ret)).1
noncomputable def wo:Code:=
 ((qz (Tryz.f284.body.getD .ret)).getD 0 (.ret,.ret)).2
noncomputable def afT:SC:=
 (.region [bJ 5 7])
noncomputable def afU:SC:=
 (.block 1 (.region [bg 8 25 2,aE 9 5,sH 10 25 9,nI 11 8 10 25,dD 25 2 11]))
noncomputable def afS:SC:=
 (.seq (.region [ou 2 25 0,jk 4])
 (.seq (.seq (.region [aE 6 1])
 (.block 0 (.rfun (aR 6) [7] wn wo)))
 (.seq (.region [bg 12 25 2,bJ 4 12])
 .ret)))
def afV:fP wn=afT:=by kernel_rfl
def afW:fP wo=afU:=by kernel_rfl
def afX:(eJ wn&&eJ wo)=true:=by kernel_rfl
def E3:bT 284 Tryz.f284 afS 13 [bR 4]:=.of
def PK:aH 284 2=0/\aH 284 10=0/\aH 284 11=2:=by and_intros<;>kernel_rfl
noncomputable def wq:Code:=
 ((qz (Tryz.f285.body.getD .ret)).getD 0 (.ret,.ret)).1
noncomputable def wt:Code:=
 ((qz (Tryz.f285.body.getD .ret)).getD 0 (.ret,.ret)).2
noncomputable def afZ:SC:=
 (.region [jl 5 143,dD 143 5 7])
noncomputable def af0:SC:=
 (.block 1 (.region [bg 8 80 2,bg 9 143 5,sH 10 80 9,nI 11 8 10 80,dD 80 2 11]))
noncomputable def afY:SC:=
 (.seq (.region [ou 2 80 0,jk 4])
 (.seq (.seq (.region [aE 6 1])
 (.block 0 (.rfun (aR 6) [7] wq wt)))
 (.seq (.region [bg 12 80 2,bJ 4 12])
 .ret)))
def af3:fP wq=afZ:=by kernel_rfl
def af4:fP wt=af0:=by kernel_rfl
def af5:(eJ wq&&eJ wt)=true:=by kernel_rfl
def E4:bT 285 Tryz.f285 afY 13 [bR 4]:=.of
def JJ:aH 285 2=0/\aH 285 5=0/\aH 285 10=0/\aH 285 11=2:=by and_intros<;>kernel_rfl
def agq:=({y:=_}:ck Tryz.f325 []).1
def Fb:bT 325 Tryz.f325 agq 6 [bR 2]:=.of
def agr:=({y:=_}:ck Tryz.f328 []).1
def Fc:bT 328 Tryz.f328 agr 6 [bR 2]:=.of
def agx:List Nat:=[0,0,3,7,0,0,48,112,255]
def Ra:=({y:=_}:ck Tryz.f373 [agx]).1
def agy:=({y:=_}:dM Ra [1,1,0,1,0,0]).1
def Fg:bT 373 Tryz.f373 Ra 26 [bR 4]:=.of
def PN:aH 373 7=0/\aH 373 9=0/\aH 373 12=0:=by and_intros<;>kernel_rfl
def agz:=({y:=_}:ck Tryz.f374 []).1
def Fh:bT 374 Tryz.f374 agz 6 [bR 2]:=.of
def agB:List Nat:=[0,0,3,7,0,0,48,112,255]
def agC:List Nat:=[0,0,0,7,0,0,32,0,255,511,1023,0,0,0,8192,31231,63999,129535,262143,524287,1048575]
def agD:List Nat:=[0,0,3,7,0,0,48,112,255,511]
def agE:List Nat:=[0,0,2,0,15,31,63,0,0,0,927,1951,3999,8191,16383]
abbrev tD:List aB:=[aE 60 7,aE 61 8,aE 62 9,yn 63 60 61 62 3,aE 64 7,aE 65 8,io 66 65,aE 67 9,yn 68 64 66 67 3,eL 69 68,bg 70 21 69,aE 71 7,aE 72 8,aE 73 9,io 74 73,yn 75 71 72 74 3,eL 76 75,bg 77 21 76,⟨some 78,kS ⟨AI Builtin.max,#[aR 70,aR 77],#[21,21]⟩,.aw⟩,eL 79 63,dD 21 79 78]
abbrev Rc:List aB:=[aE 35 9,yk 36 35,bJ 9 36]
def Ku:SC:=(fI (bQ [aE 33 9,TA 34 33 0] (I6 34 2)) (fI (gn 3 (tS [aE 37 0,aE 38 8,jY 39 25 37 38,bg 40 9 39,aE 41 1,aE 42 9,jY 43 25 41 42,bg 44 9 43,sF 45 9 40 44] agB (kH 45 (gI [aE 46 7,aE 47 8,aE 48 9,yn 49 46 47 48 3,aE 50 7,aE 51 8,io 52 51,aE 53 9,io 54 53,yn 55 50 52 54 3,eL 56 55,bg 57 21 56,⟨some 58,fZ BinOp.add 21 (aR 57) (dK (kT IntKind.i32 1)) 21,.aw⟩,eL 59 49,dD 21 59 58]) (.draw tD agC)))) (gI Rc)))
def Rb:SC:=(fI (bQ [aE 26 8,TA 27 26 0] (I6 27 0)) (fI (gn 1 (bQ [aE 30 1,iH 31 30 25,yk 32 31,bJ 9 32] (gn 2 (oe Ku)))) (gI [aE 28 8,yk 29 28,bJ 8 29])))
abbrev xU:List aB:=[aE 113 7,aE 114 11,io 115 114,aE 116 12,yn 117 113 115 116 3,eL 118 117,bg 119 21 118,aE 120 7,aE 121 11,aE 122 12,yn 123 120 121 122 3,eL 124 123,bg 125 21 124,sF 126 21 119 125,bJ 112 126]
def Kv:SC:=(fI (bQ [aE 80 11,aE 81 0,iH 82 81 25,nH 83 3 80 82,aE 84 83,vg 85 12 84,vg 86 1 84,akx 87 86 25 84,akv 88 3 85 87 84,qY 89 84 88] (I6 89 4)) (gn 5 (gn 6 (tS [aE 93 0,aE 94 11,jY 95 25 93 94,bg 96 9 95,aE 97 1,aE 98 12,jY 99 25 97 98,bg 100 9 99,sF 101 9 96 100,bJ 92 101] agD (kH 92 (bQ [aE 102 10,aE 103 11,aE 104 12,TC 105 432 103 104,sH 106 429 105,nI 107 102 106 429,bJ 10 107] (gI [aE 108 11,io 109 108,aE 110 12,io 111 110,bJ 11 109,bJ 12 111])) (tS xU agE (kH 112 (gI [aE 127 11,io 128 127,bJ 11 128]) (gI [aE 90 12,io 91 90,bJ 12 91]))))))))
def agA:SC:=(bQ [jk 4] (bQ [aE 13 1,iH 14 13 25,io 15 14,jl 5 3,dD 3 5 15] (bQ [aE 16 0,iH 17 16 25,io 18 17,bg 19 3 5,⟨some 20,fZ BinOp.mul 3 (aR 18) (aR 19) 3,.aw⟩,akA 21 502 20,jl 6 502,dD 502 6 21] (bQ [⟨some 22,Op.makeFunc (Fn.func 461) #[] #[aR 6,aR 5],.aw⟩,bJ 7 22] (fI (bQ [aE 23 0,iH 24 23 25,yk 25 24,bJ 8 25] (gn 0 (oe Rb))) (bQ [jk 10] (fI (bQ [GN 11 0,GN 12 0] (gn 4 (oe Kv))) (bQ [aE 129 10,bJ 4 129] tP))))))))
def Fi:bT 375 Tryz.f375 agA 130 [bR 4]:=.of
def wd:aH 375 5=0/\aH 375 6=0/\aH 375 14=0/\aH 375 17=0/\aH 375 21=0/\aH 375 24=0/\aH 375 31=0/\aH 375 82=0/\aH 375 87=0/\aH 375 106=0/\aH 375 107=0:=by and_intros<;>kernel_rfl
def agF:=({y:=_}:ck Tryz.f376 []).1
def Fj:bT 376 Tryz.f376 agF 21 [bR 6,bR 7]:=.of
def agH:List Nat:=[0,0,2,6,14,0,32,0,128,384,896,1920,4064,8190,16383,32767,65535]
abbrev BK:List aB:=[aE 13 0,aE 14 0,eL 15 14,cm 16 438 15 0,bg 17 25 16,aE 18 1,io 19 18,aE 20 0,eL 21 20,cm 22 438 21 0,bg 23 25 22,iH 24 23 25,⟨some 25,kS ⟨AI Builtin.min,#[aR 19,aR 24],#[3,3]⟩,.aw⟩,akH 26 25 17 25,eL 27 13,cm 28 438 27 0,dD 25 28 26]
def agG:SC:=(bQ [jk 4] (bQ [aE 6 0,eL 7 6,cm 8 438 7 0,bg 9 25 8,aE 10 1,aE 11 1,⟨some 12,Op.slice 25 (aR 9) none (some (aR 10)) (some (aR 11)),.aw⟩,bJ 5 12] (tS BK agH (bQ [aE 29 5,bJ 4 29] tP))))
def Fl:bT 377 Tryz.f377 agG 30 [bR 4]:=.of
def ado:aH 377 24=0/\aH 377 25=0:=by and_intros<;>kernel_rfl
def agI:List Nat:=[0,0,0,6,14,0,63,127]
abbrev Rg:List aB:=[aE 14 6,aE 15 0,iH 16 15 218,nH 17 3 14 16]
abbrev Rh:List aB:=[aE 18 6,io 19 18,bJ 6 19]
def Re:=({y:=_}:ck Tryz.f378 [agI]).1
def Rf:=({y:=_}:dM Re [1,1,1,0,1,0,0]).1
def Fm:bT 378 Tryz.f378 Re 33 [oK 4 49]:=.of
def zC:aH 378 4=1/\aH 378 5=1/\aH 378 8=0/\aH 378 16=0:=by and_intros<;>kernel_rfl
def agJ:=({y:=_}:ck Tryz.f379 []).1
def Fo:bT 379 Tryz.f379 agJ 17 [bR 4]:=.of
def PO:aH 379 2=1/\aH 379 3=1/\aH 379 15=0:=by and_intros<;>kernel_rfl
def agK:=({y:=_}:ck Tryz.f380 []).1
def Fp:bT 380 Tryz.f380 agK 4 [bR 2]:=.of
def adp:aH 380 1=0:=by kernel_rfl
def Ri:=({y:=_}:ck Tryz.f381 []).1
def agL:=({y:=_}:dM Ri [1,1,0,1,0,0]).1
def Fq:bT 381 Tryz.f381 Ri 21 [bR 2]:=.of
def JK:aH 381 5=1/\aH 381 7=0/\aH 381 17=0/\aH 381 18=0:=by and_intros<;>kernel_rfl
def agP:=({y:=_}:ck Tryz.f459 []).1
def FB:bT 459 Tryz.f459 agP 9 [bR 4]:=.of
def agR:=({y:=_}:ck Tryz.f460 []).1
def FC:bT 460 Tryz.f460 agR 6 [bR 2]:=.of
def ads:aH 460 4=0:=by kernel_rfl
def agS:=({y:=_}:ck Tryz.f461 []).1
def FD:bT 461 Tryz.f461 agS 14 [bR 6]:=.of
def Rr:=({y:=_}:ck Tryz.f462 []).1
def agT:=({y:=_}:dM Rr [1,0,1,0,0]).1
def FE:bT 462 Tryz.f462 Rr 21 [bR 2]:=.of
def PP:aH 462 4=1/\aH 462 7=0:=by and_intros<;>kernel_rfl
def Rt:=({y:=_}:ck Tryz.f463 []).1
def agU:=({y:=_}:dM Rt [1,0,0]).1
def FF:bT 463 Tryz.f463 Rt 14 []:=.of
def RL:=({y:=_}:ck Tryz.f510 []).1
def ahm:=({y:=_}:dM RL [1,0,1,0,0]).1
def FQ:bT 510 Tryz.f510 RL 19 [bR 4]:=.of
def adt:aH 510 7=0:=by kernel_rfl
def N0(ps:List (Nat×Operand))(e:aI):eV ar 24 ps e=(ek ar 24).bind fun z=>(cS (fun i=>([(0,1)]:List (Nat×Nat))[i]?) e z.cells ps).bind fun c=>some (.agg c):=by kernel_rfl
def X5(ps:List (Nat×Operand))(e:aI):eV ar 49 ps e=(ek ar 49).bind fun z=>(cS (fun i=>([(0,1),(1,1)]:List (Nat×Nat))[i]?) e z.cells ps).bind fun c=>some (.agg c):=by kernel_rfl
def N3(ps:List (Nat×Operand))(e:aI):eV ar 92 ps e=(ek ar 92).bind fun z=>(cS (fun i=>([(0,1),(1,1)]:List (Nat×Nat))[i]?) e z.cells ps).bind fun c=>some (.agg c):=by kernel_rfl
def NZ(ps:List (Nat×Operand))(e:aI):eV ar 143 ps e=(ek ar 143).bind fun z=>(cS (fun i=>([(0,1),(1,1)]:List (Nat×Nat))[i]?) e z.cells ps).bind fun c=>some (.agg c):=by kernel_rfl
def XZ(ps:List (Nat×Operand))(e:aI):eV ar 149 ps e=(ek ar 149).bind fun z=>(cS (fun i=>([(0,1),(1,1),(2,1),(3,1),(4,1)]:List (Nat×Nat))[i]?) e z.cells ps).bind fun c=>some (.agg c):=by kernel_rfl
def X0(ps:List (Nat×Operand))(e:aI):eV ar 207 ps e=(ek ar 207).bind fun z=>(cS (fun i=>some (i*1,1)) e z.cells ps).bind fun c=>some (.agg c):=by kernel_rfl
def X1(ps:List (Nat×Operand))(e:aI):eV ar 319 ps e=(ek ar 319).bind fun z=>(cS (fun i=>some (i*1,1)) e z.cells ps).bind fun c=>some (.agg c):=by kernel_rfl
def X2(ps:List (Nat×Operand))(e:aI):eV ar 432 ps e=(ek ar 432).bind fun z=>(cS (fun i=>([(0,1),(1,1)]:List (Nat×Nat))[i]?) e z.cells ps).bind fun c=>some (.agg c):=by kernel_rfl
def Iw(ps:List (Nat×Operand))(e:aI):eV ar 435 ps e=(ek ar 435).bind fun z=>(cS (fun i=>([(0,1),(1,1),(2,1)]:List (Nat×Nat))[i]?) e z.cells ps).bind fun c=>some (.agg c):=by kernel_rfl
def Ix(ps:List (Nat×Operand))(e:aI):eV ar 438 ps e=(ek ar 438).bind fun z=>(cS (fun i=>([(0,1)]:List (Nat×Nat))[i]?) e z.cells ps).bind fun c=>some (.agg c):=by kernel_rfl
def X3(ps:List (Nat×Operand))(e:aI):eV ar 441 ps e=(ek ar 441).bind fun z=>(cS (fun i=>some (i*1,1)) e z.cells ps).bind fun c=>some (.agg c):=by kernel_rfl
def X4(ps:List (Nat×Operand))(e:aI):eV ar 444 ps e=(ek ar 444).bind fun z=>(cS (fun i=>some (i*1,1)) e z.cells ps).bind fun c=>some (.agg c):=by kernel_rfl
def Um(cs:List ae)(off:Nat):ey ar 3 cs off=(cs.drop off).head?:=by kernel_rfl
def amy(cs:List ae)(off:Nat):ey ar 5 cs off=(cs.drop off).head?:=by kernel_rfl
def amC(cs:List ae)(off:Nat):ey ar 9 cs off=(cs.drop off).head?:=by kernel_rfl
def amn(cs:List ae)(off:Nat):ey ar 21 cs off=(cs.drop off).head?:=by kernel_rfl
def amo(cs:List ae)(off:Nat):ey ar 22 cs off=(cs.drop off).head?:=by kernel_rfl
def amp(cs:List ae)(off:Nat):ey ar 24 cs off=(cut cs off 1).bind fun r=>some (.agg r):=by kernel_rfl
def amq(cs:List ae)(off:Nat):ey ar 25 cs off=(cs.drop off).head?:=by kernel_rfl
def amt(cs:List ae)(off:Nat):ey ar 44 cs off=(cs.drop off).head?:=by kernel_rfl
def amx(cs:List ae)(off:Nat):ey ar 49 cs off=(cut cs off 2).bind fun r=>some (.agg r):=by kernel_rfl
def Un(cs:List ae)(off:Nat):ey ar 50 cs off=(cs.drop off).head?:=by kernel_rfl
def amA(cs:List ae)(off:Nat):ey ar 52 cs off=(cut cs off 6).bind fun r=>some (.agg r):=by kernel_rfl
def amB(cs:List ae)(off:Nat):ey ar 80 cs off=(cs.drop off).head?:=by kernel_rfl
def amD(cs:List ae)(off:Nat):ey ar 92 cs off=(cut cs off 2).bind fun r=>some (.agg r):=by kernel_rfl
def amj(cs:List ae)(off:Nat):ey ar 143 cs off=(cut cs off 2).bind fun r=>some (.agg r):=by kernel_rfl
def amk(cs:List ae)(off:Nat):ey ar 145 cs off=(cs.drop off).head?:=by kernel_rfl
def aml(cs:List ae)(off:Nat):ey ar 147 cs off=(cs.drop off).head?:=by kernel_rfl
def amm(cs:List ae)(off:Nat):ey ar 207 cs off=(cut cs off 2).bind fun r=>some (.agg r):=by kernel_rfl
def amr(cs:List ae)(off:Nat):ey ar 432 cs off=(cut cs off 2).bind fun r=>some (.agg r):=by kernel_rfl
def ams(cs:List ae)(off:Nat):ey ar 435 cs off=(cut cs off 3).bind fun r=>some (.agg r):=by kernel_rfl
def amu(cs:List ae)(off:Nat):ey ar 441 cs off=(cut cs off 3).bind fun r=>some (.agg r):=by kernel_rfl
def amv(cs:List ae)(off:Nat):ey ar 442 cs off=(cs.drop off).head?:=by kernel_rfl
def amw(cs:List ae)(off:Nat):ey ar 444 cs off=(cut cs off 3).bind fun r=>some (.agg r):=by kernel_rfl
def amz(cs:List ae)(off:Nat):ey ar 502 cs off=(cs.drop off).head?:=by kernel_rfl
def Mt:dZ ar 3=some 1:=by kernel_rfl
def aoD:dZ ar 9=some 1:=by kernel_rfl
def aol:dZ ar 21=some 1:=by kernel_rfl
def aom:dZ ar 22=some 1:=by kernel_rfl
def aon:dZ ar 24=some 1:=by kernel_rfl
def aoo:dZ ar 25=some 1:=by kernel_rfl
def aov:dZ ar 44=some 1:=by kernel_rfl
def aoy:dZ ar 49=some 2:=by kernel_rfl
def aoz:dZ ar 50=some 1:=by kernel_rfl
def aoB:dZ ar 52=some 6:=by kernel_rfl
def aoC:dZ ar 80=some 1:=by kernel_rfl
def aoE:dZ ar 92=some 2:=by kernel_rfl
def aoj:dZ ar 143=some 2:=by kernel_rfl
def aok:dZ ar 207=some 2:=by kernel_rfl
def aor:dZ ar 319=some 6:=by kernel_rfl
def aos:dZ ar 320=some 256:=by kernel_rfl
def aot:dZ ar 432=some 2:=by kernel_rfl
def aou:dZ ar 435=some 3:=by kernel_rfl
def aow:dZ ar 441=some 3:=by kernel_rfl
def aox:dZ ar 444=some 3:=by kernel_rfl
def aoA:dZ ar 502=some 1:=by kernel_rfl
def aqd:ek ar 3=some (.int .i64 (0)):=by kernel_rfl
def Wd:ek ar 4=some (.bool false):=by kernel_rfl
def aql:ek ar 9=some (.str []):=by kernel_rfl
def Wc:ek ar 24=some (.agg [.AL]):=by kernel_rfl
def aqg:ek ar 44=some .nilm:=by kernel_rfl
def aqi:ek ar 49=some (.agg [(.int .i64 (0)),(.int .i64 (0))]):=by kernel_rfl
def aqk:ek ar 52=some (.agg [(.str []),(.int .i64 (0)),(.int .i64 (0)),(.int .i64 (0)),.AL,.AL]):=by kernel_rfl
def MS:ek ar 92=some (.agg [(.str []),(.str [])]):=by kernel_rfl
def Wb:ek ar 143=some (.agg [(.str []),(.str [])]):=by kernel_rfl
def aqa:ek ar 149=some (.agg [.nilm,.nilm,.nilm,.nilm,.nilm]):=by kernel_rfl
def aqb:ek ar 151=some .nilp:=by kernel_rfl
def aqc:ek ar 207=some (.agg [(.int .i64 (0)),(.int .i64 (0))]):=by kernel_rfl
def aqf:ek ar 319=some (.agg [(.str []),(.str []),(.str []),(.str []),(.str []),(.str [])]):=by kernel_rfl
def We:ek ar 432=some (.agg [(.int .i64 (0)),(.int .i64 (0))]):=by kernel_rfl
def HB:ek ar 435=some (.agg [(.int .i64 (0)),(.int .i64 (0)),(.int .i64 (0))]):=by kernel_rfl
def MR:ek ar 438=some (.agg [.AL]):=by kernel_rfl
def Wf:ek ar 441=some (.agg [.AL,.AL,.AL]):=by kernel_rfl
def aqh:ek ar 443=some .nilp:=by kernel_rfl
def Wg:ek ar 444=some (.agg [(.str []),(.str []),(.str [])]):=by kernel_rfl
def aqj:ek ar 502=some .AL:=by kernel_rfl
def aaS(lc:Ag.Loc)(l g o:Nat):eY ar lc 24 (.Ge l g o) 0=bif aJ (lc.gen l) g then some (.Ge l g (o+0)) else none:=by kernel_rfl
def aaZ(lc:Ag.Loc)(l g o:Nat):eY ar lc 49 (.Ge l g o) 0=bif aJ (lc.gen l) g then some (.Ge l g (o+0)) else none:=by kernel_rfl
def aa0(lc:Ag.Loc)(l g o:Nat):eY ar lc 49 (.Ge l g o) 1=bif aJ (lc.gen l) g then some (.Ge l g (o+1)) else none:=by kernel_rfl
def aa1(lc:Ag.Loc)(l g o:Nat):eY ar lc 52 (.Ge l g o) 0=bif aJ (lc.gen l) g then some (.Ge l g (o+0)) else none:=by kernel_rfl
def aa3(lc:Ag.Loc)(cs:List ae):eY ar lc 52 (.ro cs) 0=some (.ro (cs.drop 0)):=by kernel_rfl
def aa2(lc:Ag.Loc)(m o:Nat):eY ar lc 52 (.ptr m o) 0=some (.ptr m (o+0)):=by kernel_rfl
def aa4(lc:Ag.Loc)(l g o:Nat):eY ar lc 52 (.Ge l g o) 1=bif aJ (lc.gen l) g then some (.Ge l g (o+1)) else none:=by kernel_rfl
def aa5(lc:Ag.Loc)(m o:Nat):eY ar lc 52 (.ptr m o) 1=some (.ptr m (o+1)):=by kernel_rfl
def aa6(lc:Ag.Loc)(l g o:Nat):eY ar lc 52 (.Ge l g o) 2=bif aJ (lc.gen l) g then some (.Ge l g (o+2)) else none:=by kernel_rfl
def OW(lc:Ag.Loc)(m o:Nat):eY ar lc 52 (.ptr m o) 2=some (.ptr m (o+2)):=by kernel_rfl
def aa7(lc:Ag.Loc)(l g o:Nat):eY ar lc 52 (.Ge l g o) 3=bif aJ (lc.gen l) g then some (.Ge l g (o+4)) else none:=by kernel_rfl
def aa9(lc:Ag.Loc)(cs:List ae):eY ar lc 52 (.ro cs) 3=some (.ro (cs.drop 4)):=by kernel_rfl
def aa8(lc:Ag.Loc)(m o:Nat):eY ar lc 52 (.ptr m o) 3=some (.ptr m (o+4)):=by kernel_rfl
def aba(lc:Ag.Loc)(l g o:Nat):eY ar lc 52 (.Ge l g o) 4=bif aJ (lc.gen l) g then some (.Ge l g (o+5)) else none:=by kernel_rfl
def abb(lc:Ag.Loc)(m o:Nat):eY ar lc 52 (.ptr m o) 4=some (.ptr m (o+5)):=by kernel_rfl
def abc(lc:Ag.Loc)(l g o:Nat):eY ar lc 92 (.Ge l g o) 0=bif aJ (lc.gen l) g then some (.Ge l g (o+0)) else none:=by kernel_rfl
def abd(lc:Ag.Loc)(cs:List ae):eY ar lc 92 (.ro cs) 0=some (.ro (cs.drop 0)):=by kernel_rfl
def abe(lc:Ag.Loc)(l g o:Nat):eY ar lc 92 (.Ge l g o) 1=bif aJ (lc.gen l) g then some (.Ge l g (o+1)) else none:=by kernel_rfl
def abf(lc:Ag.Loc)(cs:List ae):eY ar lc 92 (.ro cs) 1=some (.ro (cs.drop 1)):=by kernel_rfl
def aaJ(lc:Ag.Loc)(l g o:Nat):eY ar lc 143 (.Ge l g o) 0=bif aJ (lc.gen l) g then some (.Ge l g (o+0)) else none:=by kernel_rfl
def aaK(lc:Ag.Loc)(cs:List ae):eY ar lc 143 (.ro cs) 0=some (.ro (cs.drop 0)):=by kernel_rfl
def aaL(lc:Ag.Loc)(l g o:Nat):eY ar lc 143 (.Ge l g o) 1=bif aJ (lc.gen l) g then some (.Ge l g (o+1)) else none:=by kernel_rfl
def aaM(lc:Ag.Loc)(cs:List ae):eY ar lc 143 (.ro cs) 1=some (.ro (cs.drop 1)):=by kernel_rfl
def aaN(lc:Ag.Loc)(m o:Nat):eY ar lc 149 (.ptr m o) 0=some (.ptr m (o+0)):=by kernel_rfl
def aaO(lc:Ag.Loc)(m o:Nat):eY ar lc 149 (.ptr m o) 1=some (.ptr m (o+1)):=by kernel_rfl
def aaP(lc:Ag.Loc)(m o:Nat):eY ar lc 149 (.ptr m o) 2=some (.ptr m (o+2)):=by kernel_rfl
def aaQ(lc:Ag.Loc)(m o:Nat):eY ar lc 149 (.ptr m o) 3=some (.ptr m (o+3)):=by kernel_rfl
def aaR(lc:Ag.Loc)(m o:Nat):eY ar lc 149 (.ptr m o) 4=some (.ptr m (o+4)):=by kernel_rfl
def aaT(lc:Ag.Loc)(l g o:Nat):eY ar lc 432 (.Ge l g o) 0=bif aJ (lc.gen l) g then some (.Ge l g (o+0)) else none:=by kernel_rfl
def aaU(lc:Ag.Loc)(l g o:Nat):eY ar lc 432 (.Ge l g o) 1=bif aJ (lc.gen l) g then some (.Ge l g (o+1)) else none:=by kernel_rfl
def aaV(lc:Ag.Loc)(l g o:Nat):eY ar lc 435 (.Ge l g o) 0=bif aJ (lc.gen l) g then some (.Ge l g (o+0)) else none:=by kernel_rfl
def aaW(lc:Ag.Loc)(l g o:Nat):eY ar lc 435 (.Ge l g o) 1=bif aJ (lc.gen l) g then some (.Ge l g (o+1)) else none:=by kernel_rfl
def aaX(lc:Ag.Loc)(l g o:Nat):eY ar lc 435 (.Ge l g o) 2=bif aJ (lc.gen l) g then some (.Ge l g (o+2)) else none:=by kernel_rfl
def aaY(lc:Ag.Loc)(m o:Nat):eY ar lc 438 (.ptr m o) 0=some (.ptr m (o+0)):=by kernel_rfl
def o7(lc:Ag.Loc)(n:Nat)(xs:List ae)(r:fu)(i:ae):hJ ar lc 22 (.list n xs r) i=(eK i).bind fun i=>bif aJ n 6&&bk i xs.length then some (.ro (iA xs i).cells) else none:=by kernel_rfl
def gR(lc:Ag.Loc)(n:Nat)(xs:List ae)(r:fu)(i:ae):hJ ar lc 25 (.list n xs r) i=(eK i).bind fun i=>bif aJ n 1&&bk i xs.length then some (.ro (iA xs i).cells) else none:=by kernel_rfl
def PR(lc:Ag.Loc)(n m o l c:Nat)(i:ae):hJ ar lc 25 (.arr n m o l c) i=(eK i).bind fun i=>bif aJ n 1&&bk i l then some (.ptr m (o+i*1)) else none:=by kernel_rfl
def BC(lc:Ag.Loc)(n:Nat)(xs:List ae)(r:fu)(i:ae):hJ ar lc 26 (.list n xs r) i=(eK i).bind fun i=>bif aJ n 1&&bk i xs.length then some (.ro (iA xs i).cells) else none:=by kernel_rfl
def adx(lc:Ag.Loc)(n m o l c:Nat)(i:ae):hJ ar lc 26 (.arr n m o l c) i=(eK i).bind fun i=>bif aJ n 1&&bk i l then some (.ptr m (o+i*1)) else none:=by kernel_rfl
def lO(lc:Ag.Loc)(n:Nat)(xs:List ae)(r:fu)(i:ae):hJ ar lc 50 (.list n xs r) i=(eK i).bind fun i=>bif aJ n 2&&bk i xs.length then some (.ro (iA xs i).cells) else none:=by kernel_rfl
def DR(lc:Ag.Loc)(n:Nat)(xs:List ae)(r:fu)(i:ae):hJ ar lc 80 (.list n xs r) i=(eK i).bind fun i=>bif aJ n 2&&bk i xs.length then some (.ro (iA xs i).cells) else none:=by kernel_rfl
def adu(lc:Ag.Loc)(n:Nat)(xs:List ae)(r:fu)(i:ae):hJ ar lc 150 (.list n xs r) i=(eK i).bind fun i=>bif aJ n 1&&bk i xs.length then some (.ro (iA xs i).cells) else none:=by kernel_rfl
def adv(lc:Ag.Loc)(l g o:Nat)(i:ae):hJ ar lc 207 (.Ge l g o) i=(eK i).bind fun i=>bif bk i 2 then bif aJ (lc.gen l) g then some (.Ge l g (o+i*1)) else none else none:=by kernel_rfl
def adw(lc:Ag.Loc)(n:Nat)(xs:List ae)(r:fu)(i:ae):hJ ar lc 218 (.list n xs r) i=(eK i).bind fun i=>bif aJ n 2&&bk i xs.length then some (.ro (iA xs i).cells) else none:=by kernel_rfl
def ady(lc:Ag.Loc)(l g o:Nat)(i:ae):hJ ar lc 320 (.Ge l g o) i=(eK i).bind fun i=>bif bk i 256 then bif aJ (lc.gen l) g then some (.Ge l g (o+i*1)) else none else none:=by kernel_rfl
def PS(lc:Ag.Loc)(n:Nat)(xs:List ae)(r:fu)(i:ae):hJ ar lc 429 (.list n xs r) i=(eK i).bind fun i=>bif aJ n 2&&bk i xs.length then some (.ro (iA xs i).cells) else none:=by kernel_rfl
def adz(lc:Ag.Loc)(n:Nat)(xs:List ae)(r:fu)(i:ae):hJ ar lc 433 (.list n xs r) i=(eK i).bind fun i=>bif aJ n 3&&bk i xs.length then some (.ro (iA xs i).cells) else none:=by kernel_rfl
def JO(lc:Ag.Loc)(l g o:Nat)(i:ae):hJ ar lc 444 (.Ge l g o) i=(eK i).bind fun i=>bif bk i 3 then bif aJ (lc.gen l) g then some (.Ge l g (o+i*1)) else none else none:=by kernel_rfl
def adA(lc:Ag.Loc)(n:Nat)(xs:List ae)(r:fu)(i:ae):hJ ar lc 499 (.list n xs r) i=(eK i).bind fun i=>bif aJ n 1&&bk i xs.length then some (.ro (iA xs i).cells) else none:=by kernel_rfl
def adB(lc:Ag.Loc)(n m o l c:Nat)(i:ae):hJ ar lc 502 (.arr n m o l c) i=(eK i).bind fun i=>bif aJ n 1&&bk i l then some (.ptr m (o+i*1)) else none:=by kernel_rfl
def adC(lc:Ag.Loc)(n:Nat)(xs:List ae)(r:fu)(i:ae):hJ ar lc 535 (.list n xs r) i=(eK i).bind fun i=>bif aJ n 2&&bk i xs.length then some (.ro (iA xs i).cells) else none:=by kernel_rfl
def ad0(s:List UInt8)(i:ae):tz ar 9 (.str s) i=(eK i).bind fun i=>match s.drop i with|b::_=>some (.int .u8 b.toNat)| []=>none:=by kernel_rfl
def adZ(cs:List ae)(i:ae):tz ar 441 (.agg cs) i=(eK i).bind fun i=>bif bk i 3 then ey ar 50 cs (i*1) else none:=by kernel_rfl
def aie(mk:aW)(b:List UInt8)(s:St):gD ar mk 9 (.str b) s=some (.int .i64 b.length):=by kernel_rfl
def pf(mk:aW)(s:St):gD ar mk 22 .AL s=some (.int .i64 (0:Nat)):=by kernel_rfl
def o9(mk:aW)(n:Nat)(xs:List ae)(r:fu)(s:St):gD ar mk 22 (.list n xs r) s=some (.int .i64 xs.length):=by kernel_rfl
def dB(mk:aW)(s:St):gD ar mk 25 .AL s=some (.int .i64 (0:Nat)):=by kernel_rfl
def dH(mk:aW)(n:Nat)(xs:List ae)(r:fu)(s:St):gD ar mk 25 (.list n xs r) s=some (.int .i64 xs.length):=by kernel_rfl
def ah8(mk:aW)(s:St):gD ar mk 26 .AL s=some (.int .i64 (0:Nat)):=by kernel_rfl
def ah7(mk:aW)(n:Nat)(xs:List ae)(r:fu)(s:St):gD ar mk 26 (.list n xs r) s=some (.int .i64 xs.length):=by kernel_rfl
def jw(mk:aW)(s:St):gD ar mk 50 .AL s=some (.int .i64 (0:Nat)):=by kernel_rfl
def jv(mk:aW)(n:Nat)(xs:List ae)(r:fu)(s:St):gD ar mk 50 (.list n xs r) s=some (.int .i64 xs.length):=by kernel_rfl
def BW(mk:aW)(s:St):gD ar mk 80 .AL s=some (.int .i64 (0:Nat)):=by kernel_rfl
def BV(mk:aW)(n:Nat)(xs:List ae)(r:fu)(s:St):gD ar mk 80 (.list n xs r) s=some (.int .i64 xs.length):=by kernel_rfl
def ah5(mk:aW)(n:Nat)(xs:List ae)(r:fu)(s:St):gD ar mk 150 (.list n xs r) s=some (.int .i64 xs.length):=by kernel_rfl
def ah6(mk:aW)(n:Nat)(xs:List ae)(r:fu)(s:St):gD ar mk 218 (.list n xs r) s=some (.int .i64 xs.length):=by kernel_rfl
def Sf(mk:aW)(s:St):gD ar mk 429 .AL s=some (.int .i64 (0:Nat)):=by kernel_rfl
def Se(mk:aW)(n:Nat)(xs:List ae)(r:fu)(s:St):gD ar mk 429 (.list n xs r) s=some (.int .i64 xs.length):=by kernel_rfl
def aia(mk:aW)(s:St):gD ar mk 433 .AL s=some (.int .i64 (0:Nat)):=by kernel_rfl
def ah9(mk:aW)(n:Nat)(xs:List ae)(r:fu)(s:St):gD ar mk 433 (.list n xs r) s=some (.int .i64 xs.length):=by kernel_rfl
def aib(mk:aW)(n:Nat)(xs:List ae)(r:fu)(s:St):gD ar mk 499 (.list n xs r) s=some (.int .i64 xs.length):=by kernel_rfl
def aid(mk:aW)(s:St):gD ar mk 535 .AL s=some (.int .i64 (0:Nat)):=by kernel_rfl
def aic(mk:aW)(n:Nat)(xs:List ae)(r:fu)(s:St):gD ar mk 535 (.list n xs r) s=some (.int .i64 xs.length):=by kernel_rfl
def uD:iI ar 22=some ⟨6,88,true,(.agg [(.str []),(.int .i64 (0)),(.int .i64 (0)),(.int .i64 (0)),.AL,.AL])⟩:=by kernel_rfl
def adT:nF ar 22=true:=by kernel_rfl
def qM:iI ar 25=some ⟨1,16,false,(.str [])⟩:=by kernel_rfl
def adU:nF ar 25=true:=by kernel_rfl
def IV:iI ar 26=some ⟨1,8,false,(.int .i64 (0))⟩:=by kernel_rfl
def xG:iI ar 50=some ⟨2,32,true,(.agg [(.str []),(.str [])])⟩:=by kernel_rfl
def adX:nF ar 50=true:=by kernel_rfl
def zm:iI ar 80=some ⟨2,32,true,(.agg [(.str []),(.str [])])⟩:=by kernel_rfl
def adY:nF ar 80=true:=by kernel_rfl
def Z3:iI ar 150=some ⟨1,8,false,.nilm⟩:=by kernel_rfl
def Z4:iI ar 218=some ⟨2,16,true,(.agg [(.int .i64 (0)),(.int .i64 (0))])⟩:=by kernel_rfl
def OJ:iI ar 429=some ⟨2,16,true,(.agg [(.int .i64 (0)),(.int .i64 (0))])⟩:=by kernel_rfl
def adV:nF ar 429=true:=by kernel_rfl
def IW:iI ar 433=some ⟨3,24,true,(.agg [(.int .i64 (0)),(.int .i64 (0)),(.int .i64 (0))])⟩:=by kernel_rfl
def adW:nF ar 433=true:=by kernel_rfl
def Z5:iI ar 499=some ⟨1,24,false,.AL⟩:=by kernel_rfl
def Z6:iI ar 502=some ⟨1,4,false,(.int .i32 (0))⟩:=by kernel_rfl
def Z7:iI ar 535=some ⟨2,16,true,(.agg [(.int .i64 (0)),(.int .i64 (0))])⟩:=by kernel_rfl
def Gl(k:List UInt8):qm ar 44 (.str k)=some (9,4):=by kernel_rfl
def tn(a b:List UInt8):lL ar 8 9 (.str a) (.str b)=some (a==b):=by kernel_rfl
def Gk(k:List UInt8):qm ar 145 (.str k)=some (9,151):=by kernel_rfl
def S3(k:List UInt8):qm ar 442 (.str k)=some (9,443):=by kernel_rfl
abbrev Sp:=List ae->Option ae
abbrev bC:=FuncId->Option Sp
abbrev du:=List (Nat×Sp)
def cI(f:Nat):du->Option Sp
 | []=>none
 |(k,v)::l=>bif aJ k f then some v else cI f l
noncomputable def QT(t:du):bF:=QS fun f=>cI f t
def dc(t:du):Prop:= ∀p∈t,cq ar p.1 p.2
def Hu{f:Nat}{sp:Sp}: ∀ {t:du},cI f t=some sp->(f,sp)∈t
 | [],h=>by cases h
 |(k,v)::l,h=>by
  simp only[cI] at h;cases hk:aJ k f with
  |true=>
   rw[hk] at h;injection h with h;subst h
   have:=iw hk;subst this;exact List.mem_cons_self
  |false=>
   rw[hk] at h;exact List.mem_cons_of_mem _ (Hu h)
def Lp:ar.funcs.toList.all (fun fn=> !(fn.name== "runtime.NumGoroutine"))=true:=by kernel_rfl
def Lj:ar.follows .mixedOrders=true:=by kernel_rfl
variable{t:du}
def ep(h:dc t):Al (QT t) where
 mixed:=Lj
 spec f sp hsp args v hv G hp w xs wr hx:=h _ (Hu hsp) args v hv G hp w xs wr hx
 specH f sp h:=by cases h
 names f fn hf:=by
  have hf:ar.funcs[f]? =some fn:=hf
  have:=List.all_eq_true.1 Lp fn (by
   rw[<-Array.getElem?_toList] at hf;exact List.mem_of_getElem? hf)
  simpa using this
def dc.nil:dc []:=fun _ h=>by cases h
variable{f:Nat}
def dc.cons{sp:Sp}(h:cq ar f sp)(ht:dc t):dc ((f,sp)::t):=by
 intro p hp;rcases List.mem_cons.1 hp with rfl|hp
 exact h;exact ht p hp
def BD(c:Nat):List UInt8->Nat->Int
 | [],_=> -1
 |b::l,i=>bif aJ b.toNat c then(i:Int) else BD c l (i+1)
def Mj:Sp
 | [.str s,.int .u8 (.ofNat c)]=>bif bk c 256 then some (.int .i64 (BD c s 0)) else none
 |_=>none
def PY(c:Nat)(hc:c<256): ∀(l:List UInt8) (i:Nat),BD c l i=match(iv l.length).find? (fun j=>l[j]! ==c.toUInt8) with|some j=>((i+j:Nat):Int)|none=> -1
 | [],i=>rfl
 |b::l,i=>by
  rw[BD,List.length_cons,List.range_succ_eq_map,List.find?_cons];have hb:((b::l)[0]! ==c.toUInt8)=aJ b.toNat c:=by
   show(b==c.toUInt8)=_;cases h:aJ b.toNat c with
   |true=>
    have:=iw h;subst this;simp
   |false=>
    have:=Nat.ne_of_beq_eq_false h;apply bN.2;intro e;apply this;rw[e];simp[Nat.mod_eq_of_lt hc]
  rw[hb];cases h:aJ b.toNat c with
  |true=>simp
  |false=>
   simp only[cF];rw[PY c hc l (i+1),List.find?_map];have hf:((fun j=>(b::l)[j]! ==c.toUInt8) ∘ Nat.succ)=fun j=>l[j]! ==c.toUInt8:=by
    funext j;simp[Function.comp]
   rw[hf];cases (iv l.length).find? (fun j=>l[j]! ==c.toUInt8) with
   |none=>rfl
   |some j=>simp only[Option.map_some];show((i+1+j:Nat):Int)=((i+(j+1):Nat):Int);congr 1;omega
def anV:cq ar 508 Mj:=by
 intro args v hv G h w xs wr hx;unfold Mj at hv;split at hv;rename_i s c;obtain⟨hc,hv⟩:=bm hv;injection hv with hv;subst hv
 have hc:c<256:=Nat.le_of_ble_eq_true hc;cases hx with
 |cons a b=>
  cases b with
  |cons b d=>
   cases d;cases a;cases b;refine .inl ⟨.int .i64 (firstIdx ⟨⟨s⟩⟩ c.toUInt8),w,?_,G,wr,.refl,?_⟩
   have:=run_callFunc_extern (P:=ar) (f:=508) (fn:=Tryz.f508) (e:=Extern.BytealgIndexByte.indexByte) (by kernel_rfl) (by kernel_rfl) (by kernel_rfl) (by kernel_rfl) (by kernel_rfl) #[.string ⟨⟨s⟩⟩,.int .u8 (.ofNat c)] w;rw[show(⟨[jO ⟨⟨s⟩⟩,.int .u8 (.ofNat c)]⟩:Array Value)= #[.string ⟨⟨s⟩⟩,.int .u8 (.ofNat c)] from rfl,this,run_indexByte_string];rfl;have:firstIdx ⟨⟨s⟩⟩ c.toUInt8=BD c s 0:=by
    rw[PY c hc];unfold firstIdx;have h1:(⟨⟨s⟩⟩:ByteArray).size=s.length:=rfl;rw[h1];have h2:(fun i=>(⟨⟨s⟩⟩:ByteArray)[i]! ==c.toUInt8)=fun(j:Nat)=>s[j]! ==c.toUInt8:=by
     funext i;congr 1;by_cases hi:i<s.length;rw[getElem!_pos (⟨⟨s⟩⟩:ByteArray) i hi,getElem!_pos s i hi];rfl;rw[getElem!_neg (⟨⟨s⟩⟩:ByteArray) i hi,getElem!_neg s i hi]
    rw[h2];cases (iv s.length).find? (fun(j:Nat)=>s[j]! ==c.toUInt8)<;>simp
   rw[this];exact .int _ _
 cases hv
abbrev ak:=List UInt8
def xY(b:Nat):Bool:=(br 97 b&&br b 122)||(br 65 b&&br b 90)
def zk(b:Nat):Bool:=br 48 b&&br b 57
def B7(b:Nat):List Nat->Bool
 | []=>false
 |x::l=>aJ b x||B7 b l
def vU(b:Nat):Nat:=
 bif xY b then 3 else bif zk b then 4 else bif B7 b [32,9,10] then 1 else bif B7 b [59,44,46,58,40,41,123,125,91,93,61,60,62,47,45] then 6
 else bif aJ b 35 then 2 else bif aJ b 95 then 5 else bif aJ b 34 then 7 else 0
def rP:Nat->Nat->List ae
 |0,_=>[]
 |k+1,i=>.int .u8 (vU i:Nat)::rP k (i+1)
def Oq:ae:=.agg (rP 256 0)
def Hi:Sp
 | []=>some Oq
 |_=>none
def T1:du:=[(508,Mj)]
def Nb:dc T1:=.cons anV .nil
noncomputable def jT(t:du)(n f:Nat)(args:List ae):Option (ae×Nat):=((cd (QT t) n).call f args [] s0).bind fun x=>(cj x.2.heap 12 x.1).bind fun u=>some (u,x.2.ci)
def lu(ht:dc t){args:List ae}{u:ae}(h:jT t n f args=some (u,0)){args':List ae}(ha:ej args'=args)(hp:jn args'=true)(G:Gh)(hh:aZ bf)(w:World)(xs:List Value)(wr:WR G hh w)(hx:bP G args' xs):
 mh ar f ⟨xs⟩ w fun y w'=> ∃G',WR G' hh w'/\cM G hh w G' hh w' 0 0/\VR G' u y:=by
 simp only[jT,Option.bind_eq_some_iff,Option.some.injEq,bj] at h;obtain⟨⟨v,s'⟩,h1,u',h2,rfl,h3⟩:=h;exact eA (Q:=QT t) (ep ht) (fun _=>Nat.zero_lt_succ 1) hp ⟨n,by rw[ha];exact h1⟩ h3 ⟨12,h2⟩ G hh w xs wr hx
def aaF:jT T1 3000 260 []=some (Oq,0):=by kernel_rfl
def anU:cq ar 260 Hi:=by
 intro args v hv G h w xs wr hx;cases args with
 |nil=>
  injection hv with hv;subst hv
  exact lu Nb aaF rfl rfl G h w xs wr hx
 |cons _ _=>cases hv
def Ow: ∀k i,(rP k i).length=k
 |0,_=>rfl
 |k+1,i=>by simp[rP,Ow k (i+1)]
def Ov: ∀(k i j:Nat),j<k->((rP k i).drop j).head?=some (.int .u8 (vU (i+j):Nat))
 |0,_,_,h=>by omega
 |k+1,i,0,_=>by simp[rP]
 |k+1,i,j+1,h=>by
  simp only[rP,List.drop_succ_cons];rw[Ov k (i+1) j (by omega),show i+1+j=i+(j+1) by omega]
