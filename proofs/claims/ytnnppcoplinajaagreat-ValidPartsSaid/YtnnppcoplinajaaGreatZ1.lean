/- Lemmas for ValidParts. -/
import Derived.Test.YtnnppcoplinajaaGreatAg3
import Derived.Test.YtnnppcoplinajaaGreatProg
import Derived.KernelRfl
import Derived.Laws.Externs
set_option linter.all false
open Go.Callee renaming builtin→DG,value→oq
open Go.Ag.bX renaming of→ep
open Go.IntKind renaming i64→ja
open List renaming range→gV
open Nat renaming beq→aK,eq_of_beq_eq_true→jr
open Go.Op renaming assign→xJ,binOp→eI,call→jH
open Go.Operand renaming const→dP,func→rd,tmp→aB
open Go.Ag.dH renaming of→jJ
open Go.ResultVar renaming tmp→bQ
open Go.Ag.fy renaming of→mT
open Go.Ag.fY renaming of→ot
open Go.Proofs.Tryz renaming prog→ah
open Go.Value renaming bool→rf,int→ib
namespace Go.Proofs.YtnnppcoplinajaaGreat
open Go.Ag
structure bC (N:Nat) (fn:Func) (k:SC) (n:Nat) (rs:List ResultVar):Prop where
 a:ah.funcs[N]? =some fn
 b:fn.body.map dJ=some k
 c:fn.ntmps=n
 d:fn.results.toList=rs
def bC.of{N:Nat}{fn:Func}{k:SC}{n:Nat}{rs:List ResultVar}(h:(ah.funcs[N]?,fn.body.map dJ,fn.ntmps,fn.results.toList)=(some fn,some k,n,rs):=by kernel_rfl):bC N fn k n rs:=by
 simp only[Prod.mk.injEq] at h;exact⟨h.1,h.2.1,h.2.2.1,h.2.2.2⟩
def Nc:List Oper->Nat->Bool->SG
 | [],_,_=>.never
 |o::_,0,w=>match o.dst with
  |some d=>.when d w
  |none=>.never
 |_::l,n+1,w=>Nc l n w
def VY(all:List Oper):Option (Nat×Bool)->SG
 |none=>.aw
 |some (j,w)=>Nc all j w
def HA(all:List Oper):List Oper->List au
 | []=>[]
 |o::l=>⟨o.dst,o.op,VY all o.guard⟩::HA all l
def Wa:List (List Nat)->List Nat
 | []=>[]
 |a::_=>a
def Hi:Nat->List (List Nat)->List (List Nat)
 |0,l=>l
 |_+1,[]=>[]
 |n+1,_::l=>Hi n l
def wx:Code->Nat
 | .seq a b=>wx a+wx b
 | .cond _ a b=>wx a+wx b
 | .block _ b=>wx b
 | .loop b=>wx b
 | .region _ _ true=>1
 |_=>0
def yf:Code->List (List Nat)->SC
 | .ret,_=>.ret
 | .exit id,_=>.exit id
 | .seq a b,l=>.seq (yf a l) (yf b (Hi (wx a) l))
 | .cond x a b,l=>.cond x (yf a l) (yf b (Hi (wx a) l))
 | .block id b,l=>.block id (yf b l)
 | .loop b,l=>.loop (yf b l)
 | .region _ ops false,_=>.region (HA ops.toList ops.toList)
 | .region _ ops true,l=>.draw (HA ops.toList ops.toList) (Wa l)
 |_,_=>.skip
def VX(f:Func)(l:List (List Nat)):SC:=
 match f.body with
 |some c=>yf c l
 |none=>.skip
def stP(t:Nat)(c:SC):SC:=
 match c with
 | .seq a b=>(match t with
   |0=>a
   |_+1=>b)
 | .cond _ a b=>(match t with
   |0=>a
   |_+1=>b)
 | .block _ b=>b
 | .loop b=>b
 |c=>c
def Ly:List Nat->SC->SC
 | [],c=>c
 |t::p,c=>Ly p (stP t c)
def Bs(a b:SC):Prop:=a=b
def Bs.r(a:SC):Bs a a:=rfl
structure bw (f:Func) (l:List (List Nat)) where
 y:SC
 h:Bs y (VX f l):=by(conv=>arg 2;arg 1;whnf);dsimp only[VX,yf,wx,HA,VY,Nc,Wa,Hi];exact Bs.r _
structure cr (k:SC) (p:List Nat) where
 y:SC
 h:Bs y (Ly p k):=by(conv=>arg 2;arg 2;whnf);dsimp only[Ly,stP];exact Bs.r _
abbrev yV(r:List au):SC:=.region r
abbrev nC(a b:SC):SC:=.seq a b
abbrev eK(r:List au)(k:SC):SC:=.seq (.region r) k
abbrev nU(t:Nat)(a b:SC):SC:=.cond (aB t) a b
abbrev exT(t n:Nat):SC:=.cond (aB t) .skip (.exit n)
abbrev QV(t n:Nat)(k:SC):SC:=.seq (.cond (aB t) .skip (.exit n)) k
abbrev xU(n:Nat)(k:SC):SC:=.block n k
abbrev Po(k:SC):SC:=.loop k
abbrev w7:SC:=.ret
abbrev pR:SC:=.skip
abbrev sdR(r:List au)(b:List Nat)(k:SC):SC:=.seq (.draw r b) k
abbrev cd(a b:Nat):au:=⟨some a,Op.move (aB b),.aw⟩
abbrev bt(a b c:Nat):au:=⟨some a,Op.load b (aB c),.aw⟩
abbrev dc(a b:Nat):au:=⟨some a,xJ (aB b),.aw⟩
abbrev ce(a b c d:Nat):au:=⟨some a,Op.fieldAddr b (aB c) d,.aw⟩
abbrev AI(a b c:Nat):au:=⟨some a,jH ⟨DG Builtin.len,#[aB b],#[c]⟩,.aw⟩
abbrev CZ(a b c d:Nat):au:=⟨some a,Op.indexAddr b (aB c) (aB d),.aw⟩
abbrev f7(a b c:Nat):au:=⟨none,Op.store a (aB b) (aB c),.aw⟩
abbrev qO(a b c:Nat):au:=⟨some a,Op.box b (aB c),.aw⟩
abbrev hQ(a b:Nat):au:=⟨some a,Op.alloc b,.aw⟩
abbrev oe(a:Nat)(b:Int):au:=⟨some a,xJ (dP (ib ja b)),.aw⟩
abbrev CW(a b:Nat)(c:Int):au:=⟨some a,eI BinOp.add 3 (aB b) (dP (ib ja c)) 3,.aw⟩
abbrev rU(a:Nat):au:=⟨some a,xJ (dP (rf false)),.aw⟩
abbrev Jx(a b c d:Nat):au:=⟨some a,eI BinOp.lss b (aB c) (aB d) b,.aw⟩
abbrev kd(a b c d:Nat):au:=⟨some a,Op.load b (aB c),(.when d true)⟩
abbrev pG(a b c d e f:Nat):au:=⟨some a,jH ⟨oq (rd b),#[aB c,aB d],#[e,f]⟩,.aw⟩
abbrev ip(a b c d e:Nat):au:=⟨some a,Op.fieldAddr b (aB c) d,(.when e true)⟩
abbrev rX(a b c:Nat):au:=⟨some a,Op.move (aB b),(.when c true)⟩
abbrev nk(a b c:Nat):au:=⟨some a,Op.pick (aB b) (aB c) (dP (rf false)),.aw⟩
abbrev Jy(a:Nat):au:=⟨some a,Op.move (dP (ib ja 0)),.aw⟩
abbrev kQ(a b c d:Nat):au:=⟨some a,Op.load b (aB c),(.when d false)⟩
abbrev nm(a b c d:Nat):au:=⟨some a,jH ⟨oq (rd b),#[aB c],#[d]⟩,.aw⟩
abbrev mD(a b:Nat):au:=⟨some a,Op.unOp UnOp.not 4 (aB b),.aw⟩
abbrev asG(a:Nat):au:=⟨some a,xJ (dP (Value.slice none 0 0)),.aw⟩
abbrev rY(a b c:Nat):au:=⟨some a,Op.extract (aB b) c,.aw⟩
abbrev rZ(a b c:Nat):au:=⟨some a,Op.move (aB b),(.when c false)⟩
abbrev pH(a b c:Nat):au:=⟨some a,Op.pick (aB b) (dP (rf true)) (aB c),.aw⟩
abbrev pJ(a b c d e:Nat):au:=⟨some a,Op.fieldAddr b (aB c) d,(.when e false)⟩
abbrev aas(a b c:Nat):au:=⟨some a,Op.buildSlice b 1 #[(0,aB c)],.aw⟩
abbrev aat(a b c d:Nat):au:=⟨some a,jH ⟨DG Builtin.append,#[aB b,aB c],#[d,d]⟩,.aw⟩
abbrev qN(a b:Nat)(c:Int):au:=⟨some a,eI BinOp.eql 3 (aB b) (dP (ib ja c)) 3,.aw⟩
abbrev Jz(a b c:Nat)(d:Int):au:=⟨some a,Op.indexAddr b (aB c) (dP (ib ja d)),.aw⟩
abbrev yP(a b:Nat):au:=⟨some a,Op.nilCheck (aB b),.aw⟩
abbrev wW(a b:Nat)(c:Int):au:=⟨some a,eI BinOp.gtr 3 (aB b) (dP (ib ja c)) 3,.aw⟩
abbrev asH(a b c d:Nat):au:=⟨some a,Op.build b #[(0,aB c),(1,aB d)],.aw⟩
abbrev ayU(a b c d e f g:Nat):au:=⟨some a,jH ⟨oq (rd b),#[aB c,aB d],#[e,f]⟩,(.when g true)⟩
abbrev ayV(a b c d:Nat):au:=⟨some a,jH ⟨oq (aB b),#[aB c],#[d]⟩,.aw⟩
abbrev ayW(a b c d:Nat):au:=⟨some a,Op.lookup b (aB c) (aB d) false,.aw⟩
abbrev FJ(a b c d:Nat):au:=⟨some a,eI BinOp.eql b (aB c) (aB d) b,.aw⟩
abbrev aau(a b c:Nat):au:=⟨some a,eI BinOp.sub 3 (aB b) (aB c) 3,.aw⟩
abbrev JA(a b c d:Nat):au:=⟨some a,eI BinOp.add b (aB c) (aB d) b,.aw⟩
abbrev JB(a b c d:Nat):au:=⟨some a,eI BinOp.mul b (aB c) (aB d) b,.aw⟩
abbrev aav(a b:Nat):au:=⟨some a,Op.makeMap b none,.aw⟩
abbrev ayX(a b c d e:Nat):au:=⟨some a,Op.indexAddr b (aB c) (aB d),(.when e false)⟩
abbrev JC(a b c:Nat):au:=⟨some a,Op.unOp UnOp.not 4 (aB b),(.when c false)⟩
abbrev r9(a:Nat)(b:Int):au:=⟨none,Op.store 3 (aB a) (dP (ib ja b)),.aw⟩
abbrev ayY(a b c d:Nat):au:=⟨some a,jH ⟨DG Builtin.len,#[aB b],#[c]⟩,(.when d true)⟩
abbrev FK(a b c d e f g h:Nat):au:=⟨some a,jH ⟨oq (rd b),#[aB c,aB d,aB e],#[f,g,h]⟩,.aw⟩
abbrev ayZ(a b c:Nat):au:=⟨some a,Op.makeFunc (Fn.func b) #[] #[aB c],.aw⟩
abbrev aaw(a b c d:Nat):au:=⟨some a,eI BinOp.neq b (aB c) (aB d) b,.aw⟩
abbrev PX(a b c:Nat):au:=⟨some a,Op.unOp UnOp.not 4 (aB b),(.when c true)⟩
abbrev aax(a b:Nat)(c:Int)(d:Nat):au:=⟨some a,eI BinOp.gtr 3 (aB b) (dP (ib ja c)) 3,(.when d false)⟩
abbrev asI(a:Nat):au:=⟨some a,xJ (dP (Value.string {data:= #[] })),.aw⟩
abbrev ay0(a b c d:Nat):au:=⟨some a,jH ⟨DG Builtin.len,#[aB b],#[c]⟩,(.when d false)⟩
abbrev ay1(a b c d e:Nat):au:=⟨some a,Op.indexAddr b (aB c) (aB d),(.when e true)⟩
abbrev ay2(a:Nat):au:=⟨some a,xJ (dP (rf true)),.aw⟩
abbrev aay(a b:Nat)(c:Int)(d:Nat):au:=⟨some a,eI BinOp.eql 3 (aB b) (dP (ib ja c)) 3,(.when d true)⟩
abbrev PY(a b c d:Nat):au:=⟨some a,Op.pick (aB b) (aB c) (dP (rf false)),(.when d false)⟩
abbrev ay3(a b c d:Nat):au:=⟨some a,jH ⟨DG Builtin.min,#[aB b,aB c],#[d,d]⟩,.aw⟩
abbrev aaz(a b:Nat)(c:Int):au:=⟨some a,eI BinOp.neq 3 (aB b) (dP (ib ja c)) 3,.aw⟩
abbrev ay4(a b c d:Nat):au:=⟨some a,jH ⟨DG Builtin.max,#[aB b,aB c],#[d,d]⟩,.aw⟩
abbrev PZ(a b:Nat)(c:Int):au:=⟨some a,eI BinOp.lss 3 (aB b) (dP (ib ja c)) 3,.aw⟩
abbrev aaA(a b c d:Nat):au:=⟨none,Op.mapUpdate a (aB b) (aB c) (aB d),.aw⟩
abbrev ay5(a b:Nat)(c:Int):au:=⟨some a,eI BinOp.geq 3 (aB b) (dP (ib ja c)) 3,.aw⟩
abbrev aaB(a b c d e:Nat):au:=⟨some a,jH ⟨oq (rd b),#[aB c],#[d]⟩,(.when e false)⟩
abbrev aaC(a b c:Nat)(d:Int)(e:Nat):au:=⟨some a,Op.indexAddr b (aB c) (dP (ib ja d)),(.when e true)⟩
abbrev ay6(a b c d e:Nat):au:=⟨some a,eI BinOp.eql b (aB c) (aB d) b,(.when e true)⟩
abbrev ay7(a b:Nat)(c:Int)(d:Nat):au:=⟨some a,eI BinOp.leq 3 (aB b) (dP (ib ja c)) 3,(.when d true)⟩
abbrev aaD(a b c d e f:Nat):au:=⟨some a,jH ⟨oq (rd b),#[aB c,rd d],#[e,f]⟩,.aw⟩
abbrev JD(a b c d:Nat):au:=⟨some a,Op.lookup b (aB c) (aB d) true,.aw⟩
abbrev ay8(a:Nat)(b:Int)(c:Nat):au:=⟨some a,Op.build 31 #[(1,dP (ib ja b)),(2,aB c)],.aw⟩
abbrev ay9(a b c d:Nat):au:=⟨some a,Op.convert b c (aB d),.aw⟩
abbrev asJ(a b:Nat)(c:Int)(d:Nat):au:=⟨some a,eI BinOp.eql 3 (aB b) (dP (ib ja c)) 3,(.when d false)⟩
abbrev aza(a b c d:Nat):au:=⟨some a,Op.slice b (aB c) (some (aB d)) none none,.aw⟩
abbrev JE(a b:Nat)(c:Int)(d:Nat):au:=⟨some a,eI BinOp.neq 3 (aB b) (dP (ib ja c)) 3,(.when d true)⟩
abbrev P0(a b c d e f g:Nat):au:=⟨some a,jH ⟨oq (rd b),#[aB c,aB d],#[e,f]⟩,(.when g false)⟩
abbrev asK(a b c d e f:Nat):au:=⟨some a,jH ⟨oq (aB b),#[aB c,aB d],#[e,f]⟩,.aw⟩
abbrev P1(a b c d e:Nat):au:=⟨some a,jH ⟨oq (rd b),#[aB c],#[d]⟩,(.when e true)⟩
abbrev P2(a b c d e:Nat):au:=⟨some a,eI BinOp.eql b (aB c) (aB d) b,(.when e false)⟩
abbrev aaE(a b:Nat)(c:Int)(d:Nat):au:=⟨some a,eI BinOp.lss 3 (aB b) (dP (ib ja c)) 3,(.when d true)⟩
abbrev aaF(a b c d:Nat):au:=⟨some a,Op.pick (aB b) (dP (rf true)) (aB c),(.when d true)⟩
abbrev asM(a b c:Nat):au:=⟨some a,eI BinOp.leq 3 (aB b) (aB c) 3,.aw⟩
abbrev azb(a b c d:Nat):au:=⟨some a,Op.buildSlice b 2 #[(0,aB c),(1,aB d)],.aw⟩
abbrev aaG(a b:Nat):au:=⟨some a,Op.build b #[],.aw⟩
abbrev asN(a b c d:Nat):au:=⟨some a,eI BinOp.gtr b (aB c) (aB d) b,.aw⟩
abbrev asO(a b c:Nat):au:=⟨none,Op.mapUpdate a (aB b) (aB c) (dP (rf true)),.aw⟩
abbrev asP(a b:Nat):au:=⟨some a,eI BinOp.sub 3 (aB b) (dP (ib ja 1)) 3,.aw⟩
abbrev FL(a:Nat):au:=⟨none,Op.store 4 (aB a) (dP (rf false)),.aw⟩
abbrev azc(a b:Nat):au:=⟨some a,eI BinOp.shr 389 (aB b) (dP (ib IntKind.u64 32)) 294,.aw⟩
abbrev asQ(a b:Nat)(c:Int)(d:Nat):au:=⟨some a,eI BinOp.lss 3 (aB b) (dP (ib ja c)) 3,(.when d false)⟩
abbrev azd(a b c:Nat):au:=⟨some a,Op.range b (aB c),.aw⟩
abbrev aze(a b:Nat):au:=⟨some a,Op.next (aB b) false,.aw⟩
abbrev azf(a b:Nat):au:=⟨some a,Op.entry (aB b),.aw⟩
abbrev azg(a b:Nat)(c:Int):au:=⟨some a,eI BinOp.leq 3 (aB b) (dP (ib ja c)) 3,.aw⟩
abbrev asR(a b c:Nat)(d:Int)(e:Nat):au:=⟨some a,Op.indexAddr b (aB c) (dP (ib ja d)),(.when e false)⟩
abbrev aaH:au:=⟨some 2,xJ (dP (Value.pointer none)),.aw⟩
abbrev aaI(a b:Nat):au:=⟨some a,eI BinOp.neq 9 (aB b) (dP (Value.string {data:= #[] })) 9,.aw⟩
abbrev azh(a:Nat):au:=⟨some a,xJ (dP (ib IntKind.u64 0)),.aw⟩
abbrev azi(a b:Nat):au:=⟨some a,jH ⟨oq (rd b),#[],#[]⟩,.aw⟩
abbrev azj(a b c d:Nat):au:=⟨some a,eI BinOp.lss 3 (aB b) (aB c) 3,(.when d true)⟩
abbrev aaJ(a b c d e f g h i:Nat):au:=⟨some a,jH ⟨oq (rd b),#[aB c,aB d,aB e],#[f,g,h]⟩,(.when i false)⟩
abbrev PV(a b c d e f g:Nat):au:=⟨some a,jH ⟨oq (rd b),#[aB c,aB d,aB e],#[f,f,f]⟩,(.when g true)⟩
abbrev asE(a b c d e:Nat):au:=⟨some a,eI BinOp.neq b (aB c) (aB d) b,(.when e true)⟩
abbrev asF(a b c d:Nat):au:=⟨some a,eI BinOp.leq 3 (aB b) (aB c) 3,(.when d true)⟩
abbrev ayN(a b c d:Nat):au:=⟨some a,Op.slice b (aB c) none (some (aB d)) none,.aw⟩
abbrev ayO(a:Nat):au:=⟨some a,xJ (dP Value.nilFunc),.aw⟩
abbrev PW(a b c:Nat):au:=⟨some a,eI BinOp.gtr 3 (aB b) (dP (ib ja 0)) 3,(.when c true)⟩
abbrev ayP(a b c d:Nat):au:=⟨some a,Op.makeFunc (Fn.func b) #[] #[aB c,aB d],.aw⟩
abbrev aar(a b c d e:Nat):au:=⟨some a,eI BinOp.neq b (aB c) (aB d) b,(.when e false)⟩
abbrev ayQ(a b c d:Nat):au:=⟨some a,Op.build b #[(c,aB d)],.aw⟩
abbrev ayR(a:Nat):au:=⟨some a,Op.buildSlice 25 1 #[(0,dP (Value.string {data:= #[] }))],.aw⟩
abbrev ayS(a b:Nat):au:=⟨some a,eI BinOp.and 389 (aB b) (dP (ib IntKind.u64 4294967295)) 389,.aw⟩
abbrev ayT(a b c:Nat):au:=⟨some a,jH ⟨oq (rd 16),#[aB b,aB c,dP (ib ja 24)],#[24,29,3]⟩,.aw⟩
abbrev ag(n:Int):aa:=.int .i64 n
abbrev aM(n:Nat):aa:=.int .i64 (n:Int)
def Wd(n:Nat):List (Nat×Nat)->Nat
 | []=>0
 |(k,v)::l=>bif aK k n then v else Wd n l
def akB:List (Nat×List (Nat×Nat)):=[
(3,[(4,1),(5,1),(7,1)]),
(4,[(3,1),(4,1)]),
(5,[(2,1),(3,1),(7,1),(12,1),(16,1)]),
(6,[(2,1),(3,1)]),
(7,[(3,1),(4,1),(5,1),(10,1)]),
(8,[(3,1),(4,1),(8,1),(16,1)]),
(9,[(3,1),(4,1),(8,1),(17,1)]),
(10,[(3,1),(4,1),(8,1)]),
(11,[(3,1),(4,1),(8,1),(13,1),(14,1)]),
(12,[(3,1),(4,1),(5,1),(8,1),(10,1)]),
(13,[(3,1),(4,1),(5,1),(8,1),(10,1)]),
(14,[(3,1),(4,1),(5,1),(8,1)]),
(15,[(1,1),(3,1),(6,1),(7,1)]),
(16,[(3,1),(4,1)]),
(18,[(2,1),(10,1),(14,1)]),
(19,[(2,1),(3,1)]),
(20,[(2,1),(3,1)]),
(21,[(2,1),(4,1),(10,1),(12,1)]),
(22,[(2,1),(4,1),(9,1),(11,1)]),
(23,[(2,1),(3,1)]),
(24,[(2,1),(3,1)]),
(25,[(3,1),(4,1)]),
(26,[(3,1),(4,1),(5,1)]),
(27,[(3,1)]),
(28,[(2,1),(4,1)]),
(29,[(3,1),(4,1)]),
(30,[(1,1)]),
(31,[(1,1),(5,1)]),
(32,[(2,1)]),
(33,[(2,1),(6,1)]),
(34,[(2,1),(3,1),(4,1),(8,1)]),
(36,[(1,1),(2,1),(4,1),(5,1),(8,1),(9,1),(12,1)]),
(37,[(3,1),(4,1)]),
(38,[(6,1),(17,1)]),
(39,[(5,1),(11,1),(40,2),(120,2)]),
(43,[(2,1),(4,1),(9,1),(10,1)]),
(45,[(1,1),(2,1),(4,1),(6,1),(8,1),(9,1),(10,1),(11,1),(12,1),(16,1)]),
(46,[(3,1),(4,1),(5,1)]),
(47,[(3,1),(4,1),(5,1),(6,1),(15,1)]),
(48,[(3,1),(4,1),(5,1),(6,1),(8,1),(12,1),(17,1),(19,1),(21,1)]),
(50,[(3,1),(4,1),(5,1),(6,1),(10,1)]),
(51,[(3,1),(4,1),(5,1),(6,1),(10,1)]),
(54,[(0,1)]),
(56,[(2,1)]),
(57,[(2,1),(7,1),(10,1)]),
(58,[(1,1),(6,1)]),
(59,[(1,1),(3,1),(10,1),(13,1),(19,1),(21,1),(176,2)]),
(60,[(1,1)]),
(61,[(1,1),(8,1)]),
(62,[(1,1)]),
(63,[(3,1),(4,1)]),
(64,[(2,1),(3,1)]),
(65,[(1,1),(5,1)]),
(68,[(3,1),(4,1),(5,1),(9,1),(11,1)]),
(69,[(2,1)]),
(71,[(3,1),(4,1),(5,1),(10,1)]),
(72,[(2,1)]),
(74,[(1,1)]),
(77,[(2,1)]),
(79,[(2,1)]),
(80,[(7,2)]),
(83,[(6,1)]),
(84,[(6,1)]),
(86,[(5,1),(6,1)]),
(87,[(2,1),(3,1),(7,1)]),
(88,[(6,1),(10,1),(16,1)]),
(89,[(1,1),(2,1)]),
(91,[(1,1)]),
(93,[(1,1)]),
(96,[(1,1),(5,1),(7,1)]),
(97,[(3,1),(4,1),(6,1),(7,1),(9,1),(10,1)]),
(98,[(2,1)]),
(99,[(8,1),(9,1)]),
(100,[(1,1)]),
(107,[(2,1),(3,1)]),
(110,[(1,1)]),
(111,[(4,1),(5,1),(6,1),(8,1),(11,1),(13,1),(15,1),(17,1)]),
(112,[(2,1),(3,1),(4,1)]),
(113,[(3,1)]),
(114,[(4,1),(5,1),(6,1),(7,1)]),
(115,[(2,1),(4,1)]),
(116,[(2,1),(3,1)]),
(117,[(2,1),(3,1),(15,1)]),
(118,[(3,1),(4,1),(6,1),(14,1),(15,1)]),
(119,[(1,1),(3,1)]),
(122,[(0,1)]),
(123,[(6,1)]),
(124,[(2,1),(7,1),(10,1)]),
(125,[(1,1)]),
(126,[(1,1),(2,1),(4,1),(6,1)]),
(127,[(1,1),(5,1),(10,1),(12,1),(93,2)]),
(129,[(2,1),(4,1)]),
(131,[(11,1),(15,1)]),
(132,[(2,1),(7,1)]),
(135,[(2,1),(3,1)]),
(137,[(1,1),(5,1),(7,1),(11,1)]),
(138,[(25,2)]),
(141,[(9,1),(10,1)]),
(142,[(1,1),(6,1),(8,1)]),
(143,[(3,1),(7,1)]),
(144,[(3,1)]),
(145,[(3,1)]),
(146,[(1,1)]),
(147,[(2,1),(4,1),(5,1)]),
(148,[(2,1),(3,1)]),
(149,[(1,1)]),
(150,[(1,1)]),
(151,[(1,1)]),
(152,[(2,1)]),
(156,[(2,1)]),
(157,[(7,1)]),
(158,[(2,1)]),
(159,[(1,1)]),
(162,[(3,1)]),
(163,[(3,1)]),
(164,[(5,1)]),
(168,[(1,1)]),
(170,[(1,1)]),
(172,[(2,1)]),
(175,[(6,1)]),
(176,[(2,1),(3,1)]),
(179,[(1,1)]),
(180,[(1,1),(3,1)]),
(182,[(3,1)]),
(183,[(3,1),(4,1),(11,1)]),
(184,[(2,1),(4,1)]),
(193,[(3,1)]),
(195,[(2,1),(3,1),(4,1)]),
(196,[(3,1),(4,1),(5,1),(6,1),(8,1)]),
(197,[(2,1),(4,1),(5,1)]),
(198,[(2,1)]),
(199,[(2,1),(3,1)]),
(201,[(1,1)]),
(202,[(2,1)]),
(204,[(4,1),(5,1),(12,1)]),
(205,[(1,1)]),
(206,[(3,1),(4,1)]),
(208,[(4,1),(5,1),(8,1),(9,1),(10,1)]),
(210,[(6,1)]),
(211,[(1,1)]),
(212,[(1,1)]),
(213,[(1,1),(5,1),(9,1)]),
(214,[(7,1)]),
(215,[(3,1)]),
(219,[(3,1)]),
(221,[(2,1),(3,1)]),
(224,[(6,1),(12,1),(19,2),(92,2),(97,2)]),
(225,[(2,1),(3,1)]),
(237,[(4,1)]),
(239,[(1,1)]),
(242,[(1,1)]),
(243,[(2,1)]),
(245,[(1,1),(5,1)]),
(246,[(2,1),(3,1)]),
(247,[(3,1)]),
(248,[(4,1)]),
(249,[(2,1)]),
(250,[(2,1)]),
(251,[(1,1)]),
(253,[(2,1)]),
(254,[(2,1),(3,1)]),
(255,[(2,1),(3,1)]),
(256,[(2,1),(8,1)]),
(260,[(0,1),(1,1)]),
(264,[(2,1)]),
(270,[(2,1),(3,1)]),
(272,[(4,1)]),
(276,[(4,1),(5,1),(6,1),(10,1)]),
(277,[(4,1),(5,1),(6,1),(7,1)]),
(279,[(2,1),(3,1)]),
(280,[(10,1),(13,1),(19,1),(22,1)]),
(281,[(7,1),(8,1),(9,1),(10,1)]),
(282,[(8,1),(13,1),(18,1)]),
(284,[(11,2)]),
(285,[(11,2)]),
(290,[(2,1),(3,1)]),
(292,[(2,1),(3,1)]),
(293,[(2,1),(4,1),(8,1)]),
(294,[(3,1)]),
(296,[(1,1)]),
(297,[(1,1)]),
(298,[(3,1)]),
(303,[(4,1)]),
(305,[(2,1),(3,1)]),
(306,[(7,1)]),
(307,[(2,1)]),
(308,[(2,1),(3,1)]),
(310,[(2,1),(3,1)]),
(311,[(4,1)]),
(312,[(1,1),(2,1)]),
(313,[(3,1),(4,1),(5,1)]),
(314,[(2,1),(3,1),(5,1),(6,1)]),
(339,[(4,1)]),
(340,[(7,1)]),
(341,[(1,1),(2,1)]),
(343,[(1,1)]),
(344,[(5,1),(6,1),(10,1)]),
(345,[(2,1),(3,1)]),
(346,[(1,1),(2,1)]),
(347,[(2,1),(7,1)]),
(349,[(4,1)]),
(350,[(10,1)]),
(351,[(2,1)]),
(352,[(4,1)]),
(354,[(3,1),(4,1),(5,1)]),
(355,[(2,1),(3,1)]),
(364,[(2,1)]),
(369,[(3,1)]),
(378,[(4,1),(5,1)]),
(379,[(2,1),(3,1)]),
(381,[(5,1)]),
(391,[(14,2)]),
(396,[(2,1)]),
(397,[(1,1),(3,1)]),
(398,[(1,1)]),
(399,[(1,1)]),
(400,[(1,1)]),
(401,[(2,1),(3,1),(4,1)]),
(406,[(3,1)]),
(420,[(2,1),(3,1),(4,1)]),
(421,[(2,1),(3,1)]),
(422,[(2,1),(3,1)]),
(429,[(1,1)]),
(430,[(1,1)]),
(442,[(3,1),(4,1),(5,1)]),
(444,[(1,1)]),
(445,[(2,1),(3,1)]),
(446,[(2,1),(3,1)]),
(447,[(3,1),(4,1),(5,1)]),
(450,[(3,1),(7,1)]),
(451,[(1,1)]),
(452,[(3,1)]),
(462,[(4,1)]),
(467,[(12,2),(24,2)]),
(468,[(1,1),(2,1)]),
(470,[(2,1),(3,1)]),
(471,[(2,1),(3,1),(4,1)]),
(472,[(3,1),(4,1),(5,1),(6,1),(12,1),(14,1)]),
(474,[(2,1)]),
(500,[(1,1)]),
(501,[(3,1),(4,1),(5,1)]),
(503,[(2,1),(3,1)]),
(504,[(3,1),(4,1),(5,1)]),
(506,[(2,1),(3,1)]),
(507,[(3,1)]),
(515,[(3,1),(8,1)])]
def We(f t:Nat):List (Nat×List (Nat×Nat))->Nat
 | []=>0
 |(k,v)::l=>bif aK k f then Wd t v else We f t l
def ak(f:FuncId)(t:Tmp):Nat:=We f t akB
noncomputable def QS(sp:FuncId->Option (List aa->Option aa)):aD:= {P:=ah,hint:=ak,spec:=sp,ch:=fun _=>0,kmax:=fun _=>2 }
def Sv(sp:FuncId->Option (List aa->Option aa)):(QS sp).P=ah:=rfl
def Sw(sp:FuncId->Option (List aa->Option aa)):(QS sp).hint=ak:=rfl
def Sx(sp:FuncId->Option (List aa->Option aa)):(QS sp).spec=sp:=rfl
abbrev aoJ:List au:=[rU 2]
def XY:=({y:=_}:bw Tryz.f31 []).1
def aoI:=({y:=_}:cr XY [1,1,0,1,0,0]).1
def It:bC 31 Tryz.f31 XY 29 [bQ 2]:=.of
def Wn:ak 31 1=1/\ak 31 5=1:=by and_intros<;>kernel_rfl
def k32:=({y:=_}:bw Tryz.f32 []).1
def aoT:List Nat:=[0,1,0,7,15,31,63,0,128,0,896,1920,3968,8064,16383,32767]
abbrev aoX:List au:=[rU 4]
def Iw:=({y:=_}:bw Tryz.f33 [aoT]).1
def aoU:=({y:=_}:cr Iw [1,1,0,1,0,0,1,0,0,1,1,0,1,0,0]).1
def aoV:=({y:=_}:cr Iw [1,1,0,1,0,0,1,0,0,1,1,1,1,0,0]).1
def aoW:=({y:=_}:cr Iw [1,1,0,1,0,0]).1
def Iy:bC 33 Tryz.f33 Iw 79 [bQ 4]:=.of
def Wo:ak 33 2=1/\ak 33 6=1:=by and_intros<;>kernel_rfl
def apL:List Nat:=[0,1,3,7,15,31,63,127,255,511,1023,2047,4095,8191,16383,32767,65535,131071,262143,524287,131071,1179647,3276799,8388607,16777215,33554431,67108863,134217727,268435455,536870911,1073741823]
abbrev apM:List au:=[rU 2]
def k75:=({y:=_}:bw Tryz.f75 [apL]).1
def IV:bC 75 Tryz.f75 k75 72 [bQ 2]:=.of
def Nk:ak 75 1=0/\ak 75 3=0/\ak 75 4=0:=by and_intros<;>kernel_rfl
def IW:=({y:=_}:bw Tryz.f76 []).1
def ayM:=({y:=_}:cr IW [1,0,1,0,0]).1
def k77:=({y:=_}:bw Tryz.f77 []).1
def W3:=({y:=_}:bw Tryz.f108 []).1
def amA:=({y:=_}:cr W3 [1,1,0,1,0,0]).1
def HN:bC 108 Tryz.f108 W3 18 [bQ 2]:=.of
def akC:ak 108 7=0:=by kernel_rfl
def W7:=({y:=_}:bw Tryz.f130 []).1
def amH:bC 130 Tryz.f130 W7 9 [bQ 4]:=.of
def Xd:=({y:=_}:bw Tryz.f136 []).1
def amV:=({y:=_}:cr Xd [1,0,1,0,0]).1
def HS:bC 136 Tryz.f136 Xd 36 [bQ 4]:=.of
def Wi:ak 136 10=0/\ak 136 32=0/\ak 136 34=0:=by and_intros<;>kernel_rfl
abbrev anj:List au:=[asI 2]
def ani:=({y:=_}:bw Tryz.f162 []).1
def H1:bC 162 Tryz.f162 ani 14 [bQ 2]:=.of
def akU:ak 162 3=1:=by kernel_rfl
abbrev anl:List au:=[rU 2]
def Xq:=({y:=_}:bw Tryz.f163 []).1
def ank:=({y:=_}:cr Xq [1,1,0,1,0,0]).1
def H2:bC 163 Tryz.f163 Xq 39 [bQ 2]:=.of
def akV:ak 163 3=1:=by kernel_rfl
abbrev ann:List au:=[rU 2]
def Xr:=({y:=_}:bw Tryz.f164 []).1
def anm:=({y:=_}:cr Xr [1,1,0,1,0,0]).1
def H3:bC 164 Tryz.f164 Xr 39 [bQ 2]:=.of
def Ni:ak 164 5=1/\ak 164 30=0:=by and_intros<;>kernel_rfl
abbrev anp:List au:=[bt 25 44 3,cd 26 0,cd 27 0,asO 44 25 26,f7 9 2 27]
abbrev anq:List au:=[cd 28 6,cd 29 28,rZ 30 0 29,aaB 31 163 30 9 29,JC 32 31 29,pH 33 29 32,dc 5 33]
def ano:=({y:=_}:bw Tryz.f166 []).1
def H4:bC 166 Tryz.f166 ano 34 [bQ 5]:=.of
def Xs:=({y:=_}:bw Tryz.f167 []).1
def EM:bC 167 Tryz.f167 Xs 9 [bQ 4]:=.of
def anr:=({y:=_}:bw Tryz.f168 []).1
def H5:bC 168 Tryz.f168 anr 21 [bQ 2]:=.of
def akW:ak 168 1=1:=by kernel_rfl
def N8:=({y:=_}:bw Tryz.f223 []).1
def Ia:=({y:=_}:cr N8 [1,0,1,0,0]).1
def anG:bC 223 Tryz.f223 N8 19 [bQ 4]:=.of
def ak7:ak 223 7=0:=by kernel_rfl
def an4:=({y:=_}:bw Tryz.f228 []).1
def Ic:bC 228 Tryz.f228 an4 20 [bQ 4]:=.of
def aoc:=({y:=_}:bw Tryz.f232 []).1
def Ig:bC 232 Tryz.f232 aoc 20 [bQ 4]:=.of
def Oo:=({y:=_}:bw Tryz.f261 []).1
def Ih:=({y:=_}:cr Oo [1,0,1,0,0]).1
def EZ:bC 261 Tryz.f261 Oo 19 [bQ 4]:=.of
def ale:ak 261 7=0:=by kernel_rfl
def aoL:=({y:=_}:bw Tryz.f325 []).1
def Iu:bC 325 Tryz.f325 aoL 6 [bQ 2]:=.of
def aoN:=({y:=_}:bw Tryz.f328 []).1
def Iv:bC 328 Tryz.f328 aoN 6 [bQ 2]:=.of
def ao3:=({y:=_}:bw Tryz.f379 []).1
def IA:bC 379 Tryz.f379 ao3 17 [bQ 4]:=.of
def Wq:ak 379 2=1/\ak 379 3=1/\ak 379 15=0:=by and_intros<;>kernel_rfl
def YD:=({y:=_}:bw Tryz.f462 []).1
def apf:=({y:=_}:cr YD [1,0,1,0,0]).1
def II:bC 462 Tryz.f462 YD 21 [bQ 2]:=.of
def Wr:ak 462 4=1/\ak 462 7=0:=by and_intros<;>kernel_rfl
def LA:gL ah 24 [(0,1)]:=gL.of
def D4:gL ah 49 [(0,1),(1,1)]:=gL.of
def LJ:gL ah 92 [(0,1),(1,1)]:=gL.of
def TV:ue ah 207 1:=ue.of
def TW:ue ah 319 1:=ue.of
theorem jl:dH ah 3:=jJ
def JM:dH ah 5:=jJ
def gR:dH ah 9:=jJ
def abI:dH ah 21:=jJ
def w6:dH ah 22:=jJ
def FX:fy ah 24 1:=mT
def mG:dH ah 25:=jJ
def C6:dH ah 44:=jJ
def C7:fy ah 49 2:=mT
def qR:dH ah 50:=jJ
def yT:fy ah 52 6:=mT
def abK:dH ah 80:=jJ
def JN:fy ah 92 2:=mT
def abH:fy ah 207 2:=mT
def acY:df ah 3=some 1:=by kernel_rfl
def awz:df ah 5=some 1:=by kernel_rfl
def ac4:df ah 9=some 1:=by kernel_rfl
def aww:df ah 21=some 1:=by kernel_rfl
def acU:df ah 22=some 1:=by kernel_rfl
def acV:df ah 24=some 1:=by kernel_rfl
def acW:df ah 25=some 1:=by kernel_rfl
def ac1:df ah 44=some 1:=by kernel_rfl
def ac2:df ah 49=some 2:=by kernel_rfl
def awA:df ah 50=some 1:=by kernel_rfl
def ac3:df ah 52=some 6:=by kernel_rfl
def awB:df ah 80=some 1:=by kernel_rfl
def ac5:df ah 92=some 2:=by kernel_rfl
def acS:df ah 207=some 2:=by kernel_rfl
def acZ:df ah 319=some 6:=by kernel_rfl
def ac0:df ah 320=some 256:=by kernel_rfl
def Kk:dX ah 3=some (.int .i64 (0)):=by kernel_rfl
def DE:dX ah 4=some (.bool false):=by kernel_rfl
def adS:dX ah 9=some (.str []):=by kernel_rfl
def adP:dX ah 24=some (.agg [.AL]):=by kernel_rfl
def adR:dX ah 44=some .nilm:=by kernel_rfl
def Kl:dX ah 49=some (.agg [(.int .i64 (0)),(.int .i64 (0))]):=by kernel_rfl
def Bg:dX ah 52=some (.agg [(.str []),(.int .i64 (0)),(.int .i64 (0)),(.int .i64 (0)),.AL,.AL]):=by kernel_rfl
def adT:dX ah 92=some (.agg [(.str []),(.str [])]):=by kernel_rfl
def adO:dX ah 207=some (.agg [(.int .i64 (0)),(.int .i64 (0))]):=by kernel_rfl
def adQ:dX ah 319=some (.agg [(.str []),(.str []),(.str []),(.str []),(.str []),(.str [])]):=by kernel_rfl
def wq:bX ah 24 0 0:=ep
def x8:bX ah 49 0 0:=ep
def BX:bX ah 49 1 1:=ep
def qu:bX ah 52 0 0:=ep
def oK:bX ah 52 1 1:=ep
def BZ:bX ah 52 2 2:=ep
def mj:bX ah 52 3 4:=ep
def qv:bX ah 52 4 5:=ep
def uH:bX ah 92 0 0:=ep
def z9:bX ah 92 1 1:=ep
def fD:fY ah 22 6 88 true (.agg [(.str []),(.int .i64 (0)),(.int .i64 (0)),(.int .i64 (0)),.AL,.AL]):=ot
def co:fY ah 25 1 16 false (.str []):=ot
theorem kT:fY ah 26 1 8 false (.int .i64 (0)):=ot
def sk:fY ah 50 2 32 true (.agg [(.str []),(.str [])]):=ot
def acu:fY ah 80 2 32 true (.agg [(.str []),(.str [])]):=ot
def Ww(lc:Ag.Loc)(l g o:Nat)(i:aa):ii ah lc 207 (.Ge l g o) i=(dr i).bind fun i=>bif Nat.blt i 2 then bif aK (lc.gen l) g then some (.Ge l g (o+i*1)) else none else none:=by kernel_rfl
def mH:fY ah 218 2 16 true (.agg [(.int .i64 (0)),(.int .i64 (0))]):=ot
def Wy(lc:Ag.Loc)(l g o:Nat)(i:aa):ii ah lc 320 (.Ge l g o) i=(dr i).bind fun i=>bif Nat.blt i 256 then bif aK (lc.gen l) g then some (.Ge l g (o+i*1)) else none else none:=by kernel_rfl
def Di:fY ah 535 2 16 true (.agg [(.int .i64 (0)),(.int .i64 (0))]):=ot
def W2(s:List UInt8)(i:aa):Ak ah 9 (.str s) i=(dr i).bind fun i=>match s.drop i with|b::_=>some (.int .u8 b.toNat)| []=>none:=by kernel_rfl
def uW(mk:aI)(b:List UInt8)(s:St):iG ah mk 9 (.str b) s=some (.int .i64 b.length):=by kernel_rfl
def wN(k:List UInt8):lh ah 44 (.str k)=some (9,4):=by kernel_rfl
def Hk(a b:List UInt8):j1 ah 8 9 (.str a) (.str b)=some (a==b):=by kernel_rfl
attribute[go_sem]LA D4 LJ TV TW jl JM gR w6 FX mG C6 C7 qR yT JN abH acY ac4 acU acV acW ac1 ac2 ac3 ac5 acS acZ ac0 Kk DE adS adP adR Kl Bg adT adO adQ wq x8 BX qu oK BZ mj qv uH z9 fD co kT sk Ww mH Wy Di W2 uW fD co kT sk mH Di fD co kT sk mH Di wN Hk ak7 ale k32 IW k77 W7 Xs N8 Oo
abbrev Sp:=List aa->Option aa
abbrev g9:=FuncId->Option Sp
abbrev dp:=List (Nat×Sp)
def gD(f:Nat):dp->Option Sp
 | []=>none
 |(k,v)::l=>bif aK k f then some v else gD f l
noncomputable def QT(t:dp):aD:=QS fun f=>gD f t
def du(t:dp):Prop:= ∀p∈t,cQ ah p.1 p.2
def RF{f:Nat}{sp:Sp}: ∀ {t:dp},gD f t=some sp->(f,sp)∈t
 | [],h=>by cases h
 |(k,v)::l,h=>by
  simp only[gD] at h;cases hk:aK k f with
  |true=>
   rw[hk] at h;injection h with h;subst h
   have:=jr hk;subst this;exact List.mem_cons_self
  |false=>
   rw[hk] at h;exact List.mem_cons_of_mem _ (RF h)
def ZK:ah.funcs.toList.all (fun fn=> !(fn.name== "runtime.NumGoroutine"))=true:=by kernel_rfl
def ZH:ah.follows .mixedOrders=true:=by kernel_rfl
variable{t:dp}
def mY(h:du t):Al (QT t) where
 mixed:=ZH
 spec f sp hsp args v hv G hp w xs wr hx:=h _ (RF hsp) args v hv G hp w xs wr hx
 specH f sp h:=by cases h
 names f fn a:=by
  have a:ah.funcs[f]? =some fn:=a
  have:=List.all_eq_true.1 ZK fn (by
   rw[<-Array.getElem?_toList] at a;exact List.mem_of_getElem? a)
  simpa using this
def du.nil:du []:=fun _ h=>by cases h
def du.cons{f:Nat}{sp:Sp}(h:cQ ah f sp)(b:du t):du ((f,sp)::t):=by
 intro p a;rcases List.mem_cons.1 a with rfl|a
 exact h;exact b p a
def EC(c:Nat):List UInt8->Nat->Int
 | [],_=> -1
 |b::l,i=>bif aK b.toNat c then(i:Int) else EC c l (i+1)
def Ri:Sp
 | [.str s,.int .u8 (.ofNat c)]=>bif Nat.blt c 256 then some (.int .i64 (EC c s 0)) else none
 |_=>none
def WB(c:Nat)(a:c<256): ∀(l:List UInt8) (i:Nat),EC c l i=match(gV l.length).find? (fun j=>l[j]! ==c.toUInt8) with|some j=>((i+j:Nat):Int)|none=> -1
 | [],i=>rfl
 |b::l,i=>by
  rw[EC,List.length_cons,List.range_succ_eq_map,List.find?_cons];have f:((b::l)[0]! ==c.toUInt8)=aK b.toNat c:=by
   show(b==c.toUInt8)=_;cases h:aK b.toNat c with
   |true=>
    have:=jr h;subst this;simp
   |false=>
    have:=Nat.ne_of_beq_eq_false h;apply bN.2;intro e;apply this;rw[e];simp[Nat.mod_eq_of_lt a]
  rw[f];cases h:aK b.toNat c with
  |true=>simp
  |false=>
   simp only[cF];rw[WB c a l (i+1),List.find?_map];have d:((fun j=>(b::l)[j]! ==c.toUInt8) ∘ Nat.succ)=fun j=>l[j]! ==c.toUInt8:=by
    funext j;simp[Function.comp]
   rw[d];cases (gV l.length).find? (fun j=>l[j]! ==c.toUInt8) with
   |none=>rfl
   |some j=>simp only[Option.map_some];show((i+1+j:Nat):Int)=((i+(j+1):Nat):Int);congr 1;omega
def av2:cQ ah 508 Ri:=by
 intro l v g G h w q m n;unfold Ri at g;split at g;rename_i s c;obtain⟨k,g⟩:=aY g;injection g with g;subst g
 have k:c<256:=Nat.le_of_ble_eq_true k;cases n with
 |cons a b=>
  cases b with
  |cons b d=>
   cases d;cases a;cases b;refine .inl ⟨.int .i64 (firstIdx ⟨⟨s⟩⟩ c.toUInt8),w,?_,G,m,.refl,?_⟩
   have:=run_callFunc_extern (P:=ah) (f:=508) (fn:=Tryz.f508) (e:=Extern.BytealgIndexByte.indexByte) (by kernel_rfl) (by kernel_rfl) (by kernel_rfl) (by kernel_rfl) (by kernel_rfl) #[.string ⟨⟨s⟩⟩,.int .u8 (.ofNat c)] w;rw[show(⟨[Value.string ⟨⟨s⟩⟩,.int .u8 (.ofNat c)]⟩:Array Value)= #[.string ⟨⟨s⟩⟩,.int .u8 (.ofNat c)] from rfl,this,run_indexByte_string];rfl;have:firstIdx ⟨⟨s⟩⟩ c.toUInt8=EC c s 0:=by
    rw[WB c k];unfold firstIdx;have p:(⟨⟨s⟩⟩:ByteArray).size=s.length:=rfl;rw[p];have o:(fun i=>(⟨⟨s⟩⟩:ByteArray)[i]! ==c.toUInt8)=fun(j:Nat)=>s[j]! ==c.toUInt8:=by
     funext i;congr 1;by_cases hi:i<s.length;rw[getElem!_pos (⟨⟨s⟩⟩:ByteArray) i hi,getElem!_pos s i hi];rfl;rw[getElem!_neg (⟨⟨s⟩⟩:ByteArray) i hi,getElem!_neg s i hi]
    rw[o];cases (gV s.length).find? (fun(j:Nat)=>s[j]! ==c.toUInt8)<;>simp
   rw[this];exact .int _ _
 cases g
