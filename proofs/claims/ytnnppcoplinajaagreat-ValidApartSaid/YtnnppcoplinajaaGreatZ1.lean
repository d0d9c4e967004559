/- Lemmas for ValidApart. -/
import Derived.Test.YtnnppcoplinajaaGreatAg3
import Derived.Test.YtnnppcoplinajaaGreatProg
import Derived.KernelRfl
import Derived.Laws.Externs
set_option linter.all false
open Go.BinOp renaming eql→ayJ
open Go.Callee renaming builtin→DP,value→oN
open Go.Ag.cx renaming of→eZ
open Go.IntKind renaming i64→jN
open List renaming range→ix
open Nat renaming beq→aQ,eq_of_beq_eq_true→jP
open Go.Op renaming assign→xV,binOp→fD,call→kj
open Go.Operand renaming const→zM,func→rg,tmp→aD
open Go.Ag.eJ renaming of→kD
open Go.ResultVar renaming tmp→bZ
open Go.Ag.gl renaming of→nC
open Go.Ag.gR renaming of→oQ
open Go.Proofs.Tryz renaming prog→ae
open Go.Value renaming bool→rh,int→jg
namespace Go.Proofs.YtnnppcoplinajaaGreat
open Go.Ag
structure bK (N:Nat) (fn:Func) (k:SC) (n:Nat) (rs:List ResultVar):Prop where
 a:ae.funcs[N]? =some fn
 b:fn.body.map eD=some k
 c:fn.ntmps=n
 d:fn.results.toList=rs
def bK.of{N:Nat}{fn:Func}{k:SC}{n:Nat}{rs:List ResultVar}(h:(ae.funcs[N]?,fn.body.map eD,fn.ntmps,fn.results.toList)=(some fn,some k,n,rs):=by kernel_rfl):bK N fn k n rs:=by
 simp only[Prod.mk.injEq] at h;exact⟨h.1,h.2.1,h.2.2.1,h.2.2.2⟩
def M2:List Oper->Nat->Bool->SG
 | [],_,_=>.never
 |o::_,0,w=>match o.dst with
  |some d=>.when d w
  |none=>.never
 |_::l,n+1,w=>M2 l n w
def UU(all:List Oper):Option (Nat×Bool)->SG
 |none=>.aw
 |some (j,w)=>M2 all j w
def H4(all:List Oper):List Oper->List aw
 | []=>[]
 |o::l=>⟨o.dst,o.op,UU all o.guard⟩::H4 all l
def U4:List (List Nat)->List Nat
 | []=>[]
 |a::_=>a
def HR:Nat->List (List Nat)->List (List Nat)
 |0,l=>l
 |_+1,[]=>[]
 |n+1,_::l=>HR n l
def wS:Code->Nat
 | .seq a b=>wS a+wS b
 | .cond _ a b=>wS a+wS b
 | .block _ b=>wS b
 | .loop b=>wS b
 | .region _ _ true=>1
 |_=>0
def yH:Code->List (List Nat)->SC
 | .ret,_=>.ret
 | .exit id,_=>.exit id
 | .seq a b,l=>.seq (yH a l) (yH b (HR (wS a) l))
 | .cond x a b,l=>.cond x (yH a l) (yH b (HR (wS a) l))
 | .block id b,l=>.block id (yH b l)
 | .loop b,l=>.loop (yH b l)
 | .region _ ops false,_=>.region (H4 ops.toList ops.toList)
 | .region _ ops true,l=>.draw (H4 ops.toList ops.toList) (U4 l)
 |_,_=>.skip
def UT(f:Func)(l:List (List Nat)):SC:=
 match f.body with
 |some c=>yH c l
 |none=>.skip
def stP(t:Nat)(c:SC):SC:=
 match c with
 | .seq a b=>(match t with
   |0=>a
   |_+1=>b)
 | .cond _ a b=>(match t with
   |0=>a
   |_+1=>b)
 | .block _ b=>b
 | .loop b=>b
 |c=>c
def LU:List Nat->SC->SC
 | [],c=>c
 |t::p,c=>LU p (stP t c)
def BF(a b:SC):Prop:=a=b
def BF.r(a:SC):BF a a:=rfl
structure bU (f:Func) (l:List (List Nat)) where
 y:SC
 h:BF y (UT f l):=by(conv=>arg 2;arg 1;whnf);dsimp only[UT,yH,wS,H4,UU,M2,U4,HR];exact BF.r _
structure cS (k:SC) (p:List Nat) where
 y:SC
 h:BF y (LU p k):=by(conv=>arg 2;arg 2;whnf);dsimp only[LU,stP];exact BF.r _
abbrev Kl(r:List aw):SC:=.region r
abbrev uf(a b:SC):SC:=.seq a b
abbrev mC(r:List aw)(k:SC):SC:=.seq (.region r) k
abbrev HL(t:Nat)(a b:SC):SC:=.cond (aD t) a b
abbrev exT(t n:Nat):SC:=.cond (aD t) .skip (.exit n)
abbrev P4(t n:Nat)(k:SC):SC:=.seq (.cond (aD t) .skip (.exit n)) k
abbrev BU(n:Nat)(k:SC):SC:=.block n k
abbrev OO(k:SC):SC:=.loop k
abbrev ZX:SC:=.ret
abbrev GA:SC:=.skip
abbrev sdR(r:List aw)(b:List Nat)(k:SC):SC:=.seq (.draw r b) k
abbrev cE(a b:Nat):aw:=⟨some a,Op.move (aD b),.aw⟩
abbrev bM(a b c:Nat):aw:=⟨some a,Op.load b (aD c),.aw⟩
abbrev eY(a b:Nat):aw:=⟨some a,xV (aD b),.aw⟩
abbrev cO(a b c d:Nat):aw:=⟨some a,Op.fieldAddr b (aD c) d,.aw⟩
abbrev F4(a b c:Nat):aw:=⟨some a,kj ⟨DP Builtin.len,#[aD b],#[c]⟩,.aw⟩
abbrev Db(a b c d:Nat):aw:=⟨some a,Op.indexAddr b (aD c) (aD d),.aw⟩
abbrev gV(a b c:Nat):aw:=⟨none,Op.store a (aD b) (aD c),.aw⟩
abbrev tU(a b c:Nat):aw:=⟨some a,Op.box b (aD c),.aw⟩
abbrev oD(a:Nat)(b:Int):aw:=⟨some a,xV (zM (jg jN b)),.aw⟩
abbrev iW(a b:Nat):aw:=⟨some a,Op.alloc b,.aw⟩
abbrev C9(a b:Nat)(c:Int):aw:=⟨some a,fD BinOp.add 3 (aD b) (zM (jg jN c)) 3,.aw⟩
abbrev JY(a:Nat):aw:=⟨some a,xV (zM (rh false)),.aw⟩
abbrev FZ(a b c d:Nat):aw:=⟨some a,fD BinOp.lss b (aD c) (aD d) b,.aw⟩
abbrev sb(a b c d:Nat):aw:=⟨some a,Op.load b (aD c),(.when d true)⟩
abbrev kN(a b c d e f:Nat):aw:=⟨some a,kj ⟨oN (rg b),#[aD c,aD d],#[e,f]⟩,.aw⟩
abbrev JZ(a b c:Nat):aw:=⟨some a,Op.move (aD b),(.when c true)⟩
abbrev oC(a b c:Nat):aw:=⟨some a,Op.pick (aD b) (aD c) (zM (rh false)),.aw⟩
abbrev nS(a b c d e:Nat):aw:=⟨some a,Op.fieldAddr b (aD c) d,(.when e true)⟩
abbrev lS(a b c d:Nat):aw:=⟨some a,Op.load b (aD c),(.when d false)⟩
abbrev jb(a:Nat):aw:=⟨some a,Op.move (zM (jg jN 0)),.aw⟩
abbrev zh(a b c d:Nat):aw:=⟨some a,kj ⟨oN (rg b),#[aD c],#[d]⟩,.aw⟩
abbrev awT(a b c:Nat):aw:=⟨some a,Op.extract (aD b) c,.aw⟩
abbrev an4(a b:Nat):aw:=⟨some a,Op.unOp UnOp.not 4 (aD b),.aw⟩
abbrev sd(a:Nat):aw:=⟨some a,xV (zM (Value.slice none 0 0)),.aw⟩
abbrev qU(a b c:Nat):aw:=⟨some a,Op.pick (aD b) (zM (rh true)) (aD c),.aw⟩
abbrev qV(a b c:Nat):aw:=⟨some a,Op.move (aD b),(.when c false)⟩
abbrev tT(a b c d e:Nat):aw:=⟨some a,Op.fieldAddr b (aD c) d,(.when e false)⟩
abbrev YE(a b c:Nat):aw:=⟨some a,Op.buildSlice b 1 #[(0,aD c)],.aw⟩
abbrev vw(a b c d:Nat):aw:=⟨some a,kj ⟨DP Builtin.append,#[aD b,aD c],#[d,d]⟩,.aw⟩
abbrev YF(a b:Nat)(c:Int):aw:=⟨some a,fD ayJ 3 (aD b) (zM (jg jN c)) 3,.aw⟩
abbrev zi(a b c d e f g:Nat):aw:=⟨some a,kj ⟨oN (rg b),#[aD c,aD d],#[e,f]⟩,(.when g true)⟩
abbrev J0(a b c:Nat)(d:Int):aw:=⟨some a,Op.indexAddr b (aD c) (zM (jg jN d)),.aw⟩
abbrev Da(a b:Nat):aw:=⟨some a,Op.nilCheck (aD b),.aw⟩
abbrev an5(a b:Nat)(c:Int):aw:=⟨some a,fD BinOp.gtr 3 (aD b) (zM (jg jN c)) 3,.aw⟩
abbrev YG(a b c d:Nat):aw:=⟨some a,Op.build b #[(0,aD c),(1,aD d)],.aw⟩
abbrev J1(a b c d:Nat):aw:=⟨some a,kj ⟨oN (aD b),#[aD c],#[d]⟩,.aw⟩
abbrev avJ(a b c d:Nat):aw:=⟨some a,fD ayJ b (aD c) (aD d) b,.aw⟩
abbrev avK(a b c d:Nat):aw:=⟨some a,Op.lookup b (aD c) (aD d) false,.aw⟩
abbrev J2(a b c d e f g h:Nat):aw:=⟨some a,kj ⟨oN (rg b),#[aD c,aD d,aD e],#[f,g,h]⟩,.aw⟩
abbrev avL(a b c:Nat):aw:=⟨some a,Op.unOp UnOp.not 4 (aD b),(.when c false)⟩
abbrev an6(a b c d:Nat):aw:=⟨some a,fD BinOp.add b (aD c) (aD d) b,.aw⟩
abbrev F5(a b c:Nat):aw:=⟨some a,fD BinOp.sub 3 (aD b) (aD c) 3,.aw⟩
abbrev YH(a b c d:Nat):aw:=⟨some a,fD BinOp.mul b (aD c) (aD d) b,.aw⟩
abbrev se(a b:Nat):aw:=⟨some a,Op.makeMap b none,.aw⟩
abbrev J3(a b c d e:Nat):aw:=⟨some a,Op.indexAddr b (aD c) (aD d),(.when e false)⟩
abbrev an7(a:Nat)(b:Int):aw:=⟨none,Op.store 3 (aD a) (zM (jg jN b)),.aw⟩
abbrev Pk(a b c d:Nat):aw:=⟨some a,kj ⟨DP Builtin.len,#[aD b],#[c]⟩,(.when d true)⟩
abbrev F6(a b c:Nat):aw:=⟨some a,Op.makeFunc (Fn.func b) #[] #[aD c],.aw⟩
abbrev avM(a b c:Nat)(d:Int):aw:=⟨some a,fD BinOp.neq b (aD c) (zM (jg jN d)) b,.aw⟩
abbrev YI(a b c d e:Nat):aw:=⟨some a,Op.indexAddr b (aD c) (aD d),(.when e true)⟩
abbrev avN(a b c d:Nat):aw:=⟨some a,fD BinOp.neq b (aD c) (aD d) b,.aw⟩
abbrev avO(a b c:Nat):aw:=⟨some a,Op.unOp UnOp.not 4 (aD b),(.when c true)⟩
abbrev Pl(a b:Nat)(c:Int)(d:Nat):aw:=⟨some a,fD ayJ 3 (aD b) (zM (jg jN c)) 3,(.when d true)⟩
abbrev YJ(a b:Nat)(c:Int)(d:Nat):aw:=⟨some a,fD BinOp.gtr 3 (aD b) (zM (jg jN c)) 3,(.when d false)⟩
abbrev avP(a:Nat):aw:=⟨some a,xV (zM (Value.string {data:= #[] })),.aw⟩
abbrev avQ(a b c d:Nat):aw:=⟨some a,kj ⟨DP Builtin.len,#[aD b],#[c]⟩,(.when d false)⟩
abbrev avR(a:Nat):aw:=⟨some a,xV (zM (rh true)),.aw⟩
abbrev YK(a b:Nat)(c:Int):aw:=⟨some a,fD BinOp.lss 3 (aD b) (zM (jg jN c)) 3,.aw⟩
abbrev YL(a b c d:Nat):aw:=⟨some a,Op.pick (aD b) (aD c) (zM (rh false)),(.when d false)⟩
abbrev YM(a b c d:Nat):aw:=⟨some a,kj ⟨DP Builtin.min,#[aD b,aD c],#[d,d]⟩,.aw⟩
abbrev an8(a b:Nat)(c:Int):aw:=⟨some a,fD BinOp.geq 3 (aD b) (zM (jg jN c)) 3,.aw⟩
abbrev J4(a b c d e:Nat):aw:=⟨some a,kj ⟨oN (rg b),#[aD c],#[d]⟩,(.when e false)⟩
abbrev avS(a b c d:Nat):aw:=⟨some a,Op.convert b c (aD d),.aw⟩
abbrev avT(a b c d:Nat):aw:=⟨some a,kj ⟨DP Builtin.max,#[aD b,aD c],#[d,d]⟩,.aw⟩
abbrev avU(a b c d e f:Nat):aw:=⟨some a,kj ⟨oN (rg b),#[aD c,rg d],#[e,f]⟩,.aw⟩
abbrev avV(a b c d:Nat):aw:=⟨none,Op.mapUpdate a (aD b) (aD c) (aD d),.aw⟩
abbrev avW(a b c:Nat)(d:Int)(e:Nat):aw:=⟨some a,Op.indexAddr b (aD c) (zM (jg jN d)),(.when e true)⟩
abbrev avX(a b c d e:Nat):aw:=⟨some a,fD ayJ b (aD c) (aD d) b,(.when e true)⟩
abbrev J5(a b:Nat)(c:Int)(d:Nat):aw:=⟨some a,fD BinOp.leq 3 (aD b) (zM (jg jN c)) 3,(.when d true)⟩
abbrev YN(a b:Nat):aw:=⟨some a,Op.build b #[],.aw⟩
abbrev an9(a b c d:Nat):aw:=⟨some a,Op.lookup b (aD c) (aD d) true,.aw⟩
abbrev YO(a b c d e f g:Nat):aw:=⟨some a,kj ⟨oN (rg b),#[aD c,aD d],#[e,f]⟩,(.when g false)⟩
abbrev Pm(a b c d e f:Nat):aw:=⟨some a,kj ⟨oN (aD b),#[aD c,aD d],#[e,f]⟩,.aw⟩
abbrev Pn(a:Nat)(b:Int)(c:Nat):aw:=⟨some a,Op.build 31 #[(1,zM (jg jN b)),(2,aD c)],.aw⟩
abbrev YP(a b:Nat):aw:=⟨some a,kj ⟨oN (rg b),#[],#[]⟩,.aw⟩
abbrev aoa(a b:Nat)(c:Int)(d:Nat):aw:=⟨some a,fD ayJ 3 (aD b) (zM (jg jN c)) 3,(.when d false)⟩
abbrev avY(a b c d:Nat):aw:=⟨some a,Op.slice b (aD c) (some (aD d)) none none,.aw⟩
abbrev aob(a b:Nat)(c:Int)(d:Nat):aw:=⟨some a,fD BinOp.neq 3 (aD b) (zM (jg jN c)) 3,(.when d true)⟩
abbrev F7(a b c d e:Nat):aw:=⟨some a,kj ⟨oN (rg b),#[aD c],#[d]⟩,(.when e true)⟩
abbrev avZ(a b c:Nat)(d:Int):aw:=⟨some a,fD BinOp.shr b (aD c) (zM (jg IntKind.u64 d)) 294,.aw⟩
abbrev aoc(a b c d e:Nat):aw:=⟨some a,fD ayJ b (aD c) (aD d) b,(.when e false)⟩
abbrev YQ(a b:Nat)(c:Int)(d:Nat):aw:=⟨some a,fD BinOp.lss 3 (aD b) (zM (jg jN c)) 3,(.when d true)⟩
abbrev YR(a b c d:Nat):aw:=⟨some a,Op.pick (aD b) (zM (rh true)) (aD c),(.when d true)⟩
abbrev YS(a b c:Nat):aw:=⟨some a,fD BinOp.leq 3 (aD b) (aD c) 3,.aw⟩
abbrev av0(a b c d:Nat):aw:=⟨some a,Op.buildSlice b 2 #[(0,aD c),(1,aD d)],.aw⟩
abbrev av1(a b c d:Nat):aw:=⟨some a,fD BinOp.gtr b (aD c) (aD d) b,.aw⟩
abbrev av2(a b c:Nat):aw:=⟨none,Op.mapUpdate a (aD b) (aD c) (zM (rh true)),.aw⟩
abbrev av3(a b:Nat):aw:=⟨some a,fD BinOp.sub 3 (aD b) (zM (jg jN 1)) 3,.aw⟩
abbrev aod(a:Nat):aw:=⟨none,Op.store 4 (aD a) (zM (rh false)),.aw⟩
abbrev aoe(a b:Nat)(c:Int)(d:Nat):aw:=⟨some a,fD BinOp.lss 3 (aD b) (zM (jg jN c)) 3,(.when d false)⟩
abbrev aof(a b c:Nat):aw:=⟨some a,Op.range b (aD c),.aw⟩
abbrev YT(a b:Nat):aw:=⟨some a,Op.next (aD b) false,.aw⟩
abbrev av5(a b:Nat):aw:=⟨some a,Op.entry (aD b),.aw⟩
abbrev YU(a b:Nat)(c:Int):aw:=⟨some a,fD BinOp.leq 3 (aD b) (zM (jg jN c)) 3,.aw⟩
abbrev av6(a b c:Nat)(d:Int)(e:Nat):aw:=⟨some a,Op.indexAddr b (aD c) (zM (jg jN d)),(.when e false)⟩
abbrev Po:aw:=⟨some 2,xV (zM (Value.pointer none)),.aw⟩
abbrev aog(a b:Nat):aw:=⟨some a,fD BinOp.neq 9 (aD b) (zM (Value.string {data:= #[] })) 9,.aw⟩
abbrev av7(a b c d:Nat):aw:=⟨some a,Op.build b #[(c,aD d)],.aw⟩
abbrev av8(a:Nat):aw:=⟨some a,xV (zM (jg IntKind.u64 0)),.aw⟩
abbrev av9(a b c:Nat):aw:=⟨some a,kj ⟨oN (rg 16),#[aD b,aD c,zM (jg jN 24)],#[24,29,3]⟩,.aw⟩
abbrev Pj(a b c d:Nat):aw:=⟨some a,fD BinOp.lss 3 (aD b) (aD c) 3,(.when d true)⟩
abbrev avF(a b c d e f g h i:Nat):aw:=⟨some a,kj ⟨oN (rg b),#[aD c,aD d,aD e],#[f,g,h]⟩,(.when i false)⟩
abbrev YD(a b c d e f g:Nat):aw:=⟨some a,kj ⟨oN (rg b),#[aD c,aD d,aD e],#[f,f,f]⟩,(.when g true)⟩
abbrev avG(a b c d e:Nat):aw:=⟨some a,fD BinOp.neq b (aD c) (aD d) b,(.when e true)⟩
abbrev avH(a b c d:Nat):aw:=⟨some a,fD BinOp.leq 3 (aD b) (aD c) 3,(.when d true)⟩
abbrev avI(a b c d:Nat):aw:=⟨some a,Op.slice b (aD c) none (some (aD d)) none,.aw⟩
abbrev aBV(a b c:Nat):aw:=⟨some a,fD BinOp.neq 3 (aD b) (zM (jg jN 1)) 3,(.when c false)⟩
abbrev aCo(a:Nat):aw:=⟨some a,xV (zM Value.nilFunc),.aw⟩
abbrev azE(a b c:Nat):aw:=⟨some a,fD BinOp.gtr 3 (aD b) (zM (jg jN 0)) 3,(.when c true)⟩
abbrev aCp(a b c d:Nat):aw:=⟨some a,Op.makeFunc (Fn.func b) #[] #[aD c,aD d],.aw⟩
abbrev aAp(a b c d e:Nat):aw:=⟨some a,fD BinOp.neq b (aD c) (aD d) b,(.when e false)⟩
abbrev aCq(a b c:Nat):aw:=⟨some a,fD ayJ b (aD c) (zM (Value.slice none 0 0)) b,.aw⟩
abbrev aCr(a:Nat):aw:=⟨some a,Op.buildSlice 25 1 #[(0,zM (Value.string {data:= #[] }))],.aw⟩
abbrev aCs(a b:Nat):aw:=⟨some a,fD BinOp.and 389 (aD b) (zM (jg IntKind.u64 4294967295)) 389,.aw⟩
abbrev ic(n:Int):aa:=.int .i64 n
abbrev uM(n:Nat):aa:=.int .i64 (n:Int)
def U7(n:Nat):List (Nat×Nat)->Nat
 | []=>0
 |(k,v)::l=>bif aQ k n then v else U7 n l
def agP:List (Nat×List (Nat×Nat)):=[
(3,[(4,1),(5,1),(7,1)]),
(4,[(3,1),(4,1)]),
(5,[(2,1),(3,1),(7,1),(12,1),(16,1)]),
(6,[(2,1),(3,1)]),
(7,[(3,1),(4,1),(5,1),(10,1)]),
(8,[(3,1),(4,1),(8,1),(16,1)]),
(9,[(3,1),(4,1),(8,1),(17,1)]),
(10,[(3,1),(4,1),(8,1)]),
(11,[(3,1),(4,1),(8,1),(13,1),(14,1)]),
(12,[(3,1),(4,1),(5,1),(8,1),(10,1)]),
(13,[(3,1),(4,1),(5,1),(8,1),(10,1)]),
(14,[(3,1),(4,1),(5,1),(8,1)]),
(15,[(1,1),(3,1),(6,1),(7,1)]),
(16,[(3,1),(4,1)]),
(18,[(2,1),(10,1),(14,1)]),
(19,[(2,1),(3,1)]),
(20,[(2,1),(3,1)]),
(21,[(2,1),(4,1),(10,1),(12,1)]),
(22,[(2,1),(4,1),(9,1),(11,1)]),
(23,[(2,1),(3,1)]),
(24,[(2,1),(3,1)]),
(25,[(3,1),(4,1)]),
(26,[(3,1),(4,1),(5,1)]),
(27,[(3,1)]),
(28,[(2,1),(4,1)]),
(29,[(3,1),(4,1)]),
(30,[(1,1)]),
(31,[(1,1),(5,1)]),
(32,[(2,1)]),
(33,[(2,1),(6,1)]),
(34,[(2,1),(3,1),(4,1),(8,1),(34,2)]),
(36,[(1,1),(2,1),(4,1),(5,1),(8,1),(9,1),(12,1)]),
(37,[(3,1),(4,1)]),
(38,[(6,1),(17,1)]),
(39,[(5,1),(11,1),(40,2),(120,2)]),
(43,[(2,1),(4,1),(9,1),(10,1)]),
(45,[(1,1),(2,1),(4,1),(6,1),(8,1),(9,1),(10,1),(11,1),(12,1),(16,1)]),
(46,[(3,1),(4,1),(5,1)]),
(47,[(3,1),(4,1),(5,1),(6,1),(15,1)]),
(48,[(3,1),(4,1),(5,1),(6,1),(8,1),(12,1),(17,1),(19,1),(21,1)]),
(50,[(3,1),(4,1),(5,1),(6,1),(10,1)]),
(51,[(3,1),(4,1),(5,1),(6,1),(10,1)]),
(54,[(0,1)]),
(56,[(2,1)]),
(57,[(2,1),(7,1),(10,1)]),
(58,[(1,1),(6,1)]),
(59,[(1,1),(3,1),(10,1),(13,1),(19,1),(21,1),(176,2)]),
(60,[(1,1)]),
(61,[(1,1),(8,1)]),
(62,[(1,1)]),
(63,[(3,1),(4,1)]),
(64,[(2,1),(3,1)]),
(65,[(1,1),(5,1)]),
(68,[(3,1),(4,1),(5,1),(9,1),(11,1)]),
(69,[(2,1)]),
(71,[(3,1),(4,1),(5,1),(10,1)]),
(72,[(2,1)]),
(74,[(1,1)]),
(77,[(2,1)]),
(79,[(2,1)]),
(80,[(7,2)]),
(83,[(6,1)]),
(84,[(6,1)]),
(86,[(5,1),(6,1)]),
(87,[(2,1),(3,1),(7,1)]),
(88,[(6,1),(10,1),(16,1)]),
(89,[(1,1),(2,1)]),
(91,[(1,1)]),
(93,[(1,1)]),
(96,[(1,1),(5,1),(7,1)]),
(97,[(3,1),(4,1),(6,1),(7,1),(9,1),(10,1)]),
(98,[(2,1)]),
(99,[(8,1),(9,1)]),
(100,[(1,1)]),
(107,[(2,1),(3,1)]),
(110,[(1,1)]),
(111,[(4,1),(5,1),(6,1),(8,1),(11,1),(13,1),(15,1),(17,1)]),
(112,[(2,1),(3,1),(4,1)]),
(113,[(3,1)]),
(114,[(4,1),(5,1),(6,1),(7,1)]),
(115,[(2,1),(4,1)]),
(116,[(2,1),(3,1)]),
(117,[(2,1),(3,1),(15,1)]),
(118,[(3,1),(4,1),(6,1),(14,1),(15,1)]),
(119,[(1,1),(3,1)]),
(122,[(0,1)]),
(123,[(6,1)]),
(124,[(2,1),(7,1),(10,1)]),
(125,[(1,1)]),
(126,[(1,1),(2,1),(4,1),(6,1)]),
(127,[(1,1),(5,1),(10,1),(12,1),(93,2)]),
(129,[(2,1),(4,1)]),
(131,[(11,1),(15,1)]),
(132,[(2,1),(7,1)]),
(135,[(2,1),(3,1)]),
(137,[(1,1),(5,1),(7,1),(11,1)]),
(138,[(25,2)]),
(141,[(9,1),(10,1)]),
(142,[(1,1),(6,1),(8,1)]),
(143,[(3,1),(7,1)]),
(144,[(3,1)]),
(145,[(3,1)]),
(146,[(1,1)]),
(147,[(2,1),(4,1),(5,1)]),
(148,[(2,1),(3,1)]),
(149,[(1,1)]),
(150,[(1,1)]),
(151,[(1,1)]),
(152,[(2,1)]),
(156,[(2,1)]),
(157,[(7,1)]),
(158,[(2,1)]),
(159,[(1,1)]),
(162,[(3,1)]),
(163,[(3,1)]),
(164,[(5,1)]),
(168,[(1,1)]),
(170,[(1,1)]),
(172,[(2,1)]),
(175,[(6,1)]),
(176,[(2,1),(3,1)]),
(179,[(1,1)]),
(180,[(1,1),(3,1)]),
(182,[(3,1)]),
(183,[(3,1),(4,1),(11,1)]),
(184,[(2,1),(4,1)]),
(193,[(3,1)]),
(195,[(2,1),(3,1),(4,1)]),
(196,[(3,1),(4,1),(5,1),(6,1),(8,1)]),
(197,[(2,1),(4,1),(5,1)]),
(198,[(2,1)]),
(199,[(2,1),(3,1)]),
(201,[(1,1)]),
(202,[(2,1)]),
(204,[(4,1),(5,1),(12,1)]),
(205,[(1,1)]),
(206,[(3,1),(4,1)]),
(208,[(4,1),(5,1),(8,1),(9,1),(10,1)]),
(210,[(6,1)]),
(211,[(1,1)]),
(212,[(1,1)]),
(213,[(1,1),(5,1),(9,1)]),
(214,[(7,1)]),
(215,[(3,1)]),
(219,[(3,1)]),
(221,[(2,1),(3,1)]),
(224,[(6,1),(12,1),(19,2),(92,2),(97,2)]),
(225,[(2,1),(3,1)]),
(237,[(4,1)]),
(239,[(1,1)]),
(242,[(1,1)]),
(243,[(2,1)]),
(245,[(1,1),(5,1)]),
(246,[(2,1),(3,1)]),
(247,[(3,1)]),
(248,[(4,1)]),
(249,[(2,1)]),
(250,[(2,1)]),
(251,[(1,1)]),
(253,[(2,1)]),
(254,[(2,1),(3,1)]),
(255,[(2,1),(3,1)]),
(256,[(2,1),(8,1)]),
(260,[(0,1),(1,1)]),
(264,[(2,1)]),
(270,[(2,1),(3,1)]),
(272,[(4,1)]),
(276,[(4,1),(5,1),(6,1),(10,1)]),
(277,[(4,1),(5,1),(6,1),(7,1)]),
(279,[(2,1),(3,1)]),
(280,[(10,1),(13,1),(19,1),(22,1)]),
(281,[(7,1),(8,1),(9,1),(10,1)]),
(282,[(8,1),(13,1),(18,1)]),
(284,[(11,2)]),
(285,[(11,2)]),
(290,[(2,1),(3,1)]),
(292,[(2,1),(3,1)]),
(293,[(2,1),(4,1),(8,1)]),
(294,[(3,1)]),
(296,[(1,1)]),
(297,[(1,1)]),
(298,[(3,1)]),
(303,[(4,1)]),
(305,[(2,1),(3,1)]),
(306,[(7,1)]),
(307,[(2,1)]),
(308,[(2,1),(3,1)]),
(310,[(2,1),(3,1)]),
(311,[(4,1)]),
(312,[(1,1),(2,1)]),
(313,[(3,1),(4,1),(5,1)]),
(314,[(2,1),(3,1),(5,1),(6,1)]),
(339,[(4,1)]),
(340,[(7,1)]),
(341,[(1,1),(2,1)]),
(343,[(1,1)]),
(344,[(5,1),(6,1),(10,1)]),
(345,[(2,1),(3,1)]),
(346,[(1,1),(2,1)]),
(347,[(2,1),(7,1)]),
(349,[(4,1)]),
(350,[(10,1)]),
(351,[(2,1)]),
(352,[(4,1)]),
(354,[(3,1),(4,1),(5,1)]),
(355,[(2,1),(3,1)]),
(364,[(2,1)]),
(369,[(3,1)]),
(378,[(4,1),(5,1)]),
(379,[(2,1),(3,1)]),
(381,[(5,1)]),
(391,[(14,2)]),
(396,[(2,1)]),
(397,[(1,1),(3,1)]),
(398,[(1,1)]),
(399,[(1,1)]),
(400,[(1,1)]),
(401,[(2,1),(3,1),(4,1)]),
(406,[(3,1)]),
(420,[(2,1),(3,1),(4,1)]),
(421,[(2,1),(3,1)]),
(422,[(2,1),(3,1)]),
(429,[(1,1)]),
(430,[(1,1)]),
(442,[(3,1),(4,1),(5,1)]),
(444,[(1,1)]),
(445,[(2,1),(3,1)]),
(446,[(2,1),(3,1)]),
(447,[(3,1),(4,1),(5,1)]),
(450,[(3,1),(7,1)]),
(451,[(1,1)]),
(452,[(3,1)]),
(462,[(4,1)]),
(467,[(12,2),(24,2)]),
(468,[(1,1),(2,1)]),
(470,[(2,1),(3,1)]),
(471,[(2,1),(3,1),(4,1)]),
(472,[(3,1),(4,1),(5,1),(6,1),(12,1),(14,1)]),
(474,[(2,1)]),
(500,[(1,1)]),
(501,[(3,1),(4,1),(5,1)]),
(503,[(2,1),(3,1)]),
(504,[(3,1),(4,1),(5,1)]),
(506,[(2,1),(3,1)]),
(507,[(3,1)]),
(515,[(3,1),(8,1)])]
def U8(f t:Nat):List (Nat×List (Nat×Nat))->Nat
 | []=>0
 |(k,v)::l=>bif aQ k f then U7 t v else U8 f t l
def ai(f:FuncId)(t:Tmp):Nat:=U8 f t agP
noncomputable def QS(sp:FuncId->Option (List aa->Option aa)):aH:= {P:=ae,hint:=ai,spec:=sp,ch:=fun _=>0,kmax:=fun _=>2 }
def bF(sp:FuncId->Option (List aa->Option aa)):(QS sp).P=ae:=rfl
def dC(sp:FuncId->Option (List aa->Option aa)):(QS sp).hint=ai:=rfl
def iY(sp:FuncId->Option (List aa->Option aa)):(QS sp).spec=sp:=rfl
abbrev aj3:List aw:=[JY 2]
def Wj:=({y:=_}:bU Tryz.f31 []).1
def aj2:=({y:=_}:cS Wj [1,1,0,1,0,0]).1
def I8:bK 31 Tryz.f31 Wj 29 [bZ 2]:=.of
def Vb:ai 31 1=1/\ai 31 5=1:=by and_intros<;>kernel_rfl
def k32:=({y:=_}:bU Tryz.f32 []).1
def ake:List Nat:=[0,1,0,7,15,31,63,0,128,0,896,1920,3968,8064,16383,32767]
abbrev aki:List aw:=[JY 4]
def Jc:=({y:=_}:bU Tryz.f33 [ake]).1
def akf:=({y:=_}:cS Jc [1,1,0,1,0,0,1,0,0,1,1,0,1,0,0]).1
def akg:=({y:=_}:cS Jc [1,1,0,1,0,0,1,0,0,1,1,1,1,0,0]).1
def akh:=({y:=_}:cS Jc [1,1,0,1,0,0]).1
def Je:bK 33 Tryz.f33 Jc 79 [bZ 4]:=.of
def Vc:ai 33 2=1/\ai 33 6=1:=by and_intros<;>kernel_rfl
def alf:List Nat:=[0,1,3,7,15,31,63,127,255,511,1023,2047,4095,8191,16383,32767,65535,131071,262143,524287,131071,1179647,3276799,8388607,16777215,33554431,67108863,134217727,268435455,536870911,1073741823]
abbrev alg:List aw:=[JY 2]
def k75:=({y:=_}:bU Tryz.f75 [alf]).1
def Jw:bK 75 Tryz.f75 k75 72 [bZ 2]:=.of
def Na:ai 75 1=0/\ai 75 3=0/\ai 75 4=0:=by and_intros<;>kernel_rfl
def Oy:=({y:=_}:bU Tryz.f76 []).1
def avC:=({y:=_}:cS Oy [1,0,1,0,0]).1
def k77:=({y:=_}:bU Tryz.f77 []).1
def VA:=({y:=_}:bU Tryz.f108 []).1
def ahA:=({y:=_}:cS VA [1,1,0,1,0,0]).1
def Ij:bK 108 Tryz.f108 VA 18 [bZ 2]:=.of
def agQ:ai 108 7=0:=by kernel_rfl
def aBi:=({y:=_}:bU Tryz.f109 []).1
def azc:bK 109 Tryz.f109 aBi 8 [bZ 4]:=.of
def ahK:=({y:=_}:bU Tryz.f130 []).1
def ahL:bK 130 Tryz.f130 ahK 9 [bZ 4]:=.of
def VI:=({y:=_}:bU Tryz.f136 []).1
def ahW:=({y:=_}:cS VI [1,0,1,0,0]).1
def Io:bK 136 Tryz.f136 VI 36 [bZ 4]:=.of
def U9:ai 136 10=0/\ai 136 32=0/\ai 136 34=0:=by and_intros<;>kernel_rfl
abbrev aik:List aw:=[avP 2]
def aij:=({y:=_}:bU Tryz.f162 []).1
def IB:bK 162 Tryz.f162 aij 14 [bZ 2]:=.of
def agR:ai 162 3=1:=by kernel_rfl
abbrev aim:List aw:=[JY 2]
def VW:=({y:=_}:bU Tryz.f163 []).1
def ail:=({y:=_}:cS VW [1,1,0,1,0,0]).1
def IC:bK 163 Tryz.f163 VW 39 [bZ 2]:=.of
def agS:ai 163 3=1:=by kernel_rfl
abbrev aio:List aw:=[JY 2]
def VX:=({y:=_}:bU Tryz.f164 []).1
def ain:=({y:=_}:cS VX [1,1,0,1,0,0]).1
def IE:bK 164 Tryz.f164 VX 39 [bZ 2]:=.of
def M9:ai 164 5=1/\ai 164 30=0:=by and_intros<;>kernel_rfl
abbrev aiq:List aw:=[bM 25 44 3,cE 26 0,cE 27 0,av2 44 25 26,gV 9 2 27]
abbrev air:List aw:=[cE 28 6,cE 29 28,qV 30 0 29,J4 31 163 30 9 29,avL 32 31 29,qU 33 29 32,eY 5 33]
def aip:=({y:=_}:bU Tryz.f166 []).1
def IG:bK 166 Tryz.f166 aip 34 [bZ 5]:=.of
def ais:=({y:=_}:bU Tryz.f167 []).1
def EZ:bK 167 Tryz.f167 ais 9 [bZ 4]:=.of
def ait:=({y:=_}:bU Tryz.f168 []).1
def II:bK 168 Tryz.f168 ait 21 [bZ 2]:=.of
def agT:ai 168 1=1:=by kernel_rfl
def aBp:=({y:=_}:bU Tryz.f194 []).1
def aze:bK 194 Tryz.f194 aBp 8 [bZ 4]:=.of
def V7:=({y:=_}:bU Tryz.f223 []).1
def IM:=({y:=_}:cS V7 [1,0,1,0,0]).1
def aiI:bK 223 Tryz.f223 V7 19 [bZ 4]:=.of
def aul:ai 223 7=0:=by kernel_rfl
def ai2:=({y:=_}:bU Tryz.f228 []).1
def IQ:bK 228 Tryz.f228 ai2 20 [bZ 4]:=.of
def ajb:=({y:=_}:bU Tryz.f232 []).1
def IT:bK 232 Tryz.f232 ajb 20 [bZ 4]:=.of
def Wd:=({y:=_}:bU Tryz.f261 []).1
def IU:=({y:=_}:cS Wd [1,0,1,0,0]).1
def Fd:bK 261 Tryz.f261 Wd 19 [bZ 4]:=.of
def aut:ai 261 7=0:=by kernel_rfl
def aj4:=({y:=_}:bU Tryz.f325 []).1
def I9:bK 325 Tryz.f325 aj4 6 [bZ 2]:=.of
def aj7:=({y:=_}:bU Tryz.f328 []).1
def Ja:bK 328 Tryz.f328 aj7 6 [bZ 2]:=.of
def akq:=({y:=_}:bU Tryz.f379 []).1
def Jg:bK 379 Tryz.f379 akq 17 [bZ 4]:=.of
def Vd:ai 379 2=1/\ai 379 3=1/\ai 379 15=0:=by and_intros<;>kernel_rfl
def WY:=({y:=_}:bU Tryz.f462 []).1
def akP:=({y:=_}:cS WY [1,0,1,0,0]).1
def Jl:bK 462 Tryz.f462 WY 21 [bZ 2]:=.of
def Ve:ai 462 4=1/\ai 462 7=0:=by and_intros<;>kernel_rfl
def SA:hQ ae 24 [(0,1)]:=hQ.of
def HA:hQ ae 49 [(0,1),(1,1)]:=hQ.of
def SK:hQ ae 92 [(0,1),(1,1)]:=hQ.of
def ac3:uI ae 207 1:=uI.of
def ac4:uI ae 319 1:=uI.of
theorem j0:eJ ae 3:=kD
def PO:eJ ae 5:=kD
def iB:eJ ae 9:=kD
def Zv:eJ ae 21:=kD
def zq:eJ ae 22:=kD
def Ke:gl ae 24 1:=nC
def nV:eJ ae 25:=kD
def Gn:eJ ae 44:=kD
def Gp:gl ae 49 2:=nC
def sk:eJ ae 50:=kD
def Bf:gl ae 52 6:=nC
def ZG:eJ ae 80:=kD
def PP:gl ae 92 2:=nC
def apu:gl ae 207 2:=nC
def aaR:dI ae 3=some 1:=by kernel_rfl
def aaZ:dI ae 5=some 1:=by kernel_rfl
def aa2:dI ae 9=some 1:=by kernel_rfl
def aaK:dI ae 21=some 1:=by kernel_rfl
def aaL:dI ae 22=some 1:=by kernel_rfl
def aaM:dI ae 24=some 1:=by kernel_rfl
def aaN:dI ae 25=some 1:=by kernel_rfl
def Qu:dI ae 44=some 1:=by kernel_rfl
def aaY:dI ae 49=some 2:=by kernel_rfl
def aa0:dI ae 50=some 1:=by kernel_rfl
def KP:dI ae 52=some 6:=by kernel_rfl
def aa1:dI ae 80=some 1:=by kernel_rfl
def Qv:dI ae 92=some 2:=by kernel_rfl
def art:dI ae 207=some 2:=by kernel_rfl
def arv:dI ae 319=some 6:=by kernel_rfl
def arw:dI ae 320=some 256:=by kernel_rfl
def KX:eV ae 3=some (.int .i64 (0)):=by kernel_rfl
def GY:eV ae 4=some (.bool false):=by kernel_rfl
def as5:eV ae 9=some (.str []):=by kernel_rfl
def abB:eV ae 24=some (.agg [.oZ]):=by kernel_rfl
def QU:eV ae 44=some .nilm:=by kernel_rfl
def DL:eV ae 49=some (.agg [(.int .i64 (0)),(.int .i64 (0))]):=by kernel_rfl
def zP:eV ae 52=some (.agg [(.str []),(.int .i64 (0)),(.int .i64 (0)),(.int .i64 (0)),.oZ,.oZ]):=by kernel_rfl
def QV:eV ae 92=some (.agg [(.str []),(.str [])]):=by kernel_rfl
def abA:eV ae 207=some (.agg [(.int .i64 (0)),(.int .i64 (0))]):=by kernel_rfl
def as4:eV ae 319=some (.agg [(.str []),(.str []),(.str []),(.str []),(.str []),(.str [])]):=by kernel_rfl
def yC:cx ae 24 0 0:=eZ
def Aw:cx ae 49 0 0:=eZ
def EB:cx ae 49 1 1:=eZ
def rD:cx ae 52 0 0:=eZ
def pQ:cx ae 52 1 1:=eZ
def EC:cx ae 52 2 2:=eZ
def nJ:cx ae 52 3 4:=eZ
def rE:cx ae 52 4 5:=eZ
def tk:cx ae 92 0 0:=eZ
def Ax:cx ae 92 1 1:=eZ
def gX:gR ae 22 6 88 true (.agg [(.str []),(.int .i64 (0)),(.int .i64 (0)),(.int .i64 (0)),.oZ,.oZ]):=oQ
def cH:gR ae 25 1 16 false (.str []):=oQ
theorem ng:gR ae 26 1 8 false (.int .i64 (0)):=oQ
def ub:gR ae 50 2 32 true (.agg [(.str []),(.str [])]):=oQ
def aap:gR ae 80 2 32 true (.agg [(.str []),(.str [])]):=oQ
def agV(lc:Ag.Loc)(l g o:Nat)(i:aa):ja ae lc 207 (.rd l g o) i=(dS i).bind fun i=>bif Nat.blt i 2 then bif aQ (lc.gen l) g then some (.rd l g (o+i*1)) else none else none:=by kernel_rfl
def pB:gR ae 218 2 16 true (.agg [(.int .i64 (0)),(.int .i64 (0))]):=oQ
def agW(lc:Ag.Loc)(l g o:Nat)(i:aa):ja ae lc 320 (.rd l g o) i=(dS i).bind fun i=>bif Nat.blt i 256 then bif aQ (lc.gen l) g then some (.rd l g (o+i*1)) else none else none:=by kernel_rfl
def P9:gR ae 535 2 16 true (.agg [(.int .i64 (0)),(.int .i64 (0))]):=oQ
def Nl(s:List UInt8)(i:aa):AM ae 9 (.str s) i=(dS i).bind fun i=>match s.drop i with|b::_=>some (.int .u8 b.toNat)| []=>none:=by kernel_rfl
def lC(mk:aK)(b:List UInt8)(s:St):jo ae mk 9 (.str b) s=some (.int .i64 b.length):=by kernel_rfl
def yZ(k:List UInt8):lP ae 44 (.str k)=some (9,4):=by kernel_rfl
def ME(a b:List UInt8):kI ae 8 9 (.str a) (.str b)=some (a==b):=by kernel_rfl
attribute[go_sem]SA HA SK ac3 ac4 j0 PO iB zq Ke nV Gn Gp sk Bf PP apu aaR aa2 aaL aaM aaN Qu aaY KP Qv art arv arw KX GY as5 abB QU DL zP QV abA as4 yC Aw EB rD pQ EC nJ rE tk Ax gX cH ng ub agV pB agW P9 Nl lC gX cH ng ub pB P9 gX cH ng ub pB P9 yZ ME aul aut k32 Oy k77 ahK ais V7 Wd
abbrev Sp:=List aa->Option aa
abbrev SpZ:=FuncId->Option Sp
abbrev dX:=List (Nat×Sp)
def gL(f:Nat):dX->Option Sp
 | []=>none
 |(k,v)::l=>bif aQ k f then some v else gL f l
noncomputable def QT(t:dX):aH:=QS fun f=>gL f t
def dR(t:dX):Prop:= ∀p∈t,db ae p.1 p.2
def Qz{f:Nat}{sp:Sp}: ∀ {t:dX},gL f t=some sp->(f,sp)∈t
 | [],h=>by cases h
 |(k,v)::l,h=>by
  simp only[gL] at h;cases hk:aQ k f with
  |true=>
   rw[hk] at h;injection h with h;subst h
   have:=jP hk;subst this;exact List.mem_cons_self
  |false=>
   rw[hk] at h;exact List.mem_cons_of_mem _ (Qz h)
theorem XZ:ae.funcs.toList.all (fun fn=> !(fn.name== "runtime.NumGoroutine"))=true:=by kernel_rfl
def XV:ae.follows .mixedOrders=true:=by kernel_rfl
variable{t:dX}
def mW(h:dR t):oM (QT t) where
 mixed:=XV
 spec f sp hsp args v hv G hp w xs wr hx:=h _ (Qz hsp) args v hv G hp w xs wr hx
 specH f sp h:=by cases h
 names f fn a:=by
  have a:ae.funcs[f]? =some fn:=a
  have:=List.all_eq_true.1 XZ fn (by
   rw[<-Array.getElem?_toList] at a;exact List.mem_of_getElem? a)
  simpa using this
def dR.nil:dR []:=fun _ h=>by cases h
def dR.cons{f:Nat}{sp:Sp}(h:db ae f sp)(b:dR t):dR ((f,sp)::t):=by
 intro p a;rcases List.mem_cons.1 a with rfl|a
 exact h;exact b p a
def EM(c:Nat):List UInt8->Nat->Int
 | [],_=> -1
 |b::l,i=>bif aQ b.toNat c then(i:Int) else EM c l (i+1)
def Qm:Sp
 | [.str s,.int .u8 (.ofNat c)]=>bif Nat.blt c 256 then some (.int .i64 (EM c s 0)) else none
 |_=>none
def Vi(c:Nat)(a:c<256): ∀(l:List UInt8) (i:Nat),EM c l i=match(ix l.length).find? (fun j=>l[j]! ==c.toUInt8) with|some j=>((i+j:Nat):Int)|none=> -1
 | [],i=>rfl
 |b::l,i=>by
  rw[EM,List.length_cons,List.range_succ_eq_map,List.find?_cons];have f:((b::l)[0]! ==c.toUInt8)=aQ b.toNat c:=by
   show(b==c.toUInt8)=_;cases h:aQ b.toNat c with
   |true=>
    have:=jP h;subst this;simp
   |false=>
    have:=Nat.ne_of_beq_eq_false h;apply bN.2;intro e;apply this;rw[e];simp[Nat.mod_eq_of_lt a]
  rw[f];cases h:aQ b.toNat c with
  |true=>simp
  |false=>
   simp only[cF];rw[Vi c a l (i+1),List.find?_map];have d:((fun j=>(b::l)[j]! ==c.toUInt8) ∘ Nat.succ)=fun j=>l[j]! ==c.toUInt8:=by
    funext j;simp[Function.comp]
   rw[d];cases (ix l.length).find? (fun j=>l[j]! ==c.toUInt8) with
   |none=>rfl
   |some j=>simp only[Option.map_some];show((i+1+j:Nat):Int)=((i+(j+1):Nat):Int);congr 1;omega
def arc:db ae 508 Qm:=by
 intro l v g G h w q m n;unfold Qm at g;split at g;rename_i s c;obtain⟨k,g⟩:=bh g;injection g with g;subst g
 have k:c<256:=Nat.le_of_ble_eq_true k;cases n with
 |cons a b=>
  cases b with
  |cons b d=>
   cases d;cases a;cases b;refine .inl ⟨.int .i64 (firstIdx ⟨⟨s⟩⟩ c.toUInt8),w,?_,G,m,.refl,?_⟩
   have:=run_callFunc_extern (P:=ae) (f:=508) (fn:=Tryz.f508) (e:=Extern.BytealgIndexByte.indexByte) (by kernel_rfl) (by kernel_rfl) (by kernel_rfl) (by kernel_rfl) (by kernel_rfl) #[.string ⟨⟨s⟩⟩,.int .u8 (.ofNat c)] w;rw[show(⟨[Value.string ⟨⟨s⟩⟩,.int .u8 (.ofNat c)]⟩:Array Value)= #[.string ⟨⟨s⟩⟩,.int .u8 (.ofNat c)] from rfl,this,run_indexByte_string];rfl;have:firstIdx ⟨⟨s⟩⟩ c.toUInt8=EM c s 0:=by
    rw[Vi c k];unfold firstIdx;have p:(⟨⟨s⟩⟩:ByteArray).size=s.length:=rfl;rw[p];have o:(fun i=>(⟨⟨s⟩⟩:ByteArray)[i]! ==c.toUInt8)=fun(j:Nat)=>s[j]! ==c.toUInt8:=by
     funext i;congr 1;by_cases hi:i<s.length;rw[getElem!_pos (⟨⟨s⟩⟩:ByteArray) i hi,getElem!_pos s i hi];rfl;rw[getElem!_neg (⟨⟨s⟩⟩:ByteArray) i hi,getElem!_neg s i hi]
    rw[o];cases (ix s.length).find? (fun(j:Nat)=>s[j]! ==c.toUInt8)<;>simp
   rw[this];exact .int _ _
 cases g
