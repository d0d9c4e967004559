/- Lemmas for ValidShown. -/
import Derived.Test.YtnnppcoplinajaaGreatZ1b
set_option linter.all false
open Nat renaming beq→aK,ble→bu
namespace Go.Proofs.YtnnppcoplinajaaGreat
open Go.Ag
abbrev ae:=List UInt8
def P1(b:Nat):Bool:=(bu 97 b&&bu b 122)||(bu 65 b&&bu b 90)
def HG(b:Nat):Bool:=bu 48 b&&bu b 57
def FK(b:Nat):List Nat->Bool
 | []=>false
 |x::l=>aK b x||FK b l
def yd(b:Nat):Nat:=
 bif P1 b then 3 else bif HG b then 4 else bif FK b [32,9,10] then 1 else bif FK b [59,44,46,58,40,41,123,125,91,93,61,60,62,47,45] then 6
 else bif aK b 35 then 2 else bif aK b 95 then 5 else bif aK b 34 then 7 else 0
def tt:Nat->Nat->List aa
 |0,_=>[]
 |k+1,i=>.int .u8 (yd i:Nat)::tt k (i+1)
def VC:aa:=.agg (tt 256 0)
def KI:Sp
 | []=>some VC
 |_=>none
def T1:df:=[(508,R6)]
def TB:dl T1:=.cons axO .nil
noncomputable def oa(t:df)(n f:Nat)(args:List aa):Option (aa×Nat):=((ce (QT t) n).call f args [] s0).bind fun x=>(cG x.2.heap 12 x.1).bind fun u=>some (u,x.2.ci)
def qb{t:df}(e:dl t){n f:Nat}{args:List aa}{u:aa}(h:oa t n f args=some (u,0)){args':List aa}(i:dj args'=args)(g:dK args'=true)(G:Gh)(a:aD aJ)(w:World)(xs:List Value)(wr:WR G a w)(d:bV G args' xs):
 mj Tryz.prog f ⟨xs⟩ w fun y c=> ∃b,WR b a c/\cO G a w b a c 0 0/\VR b u y:=by
 simp only[oa,Option.bind_eq_some_iff,Option.some.injEq,Prod.mk.injEq] at h;obtain⟨⟨v,o⟩,l,m,k,rfl,j⟩:=h;exact mT (Q:=QT t) (mE e) (fun _=>Nat.zero_lt_succ 1) g ⟨n,by rw[i];exact l⟩ j ⟨12,k⟩ G a w xs wr d
def ajB:oa T1 3000 260 []=some (VC,0):=by kernel_rfl
def axN:cL Tryz.prog 260 KI:=by
 intro a v b G h w c d e;cases a with
 |nil=>
  injection b with b;subst b
  exact qb TB ajB rfl rfl G h w c d e
 |cons _ _=>cases b
def VV: ∀k i,(tt k i).length=k
 |0,_=>rfl
 |k+1,i=>by simp[tt,VV k (i+1)]
def VU: ∀(k i j:Nat),j<k->((tt k i).drop j).head?=some (.int .u8 (yd (i+j):Nat))
 |0,_,_,h=>by omega
 |k+1,i,0,_=>by simp[tt]
 |k+1,i,j+1,h=>by
  simp only[tt,List.drop_succ_cons];rw[VU k (i+1) j (by omega),show i+1+j=i+(j+1) by omega]
