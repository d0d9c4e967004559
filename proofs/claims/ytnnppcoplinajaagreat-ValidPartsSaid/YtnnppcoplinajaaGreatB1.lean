/- Lemmas for ValidParts. -/
import Derived.Test.YtnnppcoplinajaaGreatZ1b
set_option linter.all false
open Nat renaming beq→aK,ble→bn
namespace Go.Proofs.YtnnppcoplinajaaGreat
open Go.Ag
abbrev ae:=List UInt8
def Pg(b:Nat):Bool:=(bn 97 b&&bn b 122)||(bn 65 b&&bn b 90)
def Hh(b:Nat):Bool:=bn 48 b&&bn b 57
def Ft(b:Nat):List Nat->Bool
 | []=>false
 |x::l=>aK b x||Ft b l
def xW(b:Nat):Nat:=
 bif Pg b then 3 else bif Hh b then 4 else bif Ft b [32,9,10] then 1 else bif Ft b [59,44,46,58,40,41,123,125,91,93,61,60,62,47,45] then 6
 else bif aK b 35 then 2 else bif aK b 95 then 5 else bif aK b 34 then 7 else 0
def sW:Nat->Nat->List aa
 |0,_=>[]
 |k+1,i=>.int .u8 (xW i:Nat)::sW k (i+1)
def UK:aa:=.agg (sW 256 0)
def J7:Sp
 | []=>some UK
 |_=>none
def T1:dp:=[(508,Ri)]
def SB:du T1:=.cons av2 .nil
noncomputable def nV(t:dp)(n f:Nat)(args:List aa):Option (aa×Nat):=((b9 (QT t) n).call f args [] s0).bind fun x=>(cC x.2.heap 12 x.1).bind fun u=>some (u,x.2.ci)
def pW{t:dp}(e:du t){n f:Nat}{args:List aa}{u:aa}(h:nV t n f args=some (u,0)){args':List aa}(i:dz args'=args)(g:ei args'=true)(G:Gh)(a:aC aJ)(w:World)(xs:List Value)(wr:WR G a w)(d:bR G args' xs):
 lZ Tryz.prog f ⟨xs⟩ w fun y c=> ∃b,WR b a c/\cJ G a w b a c 0 0/\VR b u y:=by
 simp only[nV,Option.bind_eq_some_iff,Option.some.injEq,Prod.mk.injEq] at h;obtain⟨⟨v,o⟩,l,m,k,rfl,j⟩:=h;exact nB (Q:=QT t) (mY e) (fun _=>Nat.zero_lt_succ 1) g ⟨n,by rw[i];exact l⟩ j ⟨12,k⟩ G a w xs wr d
def aib:nV T1 3000 260 []=some (UK,0):=by kernel_rfl
def av1:cQ Tryz.prog 260 J7:=by
 intro a v b G h w c d e;cases a with
 |nil=>
  injection b with b;subst b
  exact pW SB aib rfl rfl G h w c d e
 |cons _ _=>cases b
def U2: ∀k i,(sW k i).length=k
 |0,_=>rfl
 |k+1,i=>by simp[sW,U2 k (i+1)]
def U1: ∀(k i j:Nat),j<k->((sW k i).drop j).head?=some (.int .u8 (xW (i+j):Nat))
 |0,_,_,h=>by omega
 |k+1,i,0,_=>by simp[sW]
 |k+1,i,j+1,h=>by
  simp only[sW,List.drop_succ_cons];rw[U1 k (i+1) j (by omega),show i+1+j=i+(j+1) by omega]
