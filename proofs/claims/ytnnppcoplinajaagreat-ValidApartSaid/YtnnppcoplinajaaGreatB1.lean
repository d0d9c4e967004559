/- Lemmas for ValidApart. -/
import Derived.Test.YtnnppcoplinajaaGreatZ1b
set_option linter.all false
open Nat renaming beq→aQ,ble→bw
namespace Go.Proofs.YtnnppcoplinajaaGreat
open Go.Ag
abbrev ag:=List UInt8
def AW(b:Nat):Bool:=(bw 97 b&&bw b 122)||(bw 65 b&&bw b 90)
def Cd(b:Nat):Bool:=bw 48 b&&bw b 57
def FG(b:Nat):List Nat->Bool
 | []=>false
 |x::l=>aQ b x||FG b l
def yi(b:Nat):Nat:=
 bif AW b then 3 else bif Cd b then 4 else bif FG b [32,9,10] then 1 else bif FG b [59,44,46,58,40,41,123,125,91,93,61,60,62,47,45] then 6
 else bif aQ b 35 then 2 else bif aQ b 95 then 5 else bif aQ b 34 then 7 else 0
def tg:Nat->Nat->List aa
 |0,_=>[]
 |k+1,i=>.int .u8 (yi i:Nat)::tg k (i+1)
def Tk:aa:=.agg (tg 256 0)
def KG:Sp
 | []=>some Tk
 |_=>none
def T1:dX:=[(508,Qm)]
def Rq:dR T1:=.cons arc .nil
noncomputable def mS(t:dX)(n f:Nat)(args:List aa):Option (aa×Nat):=((cy (QT t) n).call f args [] s0).bind fun x=>(cL x.2.heap 12 x.1).bind fun u=>some (u,x.2.ci)
def oJ{t:dX}(e:dR t){n f:Nat}{args:List aa}{u:aa}(h:mS t n f args=some (u,0)){args':List aa}(i:en args'=args)(g:eO args'=true)(G:Gh)(a:aC aR)(w:World)(xs:List Value)(wr:WR G a w)(d:ck G args' xs):
 mM Tryz.prog f ⟨xs⟩ w fun y c=> ∃b,WR b a c/\cZ G a w b a c 0 0/\VR b u y:=by
 simp only[mS,Option.bind_eq_some_iff,Option.some.injEq,Prod.mk.injEq] at h;obtain⟨⟨v,o⟩,l,m,k,rfl,j⟩:=h;exact ni (Q:=QT t) (mW e) (fun _=>Nat.zero_lt_succ 1) g ⟨n,by rw[i];exact l⟩ j ⟨12,k⟩ G a w xs wr d
def afd:mS T1 3000 260 []=some (Tk,0):=by kernel_rfl
def arb:db Tryz.prog 260 KG:=by
 intro a v b G h w c d e;cases a with
 |nil=>
  injection b with b;subst b
  exact oJ Rq afd rfl rfl G h w c d e
 |cons _ _=>cases b
def Tw: ∀k i,(tg k i).length=k
 |0,_=>rfl
 |k+1,i=>by simp[tg,Tw k (i+1)]
def Tv: ∀(k i j:Nat),j<k->((tg k i).drop j).head?=some (.int .u8 (yi (i+j):Nat))
 |0,_,_,h=>by omega
 |k+1,i,0,_=>by simp[tg]
 |k+1,i,j+1,h=>by
  simp only[tg,List.drop_succ_cons];rw[Tv k (i+1) j (by omega),show i+1+j=i+(j+1) by omega]
