/- The contract of lexer.classes. -/
import Derived.Test.YtbfmdojdemckbaaGreatZ1
namespace Go.Proofs.YtbfmdojdemckbaaGreat
open _root_.Nat renaming beq→aY,ble→cr
open Go.Ag
abbrev ax:=List UInt8
def xo (b:Nat):Bool:=(cr 97 b&&cr b 122)||(cr 65 b&&cr b 90)
def wM (b:Nat):Bool:=cr 48 b&&cr b 57
def xy (b:Nat):List Nat→Bool
 | []=>false
 |x::l=>aY b x||xy b l
def rF (b:Nat):Nat:=
 bif xo b then 3 else bif wM b then 4 else bif xy b [32,9,10] then 1 else bif xy b [59,44,46,58,40,41,123,125,91,93,61,60,62,47,45] then 6
 else bif aY b 35 then 2 else bif aY b 95 then 5 else bif aY b 34 then 7 else 0
def oP:Nat→Nat→List ai
 |0,_=>[]
 |k+1,i=>.int .u8 (rF i:Nat)::oP k (i+1)
def GV:ai:=.agg (oP 256 0)
def AF:Sp
 | []=>some GV
 |_=>none
def T1:eE:=[(241,Fx)]
theorem Gf:fV T1:=.cons akV .nil
noncomputable def lO (t:eE) (n f:Nat) (args:List ai):Option (ai×Nat):=((cG (QT t) n).call f args [] s0).bind fun x=>(cR x.2.heap 12 x.1).bind fun u=>some (u,x.2.ci)
theorem nD {t:eE} (ht:fV t) {n f:Nat} {args:List ai} {u:ai} (h:lO t n f args=some (u,0)) {args':List ai} (ha:dU args'=args) (hp:jy args'=true) (G:Gh) (hh:bq bE) (w:World) (xs:List Value) (wr:WR G hh w) (hx:cg G args' xs):
 kb Tryz.prog f ⟨xs⟩ w fun y w'=> ∃G',WR G' hh w'∧dh G hh w G' hh w' 0 0∧VR G' u y:=by
 simp only [lO,Option.bind_eq_some_iff,Option.some.injEq,Prod.mk.injEq] at h
 obtain⟨⟨v,s'⟩,h1,u',h2,rfl,h3⟩:=h
 exact gJ (Q:=QT t) (gD ht) (fun _=>Nat.zero_lt_succ 1) hp ⟨n,by rw [ha];exact h1⟩ h3 ⟨12,h2⟩ G hh w xs wr hx
theorem WI:lO T1 3000 89 []=some (GV,0):=by kernel_rfl
theorem akU:eD Tryz.prog 89 AF:=by
 intro args v hv G h w xs wr hx
 cases args with
 |nil=>
  injection hv with hv;subst hv
  exact nD Gf WI rfl rfl G h w xs wr hx
 |cons _ _=>cases hv
theorem GZ: ∀k i,(oP k i).length=k
 |0,_=>rfl
 |k+1,i=>by simp [oP,GZ k (i+1)]
theorem GY: ∀(k i j:Nat),j<k→((oP k i).drop j).head?=some (.int .u8 (rF (i+j):Nat))
 |0,_,_,h=>by omega
 |k+1,i,0,_=>by simp [oP]
 |k+1,i,j+1,h=>by
  simp only [oP,List.drop_succ_cons]
  rw [GY k (i+1) j (by omega),show i+1+j=i+(j+1) by omega]
end Go.Proofs.YtbfmdojdemckbaaGreat
