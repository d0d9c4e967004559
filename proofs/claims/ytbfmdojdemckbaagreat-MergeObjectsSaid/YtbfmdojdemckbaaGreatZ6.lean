/- Contracts of planisphereref11.Valid, planisphereref12.Valid, planisphereref21.Closed. -/
import Derived.Test.YtbfmdojdemckbaaGreatZ5
namespace Go.Proofs.YtbfmdojdemckbaaGreat
open Go.Ag
def ajI (p:Option ax) (k:ax):Bool:=match p with|none=>false|some p=>p==k
def ajR (kind:Int) (p:Option ax) (seen:List ax) (r:ax):Bool:= !jF r||(bL kind 2&&ajI p r)||(bL kind 3&&seen.contains r)
def Sb (kind:Int):Option ax→List ax→List ax→Bool
 |_,_,[]=>true
 |p,seen,r::l=>bif ajR kind p seen r then false else Sb kind (some r) (rz r seen) l
def V5 (kind:Int) (n:Nat):Bool:=bif bL kind 1 then n==0 else bif bL kind 2 then decide (2≤n) else bif bL kind 3 then decide (3≤n) else bif bL kind 4 then decide (1≤n) else n==3
def aj2 (o:Obj):Bool:=bif decide (2000<o.refs.length) then false else bif Sb o.kind none [] o.refs then V5 o.kind o.refs.length else false
structure aml (o:Obj) (n m:Nat) (e:bc) (lc:Ag.Loc):Prop where
 h1:aq e 1= .lref 1 1 0
 g1:lc.gen 1=1
 b1:lc.get 1 1=some o.cells
 h3:aq e 3= .int .i64 (n:Nat)
 h4:aq e 4= .map m
theorem EM (P:Program) (t:TypeId) (e:bc) (s:St):lX P t e none s=some (.map s.next,s.new (.map [] 0)):=rfl
def UG (o:Obj):Bool:=bif bL o.kind 1 then pg o.x o.y else ya o
def ajZ (o:Obj):Bool:=jF o.id&& !(lC o.kind== [])&&UG o&&aj0 o.tags&&aj2 o
def alJ:Sp
 | [v]=>(nV v).bind fun o=>some (.bool (ajZ o))
 |_=>none
structure amk (v:ai) (t:Nat) (e:bc) (lc:Ag.Loc):Prop where
 h:aq e t= .lref t 1 0
 g:lc.gen t=1
 b:lc.get t 1=some [v]
def U4:eE:=[(54,alJ)]
def kH (id:ax):List Obj→Nat→Option (Nat×Obj)
 | [],_=>none
 |o::l,i=>bif o.id==id then some (i,o) else kH id l (i+1)
def tN (r:Option (Nat×Obj)):Int:=match r with|none=> -1|some (k,_)=>(k:Int)
theorem HD {id:ax}: ∀ {l:List Obj} {i k:Nat} {o:Obj},kH id l i=some (k,o)→i≤k∧l[k-i]? =some o∧o.id=id
 | [],_,_,_,h=>by cases h
 |a::l,i,k,o,h=>by
  simp only [kH] at h
  cases hb:a.id==id with
  |true=>
   rw [hb] at h
   simp only [cT,Option.some.injEq,Prod.mk.injEq] at h
   obtain⟨rfl,rfl⟩:=h
   exact⟨Nat.le_refl _,by simp,by simpa using hb⟩
  |false=>
   rw [hb] at h
   obtain⟨h1,h2,h3⟩:=HD h
   refine⟨by omega,?_,h3⟩
   rw [show k-i=(k-(i+1))+1 by omega];simpa using h2
structure ami (v:ai) (o:Obj) (e:bc) (lc:Ag.Loc):Prop where
 h2:aq e 2= .lref 2 1 0
 g2:lc.gen 2=1
 b2:lc.get 2 1=some [v]
 h3:aq e 3= .lref 3 1 0
 g3:lc.gen 3=1
 b3:lc.get 3 1=some o.cells
end Go.Proofs.YtbfmdojdemckbaaGreat
