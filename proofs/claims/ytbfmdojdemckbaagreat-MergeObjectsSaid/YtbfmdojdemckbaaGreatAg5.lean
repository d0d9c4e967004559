/- A result depends on what the evaluator has looked at alone. -/
import Derived.Test.YtbfmdojdemckbaaGreatAg4
import Derived.Orders
import Derived.Scope
import Derived.LoopN
namespace Go.Ag
open _root_.Array renaming getD_eq_getD_getElem?→kT
open _root_.Nat renaming ble→cr,le_refl→bv,le_trans→fX,lt_of_lt_of_le→gn,lt_succ_self→ic
open _root_.Option renaming bind_eq_some_iff→aF,bind_some→ak
open _root_.Option.some renaming injEq→a7
open _root_.Prod.mk renaming injEq→bK
def kD (mk:bj) (s s':St) (n:Nat):Prop:=(dF mk n=false∧s.heap.get n≠none)∨(s.next≤n∧n<s'.next)
structure ip (mk:bj) (s s2:St):Prop where
 next:s2.next=s.next
 minw:s2.minw=s.minw
 ci:s2.ci=s.ci
 get: ∀n o,dF mk n=false→s.heap.get n=some o→s2.heap.get n=some o
theorem ip.refl (mk:bj) (s:St):ip mk s s:=⟨rfl,rfl,rfl,fun _ _ _ h=>h⟩
structure gq (mk:bj) (s s' s2 s2':St):Prop where
 next:s2'.next=s'.next
 minw:s2'.minw=s'.minw
 ci:s2'.ci=s'.ci
 inside: ∀n,kD mk s s' n→s2'.heap.get n=s'.heap.get n
 outside: ∀n, ¬kD mk s s' n→s2'.heap.get n=s2.heap.get n
structure fN (mk:bj) (s s':St):Prop where
 next:s.next≤s'.next
 ci:s.ci≤s'.ci
 minw:s'.minw≤s.minw
 frame: ∀n, ¬kD mk s s' n→s'.heap.get n=s.heap.get n
 noted: ∀n,n<s.next→s'.heap.get n≠s.heap.get n→s'.minw≤n
theorem fN.refl (mk:bj) (s:St):fN mk s s:=⟨bv _,bv _,bv _,fun _ _=>rfl,fun _ _ h=>absurd rfl h⟩
theorem fN.trans {mk:bj} {s s' s'':St} (x:fN mk s s') (y:fN mk s' s''):fN mk s s'' where
 next:=fX x.next y.next
 ci:=fX x.ci y.ci
 minw:=fX y.minw x.minw
 frame n h:=by
  have h1: ¬kD mk s s' n:=fun t=>h (t.imp id fun t=>⟨t.1,gn t.2 y.next⟩)
  have h2: ¬kD mk s' s'' n:=fun t=>by
   rcases t with⟨t1,t2⟩|t
   ·rw [x.frame n h1] at t2;exact h (.inl ⟨t1,t2⟩)
   ·exact h (.inr ⟨fX x.next t.1,t.2⟩)
  rw [y.frame n h2,x.frame n h1]
 noted n hn hne:=by
  by_cases h:s'.heap.get n=s.heap.get n
  ·exact y.noted n (gn hn x.next) (by rw [h];exact hne)
  ·exact fX y.minw (x.noted n hn h)
theorem gq.sees {mk:bj} {s s' s2 s2':St} (a:ip mk s s2) (g:fN mk s s') (x:gq mk s s' s2 s2'):ip mk s' s2' where
 next:=x.next
 minw:=x.minw
 ci:=x.ci
 get n o hv h:=by
  by_cases t:kD mk s s' n
  ·rw [x.inside n t];exact h
  ·rw [x.outside n t]
   rw [g.frame n t] at h
   exact a.get n o hv h
theorem gq.trans {mk:bj} {s s' s'' s2 s2' s2'':St} (gx:fN mk s s') (gy:fN mk s' s'') (x:gq mk s s' s2 s2') (y:gq mk s' s'' s2' s2''):gq mk s s'' s2 s2'' where
 next:=y.next
 minw:=y.minw
 ci:=y.ci
 inside n t:=by
  by_cases t2:kD mk s' s'' n
  ·exact y.inside n t2
  ·rw [y.outside n t2,gy.frame n t2]
   refine x.inside n ?_
   rcases t with t|t
   ·exact .inl t
   ·refine .inr ⟨t.1,?_⟩
    rcases Nat.lt_or_ge n s'.next with h|h
    ·exact h
    ·exact absurd (.inr ⟨h,t.2⟩) t2
 outside n t:=by
  have h1: ¬kD mk s s' n:=fun t'=>t (t'.imp id fun t'=>⟨t'.1,gn t'.2 gy.next⟩)
  have h2: ¬kD mk s' s'' n:=fun t'=>by
   rcases t' with⟨t1,t2⟩|t'
   ·rw [gx.frame n h1] at t2;exact t (.inl ⟨t1,t2⟩)
   ·exact t (.inr ⟨fX gx.next t'.1,t'.2⟩)
  rw [y.outside n h2,x.outside n h1]
theorem gq.refl {mk:bj} {s s2:St} (a:ip mk s s2):gq mk s s s2 s2 where
 next:=a.next
 minw:=a.minw
 ci:=a.ci
 inside n t:=by
  rcases t with⟨t1,t2⟩|t
  ·cases h:s.heap.get n with
   |none=>exact absurd h t2
   |some o=>exact a.get n o t1 h
  ·omega
 outside _ _:=rfl
def cS {α:Type} (mk:bj) (x:(Nat→Nat)→St→Option (α×St)):Prop:=
 ∀ch s a s',x ch s=some (a,s')→fN mk s s'∧ ∀ch' s2,(∀i,i<s'.ci→ch' i=ch i)→ip mk s s2→ ∃s2',x ch' s2=some (a,s2')∧gq mk s s' s2 s2'
theorem oX {mk:bj} {s:St} {n:Nat} {o:bE} (h:s.get mk n=some o):dF mk n=false∧s.heap.get n=some o:=by
 unfold St.get at h
 cases e:dF mk n with
 |true=>simp [e] at h
 |false=>simp [e] at h;exact⟨rfl,h⟩
theorem ip.look {mk:bj} {s s2:St} (a:ip mk s s2) {n:Nat} {o:bE} (h:s.get mk n=some o):s2.get mk n=some o:=by
 obtain⟨h1,h2⟩:=oX h
 simp [St.get,h1,a.get n o h1 h2]
theorem fN.new (mk:bj) (s:St) (o:bE):fN mk s (s.new o) where
 next:=Nat.le_succ _
 ci:=bv _
 minw:=bv _
 frame n h:=by
  show(s.heap.set s.next (some o)).get n=_
  rw [bq.get_set,if_neg]
  intro e
  exact h (.inr ⟨by omega,by show n<s.next+1;omega⟩)
 noted n hn hne:=by
  refine absurd ?_ hne
  show(s.heap.set s.next (some o)).get n=_
  rw [bq.get_set,if_neg (by omega)]
theorem gq.new {mk:bj} {s s2:St} (a:ip mk s s2) (o:bE):gq mk s (s.new o) s2 (s2.new o) where
 next:=by show s2.next+1=s.next+1;rw [a.next]
 minw:=a.minw
 ci:=a.ci
 inside n t:=by
  show(s2.heap.set s2.next (some o)).get n=(s.heap.set s.next (some o)).get n
  rw [bq.get_set,bq.get_set,a.next]
  by_cases e:n=s.next
  ·rw [if_pos e,if_pos e]
  ·rw [if_neg e,if_neg e]
   rcases t with⟨t1,t2⟩|⟨t1,t2⟩
   ·cases h:s.heap.get n with
    |none=>exact absurd h t2
    |some o=>exact a.get n o t1 h
   ·have:n<s.next+1:=t2
    omega
 outside n t:=by
  show(s2.heap.set s2.next (some o)).get n=_
  rw [bq.get_set,if_neg]
  intro e
  rw [a.next] at e
  exact t (.inr ⟨by omega,by show n<s.next+1;omega⟩)
theorem fN.put {mk:bj} {s:St} {n:Nat} {o:bE} (h:s.get mk n=some o) (o':Option bE):fN mk s (s.put n o') where
 next:=bv _
 ci:=bv _
 minw:=by
  show(bif cr s.minw n then s.minw else n)≤s.minw
  cases e:cr s.minw n
  ·simp only [cF]
   rw [ol] at e
   have:=of_decide_eq_false e
   omega
  ·simp
 frame m hm:=by
  show(s.heap.set n o').get m=_
  rw [bq.get_set,if_neg]
  intro e;subst e
  obtain⟨h1,h2⟩:=oX h
  exact hm (.inl ⟨h1,by rw [h2];simp⟩)
 noted m _ hne:=by
  show(bif cr s.minw n then s.minw else n)≤m
  have e:m=n:=by
   by_cases e:m=n
   ·exact e
   ·exfalso
    apply hne
    show(s.heap.set n o').get m=_
    rw [bq.get_set,if_neg e]
  subst e
  cases e:cr s.minw m
  ·simp
  ·simp only [cT];exact iZ e
theorem gq.put {mk:bj} {s s2:St} (a:ip mk s s2) {n:Nat} {o:bE} (h:s.get mk n=some o) (o':Option bE):gq mk s (s.put n o') s2 (s2.put n o') where
 next:=a.next
 minw:=by show(bif cr s2.minw n then s2.minw else n)=(bif cr s.minw n then s.minw else n);rw [a.minw]
 ci:=a.ci
 inside m t:=by
  show(s2.heap.set n o').get m=(s.heap.set n o').get m
  rw [bq.get_set,bq.get_set]
  by_cases e:m=n
  ·rw [if_pos e,if_pos e]
  ·rw [if_neg e,if_neg e]
   rcases t with⟨t1,t2⟩|⟨t1,t2⟩
   ·cases h:s.heap.get m with
    |none=>exact absurd h t2
    |some o=>exact a.get m o t1 h
   ·have:m<s.next:=t2
    omega
 outside m t:=by
  show(s2.heap.set n o').get m=_
  rw [bq.get_set,if_neg]
  intro e;subst e
  obtain⟨h1,h2⟩:=oX h
  exact t (.inl ⟨h1,by rw [h2];simp⟩)
theorem fN.hide {mk:bj} {s s3:St} {n:Nat} {o:bE} (h:s.get mk n=some o) (g:fN mk (s.put n none) s3) (o':bE):fN mk s (s3.put n (some o')) where
 next:=g.next
 ci:=g.ci
 minw:=by
  have h1:s3.minw≤(bif cr s.minw n then s.minw else n):=g.minw
  have h2:(bif cr s.minw n then s.minw else n)≤s.minw:=(fN.put h none).minw
  have h3:(s3.put n (some o')).minw≤s3.minw:=by
   show(bif cr s3.minw n then s3.minw else n)≤s3.minw
   cases e:cr s3.minw n
   ·rw [ol] at e
    have:=of_decide_eq_false e
    simp only [cF]
    omega
   ·simp
  omega
 frame m hm:=by
  obtain⟨h1,h2⟩:=oX h
  have hmn:m≠n:=fun e=>by subst e;exact hm (.inl ⟨h1,by rw [h2];simp⟩)
  show(s3.heap.set n (some o')).get m=_
  rw [bq.get_set,if_neg hmn]
  have hs1:(s.put n none).heap.get m=s.heap.get m:=by
   show(s.heap.set n none).get m=_
   rw [bq.get_set,if_neg hmn]
  rw [←hs1]
  refine g.frame m fun t=>hm ?_
  rcases t with⟨t1,t2⟩|t
  ·rw [hs1] at t2;exact .inl ⟨t1,t2⟩
  ·exact .inr t
 noted m hm hne:=by
  have hle:(s3.put n (some o')).minw≤s3.minw∧(s3.put n (some o')).minw≤n:=by
   show(bif cr s3.minw n then s3.minw else n)≤s3.minw∧(bif cr s3.minw n then s3.minw else n)≤n
   cases e:cr s3.minw n
   ·rw [ol] at e
    have:=of_decide_eq_false e
    simp only [cF]
    omega
   ·have:=iZ e
    simp only [cT]
    omega
  by_cases hmn:m=n
  ·subst hmn;exact hle.2
  ·have hs1:(s.put n none).heap.get m=s.heap.get m:=by
    show(s.heap.set n none).get m=_
    rw [bq.get_set,if_neg hmn]
   refine fX hle.1 (g.noted m hm ?_)
   rw [hs1]
   intro e
   apply hne
   show(s3.heap.set n (some o')).get m=_
   rw [bq.get_set,if_neg hmn,e]
theorem gq.hide {mk:bj} {s s3 s2 s23:St} {n:Nat} {o:bE} (_y:ip mk s s2) (h:s.get mk n=some o) (x:gq mk (s.put n none) s3 (s2.put n none) s23) (o':bE):gq mk s (s3.put n (some o')) s2 (s23.put n (some o')) where
 next:=x.next
 minw:=by show(bif cr s23.minw n then s23.minw else n)=(bif cr s3.minw n then s3.minw else n);rw [x.minw]
 ci:=x.ci
 inside m t:=by
  show(s23.heap.set n (some o')).get m=(s3.heap.set n (some o')).get m
  rw [bq.get_set,bq.get_set]
  by_cases hmn:m=n
  ·rw [if_pos hmn,if_pos hmn]
  ·rw [if_neg hmn,if_neg hmn]
   refine x.inside m ?_
   rcases t with⟨t1,t2⟩|t
   ·refine .inl ⟨t1,?_⟩
    show(s.heap.set n none).get m≠none
    rw [bq.get_set,if_neg hmn];exact t2
   ·exact .inr t
 outside m t:=by
  obtain⟨h1,h2⟩:=oX h
  have hmn:m≠n:=fun e=>by subst e;exact t (.inl ⟨h1,by rw [h2];simp⟩)
  show(s23.heap.set n (some o')).get m=_
  rw [bq.get_set,if_neg hmn,x.outside m ?_]
  ·show(s2.heap.set n none).get m=_
   rw [bq.get_set,if_neg hmn]
  ·rintro(⟨t1,t2⟩|t')
   ·have t2:(s.heap.set n none).get m≠none:=t2
    rw [bq.get_set,if_neg hmn] at t2
    exact t (.inl ⟨t1,t2⟩)
   ·exact t (.inr t')
def RO {β:Type} (mk:bj) (f:St→Option β):Prop:= ∀s s2 b,f s=some b→(∀n o,s.get mk n=some o→s2.get mk n=some o)→f s2=some b
section
variable {P:Program} {mk:bj}
theorem Sn (t:TypeId) (a:ai) (loc:Loc):RO mk (fun s=>kK P mk t a loc s):=by
 intro s s2 b h hl
 unfold kK at h ⊢
 split at h
 ·exact h
 ·simp only [aF] at h ⊢
  obtain⟨ob,hob,h⟩:=h
  exact⟨ob,hl _ _ hob,h⟩
 ·exact h
 ·cases h
theorem Sm (g:Bool) (n:Nat) (x:ai):RO mk (fun s=>jO mk g n x s):=by
 intro s s2 b h hl
 unfold jO at h ⊢
 split at h
 ·exact h
 ·exact h
 ·replace h:=bW h
  obtain⟨h1,h⟩:=h
  simp only [h1,cT,aF] at h ⊢
  obtain⟨ob,hob,h⟩:=h
  exact⟨ob,hl _ _ hob,h⟩
 ·cases h
theorem aka (t:TypeId) (x:ai):RO mk (fun s=>gG P mk t x s):=by
 intro s s2 b h hl
 simp only [gG,aF] at h ⊢
 obtain⟨d,hd,h⟩:=h
 refine⟨d,hd,?_⟩
 split at h<;>first
  |exact h
  |(simp only [aF] at h ⊢
    obtain⟨ob,hob,h⟩:=h
    exact⟨ob,hl _ _ hob,h⟩)
  |cases h
theorem akb (t:TypeId) (m k:ai) (ok:Bool):RO mk (fun s=>lk P mk t m k ok s):=by
 intro s s2 b h hl
 simp only [lk,aF] at h ⊢
 obtain⟨ke,hke,z,hz,r,hr,h⟩:=h
 refine⟨ke,hke,z,hz,r,?_,h⟩
 unfold xu at hr ⊢
 split at hr
 ·exact hr
 ·simp only [aF] at hr ⊢
  obtain⟨ob,hob,hr⟩:=hr
  exact⟨ob,hl _ _ hob,hr⟩
 ·cases hr
theorem aj9 (it:ai):RO mk (fun s=>oS mk it s):=by
 intro s s2 b h hl
 unfold oS at h ⊢
 split at h
 ·simp only [aF] at h ⊢
  obtain⟨ob,hob,h⟩:=h
  refine⟨ob,hl _ _ hob,?_⟩
  split at h
  ·simp only [aF] at h ⊢
   obtain⟨ob2,hob2,h⟩:=h
   exact⟨ob2,hl _ _ hob2,h⟩
  ·cases h
 ·cases h
theorem akc (t:TypeId) (x:ai) (lo hi mx:Option Operand) (env:bc):RO mk (fun s=>jH P mk t x lo hi mx env s):=by
 intro s s2 b h hl
 simp only [jH,aF] at h ⊢
 obtain⟨d,hd,h⟩:=h
 refine⟨d,hd,?_⟩
 split at h
 ·exact h
 ·simp only [aF] at h ⊢
  obtain⟨n,hn,h⟩:=h
  exact⟨n,hn,h⟩
 ·simp only [aF] at h ⊢
  obtain⟨n,hn,h⟩:=h
  refine⟨n,hn,?_⟩
  split at h
  ·simp only [aF] at h ⊢
   obtain⟨p,hp,q,hq,ob,hob,h⟩:=h
   exact⟨p,hp,q,hq,ob,hl _ _ hob,h⟩
  ·cases h
 ·cases h
end
def bV {α β:Type} (mk:bj) (x:(Nat→Nat)→St→Option (α×β×St)):Prop:=
 ∀ch s v l s',x ch s=some (v,l,s')→fN mk s s'∧ ∀ch' s2,(∀i,i<s'.ci→ch' i=ch i)→ip mk s s2→ ∃s2',x ch' s2=some (v,l,s2')∧gq mk s s' s2 s2'
section
variable {P:Program} {mk:bj}
theorem bV.ro {f:St→Option ai} (hf:RO mk f) (l:Loc):bV mk (fun _ s=>fJ (f s) l s):=by
 intro ch s v l' s' h
 obtain⟨h1,h2,h3⟩:=jG h
 subst h2;subst h3
 refine⟨.refl mk s',fun ch' s2 _ a=>⟨s2,?_,.refl a⟩⟩
 have:=hf s' s2 v h1 (fun n o ho=>a.look ho)
 simp [fJ,this]
theorem bV.const (f:Option ai) (l:Loc):bV mk (fun _ s=>fJ f l s):=bV.ro (f:=fun _=>f) (fun _ _ _ h _=>h) l
theorem bV.none {α β:Type}:bV (α:=α) (β:=β) mk (fun _ _=>.none):=by intro ch s v l s' h;cases h
theorem bV.bind {α γ β:Type} (x:Option β) {k:β→(Nat→Nat)→St→Option (α×γ×St)} (hk: ∀b,x=some b→bV mk (k b)):bV mk (fun ch s=>x.bind fun b=>k b ch s):=by
 cases x with
 |none=>intro ch s v l s' h;cases h
 |some b=>exact hk b rfl
theorem bV.vs {f:(Nat→Nat)→St→Option (ai×St)} (hf:cS mk f) (l:Loc):bV mk (fun ch s=>gR (f ch s) l):=by
 intro ch s v l' s' h
 simp only [gR,aF] at h
 obtain⟨⟨v1,s1⟩,h1,h⟩:=h
 simp only [a7,bK] at h
 obtain⟨rfl,rfl,rfl⟩:=h
 obtain⟨g,hh⟩:=hf ch s v1 s1 h1
 refine⟨g,fun ch' s2 hc a=>?_⟩
 obtain⟨s2',h2,h3⟩:=hh ch' s2 hc a
 exact⟨s2',by simp [gR,h2],h3⟩
theorem cS.of_put {α:Type} {f:St→Option (α×St)} (hf: ∀s a s',f s=some (a,s')→ ∃n o o',s.get mk n=some o∧s'=s.put n o'∧ ∀s2,ip mk s s2→f s2=some (a,s2.put n o')):cS mk (fun _ s=>f s):=by
 intro ch s a s' h
 obtain⟨n,o,o',h1,rfl,h2⟩:=hf s a s' h
 exact⟨.put h1 o',fun ch' s2 _ hs=>⟨_,h2 s2 hs,.put hs h1 o'⟩⟩
theorem cS.of_new {α:Type} {f:St→Option (α×St)} (hf: ∀s a s',f s=some (a,s')→ ∃o,s'=s.new o∧ ∀s2,ip mk s s2→f s2=some (a,s2.new o)):cS mk (fun _ s=>f s):=by
 intro ch s a s' h
 obtain⟨o,rfl,h2⟩:=hf s a s' h
 exact⟨.new mk s o,fun ch' s2 _ hs=>⟨_,h2 s2 hs,.new hs o⟩⟩
theorem cS.of_same {α:Type} {f:St→Option (α×St)} (hf: ∀s a s',f s=some (a,s')→s'=s∧ ∀s2,ip mk s s2→f s2=some (a,s2)):cS mk (fun _ s=>f s):=by
 intro ch s a s' h
 obtain⟨rfl,h2⟩:=hf s a s' h
 exact⟨.refl mk _,fun ch' s2 _ hs=>⟨_,h2 s2 hs,.refl hs⟩⟩
theorem cS.of_any {α:Type} {f:St→Option (α×St)} (hf: ∀s a s',f s=some (a,s')→
 (s'=s∧ ∀s2,ip mk s s2→f s2=some (a,s2))∨(∃o,s'=s.new o∧ ∀s2,ip mk s s2→f s2=some (a,s2.new o))∨
 (∃n o o',s.get mk n=some o∧s'=s.put n o'∧ ∀s2,ip mk s s2→f s2=some (a,s2.put n o'))∨
 (∃n o o' o'',s.get mk n=some o∧s'=(s.put n o').new o''∧ ∀s2,ip mk s s2→f s2=some (a,(s2.put n o').new o''))):cS mk (fun _ s=>f s):=by
 intro ch s a s' h
 rcases hf s a s' h with⟨rfl,h2⟩|⟨o,rfl,h2⟩|⟨n,o,o',h1,rfl,h2⟩|⟨n,o,o',o'',h1,rfl,h2⟩
 ·exact⟨.refl mk _,fun ch' s2 _ hs=>⟨_,h2 s2 hs,.refl hs⟩⟩
 ·exact⟨.new mk s o,fun ch' s2 _ hs=>⟨_,h2 s2 hs,.new hs o⟩⟩
 ·exact⟨.put h1 o',fun ch' s2 _ hs=>⟨_,h2 s2 hs,.put hs h1 o'⟩⟩
 ·have g1:=fN.put h1 o'
  exact⟨g1.trans (.new mk _ o''),fun ch' s2 _ hs=>⟨_,h2 s2 hs,gq.trans g1 (.new mk _ o'') (.put hs h1 o') (.new ((gq.put hs h1 o').sees hs g1) o'')⟩⟩
end
section
variable {P:Program} {mk:bj}
theorem ahU (t:TypeId) (m k v:ai) (l:Loc):bV mk (fun _ s=>lr (lB P mk t m k v s) l):=by
 intro ch s u l' s' h
 simp only [lr,aF] at h
 obtain⟨s1,h1,h⟩:=h
 simp only [a7,bK] at h
 obtain⟨rfl,rfl,rfl⟩:=h
 simp only [lB,aF] at h1
 obtain⟨ke,hke,h1⟩:=h1
 split at h1
 ·rename_i n
  simp only [aF] at h1
  obtain⟨ob,hob,h1⟩:=h1
  split at h1
  ·rename_i es clock
   simp only [aF] at h1
   obtain⟨r,hr,h1⟩:=h1
   split at h1
   ·rename_i x
    replace h1:=bW h1
    obtain⟨hc,h1⟩:=h1
    injection h1 with h1;subst h1
    exact⟨.put hob _,fun ch' s2 _ a=>⟨_,by simp [lr,lB,hke,a.look hob,hr,hc],.put a hob _⟩⟩
   ·injection h1 with h1;subst h1
    exact⟨.put hob _,fun ch' s2 _ a=>⟨_,by simp [lr,lB,hke,a.look hob,hr],.put a hob _⟩⟩
  ·cases h1
 ·cases h1
theorem ahO (t:TypeId) (m k:ai):cS mk (fun _ s=>tH P mk t m k s):=by
 refine cS.of_put ?_
 intro s u s' h1
 simp only [tH,aF] at h1
 obtain⟨ke,hke,z,hz,h1⟩:=h1
 split at h1
 ·rename_i n
  simp only [aF] at h1
  obtain⟨ob,hob,h1⟩:=h1
  split at h1
  ·rename_i es clock
   simp only [aF] at h1
   obtain⟨r,hr,h1⟩:=h1
   split at h1
   ·rename_i x
    replace h1:=bW h1
    obtain⟨hc,h1⟩:=h1
    simp only [a7,bK] at h1
    obtain⟨rfl,rfl⟩:=h1
    exact⟨n,_,_,hob,rfl,fun s2 a=>by simp [tH,hke,hz,a.look hob,hr,hc]⟩
   ·simp only [a7,bK] at h1
    obtain⟨rfl,rfl⟩:=h1
    exact⟨n,_,_,hob,rfl,fun s2 a=>by simp [tH,hke,hz,a.look hob,hr]⟩
  ·cases h1
 ·cases h1
theorem ahK (m st v:ai) (l:Loc):bV mk (fun _ s=>lr (uL mk m st v s) l):=by
 intro ch s u l' s' h
 simp only [lr,aF] at h
 obtain⟨s1,h1,h⟩:=h
 simp only [a7,bK] at h
 obtain⟨rfl,rfl,rfl⟩:=h
 simp only [uL,aF] at h1
 obtain⟨b,hb,h1⟩:=h1
 split at h1
 ·rename_i n
  simp only [aF] at h1
  obtain⟨ob,hob,h1⟩:=h1
  split at h1
  ·simp only [aF] at h1
   obtain⟨es',hes,h1⟩:=h1
   injection h1 with h1;subst h1
   exact⟨.put hob _,fun ch' s2 _ a=>⟨_,by simp [lr,uL,hb,a.look hob,hes],.put a hob _⟩⟩
  ·cases h1
 ·cases h1
theorem ahQ (t:TypeId) (x:ai):cS mk (fun _ s=>kO P mk t x s):=by
 refine cS.of_new ?_
 intro s u s' h1
 simp only [kO,aF] at h1
 obtain⟨d,hd,h1⟩:=h1
 split at h1
 ·split at h1
  ·simp only [a7,bK] at h1
   obtain⟨rfl,rfl⟩:=h1
   exact⟨_,rfl,fun s2 a=>by simp [kO,hd,a.next]⟩
  ·simp only [aF] at h1
   obtain⟨ob,hob,h1⟩:=h1
   split at h1
   ·simp only [a7,bK] at h1
    obtain⟨rfl,rfl⟩:=h1
    exact⟨_,rfl,fun s2 a=>by simp [kO,hd,a.look hob,a.next]⟩
   ·cases h1
  ·cases h1
 ·cases h1
theorem fN.ci_succ {s s':St} (g:fN mk s s') (_h:s'.ci=s.ci):fN mk s {s' with ci:=s.ci+1 }:=⟨g.next,Nat.le_succ _,g.minw,g.frame,g.noted⟩
theorem gq.ci_succ {s s' s2 s2':St} (a:ip mk s s2) (g:gq mk s s' s2 s2'):gq mk s {s' with ci:=s.ci+1 } s2 {s2' with ci:=s2.ci+1 }:=
 ⟨g.next,g.minw,by show s2.ci+1=s.ci+1;rw [a.ci],g.inside,g.outside⟩
theorem Q0 (kmax:Nat→Nat) (it:ai) (isString:Bool):cS mk (fun ch s=>j5 mk ch kmax it isString s):=by
 intro ch s u s' h1
 simp only [j5] at h1 ⊢
 split at h1
 ·rename_i n
  simp only [aF] at h1
  obtain⟨ob,hob,h1⟩:=h1
  split at h1
  ·replace h1:=gr h1
   rcases h1 with⟨_,h1⟩|⟨hs,h1⟩
   ·cases h1
   ·simp only [a7,bK] at h1
    obtain⟨rfl,rfl⟩:=h1
    exact⟨.refl mk _,fun ch' s2 _ a=>⟨s2,by simp [a.look hob,hs],.refl a⟩⟩
  ·rename_i m since seen stepped
   replace h1:=gr h1
   rcases h1 with⟨_,h1⟩|⟨hs,h1⟩
   ·cases h1
   ·simp only [aF] at h1
    obtain⟨ob2,hob2,h1⟩:=h1
    split at h1
    ·rename_i es clock
     replace h1:=gr h1
     rcases h1 with⟨_,h1⟩|⟨hgo,h1⟩
     ·cases h1
     ·generalize hUL:dq seen es=UL at h1
      unfold my at h1
      split at h1
      ·simp only [a7,bK] at h1
       obtain⟨rfl,rfl⟩:=h1
       exact⟨.refl mk _,fun ch' s2 _ a=>⟨s2,by simp [a.look hob,a.look hob2,hs,hgo,hUL,my],.refl a⟩⟩
      ·rename_i e r
       replace h1:=bW h1
       obtain⟨hall,h1⟩:=h1
       split at h1
       ·simp only [a7] at h1
        have e1:u=(oD n m since clock seen e s).1:=by rw [h1]
        have e2:s'=s.put n (some (.iter (some m) since (seen++[e.born]) clock)):=(congrArg Prod.snd h1).symm
        subst e1;subst e2
        refine⟨.put hob _,fun ch' s2 _ a=>⟨_,?_,.put a hob _⟩⟩
        simp only [a.look hob,a.look hob2,ak,hs,cF,hgo,hUL,my,hall,cT]
        rfl
       ·rename_i e2 r2
        replace h1:=bW h1
        obtain⟨hk,h1⟩:=h1
        simp only [aF] at h1
        obtain⟨e',he',h1⟩:=h1
        simp only [a7,bK] at h1
        obtain⟨rfl,rfl⟩:=h1
        refine⟨fN.ci_succ (s':=s.put n (some (.iter (some m) since (seen++[e'.born]) clock))) (.put hob _) rfl,fun ch' s2 hch a=>⟨_,?_,gq.ci_succ a (.put a hob _)⟩⟩
        have hci:ch' s2.ci=ch s.ci:=by rw [a.ci];exact hch s.ci (ic _)
        rw [←a.ci] at hk
        simp only [a.look hob,a.look hob2,ak,hs,cF,hgo,hUL,my,hall,cT,hk,hci,he']
        rfl
    ·cases h1
  ·cases h1
 ·cases h1
theorem ahM (t:TypeId) (env:bc) (r:Option Operand):cS mk (fun _ s=>lX P t env r s):=by
 refine cS.of_new ?_
 intro s u s' h1
 unfold lX at h1 ⊢
 rcases r with _|x
 ·simp only [a7,bK] at h1
  obtain⟨rfl,rfl⟩:=h1
  exact⟨_,rfl,fun s2 a=>by simp [a.next]⟩
 ·simp only [aF] at h1
  obtain⟨d,hd,h1⟩:=h1
  split at h1
  ·simp only [aF] at h1
   obtain⟨y,hy,h1⟩:=h1
   split at h1
   ·simp only [a7,bK] at h1
    obtain⟨rfl,rfl⟩:=h1
    exact⟨_,rfl,fun s2 a=>by simp [hd,hy,a.next]⟩
   ·cases h1
  ·cases h1
theorem ahN (t:TypeId) (l c:ai) (mu:Bool):cS mk (fun _ s=>sf P t l c mu s):=by
 refine cS.of_new ?_
 intro s u s' h1
 simp only [sf,aF] at h1 ⊢
 obtain⟨E,hE,ln,hl,cn,hc,h1⟩:=h1
 replace h1:=bW h1
 obtain⟨hcond,h1⟩:=h1
 replace h1:=gr h1
 rcases h1 with⟨hz,h1⟩|⟨hz,h1⟩
 ·simp only [a7,bK] at h1
  obtain⟨rfl,rfl⟩:=h1
  exact⟨_,rfl,fun s2 a=>⟨E,hE,ln,hl,cn,hc,by simp only [hcond,hz,cT,a.next]⟩⟩
 ·simp only [a7,bK] at h1
  obtain⟨rfl,rfl⟩:=h1
  exact⟨_,rfl,fun s2 a=>⟨E,hE,ln,hl,cn,hc,by simp only [hcond,hz,cT,cF,a.next]⟩⟩
theorem ahD (t:TypeId) (len:Nat) (parts:List (Nat×Operand)) (mu:Bool) (env:bc):cS mk (fun _ s=>dR P t len parts mu env s):=by
 refine cS.of_any ?_
 intro s u s' h1
 simp only [dR,aF] at h1 ⊢
 obtain⟨E,hE,h1⟩:=h1
 replace h1:=bW h1
 obtain⟨hcond,h1⟩:=h1
 simp only [aF] at h1
 obtain⟨cs,hcs,h1⟩:=h1
 replace h1:=gr h1
 rcases h1 with⟨hz,h1⟩|⟨hz,h1⟩
 ·simp only [a7,bK] at h1
  obtain⟨rfl,rfl⟩:=h1
  exact .inr (.inl ⟨_,rfl,fun s2 a=>⟨E,hE,by simp only [hcond,cT,hcs,ak,hz,a.next]⟩⟩)
 ·simp only [aF] at h1
  obtain⟨xs,hxs,h1⟩:=h1
  simp only [a7,bK] at h1
  obtain⟨rfl,rfl⟩:=h1
  exact .inl ⟨rfl,fun s2 a=>⟨E,hE,by simp only [hcond,cT,hcs,ak,hz,cF,hxs]⟩⟩
theorem ahB (t:TypeId) (x y:ai) (mu:Bool):cS mk (fun _ s=>jD P mk t x y mu s):=by
 refine cS.of_any ?_
 intro s u s' h1
 simp only [jD,aF] at h1 ⊢
 obtain⟨E,hE,ys,hys,h1⟩:=h1
 have hro: ∀s2,ip mk s s2→jO mk E.g E.n y s2=some ys:=fun s2 a=>Sm E.g E.n y s s2 ys hys (fun n o ho=>a.look ho)
 have fin: ∀ {Q1 Q2 Q3 Q4:Prop},Q1∨Q2∨Q3∨Q4→Q1∨Q2∨Q3∨Q4:=fun h=>h
 cases ys with
 |nil=>
  replace h1:=bW h1
  obtain⟨hsl,h1⟩:=h1
  simp only [a7,bK] at h1
  obtain⟨rfl,rfl⟩:=h1
  exact .inl ⟨rfl,fun s2 a=>⟨E,hE,[],hro s2 a,by simp only [hsl,cT]⟩⟩
 |cons y0 yr=>
  simp only at h1
  have made: ∀(zs:List ai),j2 E mu zs s=some (u,s')→ ∃o,s'=s.new o∧ ∀s2,ip mk s s2→j2 E mu zs s2=some (u,s2.new o):=by
   intro zs hm
   simp only [j2] at hm ⊢
   replace hm:=bW hm
   obtain⟨hr,hm⟩:=hm
   replace hm:=gr hm
   rcases hm with⟨hz,hm⟩|⟨hz,hm⟩
   ·simp only [a7,bK] at hm
    obtain⟨rfl,rfl⟩:=hm
    exact⟨_,rfl,fun s2 a=>by simp only [hr,hz,cT,a.next]⟩
   ·simp only [a7,bK] at hm
    obtain⟨rfl,rfl⟩:=hm
    exact⟨_,rfl,fun s2 a=>by simp only [hr,hz,cT,cF,a.next]⟩
  unfold kY at h1
  split at h1
  ·obtain⟨o,ho,hm⟩:=made _ h1
   exact .inr (.inl ⟨o,ho,fun s2 a=>⟨E,hE,_,hro s2 a,by simp only [kY];exact hm s2 a⟩⟩)
  ·replace h1:=bW h1
   obtain⟨hsz,h1⟩:=h1
   obtain⟨o,ho,hm⟩:=made _ h1
   exact .inr (.inl ⟨o,ho,fun s2 a=>⟨E,hE,_,hro s2 a,by simp only [kY,hsz,cT];exact hm s2 a⟩⟩)
  ·simp only [aF] at h1
   obtain⟨ob,hob,h1⟩:=h1
   split at h1
   ·replace h1:=bW h1
    obtain⟨hr,h1⟩:=h1
    simp only [a7,bK] at h1
    obtain⟨rfl,rfl⟩:=h1
    exact .inr (.inr (.inr ⟨_,_,none,_,hob,rfl,fun s2 a=>⟨E,hE,_,hro s2 a,by simp only [kY,a.look hob,ak,hr,cT,a.next]⟩⟩))
   ·cases h1
  ·simp only [aF] at h1
   obtain⟨ob,hob,h1⟩:=h1
   split at h1
   ·replace h1:=bW h1
    obtain⟨hr,h1⟩:=h1
    replace h1:=gr h1
    rcases h1 with⟨he,h1⟩|⟨he,h1⟩
    ·simp only [a7,bK] at h1
     obtain⟨rfl,rfl⟩:=h1
     exact .inr (.inr (.inr ⟨_,_,none,_,hob,rfl,fun s2 a=>⟨E,hE,_,hro s2 a,by simp only [kY,a.look hob,ak,hr,he,cT,a.next]⟩⟩))
    ·replace h1:=bW h1
     obtain⟨hl,h1⟩:=h1
     simp only [aF] at h1
     obtain⟨cs',hw,h1⟩:=h1
     simp only [a7,bK] at h1
     obtain⟨rfl,rfl⟩:=h1
     exact .inr (.inr (.inl ⟨_,_,_,hob,rfl,fun s2 a=>⟨E,hE,_,hro s2 a,by simp only [kY,a.look hob,ak,hr,he,cT,cF,hl,hw]⟩⟩))
   ·cases h1
  ·cases h1
theorem ahI (t:TypeId) (x y:ai):cS mk (fun _ s=>wK P mk t x y s):=by
 refine cS.of_any ?_
 intro s u s' h1
 simp only [wK,aF] at h1 ⊢
 obtain⟨E,hE,ys,hys,h1⟩:=h1
 have hro: ∀s2,ip mk s s2→jO mk E.g E.n y s2=some ys:=fun s2 a=>Sm E.g E.n y s s2 ys hys (fun n o ho=>a.look ho)
 split at h1
 ·simp only [a7,bK] at h1
  obtain⟨rfl,rfl⟩:=h1
  exact .inl ⟨rfl,fun s2 a=>⟨E,hE,ys,hro s2 a,rfl⟩⟩
 ·simp only [a7,bK] at h1
  obtain⟨rfl,rfl⟩:=h1
  exact .inl ⟨rfl,fun s2 a=>⟨E,hE,ys,hro s2 a,rfl⟩⟩
 ·replace h1:=bW h1
  obtain⟨hr,h1⟩:=h1
  simp only [aF] at h1
  obtain⟨ob,hob,h1⟩:=h1
  split at h1
  ·simp only [aF] at h1
   obtain⟨cs',hw,h1⟩:=h1
   simp only [a7,bK] at h1
   obtain⟨rfl,rfl⟩:=h1
   exact .inr (.inr (.inl ⟨_,_,_,hob,rfl,fun s2 a=>⟨E,hE,ys,hro s2 a,by simp only [hr,cT,a.look hob,ak,hw]⟩⟩))
  ·cases h1
 ·cases h1
theorem ahG (t:TypeId) (x:ai):cS mk (fun _ s=>(rE P mk t x s).bind fun s'=>some (ai.tup [],s')):=by
 refine cS.of_any ?_
 intro s u s' h1
 simp only [aF] at h1 ⊢
 obtain⟨s1,h1,h2⟩:=h1
 simp only [a7,bK] at h2
 obtain⟨rfl,rfl⟩:=h2
 unfold rE at h1
 split at h1
 ·injection h1 with h1;subst h1
  exact .inl ⟨rfl,fun s2 a=>⟨s2,rfl,rfl⟩⟩
 ·injection h1 with h1;subst h1
  exact .inl ⟨rfl,fun s2 a=>⟨s2,rfl,rfl⟩⟩
 ·simp only [aF] at h1
  obtain⟨ob,hob,h1⟩:=h1
  split at h1
  ·injection h1 with h1;subst h1
   exact .inr (.inr (.inl ⟨_,_,_,hob,rfl,fun s2 a=>⟨_,by simp only [rE,a.look hob,ak],rfl⟩⟩))
  ·cases h1
 ·injection h1 with h1;subst h1
  exact .inl ⟨rfl,fun s2 a=>⟨s2,rfl,rfl⟩⟩
 ·replace h1:=gr h1
  rcases h1 with⟨he,h1⟩|⟨he,h1⟩
  ·injection h1 with h1;subst h1
   exact .inl ⟨rfl,fun s2 a=>⟨s2,by simp only [rE,he,cT],rfl⟩⟩
  ·simp only [aF] at h1
   obtain⟨E,hE,h1⟩:=h1
   replace h1:=bW h1
   obtain⟨hr,h1⟩:=h1
   simp only [aF] at h1
   obtain⟨ob,hob,h1⟩:=h1
   split at h1
   ·simp only [aF] at h1
    obtain⟨cs',hw,h1⟩:=h1
    injection h1 with h1;subst h1
    exact .inr (.inr (.inl ⟨_,_,_,hob,rfl,fun s2 a=>⟨_,by simp only [rE,he,cF,hE,ak,hr,cT,a.look hob,hw],rfl⟩⟩))
   ·cases h1
 ·cases h1
theorem cS.pureOpt {α:Type} (f:Option α):cS mk (fun _ s=>f.bind fun v=>some (v,s)):=by
 refine cS.of_same ?_
 intro s u s' h1
 simp only [aF] at h1
 obtain⟨v,hv,h1⟩:=h1
 simp only [a7,bK] at h1
 obtain⟨rfl,rfl⟩:=h1
 exact⟨rfl,fun s2 a=>by simp [hv]⟩
theorem ahE (b:Builtin) (ts:List TypeId) (mu:Bool) (args:List ai):cS mk (fun _ s=>ld P mk b ts mu args s):=by
 intro ch s u s' h1
 unfold ld at h1 ⊢
 split at h1
 ·refine cS.of_same (f:=fun s=>(gG P mk _ _ s).bind fun v=>some (v,s)) ?_ ch s u s' h1
  intro s u s' h1
  simp only [aF] at h1 ⊢
  obtain⟨v,hv,h1⟩:=h1
  simp only [a7,bK] at h1
  obtain⟨rfl,rfl⟩:=h1
  exact⟨rfl,fun s2 a=>⟨v,aka _ _ s s2 v hv (fun n o ho=>a.look ho),rfl⟩⟩
 ·cases hc:lj P _ with
  |false=>rw [hc] at h1;cases h1
  |true=>
   rw [hc] at h1
   simp only [cT] at h1 ⊢
   exact ahB _ _ _ mu ch s u s' h1
 ·exact ahI _ _ _ ch s u s' h1
 ·rename_i t x
  simp only [aF] at h1
  obtain⟨d,hd,s3,hs3,h1⟩:=h1
  have:=ahG (P:=P) (mk:=mk) t x ch s u s' (by simp only [hs3,ak];exact h1)
  refine⟨this.1,fun ch' s2 hc a=>?_⟩
  obtain⟨s2',h2,h3⟩:=this.2 ch' s2 hc a
  exact⟨s2',by simpa [hd] using h2,h3⟩
 ·exact cS.pureOpt _ ch s u s' h1
 ·exact cS.pureOpt _ ch s u s' h1
 ·cases h1
theorem ahT (t:TypeId) (a v:ai) (loc:Loc):bV mk (fun _ s=>(pq P mk t a v loc s).bind fun r=>some (gX,r.1,r.2)):=by
 intro ch s u l' s' h
 simp only [aF] at h
 obtain⟨⟨l1,s1⟩,h1,h⟩:=h
 simp only [a7,bK] at h
 obtain⟨rfl,rfl,rfl⟩:=h
 simp only [pq,aF] at h1
 obtain⟨n,hn,h1⟩:=h1
 replace h1:=bW h1
 obtain⟨hc,h1⟩:=h1
 split at h1
 ·simp only [aF] at h1
  obtain⟨cs,hcs,cs',hw,h1⟩:=h1
  simp only [a7,bK] at h1
  obtain⟨rfl,rfl⟩:=h1
  exact⟨.refl mk _,fun ch' s2 _ x=>⟨s2,by simp only [pq,hn,ak,hc,cT,hcs,hw],.refl x⟩⟩
 ·simp only [aF] at h1
  obtain⟨ob,hob,h1⟩:=h1
  split at h1
  ·simp only [aF] at h1
   obtain⟨cs',hw,h1⟩:=h1
   simp only [a7,bK] at h1
   obtain⟨rfl,rfl⟩:=h1
   exact⟨.put hob _,fun ch' s2 _ x=>⟨_,by simp only [pq,hn,ak,hc,cT,x.look hob,hw],.put x hob _⟩⟩
  ·cases h1
 ·cases h1
theorem ahC (h:Nat) (dst:Option Tmp) (cs:List ai) (loc:Loc):bV mk (fun _ s=>n7 h dst cs loc s):=by
 intro ch s u l' s' h1
 unfold n7 at h1 ⊢
 replace h1:=gr h1
 rcases h1 with⟨hb,h1⟩|⟨hb,h1⟩
 ·simp only [aF] at h1
  obtain⟨t,ht,h1⟩:=h1
  simp only [a7,bK] at h1
  obtain⟨rfl,rfl,rfl⟩:=h1
  exact⟨.refl mk _,fun ch' s2 _ x=>⟨s2,by simp only [hb,cT,ht,ak],.refl x⟩⟩
 ·simp only [a7,bK] at h1
  obtain⟨rfl,rfl,rfl⟩:=h1
  exact⟨.new mk s _,fun ch' s2 _ x=>⟨_,by simp only [hb,cF,x.next],.new x _⟩⟩
theorem Q5 (hint:Tmp→Nat) (dst:Option Tmp) (c:Call) (fr:Fr):bV mk (fun _ s=>pY P mk hint dst c fr s):=by
 unfold pY
 split
 ·exact bV.bind _ fun args _=>bV.vs (ahE _ _ _ _) _
 ·exact bV.none
theorem ahA (kmax:Nat→Nat) (hint:Tmp→Nat) (dst:Option Tmp) (op:Op) (fr:Fr):bV mk (fun ch s=>jV P mk ch kmax hint dst op fr s):=by
 cases op<;>simp only [jV]<;>first
  |exact bV.none
  |exact bV.const _ _
  |exact bV.bind _ fun z _=>ahC _ _ _ _
  |exact bV.vs (ahD _ _ _ _ _) _
  |exact bV.vs (ahM _ _ _) _
  |exact bV.bind _ fun a _=>bV.ro (Sn _ _ _) _
  |exact bV.bind _ fun a _=>bV.bind _ fun x _=>ahT _ _ _ _
  |exact bV.bind _ fun a _=>bV.const _ _
  |exact bV.bind _ fun a _=>bV.bind _ fun b _=>bV.const _ _
  |exact bV.bind _ fun a _=>bV.bind _ fun b _=>bV.vs (ahN _ _ _ _) _
  |exact bV.bind _ fun a _=>bV.ro (akc _ _ _ _ _ _) _
  |exact bV.bind _ fun a _=>bV.bind _ fun b _=>bV.ro (akb _ _ _ _) _
  |exact bV.bind _ fun a _=>bV.bind _ fun b _=>bV.bind _ fun c _=>ahU _ _ _ _ _
  |exact bV.bind _ fun a _=>bV.bind _ fun b _=>bV.vs (ahO _ _ _) _
  |exact bV.bind _ fun a _=>bV.bind _ fun b _=>bV.bind _ fun c _=>ahK _ _ _ _
  |exact bV.bind _ fun a _=>bV.vs (ahQ _ _) _
  |exact bV.bind _ fun a _=>bV.vs (Q0 _ _ _) _
  |exact bV.bind _ fun a _=>bV.ro (aj9 _) _
  |exact Q5 _ _ _ _
end
section
variable {mk:bj} {α β γ δ:Type}
theorem cS.none:cS (α:=α) mk (fun _ _=>.none):=by intro ch s v s' h;cases h
theorem cS.opt (x:Option β) {k:β→(Nat→Nat)→St→Option (α×St)} (hk: ∀b,x=some b→cS mk (k b)):cS mk (fun ch s=>x.bind fun b=>k b ch s):=by
 cases x with
 |none=>intro ch s v s' h;cases h
 |some b=>exact hk b rfl
theorem cS.ret (a:α):cS mk (fun _ s=>some (a,s)):=by
 intro ch s v s' h
 simp only [a7,bK] at h
 obtain⟨rfl,rfl⟩:=h
 exact⟨.refl mk _,fun ch' s2 _ x=>⟨s2,rfl,.refl x⟩⟩
theorem bV.ret (a:α) (b:β):bV mk (fun _ s=>some (a,b,s)):=by
 intro ch s v l s' h
 simp only [a7,bK] at h
 obtain⟨rfl,rfl,rfl⟩:=h
 exact⟨.refl mk _,fun ch' s2 _ x=>⟨s2,rfl,.refl x⟩⟩
theorem cS.then1 {x:(Nat→Nat)→St→Option (α×St)} {k:α→(Nat→Nat)→St→Option (β×St)} (hx:cS mk x) (hk: ∀a,cS mk (k a)):cS mk (fun ch s=>(x ch s).bind fun r=>k r.1 ch r.2):=by
 intro ch s v s' h
 simp only [aF] at h
 obtain⟨⟨a,s1⟩,h1,h2⟩:=h
 obtain⟨g1,e1⟩:=hx ch s a s1 h1
 obtain⟨g2,e2⟩:=hk a ch s1 v s' h2
 refine⟨g1.trans g2,fun ch' s2 hc y=>?_⟩
 obtain⟨s2',q1,q2⟩:=e1 ch' s2 (fun i hi=>hc i (gn hi g2.ci)) y
 obtain⟨s2'',q3,q4⟩:=e2 ch' s2' hc (q2.sees y g1)
 exact⟨s2'',by simp only [q1,ak];exact q3,q2.trans g1 g2 q4⟩
theorem cS.then3 {x:(Nat→Nat)→St→Option (α×St)} {k:α→(Nat→Nat)→St→Option (β×γ×St)} (hx:cS mk x) (hk: ∀a,bV mk (k a)):bV mk (fun ch s=>(x ch s).bind fun r=>k r.1 ch r.2):=by
 intro ch s v l s' h
 simp only [aF] at h
 obtain⟨⟨a,s1⟩,h1,h2⟩:=h
 obtain⟨g1,e1⟩:=hx ch s a s1 h1
 obtain⟨g2,e2⟩:=hk a ch s1 v l s' h2
 refine⟨g1.trans g2,fun ch' s2 hc y=>?_⟩
 obtain⟨s2',q1,q2⟩:=e1 ch' s2 (fun i hi=>hc i (gn hi g2.ci)) y
 obtain⟨s2'',q3,q4⟩:=e2 ch' s2' hc (q2.sees y g1)
 exact⟨s2'',by simp only [q1,ak];exact q3,q2.trans g1 g2 q4⟩
theorem bV.then1 {x:(Nat→Nat)→St→Option (α×β×St)} {k:α→β→(Nat→Nat)→St→Option (γ×St)} (hx:bV mk x) (hk: ∀a b,cS mk (k a b)):cS mk (fun ch s=>(x ch s).bind fun r=>k r.1 r.2.1 ch r.2.2):=by
 intro ch s v s' h
 simp only [aF] at h
 obtain⟨⟨a,b,s1⟩,h1,h2⟩:=h
 obtain⟨g1,e1⟩:=hx ch s a b s1 h1
 obtain⟨g2,e2⟩:=hk a b ch s1 v s' h2
 refine⟨g1.trans g2,fun ch' s2 hc y=>?_⟩
 obtain⟨s2',q1,q2⟩:=e1 ch' s2 (fun i hi=>hc i (gn hi g2.ci)) y
 obtain⟨s2'',q3,q4⟩:=e2 ch' s2' hc (q2.sees y g1)
 exact⟨s2'',by simp only [q1,ak];exact q3,q2.trans g1 g2 q4⟩
theorem bV.then3 {x:(Nat→Nat)→St→Option (α×β×St)} {k:α→β→(Nat→Nat)→St→Option (γ×δ×St)} (hx:bV mk x) (hk: ∀a b,bV mk (k a b)):bV mk (fun ch s=>(x ch s).bind fun r=>k r.1 r.2.1 ch r.2.2):=by
 intro ch s v l s' h
 simp only [aF] at h
 obtain⟨⟨a,b,s1⟩,h1,h2⟩:=h
 obtain⟨g1,e1⟩:=hx ch s a b s1 h1
 obtain⟨g2,e2⟩:=hk a b ch s1 v l s' h2
 refine⟨g1.trans g2,fun ch' s2 hc y=>?_⟩
 obtain⟨s2',q1,q2⟩:=e1 ch' s2 (fun i hi=>hc i (gn hi g2.ci)) y
 obtain⟨s2'',q3,q4⟩:=e2 ch' s2' hc (q2.sees y g1)
 exact⟨s2'',by simp only [q1,ak];exact q3,q2.trans g1 g2 q4⟩
end
theorem bV.weaken {α β:Type} {mk mk':bj} (hm: ∀n,dF mk n=true→dF mk' n=true) {x:(Nat→Nat)→St→Option (α×β×St)} (hx:bV mk' x):bV mk x:=by
 have hv: ∀n,dF mk' n=false→dF mk n=false:=fun n h=>by
  cases e:dF mk n with
  |false=>rfl
  |true=>rw [hm n e] at h;cases h
 have ht: ∀ {s s':St} {n:Nat},kD mk' s s' n→kD mk s s' n:=fun t=>t.imp (fun t=>⟨hv _ t.1,t.2⟩) id
 intro ch s a b s' h
 obtain⟨g,e⟩:=hx ch s a b s' h
 refine⟨⟨g.next,g.ci,g.minw,fun n h=>g.frame n (fun t=>h (ht t)),g.noted⟩,fun ch' s2 hc y=>?_⟩
 obtain⟨s2',q1,q2⟩:=e ch' s2 hc ⟨y.next,y.minw,y.ci,fun n o hn ho=>y.get n o (hv n hn) ho⟩
 refine⟨s2',q1,⟨q2.next,q2.minw,q2.ci,fun n t=>?_,fun n t=>q2.outside n (fun t'=>t (ht t'))⟩⟩
 by_cases t':kD mk' s s' n
 ·exact q2.inside n t'
 ·rw [q2.outside n t',g.frame n t']
  rcases t with⟨t1,t2⟩|t
  ·cases h:s.heap.get n with
   |none=>exact absurd h t2
   |some o=>exact y.get n o t1 h
  ·exact absurd (.inr t) t'
theorem HZ {bi:Nat} {rs:List dQ} {mk:bj} {n:Nat} (h:dF mk n=true):dF (iU bi rs mk) n=true:=by
 induction rs with
 |nil=>exact h
 |cons r rs ih=>
  unfold iU
  cases bi.testBit r.i||Nat.beq r.c0 r.c1
  ·simp only [cF,dF,ih,Bool.or_true]
  ·simpa using ih
def ck.at (Q:ck) (ch:Nat→Nat):ck:= {Q with ch:=ch }
theorem Fl {mk:bj} {s s2:St} (y:ip mk s s2): ∀(x:Rd) (v:ai),mF (s.get mk) x=some v→mF (s2.get mk) x=some v
 | .ret _,_,h=>h
 | .ask n k,v,h=>by
   simp only [mF,aF] at h ⊢
   obtain⟨o,h1,h2⟩:=h
   exact⟨o,y.look h1,Fl y (k o) v h2⟩
theorem ahR (mk:bj) (x:Rd):cS mk (fun _ s=>(mF (s.get mk) x).bind fun v=>some (v,s)):=by
 intro ch s v s' h
 simp only [aF,a7,bK] at h
 obtain⟨u,h1,rfl,rfl⟩:=h
 exact⟨.refl mk _,fun ch' s2 _ y=>⟨s2,by show(mF (s2.get mk) x).bind _=_;rw [Fl y x u h1];rfl,.refl y⟩⟩
structure A8 (r:(Nat→Nat)→kX):Prop where
 ops: ∀f all mk l fr,cS mk (fun ch s=>(r ch).ops f all mk l fr s)
 draw: ∀f all bs mk rs i l fr,cS mk (fun ch s=>(r ch).draw f all bs mk rs i l fr s)
 code: ∀f c mk fr,bV mk (fun ch s=>(r ch).code f c mk fr s)
 call: ∀f args mk,cS mk (fun ch s=>(r ch).call f args mk s)
theorem ahL {α:Type} {mk:bj} {n:Nat} {k:bE→(Nat→Nat)→St→Option (α×bE×St)} (hk: ∀o,bV mk (k o)):
 cS mk (fun ch s=>(s.get mk n).bind fun o=>(k o ch (s.put n none)).bind fun x=>some (x.1,x.2.2.put n (some x.2.1))):=by
 intro ch s v s' h
 simp only [aF,a7,bK] at h
 obtain⟨o,h1,⟨u,o',s3⟩,h2,rfl,rfl⟩:=h
 obtain⟨g,e⟩:=hk o ch (s.put n none) u o' s3 h2
 refine⟨g.hide h1 o',fun ch' s2 hc y=>?_⟩
 obtain⟨s23,q1,q2⟩:=e ch' (s2.put n none) hc ((gq.put y h1 none).sees y (fN.put h1 none))
 exact⟨s23.put n (some o'),by simp only [y.look h1,ak,q1],q2.hide y h1 o'⟩
section
variable {Q:ck} {r:(Nat→Nat)→kX} (hr:A8 r)
include hr
theorem ahV (n:Nat) (args:List ai) (mk:bj):cS mk (fun ch s=>kR (r ch) n args mk s):=by
 unfold kR
 refine ahL fun o=>?_
 unfold uc
 split
 ·rename_i f env size ps a b
  cases ps.all (fun t=>Nat.blt t size)
  ·exact bV.none
  ·simp only [cT]
   refine bV.bind _ fun env' _=>?_
   refine bV.then3 (k:=fun x fr ch s=>sN (r ch) f env size ps a b mk (x,fr,s)) (hr.code f a mk _) fun x fr=>?_
   cases x with
   |normal=>
    refine bV.then3 (k:=fun x fr _ s=>ub f env size ps a b (x,fr,s)) (hr.code f b mk _) fun x fr=>?_
    cases x<;>exact bV.ret _ _
   |exit i=>exact bV.none
   |ret=>exact bV.none
 ·exact bV.none
theorem xq (f:FuncId) (o:Oper) (mk:bj) (fr:Fr):bV mk (fun ch s=>fp (Q.at ch) (r ch) f o mk fr s):=by
 unfold fp
 split
 ·split
  ·exact Q5 _ _ _ _
  ·rename_i c _ _ _
   cases lS fr.env c
   ·unfold lf
    exact bV.bind _ fun g _=>cS.then3 (hr.call g.1 g.2 mk) fun v=>bV.ret v fr.loc
   ·unfold oG
    exact bV.bind _ fun g _=>cS.then3 (ahV hr g.1 g.2 mk) fun v=>bV.ret v fr.loc
 ·exact ahA _ _ _ _ _
theorem ahP (f:FuncId) (all:Array Oper) (mk:bj) (l:List Oper) (fr:Fr):cS mk (fun ch s=>kz (Q.at ch) (r ch) f all mk l fr s):=by
 unfold kz
 split
 ·exact cS.ret fr
 ·rename_i o rest
  cases eJ all fr.env o
  ·exact cS.opt _ fun fr' _=>hr.ops f all mk rest fr'
  ·exact bV.then1 (xq hr f o mk fr) fun v l=>cS.opt (d7 fr o.dst v l) fun fr' _=>hr.ops f all mk rest fr'
theorem ahJ (f:FuncId) (all:Array Oper) (bs:List Nat) (mk:bj) (rs:List dQ) (i:Nat) (l:List Oper) (fr:Fr):cS mk (fun ch s=>lh (Q.at ch) (r ch) f all bs mk rs i l fr s):=by
 unfold lh
 split
 ·exact cS.ret fr
 ·rename_i o rest
  cases eJ all fr.env o
  ·exact cS.opt _ fun fr' _=>hr.draw f all bs.tail mk rs (i+1) rest fr'
  ·intro ch s v s' h
   simp only [cT,aF] at h
   obtain⟨⟨u,l,s1⟩,h1,h⟩:=h
   replace h:=bW h
   obtain⟨hc,h⟩:=h
   simp only [aF] at h
   obtain⟨fr',hfr,h⟩:=h
   have hl:=bV.weaken (fun n hn=>HZ (bi:=bs.headD 0) (rs:=rs) hn) (xq (Q:=Q) hr f o (iU (bs.headD 0) rs mk) fr)
   obtain⟨g1,e1⟩:=hl ch ⟨s.heap,s.next,s.next,s.ci⟩ u l s1 h1
   obtain⟨g2,e2⟩:=hr.draw _ _ _ _ _ _ _ _ ch (s.least s1) v s' h
   have hle:(bif cr s.minw s1.minw then s.minw else s1.minw)≤s.minw∧(bif cr s.minw s1.minw then s.minw else s1.minw)≤s1.minw:=by
    cases e:cr s.minw s1.minw
    ·rw [ol] at e
     have:=of_decide_eq_false e
     simp only [cF]
     omega
    ·have:=iZ e
     simp only [cT]
     omega
   have g1':fN mk s (s.least s1):=⟨g1.next,g1.ci,hle.1,g1.frame,fun n hn hne=>fX hle.2 (g1.noted n hn hne)⟩
   refine⟨g1'.trans g2,fun ch' s2 hch y=>?_⟩
   obtain⟨s21,q1,q2⟩:=e1 ch' ⟨s2.heap,s2.next,s2.next,s2.ci⟩ (fun j hj=>hch j (gn hj g2.ci)) ⟨y.next,y.next,y.ci,y.get⟩
   have q2':gq mk s (s.least s1) s2 (s2.least s21):=⟨q2.next,by show(bif cr s2.minw s21.minw then s2.minw else s21.minw)=(bif cr s.minw s1.minw then s.minw else s1.minw);rw [y.minw,q2.minw],q2.ci,q2.inside,q2.outside⟩
   obtain⟨s2',q3,q4⟩:=e2 ch' (s2.least s21) hch (q2'.sees y g1')
   refine⟨s2',?_,q2'.trans g1' g2 q4⟩
   simp only [cT]
   rw [y.next,y.ci] at q1 ⊢
   simp only [q1,ak,q2.minw,q2.ci,q2.next]
   have hc':(fits (bs.headD 0) (dr ((Q.at ch').hint f) o.dst fr.env o.op) (s1.minw.blt s.next||isStore o.op) rs&&s.ci.beq s1.ci)=true:=hc
   rw [hc']
   simp only [cT]
   rw [hfr]
   exact q3
theorem ahH (f:FuncId) (c:Code) (mk:bj) (fr:Fr):bV mk (fun ch s=>rG (Q.at ch) (r ch) f c mk fr s):=by
 have hseq: ∀(x:Ex) (fr:Fr) (b:Code),bV mk (fun ch s=>mI (r ch) f b mk (x,fr,s)):=by
  intro x fr b
  cases x with
  |normal=>exact hr.code f b mk fr
  |exit i=>exact bV.ret _ _
  |ret=>exact bV.ret _ _
 cases c<;>simp only [rG]<;>first
  |exact bV.none
  |exact bV.ret _ _
  |exact bV.then3 (hr.code f _ mk fr) fun x fr=>hseq x fr _
  |exact hr.code f _ mk fr
  |skip
 ·
  rename_i id ops draw
  unfold Aq
  cases draw
  ·exact cS.then3 (k:=fun fr _ s=>some (Ex.normal,fr,s)) (hr.ops f ops mk ops.toList fr) fun fr=>bV.ret _ _
  ·simp only [cT]
   cases kE ops 0 ops.toList (Region.before ops).toList
   ·exact bV.none
   ·exact cS.then3 (k:=fun fr _ s=>some (Ex.normal,fr,s)) (hr.draw f ops _ mk [] 0 ops.toList fr) fun fr=>bV.ret _ _
 ·
  rename_i x a b
  refine bV.bind _ fun v _=>?_
  unfold uI
  split
  ·exact hr.code f _ mk fr
  ·exact hr.code f _ mk fr
  ·exact bV.none
 ·
  rename_i id b
  refine bV.then3 (k:=fun x fr _ s=>some (na id (x,fr,s))) (hr.code f b mk fr) fun x fr=>?_
  cases x with
  |normal=>exact bV.ret _ _
  |ret=>exact bV.ret _ _
  |exit i=>
   simp only [na]
   cases Nat.beq i id
   ·exact bV.ret _ _
   ·exact bV.ret _ _
 ·
  rename_i g ps a b
  refine bV.bind _ fun v _=>?_
  unfold qX
  split
  ·rename_i h first captured _
   show bV mk (fun ch s=>bif lQ Q.P h&&(fr.env.all qT&&(eV a&&eV b)) then _ else none)
   cases lQ Q.P h&&(fr.env.all qT&&(eV a&&eV b))
   ·exact bV.none
   ·simp only [cT]
    intro ch s x fr' s' h'
    simp only [aF] at h'
    obtain⟨⟨v,s1⟩,h1,h2⟩:=h'
    simp only [tR,aF] at h2
    obtain⟨o,h3,h4⟩:=h2
    obtain⟨g1,e1⟩:=hr.call h _ mk ch _ v s1 h1
    have g0:=fN.new mk s (.loop f fr.env fr.size ps.toList a b none)
    cases o with
    |loop f' env' size' ps' a' b' p=>
     simp only [a7,bK] at h4
     obtain⟨rfl,rfl,rfl⟩:=h4
     have g2:=fN.put h3 (mk:=mk) none
     refine⟨(g0.trans g1).trans g2,fun ch' s2 hc y=>?_⟩
     have s0:=gq.new y (.loop f fr.env fr.size ps.toList a b none)
     obtain⟨s21,q1,q2⟩:=e1 ch' _ hc (s0.sees y g0)
     have hn:s2.next=s.next:=y.next
     have y1:=q2.sees (s0.sees y g0) g1
     refine⟨s21.put s.next none,?_,(s0.trans g0 g1 q2).trans (g0.trans g1) g2 (.put y1 h3 none)⟩
     simp only [hn,q1,ak,tR,y1.look h3]
    |cells _=>cases h4
    |tok=>cases h4
    |map _ _=>cases h4
    |iter _ _ _ _=>cases h4
  ·exact bV.none
omit hr in
theorem Q6 (mk:bj) (fr:Fr) (l:List ResultVar):RO mk (fun s=>gh Q mk fr s l):=by
 intro s s2 b h hl
 induction l generalizing b with
 |nil=>exact h
 |cons x l ih=>
  simp only [gh,aF] at h ⊢
  obtain⟨v,hv,vs,hvs,h⟩:=h
  refine⟨v,?_,vs,ih vs hvs,h⟩
  cases x with
  |tmp t=>exact hv
  |cell a t=>exact Sn t _ fr.loc s s2 v hv hl
theorem ahF (f:FuncId) (args:List ai) (mk:bj):cS mk (fun ch s=>jk (Q.at ch) (r ch) f args mk s):=by
 unfold jk
 show cS mk (fun ch s=>match Q.spec f with
  |some sp=>(sp args).bind fun v=>some (v,s)
  |none=>match Q.specH f with
   |some sp=>(mF (s.get mk) (sp args)).bind fun v=>some (v,s)
   |none=>match Q.specW f with
   |some sp=>(sp args).bind (p8 mk s)
   |none=>(Q.P.funcs[f]?).bind fun fn=>fn.body.bind fun c=>
    ((r ch).code f c mk ⟨cM 0 args,bif cr args.length fn.ntmps then fn.ntmps else args.length,[]⟩ s).bind (nh (Q.at ch) fn mk))
 cases Q.spec f with
 |some sp=>exact cS.pureOpt _
 |none=>
  cases Q.specH f with
  |some sp=>exact ahR mk (sp args)
  |none=>
  cases Q.specW f with
  |some sp=>
   refine cS.opt (k:=fun p _ s=>p8 mk s p) (sp args) fun p _=>?_
   cases p with
   |none=>exact cS.ret _
   |some p=>
   refine cS.of_put (f:=fun s=>(s.get mk p.1).bind (vR s p)) ?_
   intro s a s' h
   simp only [aF] at h
   obtain⟨o,h1,h⟩:=h
   cases o<;>simp only [vR,aF,a7,bK,reduceCtorEq] at h
   obtain⟨cs',h2,rfl,rfl⟩:=h
   exact⟨p.1,_,_,h1,rfl,fun s2 y=>by simp only [y.look h1,ak,vR,h2]⟩
  |none=>
  refine cS.opt _ fun fn _=>cS.opt _ fun c _=>?_
  refine bV.then1 (k:=fun x fr ch s=>nh (Q.at ch) fn mk (x,fr,s)) (hr.code f c mk _) fun x fr=>?_
  have fin:cS mk (fun(ch:Nat→Nat) s=>(gh (Q.at ch) mk fr s fn.results.toList).bind fun vs=>some (jw vs,s)):=by
   intro ch s v s' h
   simp only [aF] at h
   obtain⟨vs,hvs,h⟩:=h
   simp only [a7,bK] at h
   obtain⟨rfl,rfl⟩:=h
   refine⟨.refl mk _,fun ch' s2 _ y=>⟨s2,?_,.refl y⟩⟩
   have:=Q6 (Q:=Q.at ch) mk fr fn.results.toList s s2 vs hvs (fun n o ho=>y.look ho)
   have:gh (Q.at ch') mk fr s2 fn.results.toList=some vs:=by
    rw [←this]
    clear hvs this
    generalize fn.results.toList=l
    induction l with
    |nil=>rfl
    |cons x l ih=>simp only [gh,ih];cases x<;>rfl
   simp [this]
  cases x with
  |normal=>exact fin
  |ret=>exact fin
  |exit i=>exact cS.none
end
theorem j1 (Q:ck): ∀n:Nat,A8 (fun ch=>cG (Q.at ch) n)
 |0=>⟨fun _ _ _ _ _=>cS.none,fun _ _ _ _ _ _ _ _=>cS.none,fun _ _ _ _=>bV.none,fun _ _ _=>cS.none⟩
 |n+1=>⟨fun f all mk l fr=>ahP (j1 Q n) f all mk l fr,fun f all bs mk rs i l fr=>ahJ (j1 Q n) f all bs mk rs i l fr,
  fun f c mk fr=>ahH (j1 Q n) f c mk fr,fun f args mk=>ahF (j1 Q n) f args mk⟩
def fA {α:Type} (x:(Nat→Nat)→St→Option (α×St)):Prop:=
 ∀ch s a s',x ch s=some (a,s')→ ∀ch',(∀i,i<s'.ci→ch' i=ch i)→x ch' s=some (a,s')
def fB {α β:Type} (x:(Nat→Nat)→St→Option (α×β×St)):Prop:=
 ∀ch s a b s',x ch s=some (a,b,s')→ ∀ch',(∀i,i<s'.ci→ch' i=ch i)→x ch' s=some (a,b,s')
theorem fA.const {α:Type} (f:St→Option (α×St)):fA (fun _ s=>f s):=fun _ _ _ _ h _ _=>h
theorem fB.const {α β:Type} (f:St→Option (α×β×St)):fB (fun _ s=>f s):=fun _ _ _ _ _ h _ _=>h
section
variable {mk:bj} {α β γ δ:Type}
theorem fA.opt (x:Option β) {k:β→(Nat→Nat)→St→Option (α×St)} (hk: ∀b,x=some b→fA (k b)):fA (fun ch s=>x.bind fun b=>k b ch s):=by
 cases x with
 |none=>intro ch s v s' h;cases h
 |some b=>exact hk b rfl
theorem fB.opt (x:Option β) {k:β→(Nat→Nat)→St→Option (α×γ×St)} (hk: ∀b,x=some b→fB (k b)):fB (fun ch s=>x.bind fun b=>k b ch s):=by
 cases x with
 |none=>intro ch s v l s' h;cases h
 |some b=>exact hk b rfl
theorem fA.then1 {x:(Nat→Nat)→St→Option (α×St)} {k:α→(Nat→Nat)→St→Option (β×St)} (hx:fA x) (hk: ∀a,fA (k a)) (gk: ∀a,cS mk (k a)):fA (fun ch s=>(x ch s).bind fun r=>k r.1 ch r.2):=by
 intro ch s v s' h ch' hc
 simp only [aF] at h ⊢
 obtain⟨⟨a,s1⟩,h1,h2⟩:=h
 exact⟨(a,s1),hx ch s a s1 h1 ch' (fun i hi=>hc i (gn hi ((gk a ch s1 v s' h2).1.ci))),hk a ch s1 v s' h2 ch' hc⟩
theorem fA.then3 {x:(Nat→Nat)→St→Option (α×St)} {k:α→(Nat→Nat)→St→Option (β×γ×St)} (hx:fA x) (hk: ∀a,fB (k a)) (gk: ∀a,bV mk (k a)):fB (fun ch s=>(x ch s).bind fun r=>k r.1 ch r.2):=by
 intro ch s v l s' h ch' hc
 simp only [aF] at h ⊢
 obtain⟨⟨a,s1⟩,h1,h2⟩:=h
 exact⟨(a,s1),hx ch s a s1 h1 ch' (fun i hi=>hc i (gn hi ((gk a ch s1 v l s' h2).1.ci))),hk a ch s1 v l s' h2 ch' hc⟩
theorem fB.then1 {x:(Nat→Nat)→St→Option (α×β×St)} {k:α→β→(Nat→Nat)→St→Option (γ×St)} (hx:fB x) (hk: ∀a b,fA (k a b)) (gk: ∀a b,cS mk (k a b)):fA (fun ch s=>(x ch s).bind fun r=>k r.1 r.2.1 ch r.2.2):=by
 intro ch s v s' h ch' hc
 simp only [aF] at h ⊢
 obtain⟨⟨a,b,s1⟩,h1,h2⟩:=h
 exact⟨(a,b,s1),hx ch s a b s1 h1 ch' (fun i hi=>hc i (gn hi ((gk a b ch s1 v s' h2).1.ci))),hk a b ch s1 v s' h2 ch' hc⟩
theorem fB.then3 {x:(Nat→Nat)→St→Option (α×β×St)} {k:α→β→(Nat→Nat)→St→Option (γ×δ×St)} (hx:fB x) (hk: ∀a b,fB (k a b)) (gk: ∀a b,bV mk (k a b)):fB (fun ch s=>(x ch s).bind fun r=>k r.1 r.2.1 ch r.2.2):=by
 intro ch s v l s' h ch' hc
 simp only [aF] at h ⊢
 obtain⟨⟨a,b,s1⟩,h1,h2⟩:=h
 exact⟨(a,b,s1),hx ch s a b s1 h1 ch' (fun i hi=>hc i (gn hi ((gk a b ch s1 v l s' h2).1.ci))),hk a b ch s1 v l s' h2 ch' hc⟩
end
theorem VD (mk:bj) (kmax:Nat→Nat) (it:ai) (isString:Bool):fA (fun ch s=>j5 mk ch kmax it isString s):=by
 intro ch s u s' h ch' hc
 obtain⟨_,e⟩:=Q0 (mk:=mk) kmax it isString ch s u s' h
 simp only [j5] at h ⊢
 split at h
 ·rename_i n
  simp only [aF] at h ⊢
  obtain⟨ob,hob,h⟩:=h
  refine⟨ob,hob,?_⟩
  split at h
  ·exact h
  ·rename_i m since seen stepped
   cases isString
   ·simp only [cF,aF] at h ⊢
    obtain⟨ob2,hob2,h⟩:=h
    refine⟨ob2,hob2,?_⟩
    split at h
    ·rename_i es clock
     replace h:=gr h
     rcases h with⟨_,h⟩|⟨hgo,h⟩
     ·cases h
     ·simp only [hgo,cF]
      generalize dq seen es=UL at h ⊢
      unfold my at h ⊢
      split at h
      ·exact h
      ·rename_i e1 r
       replace h:=bW h
       obtain⟨hall,h⟩:=h
       simp only [hall,cT]
       split at h
       ·exact h
       ·replace h:=bW h
        obtain⟨hk,h⟩:=h
        simp only [hk,cT]
        simp only [aF] at h ⊢
        obtain⟨e',he',h⟩:=h
        have hlt:s.ci<s'.ci:=by
         simp only [a7,bK] at h
         rw [←h.2];exact ic _
        exact⟨e',by rw [hc s.ci hlt];exact he',h⟩
    ·cases h
   ·cases h
  ·cases h
 ·cases h
theorem Vw {P:Program} (mk:bj) (kmax:Nat→Nat) (hint:Tmp→Nat) (dst:Option Tmp) (op:Op) (fr:Fr):fB (fun ch s=>jV P mk ch kmax hint dst op fr s):=by
 cases op<;>simp only [jV]<;>first
  |exact fB.const _
  |skip
 rename_i it isString
 refine fB.opt _ fun x _=>?_
 intro ch s v l s' h ch' hc
 simp only [gR,aF] at h ⊢
 obtain⟨⟨v1,s1⟩,h1,h⟩:=h
 refine⟨(v1,s1),VD mk kmax x isString ch s v1 s1 h1 ch' ?_,h⟩
 simp only [a7,bK] at h
 rw [h.2.2];exact hc
structure F8 (r:(Nat→Nat)→kX):Prop where
 ops: ∀f all mk l fr,fA (fun ch s=>(r ch).ops f all mk l fr s)
 draw: ∀f all bs mk rs i l fr,fA (fun ch s=>(r ch).draw f all bs mk rs i l fr s)
 code: ∀f c mk fr,fB (fun ch s=>(r ch).code f c mk fr s)
 call: ∀f args mk,fA (fun ch s=>(r ch).call f args mk s)
section
variable {Q:ck} {r:(Nat→Nat)→kX} (hl:A8 r) (hr:F8 r)
include hl hr
theorem VF (n:Nat) (args:List ai) (mk:bj):fA (fun ch s=>kR (r ch) n args mk s):=by
 intro ch s v s' h ch' hc
 simp only [kR,aF,a7,bK] at h ⊢
 obtain⟨o,h1,⟨u,o',s3⟩,h2,rfl,rfl⟩:=h
 refine⟨o,h1,(u,o',s3),?_,rfl,rfl⟩
 have hc: ∀i,i<s3.ci→ch' i=ch i:=hc
 unfold uc at h2 ⊢
 split at h2
 ·obtain⟨hb,h2⟩:=bW h2
  simp only [hb,cT,aF] at h2 ⊢
  obtain⟨env',h3,⟨x,fr,s4⟩,h4,h5⟩:=h2
  refine⟨env',h3,(x,fr,s4),?_,?_⟩
  all_goals cases x with
   |exit i=>cases h5
   |ret=>cases h5
   |normal=>
    simp only [sN,aF] at h5 ⊢
    obtain⟨⟨x2,fr2,s5⟩,h6,h7⟩:=h5
    have e5:s5=s3:=by cases x2<;>(simp only [ub,a7,bK] at h7;exact h7.2.2)
    subst e5
    have g2:=(hl.code _ _ mk _ ch s4 x2 fr2 s5 h6).1
    first
     |exact hr.code _ _ mk _ ch _ _ fr s4 h4 ch' (fun i hi=>hc i (gn hi g2.ci))
     |exact⟨(x2,fr2,s5),hr.code _ _ mk _ ch s4 x2 fr2 s5 h6 ch' hc,h7⟩
 ·cases h2
theorem wH (f:FuncId) (o:Oper) (mk:bj) (fr:Fr):fB (fun ch s=>fp (Q.at ch) (r ch) f o mk fr s):=by
 have _:=hl
 unfold fp
 split
 ·split
  ·exact fun ch s a b s' h ch' _=>h
  ·rename_i c _ _ _
   cases lS fr.env c
   case' true=>
    unfold oG
    exact fB.opt _ fun g _=>fA.then3 (mk:=mk) (k:=fun v _ s=>some (v,fr.loc,s)) (VF hl hr g.1 g.2 mk) (fun v=>fB.const _) fun v=>bV.ret v fr.loc
   unfold lf
   exact fB.opt _ fun g _=>fA.then3 (mk:=mk) (k:=fun v _ s=>some (v,fr.loc,s)) (hr.call g.1 g.2 mk) (fun v=>fB.const _) fun v=>bV.ret v fr.loc
 ·exact Vw _ _ _ _ _ _
theorem VE (f:FuncId) (all:Array Oper) (mk:bj) (l:List Oper) (fr:Fr):fA (fun ch s=>kz (Q.at ch) (r ch) f all mk l fr s):=by
 unfold kz
 split
 ·exact fA.const _
 ·rename_i o rest
  cases eJ all fr.env o
  ·exact fA.opt _ fun fr' _=>hr.ops f all mk rest fr'
  ·exact fB.then1 (mk:=mk) (k:=fun v l ch s=>(d7 fr o.dst v l).bind fun fr'=>(r ch).ops f all mk rest fr' s) (wH hl hr f o mk fr) (fun v l=>fA.opt _ fun fr' _=>hr.ops f all mk rest fr') fun v l=>cS.opt _ fun fr' _=>hl.ops f all mk rest fr'
theorem VC (f:FuncId) (all:Array Oper) (bs:List Nat) (mk:bj) (rs:List dQ) (i:Nat) (l:List Oper) (fr:Fr):fA (fun ch s=>lh (Q.at ch) (r ch) f all bs mk rs i l fr s):=by
 unfold lh
 split
 ·exact fA.const _
 ·rename_i o rest
  cases eJ all fr.env o
  ·exact fA.opt _ fun fr' _=>hr.draw f all bs.tail mk rs (i+1) rest fr'
  ·intro ch s v s' h ch' hc
   simp only [cT,aF] at h ⊢
   obtain⟨⟨u,l,s1⟩,h1,h⟩:=h
   replace h:=bW h
   obtain⟨hcond,h⟩:=h
   simp only [aF] at h
   obtain⟨fr',hfr,h⟩:=h
   have g2:=(hl.draw _ _ _ _ _ _ _ _ ch (s.least s1) v s' h).1
   refine⟨(u,l,s1),wH (Q:=Q) hl hr f o _ fr ch _ u l s1 h1 ch' (fun j hj=>hc j (gn hj g2.ci)),?_⟩
   have hc':(fits (bs.headD 0) (dr ((Q.at ch').hint f) o.dst fr.env o.op) (s1.minw.blt s.next||isStore o.op) rs&&s.ci.beq s1.ci)=true:=hcond
   simp only [hc',cT,hfr,ak]
   exact hr.draw _ _ _ _ _ _ _ _ ch (s.least s1) v s' h ch' hc
theorem VB (f:FuncId) (c:Code) (mk:bj) (fr:Fr):fB (fun ch s=>rG (Q.at ch) (r ch) f c mk fr s):=by
 have hseq: ∀(x:Ex) (fr:Fr) (b:Code),fB (fun ch s=>mI (r ch) f b mk (x,fr,s))∧bV mk (fun ch s=>mI (r ch) f b mk (x,fr,s)):=by
  intro x fr b
  cases x with
  |normal=>exact⟨hr.code f b mk fr,hl.code f b mk fr⟩
  |exit i=>exact⟨fB.const _,bV.ret _ _⟩
  |ret=>exact⟨fB.const _,bV.ret _ _⟩
 cases c<;>simp only [rG]<;>first
  |exact fB.const _
  |exact fB.then3 (mk:=mk) (hr.code f _ mk fr) (fun x fr=>(hseq x fr _).1) (fun x fr=>(hseq x fr _).2)
  |exact hr.code f _ mk fr
  |skip
 ·rename_i id ops draw
  unfold Aq
  cases draw
  ·exact fA.then3 (mk:=mk) (k:=fun fr _ s=>some (Ex.normal,fr,s)) (hr.ops f ops mk ops.toList fr) (fun _=>fB.const _) fun _=>bV.ret _ _
  ·simp only [cT]
   cases kE ops 0 ops.toList (Region.before ops).toList
   ·exact fB.const _
   ·exact fA.then3 (mk:=mk) (k:=fun fr _ s=>some (Ex.normal,fr,s)) (hr.draw f ops _ mk [] 0 ops.toList fr) (fun _=>fB.const _) fun _=>bV.ret _ _
 ·rename_i x a b
  refine fB.opt _ fun v _=>?_
  unfold uI
  split
  ·exact hr.code f _ mk fr
  ·exact hr.code f _ mk fr
  ·exact fB.const _
 ·rename_i id b
  intro ch s x fr' s' h ch' hc
  simp only [aF] at h ⊢
  obtain⟨⟨x1,fr1,s1⟩,h1,h⟩:=h
  refine⟨(x1,fr1,s1),hr.code f b mk fr ch s x1 fr1 s1 h1 ch' ?_,h⟩
  have:s1=s':=by
   simp only [a7] at h
   cases x1 with
   |normal=>simp only [na,bK] at h;exact h.2.2
   |ret=>simp only [na,bK] at h;exact h.2.2
   |exit i=>
    simp only [na] at h
    cases hb:Nat.beq i id<;>rw [hb] at h<;>simp only [cT,cF,bK] at h<;>exact h.2.2
  rw [this];exact hc
 ·rename_i g ps a b
  refine fB.opt _ fun v _=>?_
  unfold qX
  split
  ·rename_i h first captured _
   show fB (fun ch s=>bif lQ Q.P h&&(fr.env.all qT&&(eV a&&eV b)) then _ else none)
   cases lQ Q.P h&&(fr.env.all qT&&(eV a&&eV b))
   ·exact fB.const _
   ·simp only [cT]
    intro ch s x fr' s' h' ch' hc
    simp only [aF] at h' ⊢
    obtain⟨⟨v,s1⟩,h1,h2⟩:=h'
    refine⟨(v,s1),?_,h2⟩
    have:s1.ci=s'.ci:=by
     simp only [tR,aF] at h2
     obtain⟨o,_,h4⟩:=h2
     cases o with
     |loop f' env' size' ps' a' b' p=>
      simp only [a7,bK] at h4
      rw [←h4.2.2];rfl
     |_=>cases h4
    exact hr.call h _ mk ch _ v s1 h1 ch' (by rw [this];exact hc)
  ·exact fB.const _
omit hl in
theorem VA (f:FuncId) (args:List ai) (mk:bj):fA (fun ch s=>jk (Q.at ch) (r ch) f args mk s):=by
 unfold jk
 show fA (fun ch s=>match Q.spec f with
  |some sp=>(sp args).bind fun v=>some (v,s)
  |none=>match Q.specH f with
   |some sp=>(mF (s.get mk) (sp args)).bind fun v=>some (v,s)
   |none=>match Q.specW f with
   |some sp=>(sp args).bind (p8 mk s)
   |none=>(Q.P.funcs[f]?).bind fun fn=>fn.body.bind fun c=>
    ((r ch).code f c mk ⟨cM 0 args,bif cr args.length fn.ntmps then fn.ntmps else args.length,[]⟩ s).bind (nh (Q.at ch) fn mk))
 cases Q.spec f with
 |some sp=>exact fA.const _
 |none=>
  cases Q.specH f with
  |some sp=>exact fA.const _
  |none=>
  cases Q.specW f with
  |some sp=>exact fA.const (fun s=>(sp args).bind (p8 mk s))
  |none=>
  refine fA.opt _ fun fn _=>fA.opt _ fun c _=>?_
  intro ch s v s' h ch' hc
  simp only [aF] at h ⊢
  obtain⟨⟨x1,fr1,s1⟩,h1,h⟩:=h
  have hres: ∀l,gh (Q.at ch') mk fr1 s1 l=gh (Q.at ch) mk fr1 s1 l:=by
   intro l
   induction l with
   |nil=>rfl
   |cons x l ih=>simp only [gh,ih];cases x<;>rfl
  have:s1=s'∧nh (Q.at ch') fn mk (x1,fr1,s1)=some (v,s'):=by
   cases x1 with
   |exit i=>cases h
   |normal=>
    simp only [nh,aF] at h ⊢
    obtain⟨vs,hvs,h⟩:=h
    simp only [a7,bK] at h
    exact⟨h.2,vs,by rw [hres];exact hvs,by simp [h]⟩
   |ret=>
    simp only [nh,aF] at h ⊢
    obtain⟨vs,hvs,h⟩:=h
    simp only [a7,bK] at h
    exact⟨h.2,vs,by rw [hres];exact hvs,by simp [h]⟩
  exact⟨(x1,fr1,s1),hr.code f c mk _ ch s x1 fr1 s1 h1 ch' (by rw [this.1];exact hc),this.2⟩
end
theorem o0 (Q:ck): ∀n:Nat,F8 (fun ch=>cG (Q.at ch) n)
 |0=>⟨fun _ _ _ _ _=>fA.const _,fun _ _ _ _ _ _ _ _=>fA.const _,fun _ _ _ _=>fB.const _,fun _ _ _=>fA.const _⟩
 |n+1=>⟨fun f all mk l fr=>VE (j1 Q n) (o0 Q n) f all mk l fr,fun f all bs mk rs i l fr=>VC (j1 Q n) (o0 Q n) f all bs mk rs i l fr,
  fun f c mk fr=>VB (j1 Q n) (o0 Q n) f c mk fr,fun f args mk=>VA (o0 Q n) f args mk⟩
section
variable {P:Program} {mk:bj} {ch:Nat→Nat} {kmax:Nat→Nat} {hint:Tmp→Nat} {G:Gh} {s s':St} {B:Nat→Nat} {fr:Fr} {a:Act} {w:World} {o:Oper} {v:ai} {loc':Loc}
theorem Uy (wr:WR G s.heap w) (fx:c8 G s.heap B fr a.tmps w) (he:jV P mk ch kmax hint o.dst o.op fr s=some (v,loc',s')) (hfree: ∀n,s.next≤n→n<s'.next→G.at_ n=none)
 (hch: ∀x b xv,o.op= .next x b→evc fr.env x=some xv→2≤jn mk xv s→ch s.ci % jn mk xv s=(w.tape w.drawn (.mapNext (jn mk xv s))) % jn mk xv s):
 fO P G s.heap w B fr.loc s.next s'.next a o v loc' s'.heap:=by
 cases hop:o.op<;>rw [hop] at he<;>simp only [jV] at he
 case move x=>replace he:=jG he;obtain⟨he,rfl,rfl⟩:=he;exact ai8 hop wr fx he
 case assign x=>replace he:=jG he;obtain⟨he,rfl,rfl⟩:=he;exact aiO hop wr fx he
 case pick c p q=>replace he:=jG he;obtain⟨he,rfl,rfl⟩:=he;exact ajb hop wr fx he
 case alloc e=>exact aiN hop wr fx he hfree
 case box e x=>exact aiQ hop wr fx he hfree
 case build t parts=>replace he:=jG he;obtain⟨he,rfl,rfl⟩:=he;exact aiR hop wr fx he
 case buildSlice t len parts=>exact aiS hop wr fx he hfree
 case load t x=>exact ai2 hop wr fx he
 case store t x z=>exact aje hop wr fx he
 case nilCheck x=>
  simp only [nq,aF] at he
  obtain⟨u,hu,he⟩:=he
  replace he:=jG he
  obtain⟨he,rfl,rfl⟩:=he
  exact aja hop wr fx hu he
 case binOp op t x y yt=>exact aiP hop wr fx he
 case unOp op t x=>exact ajf hop wr fx he
 case convert src dst x=>exact aiU hop wr fx he
 case makeFunc fn first captured=>replace he:=jG he;obtain⟨he,rfl,rfl⟩:=he;exact ai4 hop wr fx he
 case makeMap t r=>exact ai5 hop wr fx he hfree
 case makeSlice t l c=>exact ai6 hop wr fx he hfree
 case slice t x lo hi mx=>exact ajd hop wr fx he
 case fieldAddr t x f=>exact aiZ hop wr fx he
 case field t x f=>exact aiY hop wr fx he
 case indexAddr t x i=>exact ai1 hop wr fx he
 case index t x i=>exact ai0 hop wr fx he
 case lookup t x i ok=>exact ai3 hop wr fx he
 case mapUpdate t m k x=>exact RQ (.inl hop) wr fx he
 case insert t m k x=>exact RQ (.inr hop) wr fx he
 case mapEntry t m k=>exact ai7 hop wr fx he
 case entryStore t m st x=>exact aiW hop wr fx he
 case range t x=>exact ajc hop wr fx he hfree
 case next it isString=>
  simp only [aF] at he
  obtain⟨xv,hx,he⟩:=he
  exact ai9 hop wr fx hx he (hch it isString xv hop hx)
 case entry it=>exact aiV hop wr fx he
 case extract x i=>exact aiX hop wr fx he
 case call c=>exact aiT hop wr fx he hfree
 all_goals cases he
theorem getD_set (tmps:Array Value) (d t:Nat) (x:Value) (hd:d<tmps.size):(tmps.setIfInBounds d x).getD t undef=if t=d then x else tmps.getD t undef:=by
 simp only [kT,Array.getElem?_setIfInBounds]
 by_cases e:d=t
 ·subst e;simp [hd]
 ·simp [e,Ne.symm e]
theorem c8.put {G G':Gh} {h h':bq bE} {B B':Nat→Nat} {fr fr':Fr} {a:Act} {w w':World} {dst:Option Tmp} {v:ai} {x:Value} {loc':Loc} (fx:c8 G h B fr a.tmps w)
 (hp:d7 fr dst v loc'=some fr') (hl:mY G' h' B' loc' w') (hv:LV G' loc' B' v x) (hold: ∀u y,LV G fr.loc B u y→LV G' loc' B' u y):c8 G' h' B' fr' (a.put dst x).tmps w':=by
 unfold d7 at hp
 cases dst with
 |none=>
  injection hp with hp;subst hp
  exact⟨fx.size,fun t=>hold _ _ (fx.env t),hl⟩
 |some d=>
  replace hp:=bW hp
  obtain⟨hd,hp⟩:=hp
  injection hp with hp;subst hp
  have hd:=mi hd
  refine⟨by simp [Act.put,fx.size],fun t=>?_,hl⟩
  show LV G' loc' B' (aq (fr.env.set d (some v)) t) ((a.tmps.setIfInBounds d x).getD t undef)
  rw [getD_set _ _ _ _ (by rw [fx.size];exact hd)]
  unfold aq
  rw [bq.get_set]
  by_cases e:t=d
  ·rw [if_pos e,if_pos e];exact hv
  ·rw [if_neg e,if_neg e];exact hold _ _ (fx.env t)
theorem c8.wanted {G:Gh} {h:bq bE} {B:Nat→Nat} {fr:Fr} {a:Act} {w:World} (fx:c8 G h B fr a.tmps w) (ops:Array Oper) (o:Oper):Region.wanted o (yielded ops a.tmps)=eJ ops fr.env o:=by
 unfold Region.wanted eJ
 cases hg:o.guard with
 |none=>rfl
 |some g=>
  obtain⟨j,want⟩:=g
  simp only [yielded]
  cases hd:(ops[j]?).bind (·.dst) with
  |none=>simp
  |some d=>
   simp only [ak]
   have hl:=fx.env d
   have hget: ∀b,a.tmps[d]? =some (.bool b)↔a.tmps.getD d undef= .bool b:=by
    intro b
    simp only [kT]
    cases hx:a.tmps[d]? with
    |none=>simp [undef]
    |some x=>simp
   cases hn:aq fr.env d with
   |bool b=>
    rw [hn] at hl
    have hl:VR G (.bool b) (a.tmps.getD d undef):=hl
    have:a.tmps[d]? =some (.bool b):=by
     rw [hget]
     generalize a.tmps.getD d undef=x at hl
     cases hl;rfl
    simp [this]
   |lref t g off=>
    rw [hn] at hl
    obtain⟨_,⟨ad,had⟩,_⟩:=hl
    cases hx:a.tmps[d]? with
    |none=>simp
    |some x=>
     have:x= .pointer (some ad):=by rw [←had];simp [kT,hx]
     subst this;simp
   |_=>
    rw [hn] at hl
    have hl:VR G _ (a.tmps.getD d undef):=hl
    cases hx:a.tmps[d]? with
    |none=>simp
    |some x=>
     have e:a.tmps.getD d undef=x:=by simp [kT,hx]
     rw [e] at hl
     cases hl<;>simp
end
end Go.Ag
