/- A result depends on what the evaluator has looked at alone; regions that draw their order; the evaluator is sound. -/
import Derived.Test.YtbfmdojdemckbaaGreatAg1
import Derived.Orders
import Derived.Scope
import Derived.LoopN
import Derived.OrdersIn
import Derived.LoopNIn
import Derived.RangeFuncRecord
open Array renaming ext'→mf,getD_eq_getD_getElem?→mh,getElem?_eq_getElem→nG,getElem?_replicate→Hy,getElem?_setIfInBounds→w9,length_toList→tZ
open Bool renaming and_eq_false_iff→B3,and_eq_true→df,false_eq_true→rB,false_or→jI,not_eq_true'→rC,or_eq_false_iff→mj,or_eq_true→t6
open Classical renaming byContradiction→ml
open List renaming getElem?_eq_getElem→j2,getElem?_toArray→B7,length_cons→aR,mem_cons_of_mem→vm,size_toArray→vq
open Nat renaming add_zero→cQ,beq→bo,ble→cK,blt→cg,le_of_lt→sP,le_refl→bK,le_succ→kF,le_trans→gN,lt_of_lt_of_le→iv,lt_or_ge→iJ,lt_succ_self→iC,zero_add→aQ,zero_le→iK
open Option renaming bind_eq_some_iff→aN,bind_some→aq,getD_some→oh
open Option.some renaming injEq→bp
open Prod.mk renaming injEq→bX
open Go.Result renaming andThen_ok→je
namespace Go.Ag
def lQ (mk:bt) (s s':St) (n:Nat):Prop:=(eA mk n=false/\s.heap.get n≠none)\/(s.next<=n/\n<s'.next)
structure iR (mk:bt) (s s2:St):Prop where
 next:s2.next=s.next
 minw:s2.minw=s.minw
 ci:s2.ci=s.ci
 get: ∀n o,eA mk n=false->s.heap.get n=some o->s2.heap.get n=some o
theorem iR.refl (mk:bt) (s:St):iR mk s s:=⟨rfl,rfl,rfl,fun _ _ _ h=>h⟩
structure hJ (mk:bt) (s s' s2 s2':St):Prop where
 next:s2'.next=s'.next
 minw:s2'.minw=s'.minw
 ci:s2'.ci=s'.ci
 inside: ∀n,lQ mk s s' n->s2'.heap.get n=s'.heap.get n
 outside: ∀n, ¬lQ mk s s' n->s2'.heap.get n=s2.heap.get n
structure gI (mk:bt) (s s':St):Prop where
 next:s.next<=s'.next
 ci:s.ci<=s'.ci
 minw:s'.minw<=s.minw
 frame: ∀n, ¬lQ mk s s' n->s'.heap.get n=s.heap.get n
 noted: ∀n,n<s.next->s'.heap.get n≠s.heap.get n->s'.minw<=n
theorem gI.refl (mk:bt) (s:St):gI mk s s:=⟨bK _,bK _,bK _,fun _ _=>rfl,fun _ _ h=>absurd rfl h⟩
theorem gI.trans {mk:bt} {s s' s'':St} (x:gI mk s s') (y:gI mk s' s''):gI mk s s'' where
 next:=gN x.next y.next
 ci:=gN x.ci y.ci
 minw:=gN y.minw x.minw
 frame n h:=by
  have h1: ¬lQ mk s s' n:=fun t=>h (t.imp id fun t=>⟨t.1,iv t.2 y.next⟩)
  have h2: ¬lQ mk s' s'' n:=fun t=>by
   rcases t with⟨t1,t2⟩|t
   ·rw[x.frame n h1] at t2;exact h (.inl ⟨t1,t2⟩)
   ·exact h (.inr ⟨gN x.next t.1,t.2⟩)
  rw[y.frame n h2,x.frame n h1]
 noted n hn hne:=by
  by_cases h:s'.heap.get n=s.heap.get n
  ·exact y.noted n (iv hn x.next) (by rw[h];exact hne)
  ·exact gN y.minw (x.noted n hn h)
theorem hJ.sees {mk:bt} {s s' s2 s2':St} (a:iR mk s s2) (g:gI mk s s') (x:hJ mk s s' s2 s2'):iR mk s' s2' where
 next:=x.next
 minw:=x.minw
 ci:=x.ci
 get n o hv h:=by
  by_cases t:lQ mk s s' n
  ·rw[x.inside n t];exact h
  ·rw[x.outside n t]
   rw[g.frame n t] at h
   exact a.get n o hv h
theorem hJ.trans {mk:bt} {s s' s'' s2 s2' s2'':St} (gx:gI mk s s') (gy:gI mk s' s'') (x:hJ mk s s' s2 s2') (y:hJ mk s' s'' s2' s2''):hJ mk s s'' s2 s2'' where
 next:=y.next
 minw:=y.minw
 ci:=y.ci
 inside n t:=by
  by_cases t2:lQ mk s' s'' n
  ·exact y.inside n t2
  ·rw[y.outside n t2,gy.frame n t2]
   refine x.inside n ?_
   rcases t with t|t
   ·exact .inl t
   ·refine .inr ⟨t.1,?_⟩
    rcases iJ n s'.next with h|h
    ·exact h
    ·exact absurd (.inr ⟨h,t.2⟩) t2
 outside n t:=by
  have h1: ¬lQ mk s s' n:=fun t'=>t (t'.imp id fun t'=>⟨t'.1,iv t'.2 gy.next⟩)
  have h2: ¬lQ mk s' s'' n:=fun t'=>by
   rcases t' with⟨t1,t2⟩|t'
   ·rw[gx.frame n h1] at t2;exact t (.inl ⟨t1,t2⟩)
   ·exact t (.inr ⟨gN gx.next t'.1,t'.2⟩)
  rw[y.outside n h2,x.outside n h1]
theorem hJ.refl {mk:bt} {s s2:St} (a:iR mk s s2):hJ mk s s s2 s2 where
 next:=a.next
 minw:=a.minw
 ci:=a.ci
 inside n t:=by
  rcases t with⟨t1,t2⟩|t
  ·cases h:s.heap.get n with
   |none=>exact absurd h t2
   |some o=>exact a.get n o t1 h
  ·omega
 outside _ _:=rfl
def dD {α:Type} (mk:bt) (x:(Nat->Nat)->St->Option (α×St)):Prop:=
 ∀ch s a s',x ch s=some (a,s')->gI mk s s'/\ ∀ch' s2,(∀i,i<s'.ci->ch' i=ch i)->iR mk s s2-> ∃s2',x ch' s2=some (a,s2')/\hJ mk s s' s2 s2'
theorem qf {mk:bt} {s:St} {n:Nat} {o:bR} (h:s.get mk n=some o):eA mk n=false/\s.heap.get n=some o:=by
 unfold St.get at h
 cases e:eA mk n with
 |true=>simp[e] at h
 |false=>simp[e] at h;exact⟨rfl,h⟩
theorem iR.look {mk:bt} {s s2:St} (a:iR mk s s2) {n:Nat} {o:bR} (h:s.get mk n=some o):s2.get mk n=some o:=by
 obtain⟨h1,h2⟩:=qf h
 simp[St.get,h1,a.get n o h1 h2]
theorem gI.new (mk:bt) (s:St) (o:bR):gI mk s (s.new o) where
 next:=kF _
 ci:=bK _
 minw:=bK _
 frame n h:=by
  show(s.heap.set s.next (some o)).get n=_
  rw[bD.get_set,if_neg]
  intro e
  exact h (.inr ⟨by omega,by show n<s.next+1;omega⟩)
 noted n hn hne:=by
  refine absurd ?_ hne
  show(s.heap.set s.next (some o)).get n=_
  rw[bD.get_set,if_neg (by omega)]
theorem hJ.new {mk:bt} {s s2:St} (a:iR mk s s2) (o:bR):hJ mk s (s.new o) s2 (s2.new o) where
 next:=by show s2.next+1=s.next+1;rw[a.next]
 minw:=a.minw
 ci:=a.ci
 inside n t:=by
  show(s2.heap.set s2.next (some o)).get n=(s.heap.set s.next (some o)).get n
  rw[bD.get_set,bD.get_set,a.next]
  by_cases e:n=s.next
  ·rw[if_pos e,if_pos e]
  ·rw[if_neg e,if_neg e]
   rcases t with⟨t1,t2⟩|⟨t1,t2⟩
   ·cases h:s.heap.get n with
    |none=>exact absurd h t2
    |some o=>exact a.get n o t1 h
   ·have:n<s.next+1:=t2
    omega
 outside n t:=by
  show(s2.heap.set s2.next (some o)).get n=_
  rw[bD.get_set,if_neg]
  intro e
  rw[a.next] at e
  exact t (.inr ⟨by omega,by show n<s.next+1;omega⟩)
theorem gI.put {mk:bt} {s:St} {n:Nat} {o:bR} (h:s.get mk n=some o) (o':Option bR):gI mk s (s.put n o') where
 next:=bK _
 ci:=bK _
 minw:=by
  show(bif cK s.minw n then s.minw else n)<=s.minw
  cases e:cK s.minw n
  ·simp only[cF]
   rw[pC] at e
   have:=of_decide_eq_false e
   omega
  ·simp
 frame m hm:=by
  show(s.heap.set n o').get m=_
  rw[bD.get_set,if_neg]
  intro e;subst e
  obtain⟨h1,h2⟩:=qf h
  exact hm (.inl ⟨h1,by rw[h2];simp⟩)
 noted m _ hne:=by
  show(bif cK s.minw n then s.minw else n)<=m
  have e:m=n:=by
   by_cases e:m=n
   ·exact e
   ·exfalso
    apply hne
    show(s.heap.set n o').get m=_
    rw[bD.get_set,if_neg e]
  subst e
  cases e:cK s.minw m
  ·simp
  ·simp only[cT];exact jC e
theorem hJ.put {mk:bt} {s s2:St} (a:iR mk s s2) {n:Nat} {o:bR} (h:s.get mk n=some o) (o':Option bR):hJ mk s (s.put n o') s2 (s2.put n o') where
 next:=a.next
 minw:=by show(bif cK s2.minw n then s2.minw else n)=(bif cK s.minw n then s.minw else n);rw[a.minw]
 ci:=a.ci
 inside m t:=by
  show(s2.heap.set n o').get m=(s.heap.set n o').get m
  rw[bD.get_set,bD.get_set]
  by_cases e:m=n
  ·rw[if_pos e,if_pos e]
  ·rw[if_neg e,if_neg e]
   rcases t with⟨t1,t2⟩|⟨t1,t2⟩
   ·cases h:s.heap.get m with
    |none=>exact absurd h t2
    |some o=>exact a.get m o t1 h
   ·have:m<s.next:=t2
    omega
 outside m t:=by
  show(s2.heap.set n o').get m=_
  rw[bD.get_set,if_neg]
  intro e;subst e
  obtain⟨h1,h2⟩:=qf h
  exact t (.inl ⟨h1,by rw[h2];simp⟩)
theorem gI.hide {mk:bt} {s s3:St} {n:Nat} {o:bR} (h:s.get mk n=some o) (g:gI mk (s.put n none) s3) (o':bR):gI mk s (s3.put n (some o')) where
 next:=g.next
 ci:=g.ci
 minw:=by
  have h1:s3.minw<=(bif cK s.minw n then s.minw else n):=g.minw
  have h2:(bif cK s.minw n then s.minw else n)<=s.minw:=(gI.put h none).minw
  have h3:(s3.put n (some o')).minw<=s3.minw:=by
   show(bif cK s3.minw n then s3.minw else n)<=s3.minw
   cases e:cK s3.minw n
   ·rw[pC] at e
    have:=of_decide_eq_false e
    simp only[cF]
    omega
   ·simp
  omega
 frame m hm:=by
  obtain⟨h1,h2⟩:=qf h
  have hmn:m≠n:=fun e=>by subst e;exact hm (.inl ⟨h1,by rw[h2];simp⟩)
  show(s3.heap.set n (some o')).get m=_
  rw[bD.get_set,if_neg hmn]
  have hs1:(s.put n none).heap.get m=s.heap.get m:=by
   show(s.heap.set n none).get m=_
   rw[bD.get_set,if_neg hmn]
  rw[<-hs1]
  refine g.frame m fun t=>hm ?_
  rcases t with⟨t1,t2⟩|t
  ·rw[hs1] at t2;exact .inl ⟨t1,t2⟩
  ·exact .inr t
 noted m hm hne:=by
  have hle:(s3.put n (some o')).minw<=s3.minw/\(s3.put n (some o')).minw<=n:=by
   show(bif cK s3.minw n then s3.minw else n)<=s3.minw/\(bif cK s3.minw n then s3.minw else n)<=n
   cases e:cK s3.minw n
   ·rw[pC] at e
    have:=of_decide_eq_false e
    simp only[cF]
    omega
   ·have:=jC e
    simp only[cT]
    omega
  by_cases hmn:m=n
  ·subst hmn;exact hle.2
  ·have hs1:(s.put n none).heap.get m=s.heap.get m:=by
    show(s.heap.set n none).get m=_
    rw[bD.get_set,if_neg hmn]
   refine gN hle.1 (g.noted m hm ?_)
   rw[hs1]
   intro e
   apply hne
   show(s3.heap.set n (some o')).get m=_
   rw[bD.get_set,if_neg hmn,e]
theorem hJ.hide {mk:bt} {s s3 s2 s23:St} {n:Nat} {o:bR} (_y:iR mk s s2) (h:s.get mk n=some o) (x:hJ mk (s.put n none) s3 (s2.put n none) s23) (o':bR):hJ mk s (s3.put n (some o')) s2 (s23.put n (some o')) where
 next:=x.next
 minw:=by show(bif cK s23.minw n then s23.minw else n)=(bif cK s3.minw n then s3.minw else n);rw[x.minw]
 ci:=x.ci
 inside m t:=by
  show(s23.heap.set n (some o')).get m=(s3.heap.set n (some o')).get m
  rw[bD.get_set,bD.get_set]
  by_cases hmn:m=n
  ·rw[if_pos hmn,if_pos hmn]
  ·rw[if_neg hmn,if_neg hmn]
   refine x.inside m ?_
   rcases t with⟨t1,t2⟩|t
   ·refine .inl ⟨t1,?_⟩
    show(s.heap.set n none).get m≠none
    rw[bD.get_set,if_neg hmn];exact t2
   ·exact .inr t
 outside m t:=by
  obtain⟨h1,h2⟩:=qf h
  have hmn:m≠n:=fun e=>by subst e;exact t (.inl ⟨h1,by rw[h2];simp⟩)
  show(s23.heap.set n (some o')).get m=_
  rw[bD.get_set,if_neg hmn,x.outside m ?_]
  ·show(s2.heap.set n none).get m=_
   rw[bD.get_set,if_neg hmn]
  ·rintro(⟨t1,t2⟩|t')
   ·have t2:(s.heap.set n none).get m≠none:=t2
    rw[bD.get_set,if_neg hmn] at t2
    exact t (.inl ⟨t1,t2⟩)
   ·exact t (.inr t')
def RO {β:Type} (mk:bt) (f:St->Option β):Prop:= ∀s s2 b,f s=some b->(∀n o,s.get mk n=some o->s2.get mk n=some o)->f s2=some b
section
variable {P:Program} {mk:bt}
theorem VL (t:TypeId) (a:aj) (loc:Loc):RO mk (fun s=>lY P mk t a loc s):=by
 intro s s2 b h hl
 unfold lY at h ⊢
 split at h
 ·exact h
 ·simp only[aN] at h ⊢
  obtain⟨ob,hob,h⟩:=h
  exact⟨ob,hl _ _ hob,h⟩
 ·exact h
 ·cases h
theorem VK (g:Bool) (n:Nat) (x:aj):RO mk (fun s=>ku mk g n x s):=by
 intro s s2 b h hl
 unfold ku at h ⊢
 split at h
 ·exact h
 ·exact h
 ·replace h:=cq h
  obtain⟨h1,h⟩:=h
  simp only[h1,cT,aN] at h ⊢
  obtain⟨ob,hob,h⟩:=h
  exact⟨ob,hl _ _ hob,h⟩
 ·cases h
theorem aol (t:TypeId) (x:aj):RO mk (fun s=>ie P mk t x s):=by
 intro s s2 b h hl
 simp only[ie,aN] at h ⊢
 obtain⟨d,hd,h⟩:=h
 refine⟨d,hd,?_⟩
 split at h<;>first
  |exact h
  |(simp only[aN] at h ⊢
    obtain⟨ob,hob,h⟩:=h
    exact⟨ob,hl _ _ hob,h⟩)
  |cases h
theorem aom (t:TypeId) (m k:aj) (ok:Bool):RO mk (fun s=>lZ P mk t m k ok s):=by
 intro s s2 b h hl
 simp only[lZ,aN] at h ⊢
 obtain⟨ke,hke,z,hz,r,hr,h⟩:=h
 refine⟨ke,hke,z,hz,r,?_,h⟩
 unfold yj at hr ⊢
 split at hr
 ·exact hr
 ·simp only[aN] at hr ⊢
  obtain⟨ob,hob,hr⟩:=hr
  exact⟨ob,hl _ _ hob,hr⟩
 ·cases hr
theorem aok (it:aj):RO mk (fun s=>qa mk it s):=by
 intro s s2 b h hl
 unfold qa at h ⊢
 split at h
 ·simp only[aN] at h ⊢
  obtain⟨ob,hob,h⟩:=h
  refine⟨ob,hl _ _ hob,?_⟩
  split at h
  ·simp only[aN] at h ⊢
   obtain⟨ob2,hob2,h⟩:=h
   exact⟨ob2,hl _ _ hob2,h⟩
  ·cases h
 ·cases h
theorem aon (t:TypeId) (x:aj) (lo hi mx:Option Operand) (env:bq):RO mk (fun s=>kg P mk t x lo hi mx env s):=by
 intro s s2 b h hl
 simp only[kg,aN] at h ⊢
 obtain⟨d,hd,h⟩:=h
 refine⟨d,hd,?_⟩
 split at h
 ·exact h
 ·simp only[aN] at h ⊢
  obtain⟨n,hn,h⟩:=h
  exact⟨n,hn,h⟩
 ·simp only[aN] at h ⊢
  obtain⟨n,hn,h⟩:=h
  refine⟨n,hn,?_⟩
  split at h
  ·simp only[aN] at h ⊢
   obtain⟨p,hp,q,hq,ob,hob,h⟩:=h
   exact⟨p,hp,q,hq,ob,hl _ _ hob,h⟩
  ·cases h
 ·cases h
end
def cr {α β:Type} (mk:bt) (x:(Nat->Nat)->St->Option (α×β×St)):Prop:=
 ∀ch s v l s',x ch s=some (v,l,s')->gI mk s s'/\ ∀ch' s2,(∀i,i<s'.ci->ch' i=ch i)->iR mk s s2-> ∃s2',x ch' s2=some (v,l,s2')/\hJ mk s s' s2 s2'
section
variable {P:Program} {mk:bt}
theorem cr.ro {f:St->Option aj} (hf:RO mk f) (l:Loc):cr mk (fun _ s=>gi (f s) l s):=by
 intro ch s v l' s' h
 obtain⟨h1,h2,h3⟩:=kf h
 subst h2;subst h3
 refine⟨.refl mk s',fun ch' s2 _ a=>⟨s2,?_,.refl a⟩⟩
 have:=hf s' s2 v h1 (fun n o ho=>a.look ho)
 simp[gi,this]
theorem cr.const (f:Option aj) (l:Loc):cr mk (fun _ s=>gi f l s):=cr.ro (f:=fun _=>f) (fun _ _ _ h _=>h) l
theorem cr.none {α β:Type}:cr (α:=α) (β:=β) mk (fun _ _=>.none):=by intro ch s v l s' h;cases h
theorem cr.bind {α γ β:Type} (x:Option β) {k:β->(Nat->Nat)->St->Option (α×γ×St)} (hk: ∀b,x=some b->cr mk (k b)):cr mk (fun ch s=>x.bind fun b=>k b ch s):=by
 cases x with
 |none=>intro ch s v l s' h;cases h
 |some b=>exact hk b rfl
theorem cr.vs {f:(Nat->Nat)->St->Option (aj×St)} (hf:dD mk f) (l:Loc):cr mk (fun ch s=>ii (f ch s) l):=by
 intro ch s v l' s' h
 simp only[ii,aN] at h
 obtain⟨⟨v1,s1⟩,h1,h⟩:=h
 simp only[bp,bX] at h
 obtain⟨rfl,rfl,rfl⟩:=h
 obtain⟨g,hh⟩:=hf ch s v1 s1 h1
 refine⟨g,fun ch' s2 hc a=>?_⟩
 obtain⟨s2',h2,h3⟩:=hh ch' s2 hc a
 exact⟨s2',by simp[ii,h2],h3⟩
theorem dD.of_put {α:Type} {f:St->Option (α×St)} (hf: ∀s a s',f s=some (a,s')-> ∃n o o',s.get mk n=some o/\s'=s.put n o'/\ ∀s2,iR mk s s2->f s2=some (a,s2.put n o')):dD mk (fun _ s=>f s):=by
 intro ch s a s' h
 obtain⟨n,o,o',h1,rfl,h2⟩:=hf s a s' h
 exact⟨.put h1 o',fun ch' s2 _ hs=>⟨_,h2 s2 hs,.put hs h1 o'⟩⟩
theorem dD.of_new {α:Type} {f:St->Option (α×St)} (hf: ∀s a s',f s=some (a,s')-> ∃o,s'=s.new o/\ ∀s2,iR mk s s2->f s2=some (a,s2.new o)):dD mk (fun _ s=>f s):=by
 intro ch s a s' h
 obtain⟨o,rfl,h2⟩:=hf s a s' h
 exact⟨.new mk s o,fun ch' s2 _ hs=>⟨_,h2 s2 hs,.new hs o⟩⟩
theorem dD.of_same {α:Type} {f:St->Option (α×St)} (hf: ∀s a s',f s=some (a,s')->s'=s/\ ∀s2,iR mk s s2->f s2=some (a,s2)):dD mk (fun _ s=>f s):=by
 intro ch s a s' h
 obtain⟨rfl,h2⟩:=hf s a s' h
 exact⟨.refl mk _,fun ch' s2 _ hs=>⟨_,h2 s2 hs,.refl hs⟩⟩
theorem dD.of_any {α:Type} {f:St->Option (α×St)} (hf: ∀s a s',f s=some (a,s')->
 (s'=s/\ ∀s2,iR mk s s2->f s2=some (a,s2))\/(∃o,s'=s.new o/\ ∀s2,iR mk s s2->f s2=some (a,s2.new o))\/
 (∃n o o',s.get mk n=some o/\s'=s.put n o'/\ ∀s2,iR mk s s2->f s2=some (a,s2.put n o'))\/
 (∃n o o' o'',s.get mk n=some o/\s'=(s.put n o').new o''/\ ∀s2,iR mk s s2->f s2=some (a,(s2.put n o').new o''))):dD mk (fun _ s=>f s):=by
 intro ch s a s' h
 rcases hf s a s' h with⟨rfl,h2⟩|⟨o,rfl,h2⟩|⟨n,o,o',h1,rfl,h2⟩|⟨n,o,o',o'',h1,rfl,h2⟩
 ·exact⟨.refl mk _,fun ch' s2 _ hs=>⟨_,h2 s2 hs,.refl hs⟩⟩
 ·exact⟨.new mk s o,fun ch' s2 _ hs=>⟨_,h2 s2 hs,.new hs o⟩⟩
 ·exact⟨.put h1 o',fun ch' s2 _ hs=>⟨_,h2 s2 hs,.put hs h1 o'⟩⟩
 ·have g1:=gI.put h1 o'
  exact⟨g1.trans (.new mk _ o''),fun ch' s2 _ hs=>⟨_,h2 s2 hs,hJ.trans g1 (.new mk _ o'') (.put hs h1 o') (.new ((hJ.put hs h1 o').sees hs g1) o'')⟩⟩
end
section
variable {P:Program} {mk:bt}
theorem alF (t:TypeId) (m k v:aj) (l:Loc):cr mk (fun _ s=>mN (mR P mk t m k v s) l):=by
 intro ch s u l' s' h
 simp only[mN,aN] at h
 obtain⟨s1,h1,h⟩:=h
 simp only[bp,bX] at h
 obtain⟨rfl,rfl,rfl⟩:=h
 simp only[mR,aN] at h1
 obtain⟨ke,hke,h1⟩:=h1
 split at h1
 ·rename_i n
  simp only[aN] at h1
  obtain⟨ob,hob,h1⟩:=h1
  split at h1
  ·rename_i es clock
   simp only[aN] at h1
   obtain⟨r,hr,h1⟩:=h1
   split at h1
   ·rename_i x
    replace h1:=cq h1
    obtain⟨hc,h1⟩:=h1
    injection h1 with h1;subst h1
    exact⟨.put hob _,fun ch' s2 _ a=>⟨_,by simp[mN,mR,hke,a.look hob,hr,hc],.put a hob _⟩⟩
   ·injection h1 with h1;subst h1
    exact⟨.put hob _,fun ch' s2 _ a=>⟨_,by simp[mN,mR,hke,a.look hob,hr],.put a hob _⟩⟩
  ·cases h1
 ·cases h1
theorem alz (t:TypeId) (m k:aj):dD mk (fun _ s=>uH P mk t m k s):=by
 refine dD.of_put ?_
 intro s u s' h1
 simp only[uH,aN] at h1
 obtain⟨ke,hke,z,hz,h1⟩:=h1
 split at h1
 ·rename_i n
  simp only[aN] at h1
  obtain⟨ob,hob,h1⟩:=h1
  split at h1
  ·rename_i es clock
   simp only[aN] at h1
   obtain⟨r,hr,h1⟩:=h1
   split at h1
   ·rename_i x
    replace h1:=cq h1
    obtain⟨hc,h1⟩:=h1
    simp only[bp,bX] at h1
    obtain⟨rfl,rfl⟩:=h1
    exact⟨n,_,_,hob,rfl,fun s2 a=>by simp[uH,hke,hz,a.look hob,hr,hc]⟩
   ·simp only[bp,bX] at h1
    obtain⟨rfl,rfl⟩:=h1
    exact⟨n,_,_,hob,rfl,fun s2 a=>by simp[uH,hke,hz,a.look hob,hr]⟩
  ·cases h1
 ·cases h1
theorem alv (m st v:aj) (l:Loc):cr mk (fun _ s=>mN (vO mk m st v s) l):=by
 intro ch s u l' s' h
 simp only[mN,aN] at h
 obtain⟨s1,h1,h⟩:=h
 simp only[bp,bX] at h
 obtain⟨rfl,rfl,rfl⟩:=h
 simp only[vO,aN] at h1
 obtain⟨b,hb,h1⟩:=h1
 split at h1
 ·rename_i n
  simp only[aN] at h1
  obtain⟨ob,hob,h1⟩:=h1
  split at h1
  ·simp only[aN] at h1
   obtain⟨es',hes,h1⟩:=h1
   injection h1 with h1;subst h1
   exact⟨.put hob _,fun ch' s2 _ a=>⟨_,by simp[mN,vO,hb,a.look hob,hes],.put a hob _⟩⟩
  ·cases h1
 ·cases h1
theorem alB (t:TypeId) (x:aj):dD mk (fun _ s=>l6 P mk t x s):=by
 refine dD.of_new ?_
 intro s u s' h1
 simp only[l6,aN] at h1
 obtain⟨d,hd,h1⟩:=h1
 split at h1
 ·split at h1
  ·simp only[bp,bX] at h1
   obtain⟨rfl,rfl⟩:=h1
   exact⟨_,rfl,fun s2 a=>by simp[l6,hd,a.next]⟩
  ·simp only[aN] at h1
   obtain⟨ob,hob,h1⟩:=h1
   split at h1
   ·simp only[bp,bX] at h1
    obtain⟨rfl,rfl⟩:=h1
    exact⟨_,rfl,fun s2 a=>by simp[l6,hd,a.look hob,a.next]⟩
   ·cases h1
  ·cases h1
 ·cases h1
theorem gI.ci_succ {s s':St} (g:gI mk s s') (_h:s'.ci=s.ci):gI mk s {s' with ci:=s.ci+1 }:=⟨g.next,kF _,g.minw,g.frame,g.noted⟩
theorem hJ.ci_succ {s s' s2 s2':St} (a:iR mk s s2) (g:hJ mk s s' s2 s2'):hJ mk s {s' with ci:=s.ci+1 } s2 {s2' with ci:=s2.ci+1 }:=
 ⟨g.next,g.minw,by show s2.ci+1=s.ci+1;rw[a.ci],g.inside,g.outside⟩
theorem Uh (kmax:Nat->Nat) (it:aj) (isString:Bool):dD mk (fun ch s=>kR mk ch kmax it isString s):=by
 intro ch s u s' h1
 simp only[kR] at h1 ⊢
 split at h1
 ·rename_i n
  simp only[aN] at h1
  obtain⟨ob,hob,h1⟩:=h1
  split at h1
  ·replace h1:=hQ h1
   rcases h1 with⟨_,h1⟩|⟨hs,h1⟩
   ·cases h1
   ·simp only[bp,bX] at h1
    obtain⟨rfl,rfl⟩:=h1
    exact⟨.refl mk _,fun ch' s2 _ a=>⟨s2,by simp[a.look hob,hs],.refl a⟩⟩
  ·rename_i m since seen stepped
   replace h1:=hQ h1
   rcases h1 with⟨_,h1⟩|⟨hs,h1⟩
   ·cases h1
   ·simp only[aN] at h1
    obtain⟨ob2,hob2,h1⟩:=h1
    split at h1
    ·rename_i es clock
     replace h1:=hQ h1
     rcases h1 with⟨_,h1⟩|⟨hgo,h1⟩
     ·cases h1
     ·generalize hUL:dK seen es=UL at h1
      unfold nV at h1
      split at h1
      ·simp only[bp,bX] at h1
       obtain⟨rfl,rfl⟩:=h1
       exact⟨.refl mk _,fun ch' s2 _ a=>⟨s2,by simp[a.look hob,a.look hob2,hs,hgo,hUL,nV],.refl a⟩⟩
      ·rename_i e r
       replace h1:=cq h1
       obtain⟨hall,h1⟩:=h1
       split at h1
       ·simp only[bp] at h1
        have e1:u=(pL n m since clock seen e s).1:=by rw[h1]
        have e2:s'=s.put n (some (.iter (some m) since (seen++[e.born]) clock)):=(congrArg Prod.snd h1).symm
        subst e1;subst e2
        refine⟨.put hob _,fun ch' s2 _ a=>⟨_,?_,.put a hob _⟩⟩
        simp only[a.look hob,a.look hob2,aq,hs,cF,hgo,hUL,nV,hall,cT]
        rfl
       ·rename_i e2 r2
        replace h1:=cq h1
        obtain⟨hk,h1⟩:=h1
        simp only[aN] at h1
        obtain⟨e',he',h1⟩:=h1
        simp only[bp,bX] at h1
        obtain⟨rfl,rfl⟩:=h1
        refine⟨gI.ci_succ (s':=s.put n (some (.iter (some m) since (seen++[e'.born]) clock))) (.put hob _) rfl,fun ch' s2 hch a=>⟨_,?_,hJ.ci_succ a (.put a hob _)⟩⟩
        have hci:ch' s2.ci=ch s.ci:=by rw[a.ci];exact hch s.ci (iC _)
        rw[<-a.ci] at hk
        simp only[a.look hob,a.look hob2,aq,hs,cF,hgo,hUL,nV,hall,cT,hk,hci,he']
        rfl
    ·cases h1
  ·cases h1
 ·cases h1
theorem alx (t:TypeId) (env:bq) (r:Option Operand):dD mk (fun _ s=>nl P t env r s):=by
 refine dD.of_new ?_
 intro s u s' h1
 unfold nl at h1 ⊢
 rcases r with _|x
 ·simp only[bp,bX] at h1
  obtain⟨rfl,rfl⟩:=h1
  exact⟨_,rfl,fun s2 a=>by simp[a.next]⟩
 ·simp only[aN] at h1
  obtain⟨d,hd,h1⟩:=h1
  split at h1
  ·simp only[aN] at h1
   obtain⟨y,hy,h1⟩:=h1
   split at h1
   ·simp only[bp,bX] at h1
    obtain⟨rfl,rfl⟩:=h1
    exact⟨_,rfl,fun s2 a=>by simp[hd,hy,a.next]⟩
   ·cases h1
  ·cases h1
theorem aly (t:TypeId) (l c:aj) (mu:Bool):dD mk (fun _ s=>tD P t l c mu s):=by
 refine dD.of_new ?_
 intro s u s' h1
 simp only[tD,aN] at h1 ⊢
 obtain⟨E,hE,ln,hl,cn,hc,h1⟩:=h1
 replace h1:=cq h1
 obtain⟨hcond,h1⟩:=h1
 replace h1:=hQ h1
 rcases h1 with⟨hz,h1⟩|⟨hz,h1⟩
 ·simp only[bp,bX] at h1
  obtain⟨rfl,rfl⟩:=h1
  exact⟨_,rfl,fun s2 a=>⟨E,hE,ln,hl,cn,hc,by simp only[hcond,hz,cT,a.next]⟩⟩
 ·simp only[bp,bX] at h1
  obtain⟨rfl,rfl⟩:=h1
  exact⟨_,rfl,fun s2 a=>⟨E,hE,ln,hl,cn,hc,by simp only[hcond,hz,cT,cF,a.next]⟩⟩
theorem alo (t:TypeId) (len:Nat) (parts:List (Nat×Operand)) (mu:Bool) (env:bq):dD mk (fun _ s=>ey P t len parts mu env s):=by
 refine dD.of_any ?_
 intro s u s' h1
 simp only[ey,aN] at h1 ⊢
 obtain⟨E,hE,h1⟩:=h1
 replace h1:=cq h1
 obtain⟨hcond,h1⟩:=h1
 simp only[aN] at h1
 obtain⟨cs,hcs,h1⟩:=h1
 replace h1:=hQ h1
 rcases h1 with⟨hz,h1⟩|⟨hz,h1⟩
 ·simp only[bp,bX] at h1
  obtain⟨rfl,rfl⟩:=h1
  exact .inr (.inl ⟨_,rfl,fun s2 a=>⟨E,hE,by simp only[hcond,cT,hcs,aq,hz,a.next]⟩⟩)
 ·simp only[aN] at h1
  obtain⟨xs,hxs,h1⟩:=h1
  simp only[bp,bX] at h1
  obtain⟨rfl,rfl⟩:=h1
  exact .inl ⟨rfl,fun s2 a=>⟨E,hE,by simp only[hcond,cT,hcs,aq,hz,cF,hxs]⟩⟩
theorem alm (t:TypeId) (x y:aj) (mu:Bool):dD mk (fun _ s=>j6 P mk t x y mu s):=by
 refine dD.of_any ?_
 intro s u s' h1
 simp only[j6,aN] at h1 ⊢
 obtain⟨E,hE,ys,hys,h1⟩:=h1
 have hro: ∀s2,iR mk s s2->ku mk E.g E.n y s2=some ys:=fun s2 a=>VK E.g E.n y s s2 ys hys (fun n o ho=>a.look ho)
 have fin: ∀ {Q1 Q2 Q3 Q4:Prop},Q1\/Q2\/Q3\/Q4->Q1\/Q2\/Q3\/Q4:=fun h=>h
 cases ys with
 |nil=>
  replace h1:=cq h1
  obtain⟨hsl,h1⟩:=h1
  simp only[bp,bX] at h1
  obtain⟨rfl,rfl⟩:=h1
  exact .inl ⟨rfl,fun s2 a=>⟨E,hE,[],hro s2 a,by simp only[hsl,cT]⟩⟩
 |cons y0 yr=>
  simp only at h1
  have made: ∀(zs:List aj),kP E mu zs s=some (u,s')-> ∃o,s'=s.new o/\ ∀s2,iR mk s s2->kP E mu zs s2=some (u,s2.new o):=by
   intro zs hm
   simp only[kP] at hm ⊢
   replace hm:=cq hm
   obtain⟨hr,hm⟩:=hm
   replace hm:=hQ hm
   rcases hm with⟨hz,hm⟩|⟨hz,hm⟩
   ·simp only[bp,bX] at hm
    obtain⟨rfl,rfl⟩:=hm
    exact⟨_,rfl,fun s2 a=>by simp only[hr,hz,cT,a.next]⟩
   ·simp only[bp,bX] at hm
    obtain⟨rfl,rfl⟩:=hm
    exact⟨_,rfl,fun s2 a=>by simp only[hr,hz,cT,cF,a.next]⟩
  unfold mp at h1
  split at h1
  ·obtain⟨o,ho,hm⟩:=made _ h1
   exact .inr (.inl ⟨o,ho,fun s2 a=>⟨E,hE,_,hro s2 a,by simp only[mp];exact hm s2 a⟩⟩)
  ·replace h1:=cq h1
   obtain⟨hsz,h1⟩:=h1
   obtain⟨o,ho,hm⟩:=made _ h1
   exact .inr (.inl ⟨o,ho,fun s2 a=>⟨E,hE,_,hro s2 a,by simp only[mp,hsz,cT];exact hm s2 a⟩⟩)
  ·simp only[aN] at h1
   obtain⟨ob,hob,h1⟩:=h1
   split at h1
   ·replace h1:=cq h1
    obtain⟨hr,h1⟩:=h1
    simp only[bp,bX] at h1
    obtain⟨rfl,rfl⟩:=h1
    exact .inr (.inr (.inr ⟨_,_,none,_,hob,rfl,fun s2 a=>⟨E,hE,_,hro s2 a,by simp only[mp,a.look hob,aq,hr,cT,a.next]⟩⟩))
   ·cases h1
  ·simp only[aN] at h1
   obtain⟨ob,hob,h1⟩:=h1
   split at h1
   ·replace h1:=cq h1
    obtain⟨hr,h1⟩:=h1
    replace h1:=hQ h1
    rcases h1 with⟨he,h1⟩|⟨he,h1⟩
    ·simp only[bp,bX] at h1
     obtain⟨rfl,rfl⟩:=h1
     exact .inr (.inr (.inr ⟨_,_,none,_,hob,rfl,fun s2 a=>⟨E,hE,_,hro s2 a,by simp only[mp,a.look hob,aq,hr,he,cT,a.next]⟩⟩))
    ·replace h1:=cq h1
     obtain⟨hl,h1⟩:=h1
     simp only[aN] at h1
     obtain⟨cs',hw,h1⟩:=h1
     simp only[bp,bX] at h1
     obtain⟨rfl,rfl⟩:=h1
     exact .inr (.inr (.inl ⟨_,_,_,hob,rfl,fun s2 a=>⟨E,hE,_,hro s2 a,by simp only[mp,a.look hob,aq,hr,he,cT,cF,hl,hw]⟩⟩))
   ·cases h1
  ·cases h1
theorem alt (t:TypeId) (x y:aj):dD mk (fun _ s=>xD P mk t x y s):=by
 refine dD.of_any ?_
 intro s u s' h1
 simp only[xD,aN] at h1 ⊢
 obtain⟨E,hE,ys,hys,h1⟩:=h1
 have hro: ∀s2,iR mk s s2->ku mk E.g E.n y s2=some ys:=fun s2 a=>VK E.g E.n y s s2 ys hys (fun n o ho=>a.look ho)
 split at h1
 ·simp only[bp,bX] at h1
  obtain⟨rfl,rfl⟩:=h1
  exact .inl ⟨rfl,fun s2 a=>⟨E,hE,ys,hro s2 a,rfl⟩⟩
 ·simp only[bp,bX] at h1
  obtain⟨rfl,rfl⟩:=h1
  exact .inl ⟨rfl,fun s2 a=>⟨E,hE,ys,hro s2 a,rfl⟩⟩
 ·replace h1:=cq h1
  obtain⟨hr,h1⟩:=h1
  simp only[aN] at h1
  obtain⟨ob,hob,h1⟩:=h1
  split at h1
  ·simp only[aN] at h1
   obtain⟨cs',hw,h1⟩:=h1
   simp only[bp,bX] at h1
   obtain⟨rfl,rfl⟩:=h1
   exact .inr (.inr (.inl ⟨_,_,_,hob,rfl,fun s2 a=>⟨E,hE,ys,hro s2 a,by simp only[hr,cT,a.look hob,aq,hw]⟩⟩))
  ·cases h1
 ·cases h1
theorem alr (t:TypeId) (x:aj):dD mk (fun _ s=>(sZ P mk t x s).bind fun s'=>some (aj.tup [],s')):=by
 refine dD.of_any ?_
 intro s u s' h1
 simp only[aN] at h1 ⊢
 obtain⟨s1,h1,h2⟩:=h1
 simp only[bp,bX] at h2
 obtain⟨rfl,rfl⟩:=h2
 unfold sZ at h1
 split at h1
 ·injection h1 with h1;subst h1
  exact .inl ⟨rfl,fun s2 a=>⟨s2,rfl,rfl⟩⟩
 ·injection h1 with h1;subst h1
  exact .inl ⟨rfl,fun s2 a=>⟨s2,rfl,rfl⟩⟩
 ·simp only[aN] at h1
  obtain⟨ob,hob,h1⟩:=h1
  split at h1
  ·injection h1 with h1;subst h1
   exact .inr (.inr (.inl ⟨_,_,_,hob,rfl,fun s2 a=>⟨_,by simp only[sZ,a.look hob,aq],rfl⟩⟩))
  ·cases h1
 ·injection h1 with h1;subst h1
  exact .inl ⟨rfl,fun s2 a=>⟨s2,rfl,rfl⟩⟩
 ·replace h1:=hQ h1
  rcases h1 with⟨he,h1⟩|⟨he,h1⟩
  ·injection h1 with h1;subst h1
   exact .inl ⟨rfl,fun s2 a=>⟨s2,by simp only[sZ,he,cT],rfl⟩⟩
  ·simp only[aN] at h1
   obtain⟨E,hE,h1⟩:=h1
   replace h1:=cq h1
   obtain⟨hr,h1⟩:=h1
   simp only[aN] at h1
   obtain⟨ob,hob,h1⟩:=h1
   split at h1
   ·simp only[aN] at h1
    obtain⟨cs',hw,h1⟩:=h1
    injection h1 with h1;subst h1
    exact .inr (.inr (.inl ⟨_,_,_,hob,rfl,fun s2 a=>⟨_,by simp only[sZ,he,cF,hE,aq,hr,cT,a.look hob,hw],rfl⟩⟩))
   ·cases h1
 ·cases h1
theorem dD.pureOpt {α:Type} (f:Option α):dD mk (fun _ s=>f.bind fun v=>some (v,s)):=by
 refine dD.of_same ?_
 intro s u s' h1
 simp only[aN] at h1
 obtain⟨v,hv,h1⟩:=h1
 simp only[bp,bX] at h1
 obtain⟨rfl,rfl⟩:=h1
 exact⟨rfl,fun s2 a=>by simp[hv]⟩
theorem alp (b:Builtin) (ts:List TypeId) (mu:Bool) (args:List aj):dD mk (fun _ s=>my P mk b ts mu args s):=by
 intro ch s u s' h1
 unfold my at h1 ⊢
 split at h1
 ·refine dD.of_same (f:=fun s=>(ie P mk _ _ s).bind fun v=>some (v,s)) ?_ ch s u s' h1
  intro s u s' h1
  simp only[aN] at h1 ⊢
  obtain⟨v,hv,h1⟩:=h1
  simp only[bp,bX] at h1
  obtain⟨rfl,rfl⟩:=h1
  exact⟨rfl,fun s2 a=>⟨v,aol _ _ s s2 v hv (fun n o ho=>a.look ho),rfl⟩⟩
 ·cases hc:mH P _ with
  |false=>rw[hc] at h1;cases h1
  |true=>
   rw[hc] at h1
   simp only[cT] at h1 ⊢
   exact alm _ _ _ mu ch s u s' h1
 ·exact alt _ _ _ ch s u s' h1
 ·rename_i t x
  simp only[aN] at h1
  obtain⟨d,hd,s3,hs3,h1⟩:=h1
  have:=alr (P:=P) (mk:=mk) t x ch s u s' (by simp only[hs3,aq];exact h1)
  refine⟨this.1,fun ch' s2 hc a=>?_⟩
  obtain⟨s2',h2,h3⟩:=this.2 ch' s2 hc a
  exact⟨s2',by simpa[hd] using h2,h3⟩
 ·exact dD.pureOpt _ ch s u s' h1
 ·exact dD.pureOpt _ ch s u s' h1
 ·cases h1
theorem alE (t:TypeId) (a v:aj) (loc:Loc):cr mk (fun _ s=>(qC P mk t a v loc s).bind fun r=>some (iB,r.1,r.2)):=by
 intro ch s u l' s' h
 simp only[aN] at h
 obtain⟨⟨l1,s1⟩,h1,h⟩:=h
 simp only[bp,bX] at h
 obtain⟨rfl,rfl,rfl⟩:=h
 simp only[qC,aN] at h1
 obtain⟨n,hn,h1⟩:=h1
 replace h1:=cq h1
 obtain⟨hc,h1⟩:=h1
 split at h1
 ·simp only[aN] at h1
  obtain⟨cs,hcs,cs',hw,h1⟩:=h1
  simp only[bp,bX] at h1
  obtain⟨rfl,rfl⟩:=h1
  exact⟨.refl mk _,fun ch' s2 _ x=>⟨s2,by simp only[qC,hn,aq,hc,cT,hcs,hw],.refl x⟩⟩
 ·simp only[aN] at h1
  obtain⟨ob,hob,h1⟩:=h1
  split at h1
  ·simp only[aN] at h1
   obtain⟨cs',hw,h1⟩:=h1
   simp only[bp,bX] at h1
   obtain⟨rfl,rfl⟩:=h1
   exact⟨.put hob _,fun ch' s2 _ x=>⟨_,by simp only[qC,hn,aq,hc,cT,x.look hob,hw],.put x hob _⟩⟩
  ·cases h1
 ·cases h1
theorem aln (h:Nat) (dst:Option Tmp) (cs:List aj) (loc:Loc):cr mk (fun _ s=>pj h dst cs loc s):=by
 intro ch s u l' s' h1
 unfold pj at h1 ⊢
 replace h1:=hQ h1
 rcases h1 with⟨hb,h1⟩|⟨hb,h1⟩
 ·simp only[aN] at h1
  obtain⟨t,ht,h1⟩:=h1
  simp only[bp,bX] at h1
  obtain⟨rfl,rfl,rfl⟩:=h1
  exact⟨.refl mk _,fun ch' s2 _ x=>⟨s2,by simp only[hb,cT,ht,aq],.refl x⟩⟩
 ·simp only[bp,bX] at h1
  obtain⟨rfl,rfl,rfl⟩:=h1
  exact⟨.new mk s _,fun ch' s2 _ x=>⟨_,by simp only[hb,cF,x.next],.new x _⟩⟩
theorem Ui (hint:Tmp->Nat) (dst:Option Tmp) (c:Call) (fr:Fr):cr mk (fun _ s=>qZ P mk hint dst c fr s):=by
 unfold qZ
 split
 ·exact cr.bind _ fun args _=>cr.vs (alp _ _ _ _) _
 ·exact cr.none
theorem alk (kmax:Nat->Nat) (hint:Tmp->Nat) (dst:Option Tmp) (op:Op) (fr:Fr):cr mk (fun ch s=>kJ P mk ch kmax hint dst op fr s):=by
 cases op<;>simp only[kJ]<;>first
  |exact cr.none
  |exact cr.const _ _
  |exact cr.bind _ fun z _=>aln _ _ _ _
  |exact cr.vs (alo _ _ _ _ _) _
  |exact cr.vs (alx _ _ _) _
  |exact cr.bind _ fun a _=>cr.ro (VL _ _ _) _
  |exact cr.bind _ fun a _=>cr.bind _ fun x _=>alE _ _ _ _
  |exact cr.bind _ fun a _=>cr.const _ _
  |exact cr.bind _ fun a _=>cr.bind _ fun b _=>cr.const _ _
  |exact cr.bind _ fun a _=>cr.bind _ fun b _=>cr.vs (aly _ _ _ _) _
  |exact cr.bind _ fun a _=>cr.ro (aon _ _ _ _ _ _) _
  |exact cr.bind _ fun a _=>cr.bind _ fun b _=>cr.ro (aom _ _ _ _) _
  |exact cr.bind _ fun a _=>cr.bind _ fun b _=>cr.bind _ fun c _=>alF _ _ _ _ _
  |exact cr.bind _ fun a _=>cr.bind _ fun b _=>cr.vs (alz _ _ _) _
  |exact cr.bind _ fun a _=>cr.bind _ fun b _=>cr.bind _ fun c _=>alv _ _ _ _
  |exact cr.bind _ fun a _=>cr.vs (alB _ _) _
  |exact cr.bind _ fun a _=>cr.vs (Uh _ _ _) _
  |exact cr.bind _ fun a _=>cr.ro (aok _) _
  |exact Ui _ _ _ _
end
section
variable {mk:bt} {α β γ δ:Type}
theorem dD.none:dD (α:=α) mk (fun _ _=>.none):=by intro ch s v s' h;cases h
theorem dD.opt (x:Option β) {k:β->(Nat->Nat)->St->Option (α×St)} (hk: ∀b,x=some b->dD mk (k b)):dD mk (fun ch s=>x.bind fun b=>k b ch s):=by
 cases x with
 |none=>intro ch s v s' h;cases h
 |some b=>exact hk b rfl
theorem dD.ret (a:α):dD mk (fun _ s=>some (a,s)):=by
 intro ch s v s' h
 simp only[bp,bX] at h
 obtain⟨rfl,rfl⟩:=h
 exact⟨.refl mk _,fun ch' s2 _ x=>⟨s2,rfl,.refl x⟩⟩
theorem cr.ret (a:α) (b:β):cr mk (fun _ s=>some (a,b,s)):=by
 intro ch s v l s' h
 simp only[bp,bX] at h
 obtain⟨rfl,rfl,rfl⟩:=h
 exact⟨.refl mk _,fun ch' s2 _ x=>⟨s2,rfl,.refl x⟩⟩
theorem dD.then3 {x:(Nat->Nat)->St->Option (α×St)} {k:α->(Nat->Nat)->St->Option (β×γ×St)} (hx:dD mk x) (hk: ∀a,cr mk (k a)):cr mk (fun ch s=>(x ch s).bind fun r=>k r.1 ch r.2):=by
 intro ch s v l s' h
 simp only[aN] at h
 obtain⟨⟨a,s1⟩,h1,h2⟩:=h
 obtain⟨g1,e1⟩:=hx ch s a s1 h1
 obtain⟨g2,e2⟩:=hk a ch s1 v l s' h2
 refine⟨g1.trans g2,fun ch' s2 hc y=>?_⟩
 obtain⟨s2',q1,q2⟩:=e1 ch' s2 (fun i hi=>hc i (iv hi g2.ci)) y
 obtain⟨s2'',q3,q4⟩:=e2 ch' s2' hc (q2.sees y g1)
 exact⟨s2'',by simp only[q1,aq];exact q3,q2.trans g1 g2 q4⟩
theorem cr.then1 {x:(Nat->Nat)->St->Option (α×β×St)} {k:α->β->(Nat->Nat)->St->Option (γ×St)} (hx:cr mk x) (hk: ∀a b,dD mk (k a b)):dD mk (fun ch s=>(x ch s).bind fun r=>k r.1 r.2.1 ch r.2.2):=by
 intro ch s v s' h
 simp only[aN] at h
 obtain⟨⟨a,b,s1⟩,h1,h2⟩:=h
 obtain⟨g1,e1⟩:=hx ch s a b s1 h1
 obtain⟨g2,e2⟩:=hk a b ch s1 v s' h2
 refine⟨g1.trans g2,fun ch' s2 hc y=>?_⟩
 obtain⟨s2',q1,q2⟩:=e1 ch' s2 (fun i hi=>hc i (iv hi g2.ci)) y
 obtain⟨s2'',q3,q4⟩:=e2 ch' s2' hc (q2.sees y g1)
 exact⟨s2'',by simp only[q1,aq];exact q3,q2.trans g1 g2 q4⟩
theorem cr.then3 {x:(Nat->Nat)->St->Option (α×β×St)} {k:α->β->(Nat->Nat)->St->Option (γ×δ×St)} (hx:cr mk x) (hk: ∀a b,cr mk (k a b)):cr mk (fun ch s=>(x ch s).bind fun r=>k r.1 r.2.1 ch r.2.2):=by
 intro ch s v l s' h
 simp only[aN] at h
 obtain⟨⟨a,b,s1⟩,h1,h2⟩:=h
 obtain⟨g1,e1⟩:=hx ch s a b s1 h1
 obtain⟨g2,e2⟩:=hk a b ch s1 v l s' h2
 refine⟨g1.trans g2,fun ch' s2 hc y=>?_⟩
 obtain⟨s2',q1,q2⟩:=e1 ch' s2 (fun i hi=>hc i (iv hi g2.ci)) y
 obtain⟨s2'',q3,q4⟩:=e2 ch' s2' hc (q2.sees y g1)
 exact⟨s2'',by simp only[q1,aq];exact q3,q2.trans g1 g2 q4⟩
end
theorem cr.weaken {α β:Type} {mk mk':bt} (hm: ∀n,eA mk n=true->eA mk' n=true) {x:(Nat->Nat)->St->Option (α×β×St)} (hx:cr mk' x):cr mk x:=by
 have hv: ∀n,eA mk' n=false->eA mk n=false:=fun n h=>by
  cases e:eA mk n with
  |false=>rfl
  |true=>rw[hm n e] at h;cases h
 have ht: ∀ {s s':St} {n:Nat},lQ mk' s s' n->lQ mk s s' n:=fun t=>t.imp (fun t=>⟨hv _ t.1,t.2⟩) id
 intro ch s a b s' h
 obtain⟨g,e⟩:=hx ch s a b s' h
 refine⟨⟨g.next,g.ci,g.minw,fun n h=>g.frame n (fun t=>h (ht t)),g.noted⟩,fun ch' s2 hc y=>?_⟩
 obtain⟨s2',q1,q2⟩:=e ch' s2 hc ⟨y.next,y.minw,y.ci,fun n o hn ho=>y.get n o (hv n hn) ho⟩
 refine⟨s2',q1,⟨q2.next,q2.minw,q2.ci,fun n t=>?_,fun n t=>q2.outside n (fun t'=>t (ht t'))⟩⟩
 by_cases t':lQ mk' s s' n
 ·exact q2.inside n t'
 ·rw[q2.outside n t',g.frame n t']
  rcases t with⟨t1,t2⟩|t
  ·cases h:s.heap.get n with
   |none=>exact absurd h t2
   |some o=>exact y.get n o t1 h
  ·exact absurd (.inr t) t'
theorem Jz {bi:Nat} {rs:List eY} {mk:bt} {n:Nat} (h:eA mk n=true):eA (jE bi rs mk) n=true:=by
 induction rs with
 |nil=>exact h
 |cons r rs ih=>
  unfold jE
  cases bi.testBit r.i||bo r.c0 r.c1
  ·simp only[cF,eA,ih,Bool.or_true]
  ·simpa using ih
def cI.at (Q:cI) (ch:Nat->Nat):cI:= {Q with ch:=ch }
theorem GN {mk:bt} {s s2:St} (y:iR mk s s2): ∀(x:Rd) (v:aj),oW (s.get mk) x=some v->oW (s2.get mk) x=some v
 | .ret _,_,h=>h
 | .ask n k,v,h=>by
   simp only[oW,aN] at h ⊢
   obtain⟨o,h1,h2⟩:=h
   exact⟨o,y.look h1,GN y (k o) v h2⟩
theorem alC (mk:bt) (x:Rd):dD mk (fun _ s=>(oW (s.get mk) x).bind fun v=>some (v,s)):=by
 intro ch s v s' h
 simp only[aN,bp,bX] at h
 obtain⟨u,h1,rfl,rfl⟩:=h
 exact⟨.refl mk _,fun ch' s2 _ y=>⟨s2,by show(oW (s2.get mk) x).bind _=_;rw[GN y x u h1];rfl,.refl y⟩⟩
structure Cc (r:(Nat->Nat)->mV):Prop where
 ops: ∀f all mk l fr,dD mk (fun ch s=>(r ch).ops f all mk l fr s)
 draw: ∀f all bs mk rs i l fr,dD mk (fun ch s=>(r ch).draw f all bs mk rs i l fr s)
 code: ∀f c mk fr,cr mk (fun ch s=>(r ch).code f c mk fr s)
 call: ∀f args mk,dD mk (fun ch s=>(r ch).call f args mk s)
theorem alw {α:Type} {mk:bt} {n:Nat} {k:bR->(Nat->Nat)->St->Option (α×bR×St)} (hk: ∀o,cr mk (k o)):
 dD mk (fun ch s=>(s.get mk n).bind fun o=>(k o ch (s.put n none)).bind fun x=>some (x.1,x.2.2.put n (some x.2.1))):=by
 intro ch s v s' h
 simp only[aN,bp,bX] at h
 obtain⟨o,h1,⟨u,o',s3⟩,h2,rfl,rfl⟩:=h
 obtain⟨g,e⟩:=hk o ch (s.put n none) u o' s3 h2
 refine⟨g.hide h1 o',fun ch' s2 hc y=>?_⟩
 obtain⟨s23,q1,q2⟩:=e ch' (s2.put n none) hc ((hJ.put y h1 none).sees y (gI.put h1 none))
 exact⟨s23.put n (some o'),by simp only[y.look h1,aq,q1],q2.hide y h1 o'⟩
section
variable {Q:cI} {r:(Nat->Nat)->mV} (hr:Cc r)
include hr
theorem alG (n:Nat) (args:List aj) (mk:bt):dD mk (fun ch s=>mc (r ch) n args mk s):=by
 unfold mc
 refine alw fun o=>?_
 unfold vf
 split
 ·rename_i f env size ps a b
  cases ps.all (fun t=>cg t size)
  ·exact cr.none
  ·simp only[cT]
   refine cr.bind _ fun env' _=>?_
   refine cr.then3 (k:=fun x fr ch s=>tY (r ch) f env size ps a b mk (x,fr,s)) (hr.code f a mk _) fun x fr=>?_
   cases x with
   |normal=>
    refine cr.then3 (k:=fun x fr _ s=>ve f env size ps a b (x,fr,s)) (hr.code f b mk _) fun x fr=>?_
    cases x<;>exact cr.ret _ _
   |exit i=>exact cr.none
   |ret=>exact cr.none
 ·exact cr.none
theorem yg (f:FuncId) (o:Oper) (mk:bt) (fr:Fr):cr mk (fun ch s=>fW (Q.at ch) (r ch) f o mk fr s):=by
 unfold fW
 split
 ·split
  ·exact Ui _ _ _ _
  ·rename_i c _ _ _
   cases nh fr.env c
   ·unfold mz
    exact cr.bind _ fun g _=>dD.then3 (hr.call g.1 g.2 mk) fun v=>cr.ret v fr.loc
   ·unfold pO
    exact cr.bind _ fun g _=>dD.then3 (alG hr g.1 g.2 mk) fun v=>cr.ret v fr.loc
 ·exact alk _ _ _ _ _
theorem alA (f:FuncId) (all:Array Oper) (mk:bt) (l:List Oper) (fr:Fr):dD mk (fun ch s=>lJ (Q.at ch) (r ch) f all mk l fr s):=by
 unfold lJ
 split
 ·exact dD.ret fr
 ·rename_i o rest
  cases fE all fr.env o
  ·exact dD.opt _ fun fr' _=>hr.ops f all mk rest fr'
  ·exact cr.then1 (yg hr f o mk fr) fun v l=>dD.opt (eZ fr o.dst v l) fun fr' _=>hr.ops f all mk rest fr'
theorem alu (f:FuncId) (all:Array Oper) (bs:List Nat) (mk:bt) (rs:List eY) (i:Nat) (l:List Oper) (fr:Fr):dD mk (fun ch s=>mE (Q.at ch) (r ch) f all bs mk rs i l fr s):=by
 unfold mE
 split
 ·exact dD.ret fr
 ·rename_i o rest
  cases fE all fr.env o
  ·exact dD.opt _ fun fr' _=>hr.draw f all bs.tail mk rs (i+1) rest fr'
  ·intro ch s v s' h
   simp only[cT,aN] at h
   obtain⟨⟨u,l,s1⟩,h1,h⟩:=h
   replace h:=cq h
   obtain⟨hc,h⟩:=h
   simp only[aN] at h
   obtain⟨fr',hfr,h⟩:=h
   have hl:=cr.weaken (fun n hn=>Jz (bi:=bs.headD 0) (rs:=rs) hn) (yg (Q:=Q) hr f o (jE (bs.headD 0) rs mk) fr)
   obtain⟨g1,e1⟩:=hl ch ⟨s.heap,s.next,s.next,s.ci⟩ u l s1 h1
   obtain⟨g2,e2⟩:=hr.draw _ _ _ _ _ _ _ _ ch (s.least s1) v s' h
   have hle:(bif cK s.minw s1.minw then s.minw else s1.minw)<=s.minw/\(bif cK s.minw s1.minw then s.minw else s1.minw)<=s1.minw:=by
    cases e:cK s.minw s1.minw
    ·rw[pC] at e
     have:=of_decide_eq_false e
     simp only[cF]
     omega
    ·have:=jC e
     simp only[cT]
     omega
   have g1':gI mk s (s.least s1):=⟨g1.next,g1.ci,hle.1,g1.frame,fun n hn hne=>gN hle.2 (g1.noted n hn hne)⟩
   refine⟨g1'.trans g2,fun ch' s2 hch y=>?_⟩
   obtain⟨s21,q1,q2⟩:=e1 ch' ⟨s2.heap,s2.next,s2.next,s2.ci⟩ (fun j hj=>hch j (iv hj g2.ci)) ⟨y.next,y.next,y.ci,y.get⟩
   have q2':hJ mk s (s.least s1) s2 (s2.least s21):=⟨q2.next,by show(bif cK s2.minw s21.minw then s2.minw else s21.minw)=(bif cK s.minw s1.minw then s.minw else s1.minw);rw[y.minw,q2.minw],q2.ci,q2.inside,q2.outside⟩
   obtain⟨s2',q3,q4⟩:=e2 ch' (s2.least s21) hch (q2'.sees y g1')
   refine⟨s2',?_,q2'.trans g1' g2 q4⟩
   simp only[cT]
   rw[y.next,y.ci] at q1 ⊢
   simp only[q1,aq,q2.minw,q2.ci,q2.next]
   have hc':(fits (bs.headD 0) (dL ((Q.at ch').hint f) o.dst fr.env o.op) (s1.minw.blt s.next||isStore o.op) rs&&s.ci.beq s1.ci)=true:=hc
   rw[hc']
   simp only[cT]
   rw[hfr]
   exact q3
theorem als (f:FuncId) (c:Code) (mk:bt) (fr:Fr):cr mk (fun ch s=>s9 (Q.at ch) (r ch) f c mk fr s):=by
 have hseq: ∀(x:Ex) (fr:Fr) (b:Code),cr mk (fun ch s=>nZ (r ch) f b mk (x,fr,s)):=by
  intro x fr b
  cases x with
  |normal=>exact hr.code f b mk fr
  |exit i=>exact cr.ret _ _
  |ret=>exact cr.ret _ _
 cases c<;>simp only[s9]<;>first
  |exact cr.none
  |exact cr.ret _ _
  |exact cr.then3 (hr.code f _ mk fr) fun x fr=>hseq x fr _
  |exact hr.code f _ mk fr
  |skip
 ·
  rename_i id ops draw
  unfold Bt
  cases draw
  ·exact dD.then3 (k:=fun fr _ s=>some (Ex.normal,fr,s)) (hr.ops f ops mk ops.toList fr) fun fr=>cr.ret _ _
  ·simp only[cT]
   cases lR ops 0 ops.toList (Region.before ops).toList
   ·exact cr.none
   ·exact dD.then3 (k:=fun fr _ s=>some (Ex.normal,fr,s)) (hr.draw f ops _ mk [] 0 ops.toList fr) fun fr=>cr.ret _ _
 ·
  rename_i x a b
  refine cr.bind _ fun v _=>?_
  unfold vL
  split
  ·exact hr.code f _ mk fr
  ·exact hr.code f _ mk fr
  ·exact cr.none
 ·
  rename_i id b
  refine cr.then3 (k:=fun x fr _ s=>some (oD id (x,fr,s))) (hr.code f b mk fr) fun x fr=>?_
  cases x with
  |normal=>exact cr.ret _ _
  |ret=>exact cr.ret _ _
  |exit i=>
   simp only[oD]
   cases bo i id
   ·exact cr.ret _ _
   ·exact cr.ret _ _
 ·
  rename_i g ps a b
  refine cr.bind _ fun v _=>?_
  unfold sE
  split
  ·rename_i h first captured _
   show cr mk (fun ch s=>bif nc Q.P h&&(fr.env.all sq&&(fP a&&fP b)) then _ else none)
   cases nc Q.P h&&(fr.env.all sq&&(fP a&&fP b))
   ·exact cr.none
   ·simp only[cT]
    intro ch s x fr' s' h'
    simp only[aN] at h'
    obtain⟨⟨v,s1⟩,h1,h2⟩:=h'
    simp only[uS,aN] at h2
    obtain⟨o,h3,h4⟩:=h2
    obtain⟨g1,e1⟩:=hr.call h _ mk ch _ v s1 h1
    have g0:=gI.new mk s (.loop f fr.env fr.size ps.toList a b none)
    cases o with
    |loop f' env' size' ps' a' b' p=>
     simp only[bp,bX] at h4
     obtain⟨rfl,rfl,rfl⟩:=h4
     have g2:=gI.put h3 (mk:=mk) none
     refine⟨(g0.trans g1).trans g2,fun ch' s2 hc y=>?_⟩
     have s0:=hJ.new y (.loop f fr.env fr.size ps.toList a b none)
     obtain⟨s21,q1,q2⟩:=e1 ch' _ hc (s0.sees y g0)
     have hn:s2.next=s.next:=y.next
     have y1:=q2.sees (s0.sees y g0) g1
     refine⟨s21.put s.next none,?_,(s0.trans g0 g1 q2).trans (g0.trans g1) g2 (.put y1 h3 none)⟩
     simp only[hn,q1,aq,uS,y1.look h3]
    |cells _=>cases h4
    |tok=>cases h4
    |map _ _=>cases h4
    |iter _ _ _ _=>cases h4
  ·exact cr.none
omit hr in
theorem Uj (mk:bt) (fr:Fr) (l:List ResultVar):RO mk (fun s=>gL Q mk fr s l):=by
 intro s s2 b h hl
 induction l generalizing b with
 |nil=>exact h
 |cons x l ih=>
  simp only[gL,aN] at h ⊢
  obtain⟨v,hv,vs,hvs,h⟩:=h
  refine⟨v,?_,vs,ih vs hvs,h⟩
  cases x with
  |tmp t=>exact hv
  |cell a t=>exact VL t _ fr.loc s s2 v hv hl
theorem alq (f:FuncId) (args:List aj) (mk:bt):dD mk (fun ch s=>j8 (Q.at ch) (r ch) f args mk s):=by
 unfold j8
 show dD mk (fun ch s=>match Q.spec f with
  |some sp=>(sp args).bind fun v=>some (v,s)
  |none=>match Q.specH f with
   |some sp=>(oW (s.get mk) (sp args)).bind fun v=>some (v,s)
   |none=>match Q.specW f with
   |some sp=>(sp args).bind (rc mk s)
   |none=>(Q.P.funcs[f]?).bind fun fn=>fn.body.bind fun c=>
    ((r ch).code f c mk ⟨cZ 0 args,bif cK args.length fn.ntmps then fn.ntmps else args.length,[]⟩ s).bind (oK (Q.at ch) fn mk))
 cases Q.spec f with
 |some sp=>exact dD.pureOpt _
 |none=>
  cases Q.specH f with
  |some sp=>exact alC mk (sp args)
  |none=>
  cases Q.specW f with
  |some sp=>
   refine dD.opt (k:=fun p _ s=>rc mk s p) (sp args) fun p _=>?_
   cases p with
   |none=>exact dD.ret _
   |some p=>
   refine dD.of_put (f:=fun s=>(s.get mk p.1).bind (wQ s p)) ?_
   intro s a s' h
   simp only[aN] at h
   obtain⟨o,h1,h⟩:=h
   cases o<;>simp only[wQ,aN,bp,bX,reduceCtorEq] at h
   obtain⟨cs',h2,rfl,rfl⟩:=h
   exact⟨p.1,_,_,h1,rfl,fun s2 y=>by simp only[y.look h1,aq,wQ,h2]⟩
  |none=>
  refine dD.opt _ fun fn _=>dD.opt _ fun c _=>?_
  refine cr.then1 (k:=fun x fr ch s=>oK (Q.at ch) fn mk (x,fr,s)) (hr.code f c mk _) fun x fr=>?_
  have fin:dD mk (fun(ch:Nat->Nat) s=>(gL (Q.at ch) mk fr s fn.results.toList).bind fun vs=>some (jO vs,s)):=by
   intro ch s v s' h
   simp only[aN] at h
   obtain⟨vs,hvs,h⟩:=h
   simp only[bp,bX] at h
   obtain⟨rfl,rfl⟩:=h
   refine⟨.refl mk _,fun ch' s2 _ y=>⟨s2,?_,.refl y⟩⟩
   have:=Uj (Q:=Q.at ch) mk fr fn.results.toList s s2 vs hvs (fun n o ho=>y.look ho)
   have:gL (Q.at ch') mk fr s2 fn.results.toList=some vs:=by
    rw[<-this]
    clear hvs this
    generalize fn.results.toList=l
    induction l with
    |nil=>rfl
    |cons x l ih=>simp only[gL,ih];cases x<;>rfl
   simp[this]
  cases x with
  |normal=>exact fin
  |ret=>exact fin
  |exit i=>exact dD.none
end
theorem kO (Q:cI): ∀n:Nat,Cc (fun ch=>db (Q.at ch) n)
 |0=>⟨fun _ _ _ _ _=>dD.none,fun _ _ _ _ _ _ _ _=>dD.none,fun _ _ _ _=>cr.none,fun _ _ _=>dD.none⟩
 |n+1=>⟨fun f all mk l fr=>alA (kO Q n) f all mk l fr,fun f all bs mk rs i l fr=>alu (kO Q n) f all bs mk rs i l fr,
  fun f c mk fr=>als (kO Q n) f c mk fr,fun f args mk=>alq (kO Q n) f args mk⟩
def gV {α:Type} (x:(Nat->Nat)->St->Option (α×St)):Prop:=
 ∀ch s a s',x ch s=some (a,s')-> ∀ch',(∀i,i<s'.ci->ch' i=ch i)->x ch' s=some (a,s')
def fY {α β:Type} (x:(Nat->Nat)->St->Option (α×β×St)):Prop:=
 ∀ch s a b s',x ch s=some (a,b,s')-> ∀ch',(∀i,i<s'.ci->ch' i=ch i)->x ch' s=some (a,b,s')
theorem gV.const {α:Type} (f:St->Option (α×St)):gV (fun _ s=>f s):=fun _ _ _ _ h _ _=>h
theorem fY.const {α β:Type} (f:St->Option (α×β×St)):fY (fun _ s=>f s):=fun _ _ _ _ _ h _ _=>h
section
variable {mk:bt} {α β γ δ:Type}
theorem gV.opt (x:Option β) {k:β->(Nat->Nat)->St->Option (α×St)} (hk: ∀b,x=some b->gV (k b)):gV (fun ch s=>x.bind fun b=>k b ch s):=by
 cases x with
 |none=>intro ch s v s' h;cases h
 |some b=>exact hk b rfl
theorem fY.opt (x:Option β) {k:β->(Nat->Nat)->St->Option (α×γ×St)} (hk: ∀b,x=some b->fY (k b)):fY (fun ch s=>x.bind fun b=>k b ch s):=by
 cases x with
 |none=>intro ch s v l s' h;cases h
 |some b=>exact hk b rfl
theorem gV.then3 {x:(Nat->Nat)->St->Option (α×St)} {k:α->(Nat->Nat)->St->Option (β×γ×St)} (hx:gV x) (hk: ∀a,fY (k a)) (gk: ∀a,cr mk (k a)):fY (fun ch s=>(x ch s).bind fun r=>k r.1 ch r.2):=by
 intro ch s v l s' h ch' hc
 simp only[aN] at h ⊢
 obtain⟨⟨a,s1⟩,h1,h2⟩:=h
 exact⟨(a,s1),hx ch s a s1 h1 ch' (fun i hi=>hc i (iv hi ((gk a ch s1 v l s' h2).1.ci))),hk a ch s1 v l s' h2 ch' hc⟩
theorem fY.then1 {x:(Nat->Nat)->St->Option (α×β×St)} {k:α->β->(Nat->Nat)->St->Option (γ×St)} (hx:fY x) (hk: ∀a b,gV (k a b)) (gk: ∀a b,dD mk (k a b)):gV (fun ch s=>(x ch s).bind fun r=>k r.1 r.2.1 ch r.2.2):=by
 intro ch s v s' h ch' hc
 simp only[aN] at h ⊢
 obtain⟨⟨a,b,s1⟩,h1,h2⟩:=h
 exact⟨(a,b,s1),hx ch s a b s1 h1 ch' (fun i hi=>hc i (iv hi ((gk a b ch s1 v s' h2).1.ci))),hk a b ch s1 v s' h2 ch' hc⟩
theorem fY.then3 {x:(Nat->Nat)->St->Option (α×β×St)} {k:α->β->(Nat->Nat)->St->Option (γ×δ×St)} (hx:fY x) (hk: ∀a b,fY (k a b)) (gk: ∀a b,cr mk (k a b)):fY (fun ch s=>(x ch s).bind fun r=>k r.1 r.2.1 ch r.2.2):=by
 intro ch s v l s' h ch' hc
 simp only[aN] at h ⊢
 obtain⟨⟨a,b,s1⟩,h1,h2⟩:=h
 exact⟨(a,b,s1),hx ch s a b s1 h1 ch' (fun i hi=>hc i (iv hi ((gk a b ch s1 v l s' h2).1.ci))),hk a b ch s1 v l s' h2 ch' hc⟩
end
theorem YP (mk:bt) (kmax:Nat->Nat) (it:aj) (isString:Bool):gV (fun ch s=>kR mk ch kmax it isString s):=by
 intro ch s u s' h ch' hc
 obtain⟨_,e⟩:=Uh (mk:=mk) kmax it isString ch s u s' h
 simp only[kR] at h ⊢
 split at h
 ·rename_i n
  simp only[aN] at h ⊢
  obtain⟨ob,hob,h⟩:=h
  refine⟨ob,hob,?_⟩
  split at h
  ·exact h
  ·rename_i m since seen stepped
   cases isString
   ·simp only[cF,aN] at h ⊢
    obtain⟨ob2,hob2,h⟩:=h
    refine⟨ob2,hob2,?_⟩
    split at h
    ·rename_i es clock
     replace h:=hQ h
     rcases h with⟨_,h⟩|⟨hgo,h⟩
     ·cases h
     ·simp only[hgo,cF]
      generalize dK seen es=UL at h ⊢
      unfold nV at h ⊢
      split at h
      ·exact h
      ·rename_i e1 r
       replace h:=cq h
       obtain⟨hall,h⟩:=h
       simp only[hall,cT]
       split at h
       ·exact h
       ·replace h:=cq h
        obtain⟨hk,h⟩:=h
        simp only[hk,cT]
        simp only[aN] at h ⊢
        obtain⟨e',he',h⟩:=h
        have hlt:s.ci<s'.ci:=by
         simp only[bp,bX] at h
         rw[<-h.2];exact iC _
        exact⟨e',by rw[hc s.ci hlt];exact he',h⟩
    ·cases h
   ·cases h
  ·cases h
 ·cases h
theorem YL {P:Program} (mk:bt) (kmax:Nat->Nat) (hint:Tmp->Nat) (dst:Option Tmp) (op:Op) (fr:Fr):fY (fun ch s=>kJ P mk ch kmax hint dst op fr s):=by
 cases op<;>simp only[kJ]<;>first
  |exact fY.const _
  |skip
 rename_i it isString
 refine fY.opt _ fun x _=>?_
 intro ch s v l s' h ch' hc
 simp only[ii,aN] at h ⊢
 obtain⟨⟨v1,s1⟩,h1,h⟩:=h
 refine⟨(v1,s1),YP mk kmax x isString ch s v1 s1 h1 ch' ?_,h⟩
 simp only[bp,bX] at h
 rw[h.2.2];exact hc
structure HB (r:(Nat->Nat)->mV):Prop where
 ops: ∀f all mk l fr,gV (fun ch s=>(r ch).ops f all mk l fr s)
 draw: ∀f all bs mk rs i l fr,gV (fun ch s=>(r ch).draw f all bs mk rs i l fr s)
 code: ∀f c mk fr,fY (fun ch s=>(r ch).code f c mk fr s)
 call: ∀f args mk,gV (fun ch s=>(r ch).call f args mk s)
section
variable {Q:cI} {r:(Nat->Nat)->mV} (hl:Cc r) (hr:HB r)
include hl hr
theorem YR (n:Nat) (args:List aj) (mk:bt):gV (fun ch s=>mc (r ch) n args mk s):=by
 intro ch s v s' h ch' hc
 simp only[mc,aN,bp,bX] at h ⊢
 obtain⟨o,h1,⟨u,o',s3⟩,h2,rfl,rfl⟩:=h
 refine⟨o,h1,(u,o',s3),?_,rfl,rfl⟩
 have hc: ∀i,i<s3.ci->ch' i=ch i:=hc
 unfold vf at h2 ⊢
 split at h2
 ·obtain⟨hb,h2⟩:=cq h2
  simp only[hb,cT,aN] at h2 ⊢
  obtain⟨env',h3,⟨x,fr,s4⟩,h4,h5⟩:=h2
  refine⟨env',h3,(x,fr,s4),?_,?_⟩
  all_goals cases x with
   |exit i=>cases h5
   |ret=>cases h5
   |normal=>
    simp only[tY,aN] at h5 ⊢
    obtain⟨⟨x2,fr2,s5⟩,h6,h7⟩:=h5
    have e5:s5=s3:=by cases x2<;>(simp only[ve,bp,bX] at h7;exact h7.2.2)
    subst e5
    have g2:=(hl.code _ _ mk _ ch s4 x2 fr2 s5 h6).1
    first
     |exact hr.code _ _ mk _ ch _ _ fr s4 h4 ch' (fun i hi=>hc i (iv hi g2.ci))
     |exact⟨(x2,fr2,s5),hr.code _ _ mk _ ch s4 x2 fr2 s5 h6 ch' hc,h7⟩
 ·cases h2
theorem xy (f:FuncId) (o:Oper) (mk:bt) (fr:Fr):fY (fun ch s=>fW (Q.at ch) (r ch) f o mk fr s):=by
 have _:=hl
 unfold fW
 split
 ·split
  ·exact fun ch s a b s' h ch' _=>h
  ·rename_i c _ _ _
   cases nh fr.env c
   case' true=>
    unfold pO
    exact fY.opt _ fun g _=>gV.then3 (mk:=mk) (k:=fun v _ s=>some (v,fr.loc,s)) (YR hl hr g.1 g.2 mk) (fun v=>fY.const _) fun v=>cr.ret v fr.loc
   unfold mz
   exact fY.opt _ fun g _=>gV.then3 (mk:=mk) (k:=fun v _ s=>some (v,fr.loc,s)) (hr.call g.1 g.2 mk) (fun v=>fY.const _) fun v=>cr.ret v fr.loc
 ·exact YL _ _ _ _ _ _
theorem YQ (f:FuncId) (all:Array Oper) (mk:bt) (l:List Oper) (fr:Fr):gV (fun ch s=>lJ (Q.at ch) (r ch) f all mk l fr s):=by
 unfold lJ
 split
 ·exact gV.const _
 ·rename_i o rest
  cases fE all fr.env o
  ·exact gV.opt _ fun fr' _=>hr.ops f all mk rest fr'
  ·exact fY.then1 (mk:=mk) (k:=fun v l ch s=>(eZ fr o.dst v l).bind fun fr'=>(r ch).ops f all mk rest fr' s) (xy hl hr f o mk fr) (fun v l=>gV.opt _ fun fr' _=>hr.ops f all mk rest fr') fun v l=>dD.opt _ fun fr' _=>hl.ops f all mk rest fr'
theorem YO (f:FuncId) (all:Array Oper) (bs:List Nat) (mk:bt) (rs:List eY) (i:Nat) (l:List Oper) (fr:Fr):gV (fun ch s=>mE (Q.at ch) (r ch) f all bs mk rs i l fr s):=by
 unfold mE
 split
 ·exact gV.const _
 ·rename_i o rest
  cases fE all fr.env o
  ·exact gV.opt _ fun fr' _=>hr.draw f all bs.tail mk rs (i+1) rest fr'
  ·intro ch s v s' h ch' hc
   simp only[cT,aN] at h ⊢
   obtain⟨⟨u,l,s1⟩,h1,h⟩:=h
   replace h:=cq h
   obtain⟨hcond,h⟩:=h
   simp only[aN] at h
   obtain⟨fr',hfr,h⟩:=h
   have g2:=(hl.draw _ _ _ _ _ _ _ _ ch (s.least s1) v s' h).1
   refine⟨(u,l,s1),xy (Q:=Q) hl hr f o _ fr ch _ u l s1 h1 ch' (fun j hj=>hc j (iv hj g2.ci)),?_⟩
   have hc':(fits (bs.headD 0) (dL ((Q.at ch').hint f) o.dst fr.env o.op) (s1.minw.blt s.next||isStore o.op) rs&&s.ci.beq s1.ci)=true:=hcond
   simp only[hc',cT,hfr,aq]
   exact hr.draw _ _ _ _ _ _ _ _ ch (s.least s1) v s' h ch' hc
theorem YN (f:FuncId) (c:Code) (mk:bt) (fr:Fr):fY (fun ch s=>s9 (Q.at ch) (r ch) f c mk fr s):=by
 have hseq: ∀(x:Ex) (fr:Fr) (b:Code),fY (fun ch s=>nZ (r ch) f b mk (x,fr,s))/\cr mk (fun ch s=>nZ (r ch) f b mk (x,fr,s)):=by
  intro x fr b
  cases x with
  |normal=>exact⟨hr.code f b mk fr,hl.code f b mk fr⟩
  |exit i=>exact⟨fY.const _,cr.ret _ _⟩
  |ret=>exact⟨fY.const _,cr.ret _ _⟩
 cases c<;>simp only[s9]<;>first
  |exact fY.const _
  |exact fY.then3 (mk:=mk) (hr.code f _ mk fr) (fun x fr=>(hseq x fr _).1) (fun x fr=>(hseq x fr _).2)
  |exact hr.code f _ mk fr
  |skip
 ·rename_i id ops draw
  unfold Bt
  cases draw
  ·exact gV.then3 (mk:=mk) (k:=fun fr _ s=>some (Ex.normal,fr,s)) (hr.ops f ops mk ops.toList fr) (fun _=>fY.const _) fun _=>cr.ret _ _
  ·simp only[cT]
   cases lR ops 0 ops.toList (Region.before ops).toList
   ·exact fY.const _
   ·exact gV.then3 (mk:=mk) (k:=fun fr _ s=>some (Ex.normal,fr,s)) (hr.draw f ops _ mk [] 0 ops.toList fr) (fun _=>fY.const _) fun _=>cr.ret _ _
 ·rename_i x a b
  refine fY.opt _ fun v _=>?_
  unfold vL
  split
  ·exact hr.code f _ mk fr
  ·exact hr.code f _ mk fr
  ·exact fY.const _
 ·rename_i id b
  intro ch s x fr' s' h ch' hc
  simp only[aN] at h ⊢
  obtain⟨⟨x1,fr1,s1⟩,h1,h⟩:=h
  refine⟨(x1,fr1,s1),hr.code f b mk fr ch s x1 fr1 s1 h1 ch' ?_,h⟩
  have:s1=s':=by
   simp only[bp] at h
   cases x1 with
   |normal=>simp only[oD,bX] at h;exact h.2.2
   |ret=>simp only[oD,bX] at h;exact h.2.2
   |exit i=>
    simp only[oD] at h
    cases hb:bo i id<;>rw[hb] at h<;>simp only[cT,cF,bX] at h<;>exact h.2.2
  rw[this];exact hc
 ·rename_i g ps a b
  refine fY.opt _ fun v _=>?_
  unfold sE
  split
  ·rename_i h first captured _
   show fY (fun ch s=>bif nc Q.P h&&(fr.env.all sq&&(fP a&&fP b)) then _ else none)
   cases nc Q.P h&&(fr.env.all sq&&(fP a&&fP b))
   ·exact fY.const _
   ·simp only[cT]
    intro ch s x fr' s' h' ch' hc
    simp only[aN] at h' ⊢
    obtain⟨⟨v,s1⟩,h1,h2⟩:=h'
    refine⟨(v,s1),?_,h2⟩
    have:s1.ci=s'.ci:=by
     simp only[uS,aN] at h2
     obtain⟨o,_,h4⟩:=h2
     cases o with
     |loop f' env' size' ps' a' b' p=>
      simp only[bp,bX] at h4
      rw[<-h4.2.2];rfl
     |_=>cases h4
    exact hr.call h _ mk ch _ v s1 h1 ch' (by rw[this];exact hc)
  ·exact fY.const _
omit hl in
theorem YM (f:FuncId) (args:List aj) (mk:bt):gV (fun ch s=>j8 (Q.at ch) (r ch) f args mk s):=by
 unfold j8
 show gV (fun ch s=>match Q.spec f with
  |some sp=>(sp args).bind fun v=>some (v,s)
  |none=>match Q.specH f with
   |some sp=>(oW (s.get mk) (sp args)).bind fun v=>some (v,s)
   |none=>match Q.specW f with
   |some sp=>(sp args).bind (rc mk s)
   |none=>(Q.P.funcs[f]?).bind fun fn=>fn.body.bind fun c=>
    ((r ch).code f c mk ⟨cZ 0 args,bif cK args.length fn.ntmps then fn.ntmps else args.length,[]⟩ s).bind (oK (Q.at ch) fn mk))
 cases Q.spec f with
 |some sp=>exact gV.const _
 |none=>
  cases Q.specH f with
  |some sp=>exact gV.const _
  |none=>
  cases Q.specW f with
  |some sp=>exact gV.const (fun s=>(sp args).bind (rc mk s))
  |none=>
  refine gV.opt _ fun fn _=>gV.opt _ fun c _=>?_
  intro ch s v s' h ch' hc
  simp only[aN] at h ⊢
  obtain⟨⟨x1,fr1,s1⟩,h1,h⟩:=h
  have hres: ∀l,gL (Q.at ch') mk fr1 s1 l=gL (Q.at ch) mk fr1 s1 l:=by
   intro l
   induction l with
   |nil=>rfl
   |cons x l ih=>simp only[gL,ih];cases x<;>rfl
  have:s1=s'/\oK (Q.at ch') fn mk (x1,fr1,s1)=some (v,s'):=by
   cases x1 with
   |exit i=>cases h
   |normal=>
    simp only[oK,aN] at h ⊢
    obtain⟨vs,hvs,h⟩:=h
    simp only[bp,bX] at h
    exact⟨h.2,vs,by rw[hres];exact hvs,by simp[h]⟩
   |ret=>
    simp only[oK,aN] at h ⊢
    obtain⟨vs,hvs,h⟩:=h
    simp only[bp,bX] at h
    exact⟨h.2,vs,by rw[hres];exact hvs,by simp[h]⟩
  exact⟨(x1,fr1,s1),hr.code f c mk _ ch s x1 fr1 s1 h1 ch' (by rw[this.1];exact hc),this.2⟩
end
theorem qn (Q:cI): ∀n:Nat,HB (fun ch=>db (Q.at ch) n)
 |0=>⟨fun _ _ _ _ _=>gV.const _,fun _ _ _ _ _ _ _ _=>gV.const _,fun _ _ _ _=>fY.const _,fun _ _ _=>gV.const _⟩
 |n+1=>⟨fun f all mk l fr=>YQ (kO Q n) (qn Q n) f all mk l fr,fun f all bs mk rs i l fr=>YO (kO Q n) (qn Q n) f all bs mk rs i l fr,
  fun f c mk fr=>YN (kO Q n) (qn Q n) f c mk fr,fun f args mk=>YM (qn Q n) f args mk⟩
section
variable {P:Program} {mk:bt} {ch:Nat->Nat} {kmax:Nat->Nat} {hint:Tmp->Nat} {G:Gh} {s s':St} {B:Nat->Nat} {fr:Fr} {a:Act} {w:World} {o:Oper} {v:aj} {loc':Loc}
theorem XU (wr:WR G s.heap w) (fx:dC G s.heap B fr a.tmps w) (he:kJ P mk ch kmax hint o.dst o.op fr s=some (v,loc',s')) (hfree: ∀n,s.next<=n->n<s'.next->G.at_ n=none)
 (hch: ∀x b xv,o.op= .next x b->evc fr.env x=some xv->2<=jM mk xv s->ch s.ci % jM mk xv s=(w.tape w.drawn (.mapNext (jM mk xv s))) % jM mk xv s):
 gn P G s.heap w B fr.loc s.next s'.next a o v loc' s'.heap:=by
 cases hop:o.op<;>rw[hop] at he<;>simp only[kJ] at he
 case move x=>replace he:=kf he;obtain⟨he,rfl,rfl⟩:=he;exact ane hop wr fx he
 case assign x=>replace he:=kf he;obtain⟨he,rfl,rfl⟩:=he;exact amT hop wr fx he
 case pick c p q=>replace he:=kf he;obtain⟨he,rfl,rfl⟩:=he;exact anh hop wr fx he
 case alloc e=>exact amS hop wr fx he hfree
 case box e x=>exact amV hop wr fx he hfree
 case build t parts=>replace he:=kf he;obtain⟨he,rfl,rfl⟩:=he;exact amW hop wr fx he
 case buildSlice t len parts=>exact amX hop wr fx he hfree
 case load t x=>exact am7 hop wr fx he
 case store t x z=>exact ank hop wr fx he
 case nilCheck x=>
  simp only[oS,aN] at he
  obtain⟨u,hu,he⟩:=he
  replace he:=kf he
  obtain⟨he,rfl,rfl⟩:=he
  exact ang hop wr fx hu he
 case binOp op t x y yt=>exact amU hop wr fx he
 case unOp op t x=>exact anl hop wr fx he
 case convert src dst x=>exact amZ hop wr fx he
 case makeFunc fn first captured=>replace he:=kf he;obtain⟨he,rfl,rfl⟩:=he;exact am9 hop wr fx he
 case makeMap t r=>exact ana hop wr fx he hfree
 case makeSlice t l c=>exact anb hop wr fx he hfree
 case slice t x lo hi mx=>exact anj hop wr fx he
 case fieldAddr t x f=>exact am4 hop wr fx he
 case field t x f=>exact am3 hop wr fx he
 case indexAddr t x i=>exact am6 hop wr fx he
 case index t x i=>exact am5 hop wr fx he
 case lookup t x i ok=>exact am8 hop wr fx he
 case mapUpdate t m k x=>exact Va (.inl hop) wr fx he
 case insert t m k x=>exact Va (.inr hop) wr fx he
 case mapEntry t m k=>exact anc hop wr fx he
 case entryStore t m st x=>exact am1 hop wr fx he
 case range t x=>exact ani hop wr fx he hfree
 case next it isString=>
  simp only[aN] at he
  obtain⟨xv,hx,he⟩:=he
  exact anf hop wr fx hx he (hch it isString xv hop hx)
 case entry it=>exact am0 hop wr fx he
 case extract x i=>exact am2 hop wr fx he
 case call c=>exact amY hop wr fx he hfree
 all_goals cases he
theorem getD_set (tmps:Array Value) (d t:Nat) (x:Value) (hd:d<tmps.size):(tmps.setIfInBounds d x).getD t undef=if t=d then x else tmps.getD t undef:=by
 simp only[mh,w9]
 by_cases e:d=t
 ·subst e;simp[hd]
 ·simp[e,Ne.symm e]
theorem dC.put {G G':Gh} {h h':bD bR} {B B':Nat->Nat} {fr fr':Fr} {a:Act} {w w':World} {dst:Option Tmp} {v:aj} {x:Value} {loc':Loc} (fx:dC G h B fr a.tmps w)
 (hp:eZ fr dst v loc'=some fr') (hl:ou G' h' B' loc' w') (hv:LV G' loc' B' v x) (hold: ∀u y,LV G fr.loc B u y->LV G' loc' B' u y):dC G' h' B' fr' (a.put dst x).tmps w':=by
 unfold eZ at hp
 cases dst with
 |none=>
  injection hp with hp;subst hp
  exact⟨fx.size,fun t=>hold _ _ (fx.env t),hl⟩
 |some d=>
  replace hp:=cq hp
  obtain⟨hd,hp⟩:=hp
  injection hp with hp;subst hp
  have hd:=nN hd
  refine⟨by simp[Act.put,fx.size],fun t=>?_,hl⟩
  show LV G' loc' B' (ay (fr.env.set d (some v)) t) ((a.tmps.setIfInBounds d x).getD t undef)
  rw[getD_set _ _ _ _ (by rw[fx.size];exact hd)]
  unfold ay
  rw[bD.get_set]
  by_cases e:t=d
  ·rw[if_pos e,if_pos e];exact hv
  ·rw[if_neg e,if_neg e];exact hold _ _ (fx.env t)
theorem dC.wanted {G:Gh} {h:bD bR} {B:Nat->Nat} {fr:Fr} {a:Act} {w:World} (fx:dC G h B fr a.tmps w) (ops:Array Oper) (o:Oper):Region.wanted o (yielded ops a.tmps)=fE ops fr.env o:=by
 unfold Region.wanted fE
 cases hg:o.guard with
 |none=>rfl
 |some g=>
  obtain⟨j,want⟩:=g
  simp only[yielded]
  cases hd:(ops[j]?).bind (·.dst) with
  |none=>simp
  |some d=>
   simp only[aq]
   have hl:=fx.env d
   have hget: ∀b,a.tmps[d]? =some (.bool b)↔a.tmps.getD d undef= .bool b:=by
    intro b
    simp only[mh]
    cases hx:a.tmps[d]? with
    |none=>simp[undef]
    |some x=>simp
   cases hn:ay fr.env d with
   |bool b=>
    rw[hn] at hl
    have hl:VR G (.bool b) (a.tmps.getD d undef):=hl
    have:a.tmps[d]? =some (.bool b):=by
     rw[hget]
     generalize a.tmps.getD d undef=x at hl
     cases hl;rfl
    simp[this]
   |lref t g off=>
    rw[hn] at hl
    obtain⟨_,⟨ad,had⟩,_⟩:=hl
    cases hx:a.tmps[d]? with
    |none=>simp
    |some x=>
     have:x= .pointer (some ad):=by rw[<-had];simp[mh,hx]
     subst this;simp
   |_=>
    rw[hn] at hl
    have hl:VR G _ (a.tmps.getD d undef):=hl
    cases hx:a.tmps[d]? with
    |none=>simp
    |some x=>
     have e:a.tmps.getD d undef=x:=by simp[mh,hx]
     rw[e] at hl
     cases hl<;>simp
end
section
variable {α:Type}
open Classical in
noncomputable def mix (X:Nat->α) (D:Nat->Prop):Nat->α
 |0=>X 0
 |k+1=>if D k/\X (k+1)≠X k then X (k+1) else mix X D k
theorem Gb {X:Nat->α} {D:Nat->Prop} {j:Nat}: ∀ {n:Nat},j<=n->(∀k,j<=k->k<n->D k->X (k+1)=X k)->mix X D n=mix X D j
 |0,h,_=>by have:j=0:=by omega
            subst this;rfl
 |n+1,h,hk=>by
  by_cases e:j=n+1
  ·rw[e]
  ·rw[mix,if_neg (fun x=>x.2 (hk n (by omega) (by omega) x.1))]
   exact Gb (by omega) fun k h1 h2=>hk k h1 (by omega)
theorem Gd {X:Nat->α} {D:Nat->Prop}: ∀ {j:Nat},(∀i,i<j->X (i+1)≠X i->D i)->mix X D j=X j
 |0,_=>rfl
 |j+1,h=>by
  rw[mix]
  split
  ·rfl
  ·rename_i hn
   rw[Gd fun i hi=>h i (by omega)]
   by_cases e:X (j+1)=X j
   ·exact e.symm
   ·exact absurd ⟨h j (by omega) e,e⟩ hn
theorem UH {X:Nat->α} {D:Nat->Prop} {j n:Nat} (hj:j<=n) (hb: ∀i,i<j->X (i+1)≠X i->D i) (ha: ∀k,j<=k->k<n->D k->X (k+1)=X k):mix X D n=X j:=
 (Gb hj ha).trans (Gd hb)
theorem yo {X:Nat->α} {D D':Nat->Prop}: ∀ {n:Nat},(∀k,k<n->X (k+1)≠X k->(D k↔D' k))->mix X D n=mix X D' n
 |0,_=>rfl
 |n+1,h=>by
  rw[mix,mix,yo fun k hk=>h k (by omega)]
  by_cases e:X (n+1)=X n
  ·simp[e]
  ·have:=h n (by omega) e
   by_cases d:D n
   ·rw[if_pos ⟨d,e⟩,if_pos ⟨this.1 d,e⟩]
   ·rw[if_neg fun x=>d x.1,if_neg fun x=>d (this.2 x.1)]
theorem wx {X:Nat->α} {D:Nat->Prop} {j n:Nat} (h:X (j+1)=X j):mix X (fun k=>D k\/k=j) n=mix X D n:=
 yo fun _k _ hk=>⟨fun x=>x.elim id fun e=>absurd (e▸h) hk,.inl⟩
theorem ami {X:Nat->α} {D:Nat->Prop} {j n:Nat} (hj:j<n) (hb: ∀i,i<j->X (i+1)≠X i->D i) (ha: ∀k,j<k->k<n->D k->X (k+1)=X k):
 mix X (fun k=>D k\/k=j) n=X (j+1):=
 UH (j:=j+1) (by omega) (fun i hi hne=>by
  by_cases e:i=j
  ·exact .inr e
  ·exact .inl (hb i (by omega) hne)) fun k h1 h2 hd=>ha k (by omega) h2 (hd.resolve_right (by omega))
theorem Gc {X:Nat->α} {D:Nat->Prop} {n:Nat} (h: ∀k,k<n->D k):mix X D n=X n:=Gd fun i hi _=>h i hi
theorem Gf {X:Nat->α} {D:Nat->Prop} {n:Nat} (h: ∀k,k<n-> ¬D k):mix X D n=X 0:=
 (Gb (iK n) fun k _ hk hd=>absurd hd (h k hk))
end
inductive nK (ops:Array Oper):Nat->Nat->Prop
 |one {j:Nat} {o:Oper} {e:Edge}:ops[j]? =some o->e∈o.after->Region.binds .any e=true->nK ops e.on j
 |more {i j:Nat} {o:Oper} {e:Edge}:ops[j]? =some o->e∈o.after->Region.binds .any e=true->nK ops i e.on->nK ops i j
theorem nK.closed {ops:Array Oper} {D:Nat->Prop} (hD: ∀j o,D j->ops[j]? =some o-> ∀e∈o.after,Region.binds .any e=true->D e.on) {i j:Nat} (h:nK ops i j):D j->D i:=by
 induction h with
 |one ho he hb=>exact fun hd=>hD _ _ hd ho _ he hb
 |more ho he hb _ ih=>exact fun hd=>ih (hD _ _ hd ho _ he hb)
theorem nK.ready {ops:Array Oper} {D:Nat->Prop} (hD: ∀j o,D j->ops[j]? =some o-> ∀e∈o.after,Region.binds .any e=true->D e.on) {i j:Nat}
 (hj: ∀o,ops[j]? =some o-> ∀e∈o.after,Region.binds .any e=true->D e.on) (h:nK ops i j):D i:=by
 cases h with
 |one ho he hb=>exact hj _ ho _ he hb
 |more ho he hb hd=>exact hd.closed hD (hj _ ho _ he hb)
theorem apK {s m i k:Nat} (h:(s ||| 2 ^ k ||| m).testBit i=true):s.testBit i=true\/i=k\/m.testBit i=true:=by
 simp only[Nat.testBit_or,t6,Nat.testBit_two_pow,decide_eq_true_eq] at h
 rcases h with(h|h)|h
 ·exact .inl h
 ·exact .inr (.inl h.symm)
 ·exact .inr (.inr h)
theorem Yd {ops:Array Oper} {i j b:Nat} (hb:(Region.before ops)[j]? =some b) (hi:b.testBit i=true):nK ops i j:=by
 have inner: ∀(acc:Array Nat) (j:Nat) (o:Oper),ops[j]? =some o->(∀k b,acc[k]? =some b-> ∀i,b.testBit i=true->nK ops i k)->
  ∀(l:List Edge) (s:Nat),(∀e∈l,e∈o.after)->(∀i,s.testBit i=true->nK ops i j)->
  ∀i,(l.foldl (fun s e=>if Region.binds .any e then s ||| 2 ^ e.on ||| acc.getD e.on 0 else s) s).testBit i=true->nK ops i j:=by
  intro acc j o ho hacc l
  induction l with
  |nil=>intro s _ hs i hi;exact hs i hi
  |cons e l ih=>
   intro s hl hs i hi
   refine ih _ (fun e he=>hl e (by simp[he])) ?_ i hi
   intro i hi
   simp only at hi
   split at hi
   ·rename_i hbe
    rcases apK hi with h|h|h
    ·exact hs i h
    ·subst h;exact .one ho (hl e (by simp)) hbe
    ·refine .more ho (hl e (by simp)) hbe ?_
     cases ha:acc[e.on]? with
     |none=>simp[mh,ha] at h
     |some b=>simp[mh,ha] at h;exact hacc _ b ha i h
   ·exact hs i hi
 have outer: ∀(l:List Oper) (acc:Array Nat),(∀k o,l[k]? =some o->ops[acc.size+k]? =some o)->(∀k b,acc[k]? =some b-> ∀i,b.testBit i=true->nK ops i k)->
  ∀k b,(l.foldl (fun acc o=>acc.push (o.after.foldl (fun s e=>if Region.binds .any e then s ||| 2 ^ e.on ||| acc.getD e.on 0 else s) 0)) acc)[k]? =some b->
   ∀i,b.testBit i=true->nK ops i k:=by
  intro l
  induction l with
  |nil=>intro acc _ hacc;exact hacc
  |cons o l ih=>
   intro acc hl hacc
   refine ih _ (fun k o' hk=>?_) ?_
   ·have:=hl (k+1) o' (by simpa using hk)
    rw[Array.size_push]
    rw[show acc.size+1+k=acc.size+(k+1) by omega]
    exact this
   ·intro k b hk i hi
    rw[Array.getElem?_push] at hk
    split at hk
    ·rename_i hks
     subst hks
     injection hk with hk
     subst hk
     rw[<-Array.foldl_toList] at hi
     exact inner acc acc.size o (by simpa using hl 0 o (by simp)) hacc o.after.toList 0 (fun e he=>by simpa using he) (fun i hi=>by simp at hi) i hi
    ·exact hacc k b hk i hi
 unfold Region.before at hb
 rw[<-Array.foldl_toList] at hb
 exact outer ops.toList #[] (fun k o hk=>by simpa using hk) (fun k b hk=>by simp at hk) j b hb i hi
section
variable {e e2:bq}
theorem Dd {x:Operand} (h:ev e x=ev e2 x):evc e x=evc e2 x:=by simp[evc,h]
theorem vU: ∀ {l:List Operand},(∀x∈l,ev e x=ev e2 x)->evcs e l=evcs e2 l
 | [],_=>rfl
 |x::l,h=>by
  simp only[evcs]
  rw[Dd (h x (by simp)),vU fun y hy=>h y (by simp[hy])]
theorem Dn (place:Nat->Option (Nat×Nat)): ∀ {l:List (Nat×Operand)} (cs:List aj),(∀p∈l,ev e p.2=ev e2 p.2)->ee place e cs l=ee place e2 cs l
 | [],_,_=>rfl
 |(i,x)::l,cs,h=>by
  simp only[ee]
  rw[Dd (h (i,x) (by simp))]
  have ih:=fun cs=>Dn place cs fun p hp=>h p (vm _ hp)
  simp only[ih]
theorem Gm {x:Option Operand} {d:Nat} (h: ∀y,x=some y->ev e y=ev e2 y):jX e x d=jX e2 x d:=by
 cases x with
 |none=>rfl
 |some y=>simp[jX,h y rfl]
theorem Ys {P:Program} {t:TypeId} {parts:List (Nat×Operand)} (h: ∀p∈parts,ev e p.2=ev e2 p.2):gQ P t parts e=gQ P t parts e2:=by
 simp only[gQ,Dn _ _ h]
theorem Yt {P:Program} {t:TypeId} {n:Nat} {parts:List (Nat×Operand)} {mu:Bool} {s:St} (h: ∀p∈parts,ev e p.2=ev e2 p.2):
 ey P t n parts mu e s=ey P t n parts mu e2 s:=by
 simp only[ey,Dn _ _ h]
theorem aoW {P:Program} {mk:bt} {t:TypeId} {x:aj} {lo hi mx:Option Operand} {s:St} (h1: ∀y,lo=some y->ev e y=ev e2 y) (h2: ∀y,hi=some y->ev e y=ev e2 y)
 (h3: ∀y,mx=some y->ev e y=ev e2 y):kg P mk t x lo hi mx e s=kg P mk t x lo hi mx e2 s:=by
 simp only[kg,Gm h1,Gm h2,Gm h3]
theorem HZ {P:Program} {mk:bt} {ch:Nat->Nat} {kmax:Nat->Nat} {hint:Tmp->Nat} {dst:Option Tmp} {op:Op} {n n2:Nat} {loc:Loc} {s:St} (h: ∀x∈op.operands,ev e x=ev e2 x):
 kJ P mk ch kmax hint dst op ⟨e,n,loc⟩ s=kJ P mk ch kmax hint dst op ⟨e2,n2,loc⟩ s:=by
 cases op<;>simp only[Op.operands] at h<;>simp only[kJ,Ba,Bc,wG,wH,Bb,yx,Bf,Bg,wF,Be,Bh,Bd,qZ,oS,lI]
 case build t ps=>rw[Ys fun p hp=>h p.2 (by simpa using⟨p.1,Array.mem_toList_iff.1 hp⟩)]
 case buildSlice t k ps=>rw[Yt fun p hp=>h p.2 (by simpa using⟨p.1,Array.mem_toList_iff.1 hp⟩)]
 case makeFunc fn a b=>simp only[pz,vU (l:=a.toList) fun x hx=>h x (by simp_all),vU (l:=b.toList) fun x hx=>h x (by simp_all)]
 case makeMap t r=>
  cases r with
  |none=>simp[nl]
  |some x=>simp[nl,h x (by simp)]
 case slice t x lo hi mx=>
  rw[Dd (h x (by simp))]
  simp only[aoW (lo:=lo) (hi:=hi) (mx:=mx) (fun y hy=>h y (by simp[hy])) (fun y hy=>h y (by simp[hy])) (fun y hy=>h y (by simp[hy]))]
 case call c=>
  cases hc:c.callee with
  |builtin b=>simp only[vU (l:=c.args.toList) fun x hx=>h x (by simp[Call.operands,hc];simpa using hx)]
  |value f=>rfl
  |invoke a b=>rfl
 case pick c a b=>simp only[tJ,h c (by simp),h a (by simp),h b (by simp)]
 all_goals first
  |rfl
  |(simp only[evc];simp_all;done)
  |(simp_all;done)
theorem Ij {c:Call} (h: ∀x∈c.operands,ev e x=ev e2 x):callee e c=callee e2 c:=by
 unfold callee
 cases hc:c.callee with
 |builtin b=>rfl
 |invoke a b=>rfl
 |value f=>simp only[h f (by simp[Call.operands,hc]),vU (l:=c.args.toList) fun x hx=>h x (by simp[Call.operands,hc];exact .inr (by simpa using hx))]
theorem JZ {c:Call} (h: ∀x∈c.operands,ev e x=ev e2 x):nh e c=nh e2 c:=by
 unfold nh
 cases hc:c.callee with
 |builtin b=>rfl
 |invoke a b=>rfl
 |value f=>simp only[h f (by simp[Call.operands,hc])]
theorem W1 {c:Call} (h: ∀x∈c.operands,ev e x=ev e2 x):yieldee e c=yieldee e2 c:=by
 unfold yieldee
 cases hc:c.callee with
 |builtin b=>rfl
 |invoke a b=>rfl
 |value f=>simp only[h f (by simp[Call.operands,hc]),vU (l:=c.args.toList) fun x hx=>h x (by simp[Call.operands,hc];exact .inr (by simpa using hx))]
theorem anq {Q:cI} {r:mV} {f:FuncId} {o:Oper} {mk:bt} {n n2:Nat} {loc:Loc} {s:St} (h: ∀x∈o.op.operands,ev e x=ev e2 x):
 fW Q r f o mk ⟨e,n,loc⟩ s=fW Q r f o mk ⟨e2,n2,loc⟩ s:=by
 unfold fW
 split
 ·rename_i c hc
  rw[hc] at h
  cases hb:c.callee with
  |builtin b=>
   have:=HZ (P:=Q.P) (mk:=mk) (ch:=Q.ch) (kmax:=Q.kmax) (hint:=Q.hint f) (dst:=o.dst) (op:=.call c) (n:=n) (n2:=n2) (loc:=loc) (s:=s) h
   simpa only[kJ] using this
  |value g=>simp only[mz,Ij h,pO,W1 h,JZ h]
  |invoke a b=>simp only[mz,Ij h,pO,W1 h,JZ h]
 ·exact HZ h
end
theorem wC (a b:Nat):cg a b=decide (a<b):=by
 show cK (a+1) b=_
 rw[pC];rfl
def kI (l l2:Loc) (t:Nat):Prop:=l.gen t=l2.gen t/\ ∀g,l.get t g=l2.get t g
theorem kI.refl (l:Loc) (t:Nat):kI l l t:=⟨rfl,fun _=>rfl⟩
theorem kI.symm {l l2:Loc} {t:Nat} (h:kI l l2 t):kI l2 l t:=⟨h.1.symm,fun g=>(h.2 g).symm⟩
theorem kI.set_same {l l2:Loc} (t g:Nat) (cs:List aj):kI (l.set t g cs) (l2.set t g cs) t:=by
 constructor
 ·rw[Loc.gen_set,Loc.gen_set,if_pos rfl,if_pos rfl]
 ·intro k;rw[Loc.get_set,Loc.get_set,if_pos rfl,if_pos rfl]
theorem kI.set_other {l:Loc} {t u:Nat} (h:u≠t) (g:Nat) (cs:List aj):kI (l.set t g cs) l u:=by
 constructor
 ·rw[Loc.gen_set,if_neg h]
 ·intro k;rw[Loc.get_set,if_neg h]
def oM (c:Nat) (F:gl) (m:bt):bt:=
 match F with
 | .all=>m
 | .obj n=>(0,n)::(n+1,c)::m
 |_=>(0,c)::m
theorem DA {c:Nat} {F:gl} {m:bt} {k:Nat} (h:eA (oM c F m) k=false):eA m k=false/\(F= .all\/F= .obj k\/c<=k):=by
 unfold oM at h
 split at h
 ·exact⟨h,.inl rfl⟩
 ·rename_i n
  simp only[eA,mj,B3] at h
  obtain⟨h1,h2,h3⟩:=h
  refine⟨h3,.inr ?_⟩
  simp only[pC,wC,decide_eq_false_iff_not] at h1 h2
  by_cases e:n=k
  ·exact .inl (by rw[e])
  ·exact .inr (by omega)
 ·simp only[eA,mj,B3] at h
  obtain⟨h1,h3⟩:=h
  simp only[pC,wC,decide_eq_false_iff_not] at h1
  exact⟨h3,.inr (.inr (by omega))⟩
theorem DB {c:Nat} {F:gl} {m:bt} {k:Nat} (h:eA m k=true):eA (oM c F m) k=true:=by
 cases e:eA (oM c F m) k with
 |true=>rfl
 |false=>rw[(DA e).1] at h;cases h
theorem DC {c n:Nat} {m:bt} {s:St} {o:bR} (h:s.get m n=some o):s.get (oM c (.obj n) m) n=some o:=by
 obtain⟨h1,h2⟩:=qf h
 have:eA (oM c (.obj n) m) n=false:=by
  simp only[oM,eA,h1,Bool.or_false,mj,B3,pC,wC,decide_eq_false_iff_not]
  omega
 simp[St.get,this,h2]
def cH (c:Nat) (F:gl) (store:Bool) (x:bt->Loc->Option (aj×Loc×St)):Prop:=
 ∀m loc v loc' s',x m loc=some (v,loc',s')-> ∀loc2,(∀t,F= .loc t->kI loc loc2 t)->
  ∃loc2',x (oM c F m) loc2=some (v,loc2',s')/\(∀t,F= .loc t->kI loc' loc2' t)/\(∀t,F≠ .loc t->kI loc' loc t/\kI loc2' loc2 t)/\(store=false->loc'=loc)
theorem cH.plain {c:Nat} {F:gl} {st:Bool} {g:bt->Option (aj×St)} (hF: ∀t,F≠ .loc t) (hg: ∀m r,g m=some r->g (oM c F m)=some r):cH c F st (fun m l=>ii (g m) l):=by
 intro m loc v loc' s' h loc2 _
 simp only[ii,aN] at h
 obtain⟨r,h1,h⟩:=h
 simp only[bp,bX] at h
 obtain⟨rfl,rfl,rfl⟩:=h
 exact⟨loc2,by simp[ii,hg m r h1],fun t ht=>absurd ht (hF t),fun t _=>⟨.refl _ _,.refl _ _⟩,fun _=>rfl⟩
theorem cH.value {c:Nat} {F:gl} {st:Bool} {g:bt->Option aj} {s:St} (hF: ∀t,F≠ .loc t) (hg: ∀m r,g m=some r->g (oM c F m)=some r):cH c F st (fun m l=>gi (g m) l s):=by
 intro m loc v loc' s' h loc2 _
 obtain⟨h1,rfl,rfl⟩:=kf h
 exact⟨loc2,by simp[gi,hg m v h1],fun t ht=>absurd ht (hF t),fun t _=>⟨.refl _ _,.refl _ _⟩,fun _=>rfl⟩
theorem cH.none {c:Nat} {F:gl} {st:Bool}:cH c F st (fun _ _=>.none):=by intro m loc v loc' s' h;cases h
theorem cH.bind {α:Type} {c:Nat} {F:gl} {st:Bool} (y:Option α) {k:α->bt->Loc->Option (aj×Loc×St)} (hk: ∀a,y=some a->cH c F st (k a)):cH c F st (fun m l=>y.bind fun a=>k a m l):=by
 cases y with
 |none=>intro m loc v loc' s' h;cases h
 |some a=>exact hk a rfl
theorem cH.gen {c:Nat} {F:gl} {st:Bool} {g:Loc->Option aj} {s:St} (hg: ∀l l2 r,(∀t,F= .loc t->kI l l2 t)->g l=some r->g l2=some r):cH c F st (fun _ l=>gi (g l) l s):=by
 intro m loc v loc' s' h loc2 h2
 obtain⟨h1,rfl,rfl⟩:=kf h
 exact⟨loc2,by simp[gi,hg loc' loc2 v h2 h1],fun t ht=>h2 t ht,fun t _=>⟨.refl _ _,.refl _ _⟩,fun _=>rfl⟩
theorem cH.box {c:Nat} {st:Bool} {hint:Tmp->Nat} {dst:Option Tmp} {cs:List aj} {s:St} (hst:st=true):cH c (xO hint dst) st (fun _ l=>pj (nR hint dst) dst cs l s):=by
 intro m loc v loc' s' h loc2 h2
 unfold pj at h ⊢
 cases dst with
 |none=>
  simp only[nR] at h ⊢
  simp only[show bo 0 1=false from rfl,cF,bp,bX] at h ⊢
  obtain⟨rfl,rfl,rfl⟩:=h
  exact⟨loc2,by simp,fun t ht=>by simp[xO] at ht,fun t _=>⟨.refl _ _,.refl _ _⟩,fun _=>rfl⟩
 |some t=>
  simp only[nR,xO] at h h2 ⊢
  cases e:bo (hint t) 1 with
  |false=>
   simp only[e,cF,bp,bX] at h h2 ⊢
   obtain⟨rfl,rfl,rfl⟩:=h
   exact⟨loc2,⟨rfl,rfl,rfl⟩,fun t ht=>(by cases ht),fun t _=>⟨.refl _ _,.refl _ _⟩,fun _=>rfl⟩
  |true=>
   simp only[e,cT,aq,bp,bX] at h h2 ⊢
   obtain⟨rfl,rfl,rfl⟩:=h
   have h2:=h2 t rfl
   refine⟨loc2.set t (loc.gen t+1) cs,by simp[h2.1],?_,?_,by simp[hst]⟩
   ·intro u hu;injection hu with hu;subst hu;exact .set_same _ _ _
   ·intro u hu
    have hu:u≠t:=fun e=>hu (by rw[e])
    exact⟨.set_other hu _ _,.set_other hu _ _⟩
section
variable {P:Program} {ch:Nat->Nat} {kmax:Nat->Nat} {hint:Tmp->Nat} {dst:Option Tmp} {e:bq} {n c:Nat} {s:St}
theorem aaR (t:TypeId) (a:Operand):cH c (tl e a) false (fun m l=>wG P m t a ⟨e,n,l⟩ s):=by
 unfold wG tl
 refine cH.bind (ev e a) fun u hu=>?_
 simp only[hu]
 cases u<;>try (exact cH.none)
 case ptr k off=>
  refine cH.value (g:=fun m=>lY P m t (.ptr k off) [] s) (by simp) fun m r hr=>?_
  simp only[lY,aN] at hr ⊢
  obtain⟨ob,hob,hr⟩:=hr
  exact⟨ob,DC hob,hr⟩
 case lref k g off=>
  refine cH.gen (g:=fun l=>lY P [] t (.lref k g off) l s) fun l l2 r hl hr=>?_
  simp only[lY] at hr ⊢
  rw[<-(hl k rfl).2];exact hr
 case ro cs=>exact cH.value (g:=fun m=>lY P m t (.ro cs) [] s) (by simp) fun m r hr=>hr
theorem aaU (t:TypeId) (a x:Operand):cH c (tl e a) true (fun m l=>wH P m t a x ⟨e,n,l⟩ s):=by
 unfold wH tl
 refine cH.bind (ev e a) fun u hu=>cH.bind (evc e x) fun v _=>?_
 simp only[hu,qC]
 cases hs:fQ P t with
 |none=>exact cH.none
 |some k=>
  simp only[aq]
  cases hc:bo v.cells.length k&&cg 0 k with
  |false=>exact cH.none
  |true=>
   simp only[cT]
   cases u<;>try (exact cH.none)
   case ptr j off=>
    intro m loc v' loc' s' h loc2 _
    simp only[aN] at h ⊢
    obtain⟨r,⟨ob,hob,h1⟩,h2⟩:=h
    cases ob<;>simp only[aN] at h1<;>try (cases h1;done)
    rename_i cs
    obtain⟨cs',hcs,h1⟩:=h1
    injection h1 with h1;subst h1
    simp only[bp,bX] at h2
    obtain⟨rfl,rfl,rfl⟩:=h2
    exact⟨loc2,⟨(loc2,_),⟨_,DC hob,by simp only[hcs,aq];rfl⟩,rfl⟩,fun t ht=>(by cases ht),fun t _=>⟨.refl _ _,.refl _ _⟩,fun _=>rfl⟩
   case lref j g off=>
    intro m loc v' loc' s' h loc2 hl
    simp only[aN] at h ⊢
    obtain⟨r,⟨cs,hcs,cs',hw,h1⟩,h2⟩:=h
    injection h1 with h1;subst h1
    simp only[bp,bX] at h2
    obtain⟨rfl,rfl,rfl⟩:=h2
    refine⟨loc2.set j g cs',⟨(_,s),⟨cs,by rw[<-(hl j rfl).2];exact hcs,cs',hw,rfl⟩,rfl⟩,?_,?_,by simp⟩
    ·intro u hu;injection hu with hu;subst hu;exact .set_same _ _ _
    ·intro u hu
     have hu:u≠j:=fun e=>hu (by rw[e])
     exact⟨.set_other hu _ _,.set_other hu _ _⟩
theorem aaS (x:Operand):cH c (qe e x) false (fun _ l=>oS x (tF l) ⟨e,n,l⟩ s):=by
 unfold oS qe
 refine cH.bind (ev e x) fun u hu=>?_
 simp only[hu]
 refine cH.gen (g:=fun l=>tF l u) fun l l2 r hl hr=>?_
 cases u
 case lref=>
  simp only[tF] at hr ⊢
  rw[<-(hl _ rfl).1];exact hr
 case func fn _ _=>cases fn<;>exact hr
 all_goals exact hr
theorem aaP (t:TypeId) (x:Operand) (f:Nat):cH c (qe e x) false (fun _ l=>oS x (fun x=>fO P l t x f) ⟨e,n,l⟩ s):=by
 unfold oS qe
 refine cH.bind (ev e x) fun u hu=>?_
 simp only[hu]
 refine cH.gen (g:=fun l=>fO P l t u f) fun l l2 r hl hr=>?_
 cases u<;>try exact hr
 simp only[fO] at hr ⊢
 rw[<-(hl _ rfl).1];exact hr
theorem aaQ (t:TypeId) (x i:Operand):cH c (qe e x) false (fun _ l=>wF P t x i ⟨e,n,l⟩ s):=by
 unfold wF qe
 refine cH.bind (ev e x) fun u hu=>?_
 simp only[hu]
 refine cH.bind (ev e i) fun j _=>?_
 refine cH.gen (g:=fun l=>iU P l t u j) fun l l2 r hl hr=>?_
 cases u<;>try exact hr
 simp only[iU] at hr ⊢
 rw[<-(hl _ rfl).1];exact hr
theorem aoX {m m2:bt} {t:TypeId} {x:aj} {lo hi mx:Option Operand} {r:aj} (hx: ∀k off,x= .ptr k off-> ∀o,s.get m k=some o->s.get m2 k=some o) (h:kg P m t x lo hi mx e s=some r):
 kg P m2 t x lo hi mx e s=some r:=by
 simp only[kg,aN] at h ⊢
 obtain⟨d,hd,h⟩:=h
 refine⟨d,hd,?_⟩
 split at h
 ·exact h
 ·exact h
 ·simp only[aN] at h ⊢
  obtain⟨k,hk,h⟩:=h
  refine⟨k,hk,?_⟩
  split at h
  ·simp only[aN] at h ⊢
   obtain⟨p,hp,q,hq,ob,hob,h⟩:=h
   exact⟨p,hp,q,hq,ob,hx _ _ rfl _ hob,h⟩
  ·cases h
 ·cases h
theorem aaT (t:TypeId) (x:Operand) (lo hi mx:Option Operand):cH c (dL hint dst e (.slice t x lo hi mx)) false (fun m l=>lI x (fun x=>kg P m t x lo hi mx e s) ⟨e,n,l⟩ s):=by
 unfold lI
 refine cH.bind (evc e x) fun u hu=>?_
 have hu:ev e x=some u:=by
  simp only[evc,aN] at hu
  obtain⟨y,hy,hu⟩:=hu
  rw[hy,(cq hu).2]
 simp only[dL,hu]
 refine cH.value (g:=fun m=>kg P m t u lo hi mx e s) ?_ fun m r hr=>?_
 ·intro t;split<;>simp
 ·refine aoX (fun k off he o ho=>?_) hr
  subst he
  exact DC ho
theorem cH.state {F:gl} {st:Bool} {g:bt->Option St} (hF: ∀t,F≠ .loc t) (hg: ∀m r,g m=some r->g (oM c F m)=some r):cH c F st (fun m l=>mN (g m) l):=by
 intro m loc v loc' s' h loc2 _
 simp only[mN,aN] at h
 obtain⟨r,h1,h⟩:=h
 simp only[bp,bX] at h
 obtain⟨rfl,rfl,rfl⟩:=h
 exact⟨loc2,by simp[mN,hg m r h1],fun t ht=>absurd ht (hF t),fun t _=>⟨.refl _ _,.refl _ _⟩,fun _=>rfl⟩
theorem oB {α:Type} {g:bt->Option α} (m:bt) (r:α) (h:g m=some r):g (oM c .all m)=some r:=h
theorem Jo (cl:Call):cH c (dL hint dst e (.call cl)) false (fun m l=>qZ P m hint dst cl ⟨e,n,l⟩ s):=by
 obtain⟨callee,args,ats⟩:=cl
 unfold qZ
 cases callee with
 |value f=>exact cH.none
 |invoke a b=>exact cH.none
 |builtin b=>
  refine cH.bind (evcs e args.toList) fun vs hvs=>?_
  cases b
  case min=>exact cH.plain (g:=fun m=>my P m .min _ _ vs s) (by simp[dL]) fun m r hr=>by cases vs<;>exact hr
  case max=>exact cH.plain (g:=fun m=>my P m .max _ _ vs s) (by simp[dL]) fun m r hr=>by cases vs<;>exact hr
  case len=>
   refine cH.plain (g:=fun m=>my P m .len _ _ vs s) ?_ fun m r hr=>?_
   ·intro t;simp only[dL];split
    ·split<;>simp
    ·simp
   ·simp only[my] at hr ⊢
    split at hr<;>try first|(cases hr;done)|(exfalso;rename_i he _;cases he;done)|(exfalso;rename_i he;cases he;done)
    simp only[aN] at hr ⊢
    obtain⟨v,hv,hr⟩:=hr
    refine⟨v,?_,hr⟩
    obtain⟨args⟩:=args
    simp only at hvs
    cases args with
    |nil=>simp[evcs] at hvs
    |cons a0 l=>
     simp only[evcs,aN] at hvs
     obtain⟨u,hu,l',_,hvs⟩:=hvs
     injection hvs with hvs
     injection hvs with hv1 hv2
     subst hv1
     have hu:ev e a0=some u:=by
      simp only[evc,aN] at hu
      obtain⟨y,hy,hu⟩:=hu
      rw[hy,(cq hu).2]
     simp only[ie,dL,B7,List.getElem?_cons_zero,hu] at hv ⊢
     generalize P.underlying _=ud at hv ⊢
     cases ud with
     |none=>exact hv
     |some d=>
      simp only[aq] at hv ⊢
      cases u<;>cases d<;>exact hv
  all_goals exact cH.plain (g:=fun m=>my P m _ _ _ vs s) (by simp[dL]) oB
theorem aaO (op:Op):cH c (dL hint dst e op) (isStore op) (fun m l=>kJ P m ch kmax hint dst op ⟨e,n,l⟩ s):=by
 cases op<;>simp only[kJ]
 case load t a=>exact aaR t a
 case store t a x=>exact aaU t a x
 case nilCheck x=>exact aaS x
 case fieldAddr t x f=>exact aaP t x f
 case indexAddr t x i=>exact aaQ t x i
 case slice t x lo hi mx=>exact aaT t x lo hi mx
 case call cl=>exact Jo cl
 case alloc t=>exact cH.bind (fF P t) fun z _=>cH.box (cs:=z.cells) rfl
 case box t x=>exact cH.bind (evc e x) fun z _=>cH.box (cs:=z.cells) rfl
 case move x=>exact cH.value (g:=fun _=>ev e x) (by simp[dL]) fun _ _ h=>h
 case assign x=>exact cH.value (g:=fun _=>ev e x) (by simp[dL]) fun _ _ h=>h
 case pick a b d=>exact cH.value (g:=fun _=>tJ e a b d) (by simp[dL]) fun _ _ h=>h
 case build t ps=>exact cH.value (g:=fun _=>gQ P t ps.toList e) (by simp[dL]) fun _ _ h=>h
 case buildSlice t k ps=>exact cH.plain (g:=fun _=>ey P t k ps.toList _ e s) (by simp[dL]) fun _ _ h=>h
 case binOp o t x y yt=>exact cH.bind (evc e x) fun u _=>cH.bind (evc e y) fun v _=>cH.value (g:=fun _=>gf P o t u v) (by simp[dL]) fun _ _ h=>h
 case unOp o t x=>exact cH.bind (evc e x) fun u _=>cH.value (g:=fun _=>w4 o u) (by simp[dL]) fun _ _ h=>h
 case convert a b x=>exact cH.bind (evc e x) fun u _=>cH.value (g:=fun _=>zo P a b u) (by simp[dL]) fun _ _ h=>h
 case makeFunc f a b=>exact cH.value (g:=fun _=>pz e f a b) (by simp[dL]) fun _ _ h=>h
 case makeMap t r=>exact cH.plain (g:=fun _=>nl P t e r s) (by simp[dL]) fun _ _ h=>h
 case makeSlice t a b=>exact cH.bind (ev e a) fun u _=>cH.bind (ev e b) fun v _=>cH.plain (g:=fun _=>tD P t u v _ s) (by simp[dL]) fun _ _ h=>h
 case field t x f=>exact cH.bind (evc e x) fun u _=>cH.value (g:=fun _=>zu P t u f) (by simp[dL]) fun _ _ h=>h
 case index t x i=>exact cH.bind (evc e x) fun u _=>cH.bind (ev e i) fun v _=>cH.value (g:=fun _=>qT P t u v) (by simp[dL]) fun _ _ h=>h
 case extract x i=>exact cH.bind (ev e x) fun u _=>cH.value (g:=fun _=>iy i u) (by simp[dL]) fun _ _ h=>h
 case lookup t x i ok=>exact cH.bind (evc e x) fun u _=>cH.bind (evc e i) fun v _=>cH.value (g:=fun m=>lZ P m t u v ok s) (by simp[dL]) oB
 case mapEntry t x i=>exact cH.bind (evc e x) fun u _=>cH.bind (evc e i) fun v _=>cH.plain (g:=fun m=>uH P m t u v s) (by simp[dL]) oB
 case range t x=>exact cH.bind (evc e x) fun u _=>cH.plain (g:=fun m=>l6 P m t u s) (by simp[dL]) oB
 case next x b=>exact cH.bind (evc e x) fun u _=>cH.plain (g:=fun m=>kR m ch kmax u b s) (by simp[dL]) oB
 case entry x=>exact cH.bind (evc e x) fun u _=>cH.value (g:=fun m=>qa m u s) (by simp[dL]) oB
 case mapUpdate t a b d=>exact cH.bind (evc e a) fun u _=>cH.bind (evc e b) fun v _=>cH.bind (evc e d) fun x _=>cH.state (g:=fun m=>mR P m t u v x s) (by simp[dL]) oB
 case insert t a b d=>exact cH.bind (evc e a) fun u _=>cH.bind (evc e b) fun v _=>cH.bind (evc e d) fun x _=>cH.state (g:=fun m=>mR P m t u v x s) (by simp[dL]) oB
 case entryStore t a b d=>exact cH.bind (evc e a) fun u _=>cH.bind (evc e b) fun v _=>cH.bind (evc e d) fun x _=>cH.state (g:=fun m=>vO m u v x s) (by simp[dL]) oB
 all_goals exact cH.none
theorem DG {Q:cI} {r:mV} {f:FuncId} {o:Oper}:cH c (dL (Q.hint f) o.dst e o.op) (isStore o.op) (fun m l=>fW Q r f o m ⟨e,n,l⟩ s):=by
 unfold fW
 cases ho:o.op<;>simp only<;>try exact aaO _
 rename_i cl
 cases hc:cl.callee with
 |builtin b=>exact Jo cl
 |value g=>
  obtain⟨callee,args,ats⟩:=cl
  simp only at hc;subst hc
  simp only
  generalize hy:nh e _=y
  cases y with
  |true=>
   simp only[cT]
   refine cH.bind (Ag.yieldee e _) fun g _=>?_
   exact cH.plain (g:=fun m=>mc r g.1 g.2 m s) (by simp[dL]) oB
  |false=>
   simp only[cF]
   refine cH.bind (Ag.callee e _) fun g _=>?_
   exact cH.plain (g:=fun m=>r.call g.1 g.2 m s) (by simp[dL]) oB
 |invoke a b=>
  obtain⟨callee,args,ats⟩:=cl
  simp only at hc;subst hc
  simp only
  generalize hy:nh e _=y
  cases y with
  |true=>
   simp only[cT]
   refine cH.bind (Ag.yieldee e _) fun g _=>?_
   exact cH.plain (g:=fun m=>mc r g.1 g.2 m s) (by simp[dL]) oB
  |false=>
   simp only[cF]
   refine cH.bind (Ag.callee e _) fun g _=>?_
   exact cH.plain (g:=fun m=>r.call g.1 g.2 m s) (by simp[dL]) oB
end
def y8 (bi:Nat) (r:eY) (foot:gl) (loud:Bool) (m:bt):Prop:=
 bi.testBit r.i=true\/(((loud||r.loud)&&foot.meets r.foot)=false/\ ∀n,r.c0<=n->n<r.c1->eA m n=true)
theorem Uz {bi:Nat} {mk:bt}: ∀ {rs:List eY} {r:eY},r∈rs->bi.testBit r.i=false-> ∀n,r.c0<=n->n<r.c1->eA (jE bi rs mk) n=true
 | [],_,h,_,_,_,_=>by cases h
 |q::rs,r,h,hb,n,h0,h1=>by
  unfold jE
  rcases List.mem_cons.1 h with rfl|h
  ·have:bo r.c0 r.c1=false:=by
    cases e:bo r.c0 r.c1 with
    |false=>rfl
    |true=>have:=fN e;omega
   simp only[hb,this,Bool.or_self,cF,eA,pC,wC,t6,df,decide_eq_true_eq]
   exact .inl ⟨h0,h1⟩
  ·have ih:=Uz (mk:=mk) h hb n h0 h1
   cases bi.testBit q.i||bo q.c0 q.c1
   ·simp only[cF,eA,ih,Bool.or_true]
   ·simpa using ih
theorem aaE {bi:Nat} {foot:gl} {loud:Bool} {rs:List eY} {mk:bt} (h:fits bi foot loud rs=true) {r:eY} (hr:r∈rs):y8 bi r foot loud (jE bi rs mk):=by
 have:=List.all_eq_true.1 h r hr
 cases hb:bi.testBit r.i with
 |true=>exact .inl hb
 |false=>
  refine .inr ⟨?_,Uz hr hb⟩
  simp only[hb,jI] at this
  cases e:(loud||r.loud)&&foot.meets r.foot with
  |false=>rfl
  |true=>rw[e] at this;cases this
section
variable (Q:cI) (f:FuncId) (all:Array Oper) (mk:bt) (F:Nat->Fr) (S:Nat->St) (M:Nat->bt) (lv:Nat->Nat) (Lo:Nat->Bool)
def ze (k:Nat) (o:Oper):Prop:=
 (fE all (F k).env o=true/\ ∃v loc' s1,fW Q (db Q (lv k)) f o (M k) (F k) ⟨(S k).heap,(S k).next,(S k).next,(S k).ci⟩=some (v,loc',s1)/\s1.ci=(S k).ci/\
  eZ (F k) o.dst v loc'=some (F (k+1))/\S (k+1)=(S k).least s1/\Lo k=(cg s1.minw (S k).next||isStore o.op))\/
 (fE all (F k).env o=false/\eZ (F k) o.dst iB (F k).loc=some (F (k+1))/\S (k+1)=S k)
structure xn (i:Nat) (rs:List eY) (bs:List Nat) (l:List Oper):Prop where
 step: ∀k o,l[k]? =some o->ze Q f all F S M lv Lo (i+k) o
 more: ∀k o,l[k]? =some o-> ∀n,eA mk n=true->eA (M (i+k)) n=true
 old: ∀k o,l[k]? =some o->fE all (F (i+k)).env o=true-> ∀r∈rs,y8 ((bs[k]?).getD 0) r (dL (Q.hint f) o.dst (F (i+k)).env o.op) (Lo (i+k)) (M (i+k))
 pair: ∀k k' o o',k'<k->l[k]? =some o->l[k']? =some o'->fE all (F (i+k)).env o=true->fE all (F (i+k')).env o'=true->
  y8 ((bs[k]?).getD 0) ⟨i+k',(S (i+k')).next,(S (i+k'+1)).next,dL (Q.hint f) o'.dst (F (i+k')).env o'.op,Lo (i+k')⟩ (dL (Q.hint f) o.dst (F (i+k)).env o.op) (Lo (i+k)) (M (i+k))
end
theorem Jy (bs:List Nat):(bs[0]?).getD 0=bs.headD 0:=by cases bs<;>rfl
theorem BQ (bs:List Nat) (k:Nat):bs.tail[k]? =bs[k+1]? :=by cases bs<;>simp
theorem qS {α:Type} (i:Nat) (a:α) (F:Nat->α): ∃F':Nat->α,F' i=a/\ ∀k,F' (i+1+k)=F (i+1+k):=
 ⟨fun k=>if k=i then a else F k,by simp,fun k=>by simp only;rw[if_neg (by omega)]⟩
theorem xn.cons {Q:cI} {f:FuncId} {all:Array Oper} {mk:bt} {F F':Nat->Fr} {S S':Nat->St} {M M':Nat->bt} {lv lv':Nat->Nat} {Lo Lo':Nat->Bool} {i:Nat} {rs rs':List eY} {bs:List Nat} {o:Oper} {l:List Oper}
 (t:xn Q f all mk F S M lv Lo (i+1) rs' bs.tail l) (hF: ∀k,F' (i+1+k)=F (i+1+k)) (hS: ∀k,S' (i+1+k)=S (i+1+k)) (hM: ∀k,M' (i+1+k)=M (i+1+k))
 (hlv: ∀k,lv' (i+1+k)=lv (i+1+k)) (hLo: ∀k,Lo' (i+1+k)=Lo (i+1+k)) (hst:ze Q f all F' S' M' lv' Lo' i o) (hmk: ∀n,eA mk n=true->eA (M' i) n=true)
 (hold:fE all (F' i).env o=true-> ∀r∈rs,y8 (bs.headD 0) r (dL (Q.hint f) o.dst (F' i).env o.op) (Lo' i) (M' i)) (hrs: ∀r∈rs,r∈rs')
 (hr:fE all (F' i).env o=true->⟨i,(S' i).next,(S' (i+1)).next,dL (Q.hint f) o.dst (F' i).env o.op,Lo' i⟩∈rs'):xn Q f all mk F' S' M' lv' Lo' i rs bs (o::l) where
 step k p hk:=by
  cases k with
  |zero=>simp at hk;subst hk;exact hst
  |succ k=>
   have:=t.step k p (by simpa using hk)
   unfold ze at this ⊢
   rw[show i+(k+1)=i+1+k by omega,show i+1+k+1=i+1+(k+1) by omega,hF,hF,hS,hS,hM,hlv,hLo]
   exact this
 more k p hk n hn:=by
  cases k with
  |zero=>exact hmk n hn
  |succ k=>rw[show i+(k+1)=i+1+k by omega,hM];exact t.more k p (by simpa using hk) n hn
 old k p hk hw r hr:=by
  cases k with
  |zero=>simp at hk;subst hk;rw[Jy];exact hold hw r hr
  |succ k=>
   rw[show i+(k+1)=i+1+k by omega] at hw ⊢
   rw[hF] at hw ⊢
   rw[hM,hLo,<-BQ]
   exact t.old k p (by simpa using hk) hw r (hrs r hr)
 pair k k' p p' hlt hk hk' hw hw':=by
  cases k with
  |zero=>omega
  |succ k=>
   rw[show i+(k+1)=i+1+k by omega] at hw ⊢
   rw[hF] at hw ⊢
   rw[hM,hLo,<-BQ]
   cases k' with
   |zero=>
    simp at hk';subst hk'
    exact t.old k p (by simpa using hk) hw _ (hr hw')
   |succ k'=>
    rw[show i+(k'+1)=i+1+k' by omega] at hw' ⊢
    rw[hF] at hw' ⊢
    rw[hLo,show i+1+k'+1=i+1+(k'+1) by omega,hS,hS]
    exact t.pair k k' p p' (by omega) (by simpa using hk) (by simpa using hk') hw hw'
theorem C3 {Q:cI} {f:FuncId} {all:Array Oper} {mk:bt}: ∀ {l:List Oper} {n:Nat} {bs:List Nat} {rs:List eY} {i:Nat} {fr fr':Fr} {s s':St},
 (db Q n).draw f all bs mk rs i l fr s=some (fr',s')->
 ∃F S M lv Lo,F i=fr/\S i=s/\F (i+l.length)=fr'/\S (i+l.length)=s'/\(∀k o,l[k]? =some o->lv (i+k)<n)/\xn Q f all mk F S M lv Lo i rs bs l
 |l,0,bs,rs,i,fr,fr',s,s',h=>by cases h
 | [],n+1,bs,rs,i,fr,fr',s,s',h=>by
   have h:some (fr,s)=some (fr',s'):=h
   simp only[bp,bX] at h
   obtain⟨rfl,rfl⟩:=h
   exact⟨fun _=>fr,fun _=>s,fun _=>mk,fun _=>0,fun _=>false,rfl,rfl,rfl,rfl,by simp,⟨by simp,by simp,by simp,by simp⟩⟩
 |o::l,n+1,bs,rs,i,fr,fr',s,s',h=>by
  have h:mE Q (db Q n) f all bs mk rs i (o::l) fr s=some (fr',s'):=h
  simp only[mE] at h
  cases hw:fE all fr.env o with
  |true=>
   simp only[hw,cT,aN] at h
   obtain⟨⟨v,loc',s1⟩,h1,h⟩:=h
   obtain⟨hc,h⟩:=cq h
   simp only[aN] at h
   obtain⟨fr1,hf,h⟩:=h
   simp only[df] at hc
   obtain⟨hfit,hci⟩:=hc
   have hci:=fN hci
   obtain⟨F,S,M,lv,Lo,e1,e2,e3,e4,hlv,t⟩:=C3 h
   obtain⟨F',F0,F1⟩:=qS i fr F
   obtain⟨S',S0,S1⟩:=qS i s S
   obtain⟨M',M0,M1⟩:=qS i (jE (bs.headD 0) rs mk) M
   obtain⟨lv',lv0,lv1⟩:=qS i n lv
   obtain⟨Lo',Lo0,Lo1⟩:=qS i (cg s1.minw s.next||isStore o.op) Lo
   have eF:F' (i+1)=fr1:=(F1 0).trans e1
   have eS:S' (i+1)=s.least s1:=(S1 0).trans e2
   refine⟨F',S',M',lv',Lo',F0,S0,?_,?_,?_,t.cons F1 S1 M1 lv1 Lo1 ?_ ?_ ?_ ?_ ?_⟩
   ·rw[aR,show i+(l.length+1)=i+1+l.length by omega,F1];exact e3
   ·rw[aR,show i+(l.length+1)=i+1+l.length by omega,S1];exact e4
   ·intro k p hk
    cases k with
    |zero=>rw[cQ,lv0];omega
    |succ k=>
     rw[show i+(k+1)=i+1+k by omega,lv1]
     have:=hlv k p (by simpa using hk)
     omega
   ·refine .inl ⟨by rw[F0];exact hw,v,loc',s1,?_,?_,?_,?_,?_⟩
    ·rw[F0,S0,M0,lv0];exact h1
    ·rw[S0];exact hci.symm
    ·rw[F0,eF];exact hf
    ·rw[S0,eS]
    ·rw[S0,Lo0]
   ·intro m hm;rw[M0];exact Jz hm
   ·intro _ r hr
    rw[F0,Lo0,M0]
    exact aaE hfit hr
   ·intro r hr;exact vm _ hr
   ·intro _
    rw[S0,eS,F0,Lo0]
    exact List.mem_cons_self
  |false=>
   simp only[hw,cF,aN] at h
   obtain⟨fr1,hf,h⟩:=h
   obtain⟨F,S,M,lv,Lo,e1,e2,e3,e4,hlv,t⟩:=C3 h
   obtain⟨F',F0,F1⟩:=qS i fr F
   obtain⟨S',S0,S1⟩:=qS i s S
   obtain⟨M',M0,M1⟩:=qS i mk M
   obtain⟨lv',lv0,lv1⟩:=qS i n lv
   obtain⟨Lo',Lo0,Lo1⟩:=qS i false Lo
   have eF:F' (i+1)=fr1:=(F1 0).trans e1
   have eS:S' (i+1)=s:=(S1 0).trans e2
   refine⟨F',S',M',lv',Lo',F0,S0,?_,?_,?_,t.cons F1 S1 M1 lv1 Lo1 ?_ ?_ ?_ ?_ ?_⟩
   ·rw[aR,show i+(l.length+1)=i+1+l.length by omega,F1];exact e3
   ·rw[aR,show i+(l.length+1)=i+1+l.length by omega,S1];exact e4
   ·intro k p hk
    cases k with
    |zero=>rw[cQ,lv0];omega
    |succ k=>
     rw[show i+(k+1)=i+1+k by omega,lv1]
     have:=hlv k p (by simpa using hk)
     omega
   ·exact .inr ⟨by rw[F0];exact hw,by rw[F0,eF];exact hf,by rw[S0,eS]⟩
   ·intro m hm;rw[M0];exact hm
   ·intro h' r hr
    rw[F0,hw] at h';cases h'
   ·intro r hr;exact hr
   ·intro h';rw[F0,hw] at h';cases h'
theorem H1 {ops:Array Oper}: ∀ {l:List Oper} {bs:List Nat} {b:Nat},lR ops b l bs=true-> ∀i j x y,i<j->l[i]? =some x->l[j]? =some y->((bs[j]?).getD 0).testBit (b+i)=true\/xF ops x y=true
 | [],_,_,_,i,j,x,y,_,hx,_=>by simp at hx
 |o::l,bs,b,h,i,j,x,y,hlt,hx,hy=>by
  simp only[lR,df] at h
  obtain⟨_,h1,h2⟩:=h
  cases j with
  |zero=>omega
  |succ j=>
   rw[<-BQ]
   cases i with
   |succ i=>
    have:=H1 h2 i j x y (by omega) (by simpa using hx) (by simpa using hy)
    rw[show b+1+i=b+(i+1) by omega] at this
    exact this
   |zero=>
    simp at hx;subst hx
    have hin: ∀ {l:List Oper} {bs:List Nat},zk ops o b l bs=true-> ∀(j:Nat) y,l[j]? =some y->((bs[j]?).getD 0).testBit b=true\/xF ops o y=true:=by
     intro l
     induction l with
     |nil=>intro bs _ j y hy;simp at hy
     |cons z l ih=>
      intro bs h j y hy
      simp only[zk,df,t6] at h
      cases j with
      |zero=>simp at hy;subst hy;rw[Jy];exact h.1
      |succ j=>rw[<-BQ];exact ih h.2 j y (by simpa using hy)
    exact hin h1 j y (by simpa using hy)
theorem H0 {ops:Array Oper}: ∀ {l:List Oper} {bs:List Nat} {b:Nat},lR ops b l bs=true-> ∀i x,l[i]? =some x-> ∀e∈x.after,Region.binds .any e=true->e.on<b+i
 | [],_,_,_,i,x,hx,_,_,_=>by simp at hx
 |o::l,bs,b,h,i,x,hx,e,he,hb=>by
  simp only[lR,df] at h
  obtain⟨h0,_,h2⟩:=h
  cases i with
  |zero=>
   simp at hx;subst hx
   have:=List.all_eq_true.1 h0 e (Array.mem_toList_iff.2 he)
   simp only[hb,Bool.not_true,jI] at this
   exact nN this
  |succ i=>
   have:=H0 h2 i x (by simpa using hx) e he hb
   omega
structure bu (Q:cI) (f:FuncId) (all:Array Oper) (mk:bt) (F:Nat->Fr) (S:Nat->St) (M:Nat->bt) (lv:Nat->Nat) (Lo:Nat->Bool):Prop where
 tr:xn Q f all mk F S M lv Lo 0 [] (Region.before all).toList all.toList
 ap:lR all 0 all.toList (Region.before all).toList=true
 fresh: ∀n,(S 0).next<=n->(S 0).heap.get n=none
section
variable {Q:cI} {f:FuncId} {all:Array Oper} {mk:bt} {F:Nat->Fr} {S:Nat->St} {M:Nat->bt} {lv:Nat->Nat} {Lo:Nat->Bool}
noncomputable def bu.foot (Q:cI) (f:FuncId) (F:Nat->Fr) (k:Nat) (o:Oper):gl:=dL (Q.hint f) o.dst (F k).env o.op
noncomputable def bu.fm (Q:cI) (f:FuncId) (F:Nat->Fr) (S:Nat->St) (M:Nat->bt) (k:Nat) (o:Oper):bt:=oM (S k).next (bu.foot Q f F k o) (M k)
theorem bu.step (t:bu Q f all mk F S M lv Lo) {k:Nat} {o:Oper} (hk:all[k]? =some o):ze Q f all F S M lv Lo k o:=by
 have:=t.tr.step k o (by simpa using hk)
 rwa [aQ] at this
theorem bu.done (t:bu Q f all mk F S M lv Lo) {k:Nat} {o:Oper} (hk:all[k]? =some o) (hw:fE all (F k).env o=true):
 ∃v loc' s1,fW Q (db Q (lv k)) f o (M k) (F k) ⟨(S k).heap,(S k).next,(S k).next,(S k).ci⟩=some (v,loc',s1)/\s1.ci=(S k).ci/\
  eZ (F k) o.dst v loc'=some (F (k+1))/\S (k+1)=(S k).least s1/\Lo k=(cg s1.minw (S k).next||isStore o.op)/\
  gI (bu.fm Q f F S M k o) ⟨(S k).heap,(S k).next,(S k).next,(S k).ci⟩ s1:=by
 rcases t.step hk with⟨_,v,loc',s1,h1,h2,h3,h4,h5⟩|⟨h,_⟩
 ·refine⟨v,loc',s1,h1,h2,h3,h4,h5,?_⟩
  obtain⟨loc2',h6,_⟩:=DG (c:=(S k).next) (e:=(F k).env) (n:=(F k).size) (M k) (F k).loc v loc' s1 h1 (F k).loc (fun _ _=>.refl _ _)
  have hl:=yg (Q:=Q) (kO Q (lv k)) f o (bu.fm Q f F S M k o) (F k)
  exact(hl Q.ch _ v loc2' s1 h6).1
 ·rw[hw] at h;cases h
theorem bu.next_le (t:bu Q f all mk F S M lv Lo) {k:Nat} {o:Oper} (hk:all[k]? =some o):(S k).next<=(S (k+1)).next:=by
 cases hw:fE all (F k).env o with
 |true=>
  obtain⟨v,loc',s1,_,_,_,h4,_,g⟩:=t.done hk hw
  rw[h4];exact g.next
 |false=>
  rcases t.step hk with⟨h,_⟩|⟨_,_,h⟩
  ·rw[hw] at h;cases h
  ·rw[h];exact bK _
theorem bu.mono (t:bu Q f all mk F S M lv Lo) {i:Nat}: ∀ {j:Nat},i<=j->j<=all.size->(S i).next<=(S j).next
 |0,h,_=>by have:i=0:=by omega
            subst this;exact bK _
 |j+1,h,hj=>by
  by_cases e:i=j+1
  ·rw[e];exact bK _
  ·exact gN (t.mono (by omega) (by omega)) (t.next_le (nG (by omega)))
theorem bu.none_above (t:bu Q f all mk F S M lv Lo): ∀ {k:Nat},k<=all.size-> ∀n,(S k).next<=n->(S k).heap.get n=none
 |0,_,n,h=>t.fresh n h
 |k+1,hk,n,h=>by
  have ho:all[k]? =some all[k]:=nG (by omega)
  have hle:=t.next_le ho
  have ih:=t.none_above (k:=k) (by omega) n (by omega)
  cases hw:fE all (F k).env all[k] with
  |true=>
   obtain⟨v,loc',s1,_,_,_,h4,_,g⟩:=t.done ho hw
   rw[h4] at h ⊢
   refine(g.frame n ?_).trans ih
   rintro(⟨_,h'⟩|h')
   ·exact h' ih
   ·exact absurd h (by have:=h'.2;show¬s1.next<=n;omega)
  |false=>
   rcases t.step ho with⟨h',_⟩|⟨_,_,h'⟩
   ·rw[hw] at h';cases h'
   ·rw[h'];exact ih
def bu.Th (Q:cI) (f:FuncId) (all:Array Oper) (F:Nat->Fr) (S:Nat->St) (M:Nat->bt) (k n:Nat):Prop:=
 ∃o,all[k]? =some o/\fE all (F k).env o=true/\lQ (bu.fm Q f F S M k o) (S k) (S (k+1)) n
open Classical in
noncomputable def bu.X (Q:cI) (f:FuncId) (all:Array Oper) (F:Nat->Fr) (S:Nat->St) (M:Nat->bt) (H:Nat->Option bR) (n:Nat):Nat->Option bR
 |0=>H n
 |k+1=>if bu.Th Q f all F S M k n then(S (k+1)).heap.get n else bu.X Q f all F S M H n k
theorem bu.X_change {H:Nat->Option bR} {n k:Nat} (h:bu.X Q f all F S M H n (k+1)≠bu.X Q f all F S M H n k):bu.Th Q f all F S M k n:=by
 by_cases e:bu.Th Q f all F S M k n
 ·exact e
 ·exact absurd (by rw[bu.X,if_neg e]) h
theorem bu.X_sees (t:bu Q f all mk F S M lv Lo) {H:Nat->Option bR} (h0: ∀n o,eA mk n=false->(S 0).heap.get n=some o->H n=some o):
 ∀ {k:Nat},k<=all.size-> ∀n o,eA mk n=false->(S k).heap.get n=some o->bu.X Q f all F S M H n k=some o
 |0,_,n,o,hn,h=>h0 n o hn h
 |k+1,hk,n,o,hn,h=>by
  have ho:all[k]? =some all[k]:=nG (by omega)
  rw[bu.X]
  split
  ·exact h
  ·rename_i hT
   refine t.X_sees h0 (by omega) n o hn ?_
   cases hw:fE all (F k).env all[k] with
   |true=>
    obtain⟨v,loc',s1,_,_,_,h4,_,g⟩:=t.done ho hw
    rw[h4] at h
    refine(g.frame n fun t'=>hT ⟨_,ho,hw,?_⟩).symm.trans h
    rw[h4];exact t'
   |false=>
    rcases t.step ho with⟨h',_⟩|⟨_,_,h'⟩
    ·rw[hw] at h';cases h'
    ·rw[h'] at h;exact h
end
def pW (all:Array Oper) (i j:Nat):Prop:=(((Region.before all).toList[j]?).getD 0).testBit i=true
theorem pW.dep {all:Array Oper} {i j:Nat} (h:pW all i j):nK all i j:=by
 unfold pW at h
 cases hb:(Region.before all)[j]? with
 |none=>simp[hb] at h
 |some b=>simp[hb] at h;exact Yd hb h
section
variable {Q:cI} {f:FuncId} {all:Array Oper} {mk:bt} {F:Nat->Fr} {S:Nat->St} {M:Nat->bt} {lv:Nat->Nat} {Lo:Nat->Bool}
theorem bu.compat (t:bu Q f all mk F S M lv Lo) {i j:Nat} {oi oj:Oper} (hij:i<j) (hi:all[i]? =some oi) (hj:all[j]? =some oj) (wi:fE all (F i).env oi=true) (wj:fE all (F j).env oj=true)
 (hn: ¬pW all i j):((Lo j||Lo i)&&(bu.foot Q f F j oj).meets (bu.foot Q f F i oi))=false/\ ∀n,(S i).next<=n->n<(S (i+1)).next->eA (M j) n=true:=by
 have:=t.tr.pair j i oj oi hij (by simpa using hj) (by simpa using hi) (by rw[aQ];exact wj) (by rw[aQ];exact wi)
 simp only[aQ] at this
 exact this.resolve_left hn
theorem bu.lt_size {i:Nat} {o:Oper} (h:all[i]? =some o):i<all.size:=(Array.getElem?_eq_some_iff.1 h).1
theorem bu.loud (t:bu Q f all mk F S M lv Lo) {H:Nat->Option bR} (h0: ∀n o,eA mk n=false->(S 0).heap.get n=some o->H n=some o) {i n:Nat} {o:Oper} (hi:all[i]? =some o)
 (w:fE all (F i).env o=true) (hc:bu.X Q f all F S M H n (i+1)≠bu.X Q f all F S M H n i) (hv:eA (bu.fm Q f F S M i o) n=false) (hp:(S i).heap.get n≠none):Lo i=true:=by
 have hT:=bu.X_change hc
 have hlt:n<(S i).next:=by
  rcases iJ n (S i).next with h|h
  ·exact h
  ·exact absurd (t.none_above (sP (bu.lt_size hi)) n h) hp
 obtain⟨v,loc',s1,_,_,_,h4,h5,g⟩:=t.done hi w
 have hm:eA mk n=false:=by
  cases e:eA mk n with
  |false=>rfl
  |true=>
   have:=t.tr.more i o (by simpa using hi) n e
   rw[aQ] at this
   rw[bu.fm,DB this] at hv;cases hv
 cases ho:(S i).heap.get n with
 |none=>exact absurd ho hp
 |some ob=>
  have hX:=t.X_sees h0 (sP (bu.lt_size hi)) n ob hm ho
  rw[bu.X,if_pos hT,hX,<-ho,h4] at hc
  have:=g.noted n hlt hc
  rw[h5]
  have:cg s1.minw (S i).next=true:=by rw[wC];exact decide_eq_true (by omega)
  rw[this];rfl
theorem alY {F1 F2:gl} {n:Nat} (h1:F1= .all\/F1= .obj n) (h2:F2= .all\/F2= .obj n):F1.meets F2=true:=by
 rcases h1 with rfl|rfl<;>rcases h2 with rfl|rfl<;>simp[gl.meets]
theorem bu.heap_apart (t:bu Q f all mk F S M lv Lo) {H:Nat->Option bR} (h0: ∀n o,eA mk n=false->(S 0).heap.get n=some o->H n=some o) {i j n:Nat} (hij:i<j) (hj:j<all.size) (hn: ¬pW all i j):
 (bu.Th Q f all F S M j n->bu.X Q f all F S M H n (i+1)=bu.X Q f all F S M H n i)/\
 (bu.Th Q f all F S M i n->bu.X Q f all F S M H n (j+1)=bu.X Q f all F S M H n j):=by
 have key:bu.Th Q f all F S M i n->bu.Th Q f all F S M j n->
  (bu.X Q f all F S M H n (i+1)≠bu.X Q f all F S M H n i\/bu.X Q f all F S M H n (j+1)≠bu.X Q f all F S M H n j)->False:=by
  rintro⟨oi,hi,wi,Ti⟩ ⟨oj,hj',wj,Tj⟩ hch
  obtain⟨c1,c2⟩:=t.compat hij hi hj' wi wj hn
  have hle:(S (i+1)).next<=(S j).next:=t.mono (by omega) (by omega)
  have hle':=t.next_le hi
  have hnj:eA (bu.fm Q f F S M j oj) n=false/\(S j).heap.get n≠none:=by
   rcases Tj with h|h
   ·exact h
   ·exfalso
    rcases Ti with⟨_,hp⟩|h'
    ·exact hp (t.none_above (by omega) n (by omega))
    ·omega
  have hmj:=DA hnj.1
  have hlt:n<(S j).next:=by
   rcases iJ n (S j).next with h|h
   ·exact h
   ·exact absurd (t.none_above (by omega) n h) hnj.2
  have hni:eA (bu.fm Q f F S M i oi) n=false/\(S i).heap.get n≠none:=by
   rcases Ti with h|h
   ·exact h
   ·exfalso
    have:=c2 n h.1 h.2
    rw[hmj.1] at this;cases this
  have hmi:=DA hni.1
  have hlti:n<(S i).next:=by
   rcases iJ n (S i).next with h|h
   ·exact h
   ·exact absurd (t.none_above (by omega) n h) hni.2
  have hm:(bu.foot Q f F j oj).meets (bu.foot Q f F i oi)=true:=
   alY (hmj.2.imp id fun h=>h.resolve_right (by omega)) (hmi.2.imp id fun h=>h.resolve_right (by omega))
  rw[hm,Bool.and_true] at c1
  rcases hch with h|h
  ·rw[t.loud h0 hi wi h hni.1 hni.2] at c1;simp at c1
  ·rw[t.loud h0 hj' wj h hnj.1 hnj.2] at c1;simp at c1
 constructor
 ·intro hT
  apply ml
  intro hne
  exact key (bu.X_change hne) hT (.inl hne)
 ·intro hT
  apply ml
  intro hne
  exact key hT (bu.X_change hne) (.inr hne)
end
theorem qy {fr fr':Fr} {dst:Option Tmp} {v:aj} {l:Loc} (h:eZ fr dst v l=some fr'):
 fr'.size=fr.size/\fr'.loc=l/\(∀d,dst=some d->d<fr.size/\ay fr'.env d=v)/\ ∀t,dst≠some t->ay fr'.env t=ay fr.env t:=by
 unfold eZ at h
 cases dst with
 |none=>
  injection h with h;subst h
  exact⟨rfl,rfl,by simp,fun _ _=>rfl⟩
 |some d=>
  obtain⟨hd,h⟩:=cq h
  injection h with h;subst h
  refine⟨rfl,rfl,?_,?_⟩
  ·intro d' hd';injection hd' with hd';subst hd'
   exact⟨nN hd,by simp[ay,Gz]⟩
  ·intro t ht
   have:t≠d:=fun e=>ht (by rw[e])
   simp[ay,bD.get_set,this]
theorem Zl {ops:Array Oper} {x y:Oper} (h:xF ops x y=true):(∀d,x.dst=some d->d ∉ uG ops y/\y.dst≠some d)/\ ∀d,y.dst=some d->d ∉ uG ops x:=by
 simp only[xF,df] at h
 have hmem: ∀(d:Nat) (l:List Nat),l.any (bo d)=false->d ∉ l:=by
  intro d l hl hd
  rw[List.any_eq_false] at hl
  exact hl d hd (by simp)
 obtain⟨h1,h2⟩:=h
 refine⟨fun d hd=>?_,fun d hd=>?_⟩
 ·rw[hd] at h1
  simp only[df,rC] at h1
  refine⟨hmem d _ h1.1,fun e=>?_⟩
  have h1:=h1.2
  rw[e] at h1
  simp at h1
 ·rw[hd] at h2
  simp only[rC] at h2
  exact hmem d _ h2
section
variable {Q:cI} {f:FuncId} {all:Array Oper} {mk:bt} {F:Nat->Fr} {S:Nat->St} {M:Nat->bt} {lv:Nat->Nat} {Lo:Nat->Bool}
def bu.Te (all:Array Oper) (k t:Nat):Prop:= ∃o,all[k]? =some o/\(t∈uG all o\/o.dst=some t)
theorem bu.put (t:bu Q f all mk F S M lv Lo) {k:Nat} {o:Oper} (hk:all[k]? =some o): ∃v l,eZ (F k) o.dst v l=some (F (k+1)):=by
 rcases t.step hk with⟨_,v,loc',s1,_,_,h3,_⟩|⟨_,h,_⟩
 ·exact⟨_,_,h3⟩
 ·exact⟨_,_,h⟩
theorem bu.env_change (t:bu Q f all mk F S M lv Lo) {k d:Nat} {o:Oper} (hk:all[k]? =some o) (h:ay (F (k+1)).env d≠ay (F k).env d):o.dst=some d:=by
 obtain⟨v,l,hp⟩:=t.put hk
 by_cases e:o.dst=some d
 ·exact e
 ·exact absurd ((qy hp).2.2.2 d e) h
theorem bu.size_eq (t:bu Q f all mk F S M lv Lo): ∀ {k:Nat},k<=all.size->(F k).size=(F 0).size
 |0,_=>rfl
 |k+1,h=>by
  obtain⟨v,l,hp⟩:=t.put (nG (show k<all.size by omega))
  rw[(qy hp).1];exact t.size_eq (by omega)
theorem bu.env_apart (t:bu Q f all mk F S M lv Lo) {i j d:Nat} (hij:i<j) (hj:j<all.size) (hn: ¬pW all i j):
 (bu.Te all j d->ay (F (i+1)).env d=ay (F i).env d)/\(bu.Te all i d->ay (F (j+1)).env d=ay (F j).env d):=by
 have hi':all[i]? =some all[i]:=nG (by omega)
 have hj':all[j]? =some all[j]:=nG hj
 have:=H1 t.ap i j all[i] all[j] hij (by simp) (by simp)
 rw[aQ] at this
 obtain⟨h1,h2⟩:=Zl (this.resolve_left hn)
 constructor
 ·rintro⟨o,ho,hT⟩
  rw[hj'] at ho;injection ho with ho;subst ho
  apply ml
  intro hne
  obtain⟨h3,h4⟩:=h1 d (t.env_change hi' hne)
  exact hT.elim h3 h4
 ·rintro⟨o,ho,hT⟩
  rw[hi'] at ho;injection ho with ho;subst ho
  apply ml
  intro hne
  have h3:=t.env_change hj' hne
  exact hT.elim (h2 d h3) fun h4=>(h1 d h4).2 h3
def bu.L (F:Nat->Fr) (t k:Nat):Nat×(Nat->Option (List aj)):=((F k).loc.gen t,fun g=>(F k).loc.get t g)
theorem bu.L_eq {F:Nat->Fr} {t k k':Nat}:bu.L F t k=bu.L F t k'↔kI (F k).loc (F k').loc t:=by
 unfold bu.L kI
 rw[bX]
 exact⟨fun h=>⟨h.1,fun g=>congrFun h.2 g⟩,fun h=>⟨h.1,funext h.2⟩⟩
def bu.Tl (Q:cI) (f:FuncId) (all:Array Oper) (F:Nat->Fr) (k u:Nat):Prop:= ∃o,all[k]? =some o/\fE all (F k).env o=true/\bu.foot Q f F k o= .loc u
theorem bu.loc_change (t:bu Q f all mk F S M lv Lo) {k u:Nat} (hk:k<all.size) (h:bu.L F u (k+1)≠bu.L F u k):bu.Tl Q f all F k u/\Lo k=true:=by
 have hk':all[k]? =some all[k]:=nG hk
 rcases t.step hk' with⟨w,v,loc',s1,h1,_,h3,_,h5⟩|⟨_,hp,_⟩
 ·have hl:=(qy h3).2.1
  obtain⟨loc2',_,_,h7,h8⟩:=DG (c:=(S k).next) (e:=(F k).env) (n:=(F k).size) (M k) (F k).loc v loc' s1 h1 (F k).loc (fun _ _=>.refl _ _)
  constructor
  ·apply ml
   intro hT
   apply h
   rw[bu.L_eq,hl]
   exact(h7 u fun e=>hT ⟨_,hk',w,e⟩).1
  ·rw[h5]
   cases e:isStore all[k].op with
   |true=>simp
   |false=>
    exfalso;apply h
    rw[bu.L_eq,hl,h8 e];exact .refl _ _
 ·exfalso;apply h
  rw[bu.L_eq,(qy hp).2.1];exact .refl _ _
theorem bu.loc_apart (t:bu Q f all mk F S M lv Lo) {i j u:Nat} (hij:i<j) (hj:j<all.size) (hn: ¬pW all i j):
 (bu.Tl Q f all F j u->bu.L F u (i+1)=bu.L F u i)/\(bu.Tl Q f all F i u->bu.L F u (j+1)=bu.L F u j):=by
 have key:bu.Tl Q f all F i u->bu.Tl Q f all F j u->(Lo i=true\/Lo j=true)->False:=by
  rintro⟨oi,hi,wi,fi⟩ ⟨oj,hj',wj,fj⟩ hl
  obtain⟨c1,_⟩:=t.compat hij hi hj' wi wj hn
  rw[fi,fj] at c1
  rcases hl with h|h<;>rw[h] at c1<;>simp[gl.meets] at c1
 constructor
 ·intro hT
  apply ml
  intro hne
  obtain⟨h1,h2⟩:=t.loc_change (by omega) hne
  exact key h1 hT (.inl h2)
 ·intro hT
  apply ml
  intro hne
  obtain⟨h1,h2⟩:=t.loc_change hj hne
  exact key hT h1 (.inr h2)
end
section
variable {Q:cI} {f:FuncId} {all:Array Oper} {mk:bt} {F:Nat->Fr} {S:Nat->St} {M:Nat->bt} {lv:Nat->Nat} {Lo:Nat->Bool}
structure j4 (Q:cI) (f:FuncId) (all:Array Oper) (F:Nat->Fr) (S:Nat->St) (M:Nat->bt) (H:Nat->Option bR) (D:Nat->Prop) (fr:Fr) (h:Nat->Option bR):Prop where
 env: ∀t,ay fr.env t=mix (fun k=>ay (F k).env t) D all.size
 size:fr.size=(F 0).size
 loc: ∀u,(fr.loc.gen u,fun g=>fr.loc.get u g)=mix (bu.L F u) D all.size
 heap: ∀n,h n=mix (bu.X Q f all F S M H n) D all.size
def Cb (all:Array Oper) (D:Nat->Prop):Prop:= ∀j o,D j->all[j]? =some o-> ∀e∈o.after,Region.binds .any e=true->D e.on
structure lq (all:Array Oper) (D:Nat->Prop) (j:Nat) (o:Oper):Prop where
 closed:Cb all D
 at_:all[j]? =some o
 new: ¬D j
 preds: ∀e∈o.after,Region.binds .any e=true->D e.on
theorem lq.ord {D:Nat->Prop} {j:Nat} {o:Oper} (x:lq all D j o) {i:Nat} (h:pW all i j):D i:=
 h.dep.ready x.closed fun o' ho e he hb=>by
  rw[x.at_] at ho;injection ho with ho;subst ho
  exact x.preds e he hb
theorem lq.notOrd {D:Nat->Prop} {j:Nat} {o:Oper} (x:lq all D j o) {k:Nat} (hk:D k): ¬pW all j k:=fun h=>x.new (h.dep.closed x.closed hk)
theorem lq.both {α:Type} {X:Nat->α} {D:Nat->Prop} {j:Nat} {o:Oper} (x:lq all D j o)
 (hb: ∀i,i<j-> ¬pW all i j->X (i+1)=X i) (ha: ∀k,j<k->k<all.size-> ¬pW all j k->X (k+1)=X k):
 mix X D all.size=X j/\mix X (fun k=>D k\/k=j) all.size=X (j+1):=by
 have hj:=bu.lt_size x.at_
 have hb': ∀i,i<j->X (i+1)≠X i->D i:=fun i hi hne=>by
  apply ml
  intro hd
  exact hne (hb i hi fun h=>hd (x.ord h))
 have ha': ∀k,j<k->k<all.size->D k->X (k+1)=X k:=fun k h1 h2 hd=>ha k h1 h2 (x.notOrd hd)
 refine⟨UH (by omega) hb' fun k h1 h2 hd=>?_,ami hj hb' ha'⟩
 by_cases e:k=j
 ·exact absurd (e▸hd) x.new
 ·exact ha' k (by omega) h2 hd
theorem lq.env (t:bu Q f all mk F S M lv Lo) {D:Nat->Prop} {j d:Nat} {o:Oper} (x:lq all D j o) (hT:bu.Te all j d):
 mix (fun k=>ay (F k).env d) D all.size=ay (F j).env d/\mix (fun k=>ay (F k).env d) (fun k=>D k\/k=j) all.size=ay (F (j+1)).env d:=
 x.both (X:=fun k=>ay (F k).env d) (fun _i hi hn=>(t.env_apart hi (bu.lt_size x.at_) hn).1 hT) fun _k h1 h2 hn=>(t.env_apart h1 h2 hn).2 hT
theorem lq.loc (t:bu Q f all mk F S M lv Lo) {D:Nat->Prop} {j u:Nat} {o:Oper} (x:lq all D j o) (hT:bu.Tl Q f all F j u):
 mix (bu.L F u) D all.size=bu.L F u j/\mix (bu.L F u) (fun k=>D k\/k=j) all.size=bu.L F u (j+1):=
 x.both (fun _i hi hn=>(t.loc_apart hi (bu.lt_size x.at_) hn).1 hT) fun _k h1 h2 hn=>(t.loc_apart h1 h2 hn).2 hT
theorem lq.heap (t:bu Q f all mk F S M lv Lo) {H:Nat->Option bR} (h0: ∀n o,eA mk n=false->(S 0).heap.get n=some o->H n=some o) {D:Nat->Prop} {j n:Nat} {o:Oper} (x:lq all D j o)
 (hT:bu.Th Q f all F S M j n):
 mix (bu.X Q f all F S M H n) D all.size=bu.X Q f all F S M H n j/\mix (bu.X Q f all F S M H n) (fun k=>D k\/k=j) all.size=bu.X Q f all F S M H n (j+1):=
 x.both (fun _i hi hn=>(t.heap_apart h0 hi (bu.lt_size x.at_) hn).1 hT) fun _k h1 h2 hn=>(t.heap_apart h0 h1 h2 hn).2 hT
variable {H:Nat->Option bR} {D:Nat->Prop} {fr:Fr} {h:Nat->Option bR} {j:Nat} {o:Oper}
theorem j4.ev (t:bu Q f all mk F S M lv Lo) (c:j4 Q f all F S M H D fr h) (x:lq all D j o): ∀y∈o.op.operands,Ag.ev fr.env y=Ag.ev (F j).env y:=by
 intro y hy
 cases y with
 |tmp d=>
  simp only[Ag.ev]
  rw[c.env d,(x.env t ⟨o,x.at_,.inl ?_⟩).1]
  unfold uG
  refine List.mem_append_left _ (List.mem_filterMap.2 ⟨.tmp d,by simpa using hy,rfl⟩)
 |_=>rfl
theorem j4.wanted (t:bu Q f all mk F S M lv Lo) (c:j4 Q f all F S M H D fr h) (x:lq all D j o):fE all fr.env o=fE all (F j).env o:=by
 unfold fE
 cases hg:o.guard with
 |none=>rfl
 |some g=>
  obtain⟨g,want⟩:=g
  simp only
  cases hd:(all[g]?).bind (·.dst) with
  |none=>rfl
  |some d=>
   simp only
   rw[c.env d,(x.env t ⟨o,x.at_,.inl ?_⟩).1]
   unfold uG
   refine List.mem_append_right _ ?_
   simp[hg,hd]
end
theorem Vs {fr:Fr} {dst:Option Tmp} {v:aj} {l:Loc} (h: ∀d,dst=some d->d<fr.size): ∃fr',eZ fr dst v l=some fr':=by
 unfold eZ
 cases hd:dst with
 |none=>exact⟨_,rfl⟩
 |some d=>
  have:cg d fr.size=true:=by rw[wC];exact decide_eq_true (h d hd)
  simp only[this,cT]
  exact⟨_,rfl⟩
section
variable {Q:cI} {f:FuncId} {all:Array Oper} {mk:bt} {F:Nat->Fr} {S:Nat->St} {M:Nat->bt} {lv:Nat->Nat} {Lo:Nat->Bool}
variable {H:Nat->Option bR} {D:Nat->Prop} {fr:Fr} {h:bD bR} {j:Nat} {o:Oper}
def bu.from_ (S:Nat->St) (j:Nat) (h:bD bR):St:=⟨h,(S j).next,(S j).next,(S j).ci⟩
theorem j4.sees (t:bu Q f all mk F S M lv Lo) (h0: ∀n o,eA mk n=false->(S 0).heap.get n=some o->H n=some o) (c:j4 Q f all F S M H D fr h.get) (x:lq all D j o)
 (hw:fE all (F j).env o=true):iR (bu.fm Q f F S M j o) (bu.from_ S j (S j).heap) (bu.from_ S j h) where
 next:=rfl
 minw:=rfl
 ci:=rfl
 get n ob hn hg:=by
  have hg:(S j).heap.get n=some ob:=hg
  show h.get n=some ob
  have hT:bu.Th Q f all F S M j n:=⟨o,x.at_,hw,.inl ⟨hn,by rw[hg];simp⟩⟩
  rw[c.heap n,(x.heap t h0 hT).1]
  refine t.X_sees h0 (sP (bu.lt_size x.at_)) n ob ?_ hg
  cases e:eA mk n with
  |false=>rfl
  |true=>
   have:=t.tr.more j o (by simpa using x.at_) n e
   rw[aQ] at this
   rw[bu.fm,DB this] at hn;cases hn
theorem j4.run (t:bu Q f all mk F S M lv Lo) (h0: ∀n o,eA mk n=false->(S 0).heap.get n=some o->H n=some o) (c:j4 Q f all F S M H D fr h.get) (x:lq all D j o)
 (hw:fE all (F j).env o=true):
 ∃v loc' s1 fr',fW Q (db Q (lv j)) f o (bu.fm Q f F S M j o) fr (bu.from_ S j (S j).heap)=some (v,loc',s1)/\s1.ci=(S j).ci/\s1.next=(S (j+1)).next/\eZ fr o.dst v loc'=some fr'/\
  ∀s2',hJ (bu.fm Q f F S M j o) (bu.from_ S j (S j).heap) s1 (bu.from_ S j h) s2'->j4 Q f all F S M H (fun k=>D k\/k=j) fr' s2'.heap.get:=by
 obtain⟨v,loc1,s1,h1,h2,h3,h4,h5,g⟩:=t.done x.at_ hw
 obtain⟨loc2,e1,e2,e3,e4⟩:=DG (c:=(S j).next) (e:=(F j).env) (n:=(F j).size) (M j) (F j).loc v loc1 s1 h1 fr.loc (fun u hu=>by
  have hT:bu.Tl Q f all F j u:=⟨o,x.at_,hw,hu⟩
  have h6:=(c.loc u).trans (x.loc t hT).1
  unfold bu.L at h6
  rw[bX] at h6
  exact⟨h6.1.symm,fun g=>(congrFun h6.2 g).symm⟩)
 have e1:fW Q (db Q (lv j)) f o (bu.fm Q f F S M j o) ⟨(F j).env,(F j).size,fr.loc⟩ (bu.from_ S j (S j).heap)=some (v,loc2,s1):=e1
 rw[anq (e2:=fr.env) (n2:=fr.size) (fun y hy=>(c.ev t x y hy).symm)] at e1
 have hsz:fr.size=(F j).size:=c.size.trans (t.size_eq (sP (bu.lt_size x.at_))).symm
 obtain⟨p1,p2,p3,p4⟩:=qy h3
 have hp: ∃fr',eZ fr o.dst v loc2=some fr':=Vs fun d hd=>by rw[hsz];exact(p3 d hd).1
 obtain⟨fr',hp⟩:=hp
 obtain⟨q1,q2,q3,q4⟩:=qy hp
 refine⟨v,loc2,s1,fr',e1,h2,by rw[h4];rfl,hp,fun s2' same=>⟨fun d=>?_,q1.trans c.size,fun u=>?_,fun n=>?_⟩⟩
 ·by_cases hd:o.dst=some d
  ·rw[(q3 d hd).2,(x.env t ⟨o,x.at_,.inr hd⟩).2,(p3 d hd).2]
  ·rw[q4 d hd,c.env d]
   exact(wx (X:=fun k=>ay (F k).env d) (p4 d hd)).symm
 ·rw[q2]
  by_cases hu:bu.foot Q f F j o= .loc u
  ·rw[(x.loc t ⟨o,x.at_,hw,hu⟩).2]
   have:=e2 u hu
   unfold bu.L
   rw[p2,this.1]
   rw[bX]
   exact⟨rfl,funext fun g=>(this.2 g).symm⟩
  ·obtain⟨a1,a2⟩:=e3 u hu
   rw[wx (X:=bu.L F u) (bu.L_eq.2 (by rw[p2];exact a1)),<-c.loc u,bX]
   exact⟨a2.1,funext a2.2⟩
 ·have hiff:bu.Th Q f all F S M j n↔lQ (bu.fm Q f F S M j o) (bu.from_ S j (S j).heap) s1 n:=by
   constructor
   ·rintro⟨o',ho',_,hT⟩
    rw[x.at_] at ho';injection ho' with ho';subst ho'
    rw[h4] at hT;exact hT
   ·intro hT
    refine⟨o,x.at_,hw,?_⟩
    rw[h4];exact hT
  by_cases hT:bu.Th Q f all F S M j n
  ·rw[(x.heap t h0 hT).2,bu.X,if_pos hT,h4]
   exact same.inside n (hiff.1 hT)
  ·rw[wx (X:=bu.X Q f all F S M H n) (by rw[bu.X,if_neg hT]),<-c.heap n]
   exact same.outside n (fun e=>hT (hiff.2 e))
theorem j4.skip (t:bu Q f all mk F S M lv Lo) (c:j4 Q f all F S M H D fr h.get) (x:lq all D j o) (hw:fE all (F j).env o=false):
 ∃fr',eZ fr o.dst iB fr.loc=some fr'/\j4 Q f all F S M H (fun k=>D k\/k=j) fr' h.get:=by
 rcases t.step x.at_ with⟨h',_⟩|⟨_,h3,_⟩
 ·rw[hw] at h';cases h'
 have hsz:fr.size=(F j).size:=c.size.trans (t.size_eq (sP (bu.lt_size x.at_))).symm
 obtain⟨p1,p2,p3,p4⟩:=qy h3
 have hp: ∃fr',eZ fr o.dst iB fr.loc=some fr':=Vs fun d hd=>by rw[hsz];exact(p3 d hd).1
 obtain⟨fr',hp⟩:=hp
 obtain⟨q1,q2,q3,q4⟩:=qy hp
 refine⟨fr',hp,⟨fun d=>?_,q1.trans c.size,fun u=>?_,fun n=>?_⟩⟩
 ·by_cases hd:o.dst=some d
  ·rw[(q3 d hd).2,(x.env t ⟨o,x.at_,.inr hd⟩).2,(p3 d hd).2]
  ·rw[q4 d hd,c.env d]
   exact(wx (X:=fun k=>ay (F k).env d) (p4 d hd)).symm
 ·rw[q2,wx (X:=bu.L F u) (bu.L_eq.2 (by rw[p2];exact .refl _ _)),<-c.loc u]
 ·rw[wx (X:=bu.X Q f all F S M H n) ?_,<-c.heap n]
  rw[bu.X,if_neg]
  rintro⟨o',ho',hw',_⟩
  rw[x.at_] at ho';injection ho' with ho';subst ho'
  rw[hw] at hw';cases hw'
theorem j4.start {s2:bD bR} (hD: ∀k, ¬D k):j4 Q f all F S M s2.get D (F 0) s2.get where
 env d:=(Gf (X:=fun k=>ay (F k).env d) fun k _=>hD k).symm
 size:=rfl
 loc u:=by rw[Gf (X:=bu.L F u) fun k _=>hD k];rfl
 heap n:=by rw[Gf (X:=bu.X Q f all F S M s2.get n) fun k _=>hD k];rfl
theorem j4.fin (c:j4 Q f all F S M H D fr h.get) (hD: ∀k,k<all.size->D k):
 fr.size=(F 0).size/\(∀d,ay fr.env d=ay (F all.size).env d)/\(∀u,kI fr.loc (F all.size).loc u)/\ ∀n,h.get n=bu.X Q f all F S M H n all.size:=by
 refine⟨c.size,fun d=>?_,fun u=>?_,fun n=>?_⟩
 ·rw[c.env d];exact Gc (X:=fun k=>ay (F k).env d) hD
 ·have:=c.loc u
  rw[Gc hD] at this
  unfold bu.L at this
  rw[bX] at this
  exact⟨this.1,congrFun this.2⟩
 ·rw[c.heap n];exact Gc hD
end
def lU:Option Nat->Fence
 |none=>Fence.wide
 |some l=>Fence.wide.inRound l
theorem uw (ro:Option Nat) (f:FuncId):(lU ro).fn f:=by cases ro<;>exact trivial
theorem aah (ro:Option Nat):(lU ro).depth=none:=by cases ro<;>rfl
theorem aai (ro:Option Nat) (l:Nat):(lU ro).inRound l=lU (some l):=by cases ro<;>rfl
theorem Dk (ro:Option Nat) (n:Nat):(lU ro).depth.isSome=true->1<=n:=by rw[aah];intro h;cases h
theorem I6 {ro:Option Nat} {P:Program} {f:FuncId} {args:Array Value} {w:World} {R:Ending->World->Prop}:CallsIn (lU ro) 0 P f args w R↔Calls P f args w R:=by
 cases ro with
 |none=>exact callsIn_wide
 |some l=>exact callsIn_wide (n:=0)
def om:Obj->Prop
 | .loop _=>True
 | .deferred _=>True
 |_=>False
theorem om.warm {o:Obj} (h:om o):Obj.warm o:=by cases o<;>first|exact trivial|exact h.elim
section
variable {G:Gh} {h:bD bR} {w:World} {b:Nat} {o ob:Obj}
theorem CD (hb:w.heap[b]? =some o) (ha:om o) {C:Array Value} {e:TypeId} {z:Nat×Nat}:w.heap[b]? ≠some (.cells C e z):=by
 rw[hb];intro h;injection h with h;subst h;exact ha.elim
theorem X0 (hb:w.heap[b]? =some o) (ha:om o) (i:Nat):w.cell? ⟨b,i,none⟩=none:=by
 cases o<;>first
  |exact ha.elim
  |simp[World.cell?,hb]
theorem WR.aside_ro (x:WR G h w) (hb:w.heap[b]? =some o) (ha:om o) (i:Nat):G.ro b i=none:=by
 cases e:G.ro b i with
 |none=>rfl
 |some v=>
  obtain⟨_,y,hy,_⟩:=x.ro b i v e
  rw[X0 hb ha] at hy;cases hy
theorem WR.aside (x:WR G h w) (hb:w.heap[b]? =some o) (ha:om o) (hno: ¬fy G h b):WR G h (ef w b ob) where
 obj n o' hn:=by
  obtain⟨a,h1,h2,h3⟩:=x.obj n o' hn
  refine⟨a,h1,h2,h3.of_block ?_⟩
  rw[jn w b _ ob (ia hb),if_neg]
  intro e
  exact hno ⟨n,a,by rw[hn];simp,h1,e⟩
 sep:=x.sep
 ro c i v hv:=by
  have hc:c≠b:=fun e=>by subst e;rw[x.aside_ro hb ha] at hv;cases hv
  obtain⟨h1,y,h2,h3⟩:=x.ro c i v hv
  refine⟨h1,y,?_,h3⟩
  rw[<-h2];simp[World.cell?,jn w b _ ob (ia hb),hc]
 apart:=x.apart
 dim c d hd:=by
  have hc:c≠b:=fun e=>by
   subst e
   obtain⟨C,e,h1,_⟩:=x.dim c d hd
   exact CD hb ha h1
  rw[jn w b _ ob (ia hb),if_neg hc];exact x.dim c d hd
 below n a ha':=by rw[wM];exact x.below n a ha'
theorem ou.aside {B:Nat->Nat} {loc:Loc} (x:ou G h B loc w) (hb:w.heap[b]? =some o) (ha:om o):ou G h B loc (ef w b ob) where
 cells t cs ht:=by
  obtain⟨C,e,h1,h2⟩:=x.cells t cs ht
  refine⟨C,e,?_,h2⟩
  rw[jn w b _ ob (ia hb),if_neg]
  ·exact h1
  ·intro e';rw[e'] at h1;exact CD hb ha h1
 free:=x.free
 ro:=x.ro
 inj:=x.inj
theorem dC.aside {B:Nat->Nat} {fr:Fr} {tmps:Array Value} (x:dC G h B fr tmps w) (hb:w.heap[b]? =some o) (ha:om o):dC G h B fr tmps (ef w b ob):=
 ⟨x.size,x.env,x.locs.aside hb ha⟩
theorem dC.not_LB {B:Nat->Nat} {fr:Fr} {tmps:Array Value} (x:dC G h B fr tmps w) (hb:w.heap[b]? =some o) (ha:om o): ¬LB B fr.loc b:=by
 rintro⟨t,cs,h1,rfl⟩
 obtain⟨C,e,h2,_⟩:=x.locs.cells t cs h1
 exact CD hb ha h2
theorem WR.not_deferred (x:WR G h w) {d:Option (List Deferred)} (hb:w.heap[b]? =some (.deferred d)): ¬fy G h b:=by
 rintro⟨n,a,h1,h2,rfl⟩
 cases e:h.get n with
 |none=>exact h1 e
 |some o=>
  obtain⟨a',h3,_,h4⟩:=x.obj n o e
  rw[h2] at h3;injection h3 with h3;subst h3
  cases o with
  |cells cs=>obtain⟨C,e,h5,_⟩:=h4;rw[hb] at h5;cases h5
  |tok=>obtain⟨C,e,h5⟩:=h4;rw[hb] at h5;cases h5
  |map es c=>obtain⟨ES,h5,_⟩:=h4;rw[hb] at h5;cases h5
  |iter m a b c=>obtain⟨_,m',h5,_⟩:=h4;rw[hb] at h5;cases h5
  |loop _ _ _ _ _ _ _=>obtain⟨r,h5,_⟩:=h4;rw[hb] at h5;cases h5
theorem WR.back (x:WR G h w) {n:Nat} {a:Addr} {lo:bR} (ha:G.at_ n=some a) (hs:a.spot=none) (hno: ¬fy G h a.block) (hr:o7 G w a lo) (hro: ∀i,G.ro a.block i=none):WR G (h.set n (some lo)) w:=by
 refine⟨?_,?_,x.ro,?_,x.dim,x.below⟩
 ·intro m o' hm
  rw[bD.get_set] at hm
  by_cases e:m=n
  ·rw[if_pos e] at hm
   injection hm with hm;subst hm;subst e
   exact⟨a,ha,hs,hr⟩
  ·rw[if_neg e] at hm;exact x.obj m o' hm
 ·intro m k c d hm hk hc hd he
  rw[bD.get_set] at hm hk
  by_cases e1:m=n<;>by_cases e2:k=n
  ·rw[e1,e2]
  ·rw[e1,ha] at hc
   rw[if_neg e2] at hk
   injection hc with hc;subst hc
   exact absurd ⟨k,d,hk,hd,he.symm⟩ hno
  ·rw[e2,ha] at hd
   rw[if_neg e1] at hm
   injection hd with hd;subst hd
   exact absurd ⟨m,c,hm,hc,he⟩ hno
  ·rw[if_neg e1] at hm
   rw[if_neg e2] at hk
   exact x.sep m k c d hm hk hc hd he
 ·intro m ob b i v hm hb hv
  rw[bD.get_set] at hm
  by_cases e:m=n
  ·subst e;rw[ha] at hb;injection hb with hb;subst hb
   rw[hro] at hv;cases hv
  ·rw[if_neg e] at hm
   exact x.apart m ob b i v hm hb hv
theorem anF {n c:Nat} {a:Addr} {lo:bR} (ha:G.at_ n=some a) (h':fy G (h.set n (some lo)) c):c=a.block\/fy G h c:=by
 obtain⟨m,d,h1,h2,h3⟩:=h'
 rw[bD.get_set] at h1
 by_cases e:m=n
 ·subst e;rw[ha] at h2;injection h2 with h2;subst h2;exact .inl h3.symm
 ·rw[if_neg e] at h1;exact .inr ⟨m,d,h1,h2,h3⟩
variable {G0:Gh} {h0:bD bR} {w0:World} {lo hi:Nat} {L:Nat->Prop}
theorem jf.aside (x:jf G0 h0 w0 G h w lo hi L) (hb:w.heap[b]? =some o) (ha:om o) (ha':om ob) (hk:b<w0.heap.size->fy G0 h0 b):jf G0 h0 w0 G h (ef w b ob) lo hi L where
 le:=x.le
 size:=by rw[wM];exact x.size
 keep c hc ho hl:=by
  rw[jn w b c ob (ia hb),if_neg]
  ·exact x.keep c hc ho hl
  ·intro e;subst e;exact ho (hk hc)
 owns:=x.owns
 names:=x.names
 cells:=x.cells
 quiet:=x.quiet.trans (yB w hb ha.warm ha'.warm)
theorem jf.toExt (x:jf G0 h0 w0 G h w lo hi L) (hL: ∀b, ¬L b):dF G0 h0 w0 G h w lo hi:=
 ⟨x.le,x.size,fun b hb ho=>x.keep b hb ho (hL b),x.owns,x.names,x.cells,x.quiet⟩
theorem dF.aside (x:dF G0 h0 w0 G h w lo hi) (hb:w.heap[b]? =some o) (ha:om o) (ha':om ob) (hk:b<w0.heap.size->fy G0 h0 b):dF G0 h0 w0 G h (ef w b ob) lo hi:=
 (jf.aside (x.toL fun _=>False) hb ha ha' hk).toExt fun _ h=>h
end
def sl (r:Nat):Deferred:= {target:=.collected r,args:= #[] }
structure sT (lo:Nat) (w:World) (rs:List Nat):Prop where
 nodup:rs.Nodup
 at_: ∀r∈rs,lo<=r/\w.heap[r]? =some (.deferred (some []))
theorem sT.nil (lo:Nat) (w:World):sT lo w []:=⟨.nil,fun _ h=>by cases h⟩
theorem GF (w:World) (b:Nat) (o:Obj):w.putObj b o=ef w b o:=rfl
theorem V5 {G:Gh}: ∀ {ps:List Tmp} {args:List aj} {xs:List Value} {env env':bq} {size:Nat} {tmps:Array Value},yL ps args env=some env'->cU G args xs->
 (∀t∈ps,t<size)->tmps.size=size->(∀t,VR G (ay env t) (tmps.getD t undef))->
 xs.length=ps.length/\((ps.zip xs).foldl (fun tmps (t,a)=>tmps.setIfInBounds t a) tmps).size=size/\ ∀t,VR G (ay env' t) (((ps.zip xs).foldl (fun tmps (t,a)=>tmps.setIfInBounds t a) tmps).getD t undef)
 | [],[],xs,env,env',size,tmps,he,hv,hp,hs,ht=>by
   cases hv
   simp only[yL,bp] at he
   subst he
   exact⟨rfl,hs,ht⟩
 | [],_::_,_,_,_,_,_,he,_,_,_,_=>by cases he
 |_::_,[],_,_,_,_,_,he,_,_,_,_=>by cases he
 |p::ps,v::args,xs,env,env',size,tmps,he,hv,hp,hs,ht=>by
  cases hv with
  |cons a b=>
   rename_i x xs
   have hpl:p<tmps.size:=by rw[hs];exact hp p (by simp)
   have:=V5 (tmps:=tmps.setIfInBounds p x) (ps:=ps) he b (fun t h=>hp t (by simp[h])) (by simpa using hs) (fun t=>by
    rw[Ag.getD_set _ _ _ _ hpl]
    unfold ay
    rw[bD.get_set]
    by_cases e:t=p
    ·rw[if_pos e,if_pos e];exact a
    ·rw[if_neg e,if_neg e];exact ht t)
   exact⟨by simp[this.1],this.2⟩
def ki (k:Nat) (ch ch':Nat->Nat):Prop:= ∀i,i<k->ch' i=ch i
theorem ki.refl (k:Nat) (ch:Nat->Nat):ki k ch ch:=fun _ _=>rfl
theorem ki.trans {k k':Nat} {ch ch' ch'':Nat->Nat} (h:ki k ch ch') (h':ki k' ch' ch'') (hk:k<=k'):ki k ch ch'':=fun i hi=>(h' i (iv hi hk)).trans (h i hi)
def kH (Q:cI) (ch:Nat->Nat):Prop:= ∀i,ch i<Q.kmax i
def za (s:St):Prop:= ∀n,s.next<=n->s.heap.get n=none
theorem za.goes {mk:bt} {s s':St} (h:za s) (g:gI mk s s'):za s':=fun n hn=>by
 have h0:=h n (gN g.next hn)
 rw[g.frame n ?_]
 ·exact h0
 ·rintro(⟨_,h'⟩|h')
  ·exact h' h0
  ·omega
def lp (P:Program) (f:FuncId) (args:Array Value) (w:World) (R:Value->World->Prop):Prop:=
 (∃y w',(callFunc f args).run P w= .ok (.value y) w'/\R y w')\/
 ((callFunc f args).run P w= .ok (.enter f args) w/\Calls P f args w (fun e w'=> ∃y,e= .returned y/\R y w'))
theorem lp.mono {P:Program} {f:FuncId} {args:Array Value} {w:World} {R R':Value->World->Prop} (h:lp P f args w R) (hr: ∀y w',R y w'->R' y w'):lp P f args w R':=by
 rcases h with⟨y,w',h1,h2⟩|⟨h1,h2⟩
 ·exact .inl ⟨y,w',h1,hr y w' h2⟩
 ·exact .inr ⟨h1,h2.mono fun e w' ⟨y,he,h3⟩=>⟨y,he,hr y w' h3⟩⟩
def Xk (Q:cI):Prop:=
 ∀f sp,Q.specH f=some sp-> ∀args v (G:Gh) (h:bD bR) (w:World) (xs:List Value),WR G h w->cU G args xs->oW h.get (sp args)=some v->
  lp Q.P f ⟨xs⟩ w fun y w'=> ∃G',WR G' h w'/\dF G h w G' h w' 0 0/\VR G' v y
def Xm (Q:cI):Prop:=
 ∀f sp,Q.specW f=some sp-> ∀args (G:Gh) (h:bD bR) (w:World) (xs:List Value),WR G h w->cU G args xs->
  (sp args=some none->lp Q.P f ⟨xs⟩ w fun y w'=> ∃G',WR G' h w'/\dF G h w G' h w' 0 0/\VR G' (.tup []) y)/\
  ∀n g cs cs',sp args=some (some (n,g))->h.get n=some (.cells cs)->g cs=some cs'->
   lp Q.P f ⟨xs⟩ w fun y w'=> ∃G',WR G' (h.set n (some (.cells cs'))) w'/\dF G h w G' (h.set n (some (.cells cs'))) w' 0 0/\VR G' (.tup []) y
def Xl (Q:cI):Prop:=
 ∀f sp,Q.spec f=some sp-> ∀args v,sp args=some v-> ∀(G:Gh) (h:bD bR) (w:World) (xs:List Value),WR G h w->cU G args xs->
  lp Q.P f ⟨xs⟩ w fun y w'=> ∃G',WR G' h w'/\dF G h w G' h w' 0 0/\VR G' v y
structure lr (mk:bt) (A:Nat->Prop) (G:Gh) (s s2:St) (w:World):Prop where
 fresh:za s
 sees:iR mk s s2
 wr:WR G s2.heap w
 free: ∀m,s.next<=m->A m->G.at_ m=none
structure y7 (Q:cI) (n:Nat) (f:FuncId) (args:List aj) (mk:bt) (ch:Nat->Nat) (G:Gh) (s s2:St) (w:World) (y:Value) (w':World)
 (ch':Nat->Nat) (v:aj) (s' s2':St) (G':Gh):Prop where
 agree:ki s.ci ch ch'
 inb:kH Q ch'
 eval:(db (Q.at ch') n).call f args mk s=some (v,s')
 same:hJ mk s s' s2 s2'
 wr:WR G' s2'.heap w'
 ext:dF G s2.heap w G' s2'.heap w' s.next s'.next
 val:VR G' v y
def sR (Q:cI) (n:Nat):Prop:=
 ∀(f:FuncId) (args:List aj) (mk:bt) (s s2:St) (G:Gh) (w:World) (xs:List Value) (ch:Nat->Nat) (A:Nat->Prop),
  lr mk A G s s2 w->cU G args xs->kH Q ch->
  (∀ch',ki s.ci ch ch'->kH Q ch'-> ∃v s',(db (Q.at ch') n).call f args mk s=some (v,s')/\ ∀m,s.next<=m->m<s'.next->A m)->
  lp Q.P f ⟨xs⟩ w fun y w'=> ∃ch' v s' s2' G',y7 Q n f args mk ch G s s2 w y w' ch' v s' s2' G'
section
variable {G G' G'':Gh} {h h' h'':bD bR} {w w' w'':World} {lo mid hi:Nat} {L L':Nat->Prop}
theorem jf.trans (x:jf G h w G' h' w' lo mid L) (y:jf G' h' w' G'' h'' w'' mid hi L') (hL: ∀b,L' b->L b\/w.heap.size<=b) (l1:lo<=mid) (l2:mid<=hi):
 jf G h w G'' h'' w'' lo hi L where
 le:=x.le.trans y.le
 size:=gN x.size y.size
 keep b hb ho hl:=(y.keep b (iv hb x.size) (fun o=>ho (x.owns b hb o)) (fun l=>(hL b l).elim hl (fun h=>by omega))).trans (x.keep b hb ho hl)
 owns b hb o:=x.owns b hb (y.owns b (iv hb x.size) o)
 names n a h h0:=by
  cases e:G'.at_ n with
  |none=>have:=y.names n a h e;omega
  |some b=>have:=x.names n b e h0;omega
 cells b o v hb h h0:=by
  cases e:G'.ro b o with
  |none=>exact x.owns b hb (y.cells b o v (iv hb x.size) h e)
  |some u=>exact x.cells b o u hb e h0
 quiet:=x.quiet.trans y.quiet
theorem jf.widen {lo' hi':Nat} (x:jf G h w G' h' w' lo hi L) (h1:lo'<=lo) (h2:hi<=hi'):jf G h w G' h' w' lo' hi' L:=
 ⟨x.le,x.size,x.keep,x.owns,fun n a e e0=>by have:=x.names n a e e0;omega,x.cells,x.quiet⟩
end
theorem IK {G' G'':Gh} {h' h'':bD bR} {w' w'':World} {B':Nat->Nat} {fr':Fr} {tmps:Array Value} {d d' d'':List Deferred} {lo l1 l2:Nat} (wr:WR G' h' w') (fx:dC G' h' B' fr' tmps w')
 (x: ∃rs,d'=rs.map sl++d/\sT lo w' rs) (hlo:lo<=w'.heap.size) (ex:jf G' h' w' G'' h'' w'' l1 l2 (LB B' fr'.loc)) (y: ∃rs,d''=rs.map sl++d'/\sT w'.heap.size w'' rs):
 ∃rs,d''=rs.map sl++d/\sT lo w'' rs:=by
 obtain⟨rx,x1,x2⟩:=x
 obtain⟨ry,y1,y2⟩:=y
 have keep: ∀r∈rx,w''.heap[r]? =some (.deferred (some [])):=fun r hr=>by
  have h1:=(x2.at_ r hr).2
  exact(ex.keep r (ia h1) (wr.not_deferred h1) (fx.not_LB h1 trivial)).trans h1
 refine⟨ry++rx,by rw[y1,x1];simp,⟨?_,?_⟩⟩
 ·rw[List.nodup_append]
  refine⟨y2.nodup,x2.nodup,fun r hr q hq e=>?_⟩
  subst e
  have h1:=(y2.at_ r hr).1
  have h2:=ia (x2.at_ r hq).2
  omega
 ·intro r hr
  rcases List.mem_append.1 hr with hr|hr
  ·exact⟨gN hlo (y2.at_ r hr).1,(y2.at_ r hr).2⟩
  ·exact⟨(x2.at_ r hr).1,keep r hr⟩
structure ol (mk:bt) (fr:Fr) (G:Gh) (B:Nat->Nat) (s s2:St) (a:Act) (w:World) (fr':Fr) (G':Gh) (B':Nat->Nat) (s' s2':St) (a':Act) (w':World):Prop where
 goes:gI mk s s'
 same:hJ mk s s' s2 s2'
 wr:WR G' s2'.heap w'
 ext:jf G s2.heap w G' s2'.heap w' s.next s'.next (LB B fr.loc)
 fx:dC G' s2'.heap B' fr' a'.tmps w'
 boxes: ∀b,LB B' fr'.loc b->LB B fr.loc b\/w.heap.size<=b
 defers: ∃rs,a'.defers=rs.map sl++a.defers/\sT w.heap.size w' rs
section
variable {mk:bt} {A:Nat->Prop} {fr fr' fr'':Fr} {G G' G'':Gh} {B B' B'':Nat->Nat} {s s' s'' s2 s2' s2'':St} {a a' a'':Act} {w w' w'':World}
theorem ol.refl (p:lr mk A G s s2 w) (fx:dC G s2.heap B fr a.tmps w):ol mk fr G B s s2 a w fr G B s s2 a w where
 goes:=.refl _ _
 same:=.refl p.sees
 wr:=p.wr
 ext:=dF.refl.toL _
 fx:=fx
 boxes _ h:=.inl h
 defers:=⟨[],rfl,.nil _ _⟩
theorem ol.trans (x:ol mk fr G B s s2 a w fr' G' B' s' s2' a' w') (y:ol mk fr' G' B' s' s2' a' w' fr'' G'' B'' s'' s2'' a'' w''):
 ol mk fr G B s s2 a w fr'' G'' B'' s'' s2'' a'' w'' where
 goes:=x.goes.trans y.goes
 same:=.trans x.goes y.goes x.same y.same
 wr:=y.wr
 ext:=x.ext.trans y.ext x.boxes x.goes.next y.goes.next
 fx:=y.fx
 boxes b h:=by
  rcases y.boxes b h with h|h
  ·exact x.boxes b h
  ·exact .inr (gN x.ext.size h)
 defers:=IK x.wr x.fx x.defers x.ext.size y.ext y.defers
theorem lr.after (p:lr mk A G s s2 w) (x:ol mk fr G B s s2 a w fr' G' B' s' s2' a' w'):lr mk A G' s' s2' w' where
 fresh:=p.fresh.goes x.goes
 sees:=x.same.sees p.sees x.goes
 wr:=x.wr
 free m hm hA:=by
  cases e:G'.at_ m with
  |none=>rfl
  |some ad=>
   have h0:=p.free m (gN x.goes.next hm) hA
   have:=x.ext.names m ad e h0
   omega
theorem CA (a:Act) (d:Option Tmp) (v:Value):(a.put d v).defers=a.defers:=by
 cases d<;>rfl
end
section
variable {α β:Type}
def pX (Q:cI) (A:Nat->Prop) (ch:Nat->Nat) (s:St) (E:(Nat->Nat)->Option (α×Fr×St)):Prop:=
 ∀ch',ki s.ci ch ch'->kH Q ch'-> ∃x fr' s',E ch'=some (x,fr',s')/\ ∀m,s.next<=m->m<s'.next->A m
def qK (Q:cI) (mk:bt) (ch:Nat->Nat) (fr:Fr) (G:Gh) (B:Nat->Nat) (s s2:St) (a:Act) (w:World) (E:(Nat->Nat)->Option (α×Fr×St)) (x:α) (a':Act) (w':World):Prop:=
 ∃ch' fr' s' s2' G' B',ki s.ci ch ch'/\kH Q ch'/\E ch'=some (x,fr',s')/\ol mk fr G B s s2 a w fr' G' B' s' s2' a' w'
def Ch (E:(Nat->Nat)->Option (α×Fr×St)):Prop:= ∀ch x fr' s',E ch=some (x,fr',s')-> ∀ch',ki s'.ci ch ch'->E ch'=some (x,fr',s')
variable {Q:cI} {A:Nat->Prop} {ch ch1:Nat->Nat} {s s1:St} {E1:(Nat->Nat)->Option (α×Fr×St)} {E2:α->Fr->St->(Nat->Nat)->Option (β×Fr×St)}
theorem pX.first (hs:pX Q A ch s (fun c=>(E1 c).bind fun r=>E2 r.1 r.2.1 r.2.2 c)) (g: ∀x fr' s' c y fr'' s'',E2 x fr' s' c=some (y,fr'',s'')->s'.next<=s''.next):pX Q A ch s E1:=by
 intro ch' h1 h2
 obtain⟨x,fr',s',h3,h4⟩:=hs ch' h1 h2
 simp only[aN] at h3
 obtain⟨⟨x1,fr1,s1⟩,h5,h6⟩:=h3
 exact⟨x1,fr1,s1,h5,fun m hm hm'=>h4 m hm (iv hm' (g _ _ _ _ _ _ _ h6))⟩
theorem pX.second (hs:pX Q A ch s (fun c=>(E1 c).bind fun r=>E2 r.1 r.2.1 r.2.2 c)) (ho:Ch E1) {x:α} {fr1:Fr} (hag:ki s.ci ch ch1) (e1:E1 ch1=some (x,fr1,s1)) (hci:s.ci<=s1.ci) (hnx:s.next<=s1.next):
 pX Q A ch1 s1 (E2 x fr1 s1):=by
 intro ch' h1 h2
 obtain⟨y,fr',s',h3,h4⟩:=hs ch' (hag.trans h1 hci) h2
 have:=ho ch1 x fr1 s1 e1 ch' h1
 simp only[this,aq] at h3
 exact⟨y,fr',s',h3,fun m hm=>h4 m (gN hnx hm)⟩
theorem qK.second {mk:bt} {fr fr1:Fr} {G G1:Gh} {B B1:Nat->Nat} {s2 s21:St} {a a1 a':Act} {w w1 w':World} {x:α} {y:β} (ho:Ch E1) (hag:ki s.ci ch ch1)
 (e1:E1 ch1=some (x,fr1,s1)) (af:ol mk fr G B s s2 a w fr1 G1 B1 s1 s21 a1 w1) (p:qK Q mk ch1 fr1 G1 B1 s1 s21 a1 w1 (E2 x fr1 s1) y a' w'):
 qK Q mk ch fr G B s s2 a w (fun c=>(E1 c).bind fun r=>E2 r.1 r.2.1 r.2.2 c) y a' w':=by
 obtain⟨ch',fr',s',s2',G',B',h1,h2,h3,h4⟩:=p
 refine⟨ch',fr',s',s2',G',B',hag.trans h1 af.goes.ci,h2,?_,af.trans h4⟩
 simp only[ho ch1 x fr1 s1 e1 ch' h1,aq]
 exact h3
end
def Ex.to:Ex->Exit
 | .normal=>.normal
 | .exit id=>.exit id
 | .ret=>.ret
noncomputable def kr (Q:cI) (n:Nat) (f:FuncId) (c:Code) (mk:bt) (fr:Fr) (s:St) (ch:Nat->Nat):Option (Ex×Fr×St):=(db (Q.at ch) n).code f c mk fr s
def pU (Q:cI) (n:Nat):Prop:=
 ∀(ro:Option Nat) (f:FuncId) (c:Code) (mk:bt) (fr:Fr) (ch:Nat->Nat) (A:Nat->Prop) (G:Gh) (B:Nat->Nat) (s s2:St) (a:Act) (w:World),(ro≠none->fP c=true)->
  lr mk A G s s2 w->dC G s2.heap B fr a.tmps w->kH Q ch->pX Q A ch s (kr Q n f c mk fr s)->
  ∀K:Exit->Act->World->Prop,(∀x a' w',qK Q mk ch fr G B s s2 a w (kr Q n f c mk fr s) x a' w'->K x.to a' w')->
   c.wpIn (lU ro) 0 Q.P K a w/\ ∀b,c= .loop b->Code.roundsIn (lU ro) 0 Q.P b K n a w
theorem CV (Q:cI) (n:Nat) (f:FuncId) (c:Code) (mk:bt) (fr:Fr) (s:St):Ch (kr Q n f c mk fr s):=
 fun ch x fr' s' h ch' hag=>(qn Q n).code f c mk fr ch s x fr' s' h ch' hag
theorem II {Q:cI} {n:Nat} {f:FuncId} {c:Code} {mk:bt} {fr:Fr} {s:St} {ch:Nat->Nat} {x:Ex} {fr':Fr} {s':St} (h:kr Q n f c mk fr s ch=some (x,fr',s')):gI mk s s':=
 ((kO Q n).code f c mk fr ch s x fr' s' h).1
structure HQ (Q:cI) (n:Nat) (m:Nat) (args:List aj) (mk:bt) (ch:Nat->Nat) (G:Gh) (s s2:St) (w:World) (y:Value) (w':World)
 (ch':Nat->Nat) (v:aj) (s' s2':St) (G':Gh):Prop where
 agree:ki s.ci ch ch'
 inb:kH Q ch'
 eval:mc (db (Q.at ch') n) m args mk s=some (v,s')
 same:hJ mk s s' s2 s2'
 wr:WR G' s2'.heap w'
 ext:dF G s2.heap w G' s2'.heap w' s.next s'.next
 val:VR G' v y
theorem aot {Q:cI} {n:Nat} (hcs:pU Q n) (ro:Option Nat) {m:Nat} {args:List aj} {mk:bt} {s s2:St} {G:Gh} {w:World} {xs:List Value} {ch:Nat->Nat} {A:Nat->Prop}
 (p:lr mk A G s s2 w) (hv:cU G args xs) (hi:kH Q ch) {ad:Addr} (hm:G.at_ m=some ad)
 (hs: ∀ch',ki s.ci ch ch'->kH Q ch'-> ∃v s',mc (db (Q.at ch') n) m args mk s=some (v,s')/\ ∀q,s.next<=q->q<s'.next->A q):
 ∃rec:Loop,w.heap[ad.block]? =some (.loop rec)/\xs.length=rec.params.size/\
  RoundIn (lU ro) 0 Q.P ad.block rec.fn ((rec.params.zip ⟨xs⟩).foldl (fun tmps (t,a)=>tmps.setIfInBounds t a) rec.tmps) rec.assign rec.body w
   (fun e w'=> ∃y,e= .returned y/\ ∃ch' v s' s2' G',HQ Q n m args mk ch G s s2 w y w' ch' v s' s2' G'):=by
 obtain⟨v0,s0,h0,_⟩:=hs ch (.refl _ _) hi
 simp only[mc,aN] at h0
 obtain⟨o,ho,⟨u,o',s3⟩,hin,_⟩:=h0
 unfold vf at hin
 split at hin
 case h_2=>cases hin
 rename_i f env size ps a b
 obtain⟨hps,hin⟩:=cq hin
 simp only[aN] at hin
 obtain⟨env',henv,_⟩:=hin
 have ho2:=(qf (p.sees.look ho)).2
 obtain⟨ad',hm',hsp,rec,hrec,hL⟩:=p.wr.obj m _ ho2
 rw[hm] at hm';injection hm' with hm';subst hm'
 have g1:=gI.put ho (mk:=mk) none
 have y1:iR mk (s.put m none) (s2.put m none):=(hJ.put p.sees ho none).sees p.sees g1
 have wr1:WR G (s2.put m none).heap w:=p.wr.killed m
 have hno: ¬fy G (s2.put m none).heap ad.block:=A7 p.wr (by rw[ho2];simp) hm
 have howned:fy G s2.heap ad.block:=⟨m,ad,by rw[ho2];simp,hm,rfl⟩
 have hl:=ia hrec
 have p1:lr mk A G (s.put m none) (s2.put m none) w:=⟨p.fresh.goes g1,y1,wr1,p.free⟩
 have hps': ∀t∈ps,t<size:=fun t ht=>nN (List.all_eq_true.1 hps t ht)
 obtain⟨hlen,hsz,henvR⟩:=V5 henv hv hps' hL.size hL.env
 have hfold:(rec.params.zip ⟨xs⟩).foldl (fun tmps (t,a)=>tmps.setIfInBounds t a) rec.tmps=(ps.zip xs).foldl (fun tmps (t,a)=>tmps.setIfInBounds t a) rec.tmps:=by
  rw[<-hL.params]
  have:rec.params.zip (⟨xs⟩:Array Value)=(⟨rec.params.toList.zip xs⟩:Array (Tmp×Value)):=by apply mf;simp
  rw[this];simp
 have hparams:rec.params.size=ps.length:=by rw[<-hL.params];simp
 have hnil: ∀t,Loc.get [] t (Loc.gen [] t)=none:=fun t=>rfl
 have fx1:dC G (s2.put m none).heap (fun _=>0) ⟨env',size,[]⟩ ((ps.zip xs).foldl (fun tmps (t,a)=>tmps.setIfInBounds t a) rec.tmps) w:=
  ⟨hsz,fun t=>LV.of_VR (henvR t),⟨(fun t cs h=>by cases h),(fun t cs h=>by cases h),(fun t cs h=>by cases h),(fun t u cs ds h=>by cases h)⟩⟩
 have hev: ∀c,mc (db (Q.at c) n) m args mk s=((kr Q n f a mk ⟨env',size,[]⟩ (s.put m none) c).bind (tY (db (Q.at c) n) f env size ps a b mk)).bind fun x=>some (x.1,x.2.2.put m (some x.2.1)):=by
  intro c
  simp only[mc,ho,aq,vf,hps,cT,henv];rfl
 refine⟨rec,hrec,by rw[hlen,hparams],?_⟩
 rw[hfold,hL.assign,hL.body]
 refine roundIn_of_wpIn (uw ro _) ?_
 rw[aai]
 refine(hcs (some ad.block) f a mk ⟨env',size,[]⟩ ch A G (fun _=>0) (s.put m none) (s2.put m none) ⟨_,[]⟩ w (fun _=>hL.flatA) p1 fx1 hi ?_ _ ?_).1
 ·intro c h1 h2
  obtain⟨v,s',h3,h4⟩:=hs c h1 h2
  rw[hev] at h3
  simp only[aN,bp,bX] at h3
  obtain⟨⟨u,o',s5⟩,⟨⟨x,fr',s4⟩,h5,h6⟩,_,rfl⟩:=h3
  refine⟨x,fr',s4,h5,fun q hq hq'=>h4 q hq (iv hq' ?_)⟩
  cases x with
  |exit i=>cases h6
  |ret=>cases h6
  |normal=>
   simp only[tY,aN] at h6
   obtain⟨⟨x2,fr2,s6⟩,h7,h8⟩:=h6
   have e6:s6=s5:=by cases x2<;>(simp only[ve,bp,bX] at h8;exact h8.2.2)
   subst e6
   exact(II (Q:=Q) (n:=n) (ch:=c) h7).next
 ·rintro x a1 w1 ⟨c1,fr1,s3,s23,G1,B1,ag1,in1,e1,af1⟩
  obtain⟨v,s',h3,h4⟩:=hs c1 ag1 in1
  have h3':=h3
  rw[hev,e1] at h3
  simp only[aq,aN,bp,bX] at h3
  obtain⟨⟨u,o',s5⟩,h6,_,rfl⟩:=h3
  have hnL: ¬LB (fun _=>0) ([]:Loc) ad.block:=fun⟨t,cs,h,_⟩=>by cases h
  have keep1:w1.heap[ad.block]? =some (.loop rec):=(af1.ext.keep _ hl hno hnL).trans hrec
  have hno1: ¬fy G1 s23.heap ad.block:=fun o=>hno (af1.ext.owns _ hl o)
  cases x with
  |exit i=>cases h6
  |ret=>cases h6
  |normal=>
   refine⟨_,run_beginRound keep1 hL.state,?_⟩
   rw[GF]
   have p1':=p1.after af1
   have p2:lr mk A G1 s3 s23 (ef w1 ad.block (.loop {rec with state:=.busy })):=⟨p1'.fresh,p1'.sees,p1'.wr.aside keep1 trivial hno1,p1'.free⟩
   have fx2:dC G1 s23.heap B1 fr1 a1.tmps (ef w1 ad.block (.loop {rec with state:=.busy })):=af1.fx.aside keep1 trivial
   have hl1:=ia keep1
   have hb1:(ef w1 ad.block (.loop {rec with state:=.busy })).heap[ad.block]? =some (.loop {rec with state:=.busy }):=by rw[jn _ _ _ _ hl1,if_pos rfl]
   refine(hcs (some ad.block) f b mk fr1 c1 A G1 B1 s3 s23 a1 _ (fun _=>hL.flatB) p2 fx2 in1 ?_ _ ?_).1
   ·intro c h1 h2
    obtain⟨v,s',h7,h8⟩:=hs c (ag1.trans h1 af1.goes.ci) h2
    rw[hev,CV Q n f a mk _ _ c1 _ _ _ e1 c h1] at h7
    simp only[aq,aN,bp,bX,tY] at h7
    obtain⟨⟨u,o',s6⟩,⟨⟨x2,fr2,s7⟩,h9,h10⟩,_,rfl⟩:=h7
    refine⟨x2,fr2,s7,h9,fun q hq hq'=>h8 q (gN af1.goes.next hq) ?_⟩
    have e6:s7=s6:=by cases x2<;>(simp only[ve,bp,bX] at h10;exact h10.2.2)
    subst e6;exact hq'
   ·rintro x2 a2 w3 ⟨c2,fr2,s6,s26,G2,B2,ag2,in2,e2,af2⟩
    have keep2:w3.heap[ad.block]? =some (.loop {rec with state:=.busy }):=(af2.ext.keep _ (by rw[wM];exact hl1) hno1 (fx2.not_LB hb1 trivial)).trans hb1
    have hno2: ¬fy G2 s26.heap ad.block:=fun o=>hno1 (af2.ext.owns _ (by rw[wM];exact hl1) o)
    have hm2:G2.at_ m=some ad:=af2.ext.le.at_ _ _ (af1.ext.le.at_ _ _ hm)
    have fin: ∀(jump:Option Code) (pe:Option Ex),jump=pe.map Ex.code->ve f env size ps a b (x2,fr2,s6)=some (.bool jump.isNone,.loop f env size ps a b pe,s6)->
     ∃v w',(Instr.endRound ad.block jump).run Q.P w3= .ok v w'/\ ∃y,Ending.returned v= .returned y/\ ∃ch' v s' s2' G',HQ Q n m args mk ch G s s2 w y w' ch' v s' s2' G':=by
     intro jump pe hj hy2
     refine⟨_,_,run_endRound jump keep2,_,rfl,c2,.bool jump.isNone,s6.put m (some (.loop f env size ps a b pe)),s26.put m (some (.loop f env size ps a b pe)),G2,?_⟩
     rw[GF]
     have hext:jf G s2.heap w G2 s26.heap w3 s.next s6.next (fun _=>False):=by
      have x0:dF G s2.heap w G (s2.put m none).heap w s.next s.next:=dF.killed
      have x1:jf G s2.heap w G1 s23.heap (ef w1 ad.block (.loop {rec with state:=.busy })) s.next s3.next (fun _=>False):=
       ((x0.toL fun _=>False).trans af1.ext (fun b h=>by obtain⟨t,cs,h,_⟩:=h;cases h) (bK _) af1.goes.next).aside keep1 trivial trivial (fun _=>howned)
      exact x1.trans af2.ext (fun b h=>by
       rcases af1.boxes b h with h|h
       ·obtain⟨t,cs,h,_⟩:=h;cases h
       ·exact .inr h) af1.goes.next af2.goes.next
     refine⟨ag1.trans ag2 af1.goes.ci,in2,?_,(hJ.trans af1.goes af2.goes af1.same af2.same).hide p.sees ho _,?_,?_,.bool _⟩
     ·rw[hev,CV Q n f a mk _ _ c1 _ _ _ e1 c2 ag2]
      have e2:(db (Q.at c2) n).code f b mk fr1 s3=some (x2,fr2,s6):=e2
      simp only[aq,tY,e2,hy2]
     ·refine(af2.wr.aside keep2 trivial hno2).back hm2 hsp hno2 ⟨_,by rw[jn _ _ _ _ (ia keep2),if_pos rfl],?_⟩ (af2.wr.aside_ro keep2 trivial)
      refine⟨?_,hj,hL.size,fun t=>(hL.env t).mono (af1.ext.le.trans af2.ext.le),hL.params,hL.assign,hL.body,hL.flatA,hL.flatB⟩
      cases pe<;>(subst hj;rfl)
     ·have x2:=(hext.toExt fun _ h=>h).aside (ob:=.loop { {rec with state:=.busy } with state:=if jump.isNone then .ready else .done,pending:=jump }) keep2 trivial trivial (fun _=>howned)
      exact⟨x2.le,x2.size,x2.keep,fun c hc o=>by
       rcases anF hm2 o with rfl|o
       ·exact howned
       ·exact x2.owns c hc o,x2.names,x2.cells,x2.quiet⟩
    cases x2 with
    |normal=>exact fin none none rfl rfl
    |exit id=>exact fin (some (.exit id)) (some (.exit id)) rfl rfl
    |ret=>exact fin (some .ret) (some .ret) rfl rfl
structure Cg (Q:cI) (n:Nat) (f:FuncId) (o:Oper) (mk:bt) (fr:Fr) (ch:Nat->Nat) (G:Gh) (B:Nat->Nat) (s s2:St) (w:World) (x:Value) (w':World)
 (ch':Nat->Nat) (v:aj) (loc':Loc) (s' s2':St) (G':Gh) (B':Nat->Nat):Prop where
 agree:ki s.ci ch ch'
 inb:kH Q ch'
 eval:fW (Q.at ch') (db (Q.at ch') n) f o mk fr s=some (v,loc',s')
 same:hJ mk s s' s2 s2'
 wr:WR G' s2'.heap w'
 ext:jf G s2.heap w G' s2'.heap w' s.next s'.next (LB B fr.loc)
 locs:ou G' s2'.heap B' loc' w'
 val:LV G' loc' B' v x
 old: ∀u y,LV G fr.loc B u y->LV G' loc' B' u y
 boxes: ∀b,LB B' loc' b->LB B fr.loc b\/w.heap.size<=b
theorem amF {mk:bt} {ch:Nat->Nat} {kmax:Nat->Nat} {it:aj} {b:Bool} {s:St} {r:aj×St} (h:kR mk ch kmax it b s=some r) (h2:2<=jM mk it s):jM mk it s<=kmax s.ci:=by
 unfold kR at h
 split at h
 ·rename_i n
  simp only[aN] at h
  obtain⟨ob,hob,h⟩:=h
  split at h
  ·simp[jM,hob] at h2
  ·rename_i m since seen stepped
   cases b
   ·simp only[cF,aN] at h
    obtain⟨ob2,hob2,h⟩:=h
    split at h
    ·rename_i es clock
     have hc:jM mk (.ptr n 0) s=(dK seen es).length:=by simp[jM,hob,hob2]
     rw[hc] at h2 ⊢
     rcases hQ h with⟨_,h⟩|⟨_,h⟩
     ·cases h
     ·generalize dK seen es=l at h h2
      unfold nV at h
      split at h
      ·simp at h2
      ·obtain⟨_,h⟩:=cq h
       split at h
       ·simp at h2
       ·obtain⟨h,_⟩:=cq h
        exact jC h
    ·cases h
   ·cases h
  ·cases h
 ·cases h
theorem Vc {Q:cI} {n:Nat} (hc:sR Q n) (hcs:pU Q n) (ro:Option Nat) {f:FuncId} {o:Oper} {mk:bt} {fr:Fr} {ch:Nat->Nat} {A:Nat->Prop} {G:Gh} {B:Nat->Nat} {s s2:St} {a:Act} {w:World}
 (p:lr mk A G s s2 w) (fx:dC G s2.heap B fr a.tmps w) (hi:kH Q ch)
 (he: ∀ch',ki s.ci ch ch'->kH Q ch'-> ∃v loc' s',fW (Q.at ch') (db (Q.at ch') n) f o mk fr s=some (v,loc',s')/\ ∀m,s.next<=m->m<s'.next->A m)
 (K:Act->World->Prop) (E:Exit->Act->World->Prop)
 (hK: ∀x w' ch' v loc' s' s2' G' B',Cg Q n f o mk fr ch G B s s2 w x w' ch' v loc' s' s2' G' B'->K (a.put o.dst x) w'):o.wpIn (lU ro) 0 Q.P a w K E:=by
 have hloc:cr mk (fun ch s=>fW (Q.at ch) (db (Q.at ch) n) f o mk fr s):=yg (Q:=Q) (kO Q n) f o mk fr
 have plain:(∀c,o.op≠ .defer c)->(∀ch' s,fW (Q.at ch') (db (Q.at ch') n) f o mk fr s=kJ Q.P mk ch' Q.kmax (Q.hint f) o.dst o.op fr s)->o.wpIn (lU ro) 0 Q.P a w K E:=by
  intro hnd hop
  have hch: ∃ch',ki s.ci ch ch'/\kH Q ch'/\ ∀x b xv,o.op= .next x b->evc fr.env x=some xv->2<=jM mk xv s2->
   ch' s2.ci % jM mk xv s2=(w.tape w.drawn (.mapNext (jM mk xv s2))) % jM mk xv s2:=by
   by_cases hn: ∃x b xv,o.op= .next x b/\evc fr.env x=some xv/\2<=jM mk xv s2
   ·obtain⟨x,b,xv,hx1,hx2,hx3⟩:=hn
    obtain⟨v,loc',s',h1,_⟩:=he ch (.refl _ _) hi
    obtain⟨s2',h3,_⟩:=(hloc ch s v loc' s' h1).2 ch s2 (fun _ _=>rfl) p.sees
    have hle:jM mk xv s2<=Q.kmax s.ci:=by
     have h3:fW (Q.at ch) (db (Q.at ch) n) f o mk fr s2=some (v,loc',s2'):=h3
     rw[hop,hx1] at h3
     simp only[kJ,hx2,aq,ii,aN] at h3
     obtain⟨r,hr,_⟩:=h3
     rw[<-p.sees.ci];exact amF hr hx3
    refine⟨fun i=>if i=s.ci then(w.tape w.drawn (.mapNext (jM mk xv s2))) % jM mk xv s2 else ch i,?_,?_,?_⟩
    ·intro i hi'
     simp only
     rw[if_neg (by omega)]
    ·intro i
     simp only
     split
     ·rename_i e;subst e
      exact iv (Nat.mod_lt _ (by omega)) hle
     ·exact hi i
    ·intro x' b' xv' hx1' hx2' _
     rw[hx1] at hx1'
     injection hx1' with e1 e2
     subst e1
     rw[hx2] at hx2'
     injection hx2' with e3
     subst e3
     simp only
     rw[if_pos p.sees.ci,Nat.mod_mod]
   ·exact⟨ch,.refl _ _,hi,fun x b xv h1 h2 h3=>absurd ⟨x,b,xv,h1,h2,h3⟩ hn⟩
  obtain⟨ch',hag,hin,hch⟩:=hch
  obtain⟨v,loc',s',h1,h2⟩:=he ch' hag hin
  obtain⟨g,hl⟩:=hloc ch' s v loc' s' h1
  obtain⟨s2',h3,h4⟩:=hl ch' s2 (fun _ _=>rfl) p.sees
  have h3':kJ Q.P mk ch' Q.kmax (Q.hint f) o.dst o.op fr s2=some (v,loc',s2'):=by rw[<-hop];exact h3
  have hpost:=XU p.wr fx h3' (fun m hm1 hm2=>p.free m (by rw[<-p.sees.next];exact hm1) (h2 m (by rw[<-p.sees.next];exact hm1) (by rw[<-h4.next];exact hm2))) hch
  obtain⟨nx,x,w',G',B',r1,r2,r3,r4,r5,r6,r7,r8⟩:=hpost
  have r4':jf G s2.heap w G' s2'.heap w' s.next s'.next (LB B fr.loc):=by rw[<-p.sees.next,<-h4.next];exact r4
  have hk:=hK x w' ch' v loc' s' s2' G' B' ⟨hag,hin,h1,h4,r3,r4',r5,r6,r7,r8⟩
  refine⟨fun _ _=>uw ro _,?_⟩
  rw[Oper.semAt_eq _ _ _ hnd,r1]
  rcases r2 with rfl|⟨rfl,rfl⟩<;>exact hk
 cases hop:o.op
 case call c=>
  cases hcl:c.callee with
  |builtin b=>exact plain (fun c h=>by rw[hop] at h;cases h) fun ch' s=>by simp only[fW,hop,hcl,kJ];rfl
  |invoke x y=>
   obtain⟨v,loc',s',h1,_⟩:=he ch (.refl _ _) hi
   simp[fW,hop,hcl,mz,callee,nh] at h1
  |value g=>
   have hnd: ∀c,o.op≠ .defer c:=fun c h=>by rw[hop] at h;cases h
   cases hyld:nh fr.env c with
   |true=>
    have heval: ∀ch' s,fW (Q.at ch') (db (Q.at ch') n) f o mk fr s=pO (db (Q.at ch') n) c mk fr s:=fun ch' s=>by simp only[fW,hop,hcl,hyld,cT]
    obtain⟨v0,loc0,s0,h0,_⟩:=he ch (.refl _ _) hi
    rw[heval] at h0
    simp only[pO,aN] at h0
    obtain⟨⟨m,args⟩,hyee,_⟩:=h0
    have hyee':=hyee
    simp only[yieldee,hcl,aN] at hyee
    obtain⟨gv,hg,hyee⟩:=hyee
    have hgl:=fx.ev hg
    cases gv<;>try (cases hyee;done)
    rename_i m'
    simp only[aN,bp,bX] at hyee
    obtain⟨as,has,rfl,rfl⟩:=hyee
    have hgl:VR G (.yld m') (a.eval g):=hgl
    generalize hgx:a.eval g=gx at hgl
    cases hgl with
    |yld hm=>
     rename_i ad
     have hargs:=(fx.evcs has).1
     obtain⟨rec,q1,q2,q3⟩:=aot hcs ro p hargs hi hm (fun ch' ha hb=>by
      obtain⟨v,loc',s',h1,h2⟩:=he ch' ha hb
      rw[heval] at h1
      simp only[pO,hyee',aq,aN,bp,bX] at h1
      obtain⟨⟨v1,s1⟩,h3,rfl,rfl,rfl⟩:=h1
      exact⟨v1,s1,h3,h2⟩)
     have hrun:(execOp a.eval o).run Q.P w= .ok (.round ad.block rec.fn ((rec.params.zip ⟨c.args.toList.map a.eval⟩).foldl (fun tmps (t,a)=>tmps.setIfInBounds t a) rec.tmps) rec.assign rec.body) w:=by
      have hsz:(⟨c.args.toList.map a.eval⟩:Array Value).size=rec.params.size:=by rw[<-q2];rfl
      have:=run_yield (P:=Q.P) (args:=⟨c.args.toList.map a.eval⟩) q1 hsz
      have e:(#[]:Array Value)++c.args.map a.eval=⟨c.args.toList.map a.eval⟩:=by apply mf;simp
      simp only[execOp,hop,resolve,hcl,hgx,Deferred.ofValue,Sem.run_bind,Sem.run_pure,je,invoke,e]
      exact this
     refine⟨fun _ _=>uw ro _,?_⟩
     rw[Oper.semAt_eq _ _ _ hnd,hrun]
     refine⟨Dk ro 0,q3.mono ?_⟩
     rintro e w' ⟨y,rfl,ch',v,s',s2',G',c1⟩
     refine hK y w' ch' v fr.loc s' s2' G' B ⟨c1.agree,c1.inb,?_,c1.same,c1.wr,c1.ext.toL _,fx.locs.ext c1.ext,LV.of_VR c1.val,fun _ _ h=>h.mono c1.ext.le,fun _ h=>.inl h⟩
     rw[heval]
     simp only[pO,hyee',aq,c1.eval]
   |false=>
   have heval: ∀ch' s,fW (Q.at ch') (db (Q.at ch') n) f o mk fr s=mz (db (Q.at ch') n) c mk fr s:=fun ch' s=>by simp only[fW,hop,hcl,hyld,cF]
   obtain⟨v0,loc0,s0,h0,_⟩:=he ch (.refl _ _) hi
   rw[heval] at h0
   simp only[mz,aN] at h0
   obtain⟨⟨fn,args⟩,hcallee,_⟩:=h0
   have hcallee':=hcallee
   simp only[callee,hcl,aN] at hcallee
   obtain⟨gv,hg,hcallee⟩:=hcallee
   have hgl:=fx.ev hg
   cases gv<;>try (cases hcallee;done)
   rename_i fn' first captured
   cases fn'<;>try (cases hcallee;done)
   rename_i fid
   simp only[aN] at hcallee
   obtain⟨as,has,hcallee⟩:=hcallee
   simp only[bp,bX] at hcallee
   obtain⟨rfl,rfl⟩:=hcallee
   have hgl:VR G (.func (.func fid) first captured) (a.eval g):=hgl
   generalize hgx:a.eval g=gx at hgl
   cases hgl with
   |func hf hcap=>
    rename_i fs cs
    have hargs:=(fx.evcs has).1
    have hall:cU G (first++(as++captured)) (fs++(c.args.toList.map a.eval++cs)):=hf.append (hargs.append hcap)
    have hrun:(execOp a.eval o).run Q.P w=(callFunc fid ⟨fs++(c.args.toList.map a.eval++cs)⟩).run Q.P w:=by
     have:(((⟨fs⟩:Array Value)++c.args.map a.eval)++(⟨cs⟩:Array Value))=⟨fs++(c.args.toList.map a.eval++cs)⟩:=by
      apply mf;simp
     simp only[execOp,hop,resolve,hcl,hgx,Deferred.ofValue,Sem.run_bind,Sem.run_pure,je,invoke,this]
    have hcs':=hc fid (first++(as++captured)) mk s s2 G w _ ch A p hall hi (fun ch' ha hb=>by
     obtain⟨v,loc',s',h1,h2⟩:=he ch' ha hb
     rw[heval] at h1
     simp only[mz,hcallee',aq,aN] at h1
     obtain⟨⟨v1,s1⟩,h3,h1⟩:=h1
     simp only[bp,bX] at h1
     obtain⟨rfl,rfl,rfl⟩:=h1
     exact⟨v1,s1,h3,h2⟩)
    have fin: ∀y w',(∃ch' v s' s2' G',y7 Q n fid (first++(as++captured)) mk ch G s s2 w y w' ch' v s' s2' G')->K (a.put o.dst y) w':=by
     rintro y w' ⟨ch',v,s',s2',G',c⟩
     refine hK y w' ch' v fr.loc s' s2' G' B ⟨c.agree,c.inb,?_,c.same,c.wr,c.ext.toL _,fx.locs.ext c.ext,LV.of_VR c.val,fun _ _ h=>h.mono c.ext.le,fun _ h=>.inl h⟩
     rw[heval]
     simp only[mz,hcallee',aq,c.eval]
    refine⟨fun _ _=>uw ro _,?_⟩
    rw[Oper.semAt_eq _ _ _ hnd,hrun]
    rcases hcs' with⟨y,w',h1,h2⟩|⟨h1,h2⟩
    ·rw[h1];exact fin y w' h2
    ·rw[h1]
     refine⟨Dk ro 0,I6.2 (h2.mono ?_)⟩
     rintro e w' ⟨y,rfl,h3⟩
     exact fin y w' h3
 case defer c=>
  obtain⟨v,loc',s',h1,_⟩:=he ch (.refl _ _) hi
  simp only[fW,hop,kJ] at h1
  cases h1
 all_goals exact plain (fun c h=>by rw[hop] at h;cases h) fun ch' s=>by simp only[fW,hop];rfl
section
variable {mk:bt} {A:Nat->Prop} {fr fr' fr'':Fr} {G G' G'':Gh} {B B' B'':Nat->Nat} {s s' s'' s2 s2' s2'':St} {a a' a'':Act} {w w' w'':World}
theorem Cg.after {Q:cI} {n:Nat} {f:FuncId} {o:Oper} {ch ch':Nat->Nat} {x:Value} {v:aj} {loc':Loc}
 (fx:dC G s2.heap B fr a.tmps w) (q:Cg Q n f o mk fr ch G B s s2 w x w' ch' v loc' s' s2' G' B') (hp:eZ fr o.dst v loc'=some fr'):
 ol mk fr G B s s2 a w fr' G' B' s' s2' (a.put o.dst x) w' where
 goes:=(yg (Q:=Q) (kO Q n) f o mk fr ch' s v loc' s' q.eval).1
 same:=q.same
 wr:=q.wr
 ext:=q.ext
 fx:=fx.put hp q.locs q.val q.old
 boxes b h:=q.boxes b (by rw[(qy hp).2.1] at h;exact h)
 defers:=⟨[],CA _ _ _,.nil _ _⟩
theorem Hi (G:Gh):VR G iB undef:=.tup .nil
theorem ol.skip (p:lr mk A G s s2 w) (fx:dC G s2.heap B fr a.tmps w) {dst:Option Tmp} (hp:eZ fr dst iB fr.loc=some fr'):
 ol mk fr G B s s2 a w fr' G B s s2 (a.put dst undef) w where
 goes:=.refl _ _
 same:=.refl p.sees
 wr:=p.wr
 ext:=dF.refl.toL _
 fx:=fx.put hp fx.locs (LV.of_VR (Hi G)) fun _ _ h=>h
 boxes b h:=.inl (by rw[(qy hp).2.1] at h;exact h)
 defers:=⟨[],CA _ _ _,.nil _ _⟩
end
noncomputable def ra (Q:cI) (n:Nat) (f:FuncId) (all:Array Oper) (mk:bt) (l:List Oper) (fr:Fr) (s:St) (ch:Nat->Nat):Option (Ex×Fr×St):=
 ((db (Q.at ch) n).ops f all mk l fr s).bind fun x=>some (.normal,x.1,x.2)
def zc (Q:cI) (n:Nat):Prop:=
 ∀(ro:Option Nat) (f:FuncId) (all:Array Oper) (mk:bt) (l:List Oper) (i:Nat) (fr:Fr) (ch:Nat->Nat) (A:Nat->Prop) (G:Gh) (B:Nat->Nat) (s s2:St) (a:Act) (w:World),
  lr mk A G s s2 w->dC G s2.heap B fr a.tmps w->kH Q ch->(∀k o,l[k]? =some o->all[i+k]? =some o)->pX Q A ch s (ra Q n f all mk l fr s)->
  ∀K:Exit->Act->World->Prop,(∀a' w',qK Q mk ch fr G B s s2 a w (ra Q n f all mk l fr s) .normal a' w'->K .normal a' w')->wpOpsIn (lU ro) 0 Q.P all K (List.range' i l.length) a w
theorem anr {Q:cI} {n:Nat} {f:FuncId} {all:Array Oper} {mk:bt} {l:List Oper} {fr:Fr} {s:St} {ch:Nat->Nat} {x:Ex} {fr':Fr} {s':St} (h:ra Q n f all mk l fr s ch=some (x,fr',s')):gI mk s s':=by
 simp only[ra,aN,bp,bX] at h
 obtain⟨⟨fr1,s1⟩,h1,_,_,rfl⟩:=h
 exact((kO Q n).ops f all mk l fr ch s fr1 s1 h1).1
theorem ans {Q:cI} {n:Nat} (hc:sR Q n) (hcs:pU Q n) (hn:zc Q n):zc Q (n+1):=by
 intro ro f all mk l i fr ch A G B s s2 a w p fx hi hl hs K hK
 cases l with
 |nil=>
  simp only[List.length_nil,List.range'_zero,wpOpsIn]
  exact hK a w ⟨ch,fr,s,s2,G,B,.refl _ _,hi,rfl,.refl p fx⟩
 |cons o rest=>
  have ho:all[i]? =some o:=hl 0 o rfl
  have hl': ∀k o,rest[k]? =some o->all[i+1+k]? =some o:=fun k o' hk=>by
   have:=hl (k+1) o' (by simpa using hk)
   rwa [show i+1+k=i+(k+1) by omega]
  simp only[aR,List.range'_succ,wpOpsIn,ho,fx.wanted]
  cases hw:fE all fr.env o with
  |false=>
   simp only[rB,if_false]
   have hev: ∀c,ra Q (n+1) f all mk (o::rest) fr s c=((eZ fr o.dst iB fr.loc).bind fun fr'=>ra Q n f all mk rest fr' s c):=by
    intro c
    show((lJ (Q.at c) (db (Q.at c) n) f all mk (o::rest) fr s).bind _)=_
    simp only[lJ,hw,cF,ra]
    cases eZ fr o.dst iB fr.loc<;>rfl
   obtain⟨x0,fr0,s0,h0,_⟩:=hs ch (.refl _ _) hi
   rw[hev] at h0
   simp only[aN] at h0
   obtain⟨fr1,hp,_⟩:=h0
   have af:=ol.skip p fx (a:=a) hp
   refine⟨fun _ _=>uw ro _,?_⟩
   refine hn ro f all mk rest (i+1) fr1 ch A G B s s2 _ w p af.fx hi hl' ?_ K ?_
   ·intro c h1 h2
    have:=hs c h1 h2
    rw[hev,hp] at this
    exact this
   ·intro a' w' ⟨c,fr',s',s2',G',B',h1,h2,h3,h4⟩
    refine hK a' w' ⟨c,fr',s',s2',G',B',h1,h2,?_,af.trans h4⟩
    rw[hev,hp];exact h3
  |true=>
   simp only[if_true]
   have hev: ∀c,ra Q (n+1) f all mk (o::rest) fr s c=((fW (Q.at c) (db (Q.at c) n) f o mk fr s).bind fun x=>(eZ fr o.dst x.1 x.2.1).bind fun fr'=>ra Q n f all mk rest fr' x.2.2 c):=by
    intro c
    show((lJ (Q.at c) (db (Q.at c) n) f all mk (o::rest) fr s).bind _)=_
    simp only[lJ,hw,cT,ra]
    cases fW (Q.at c) (db (Q.at c) n) f o mk fr s with
    |none=>rfl
    |some x=>
     simp only[aq]
     cases eZ fr o.dst x.1 x.2.1<;>rfl
   refine Vc (f:=f) (fr:=fr) hc hcs ro p fx hi ?_ _ K ?_
   ·intro c h1 h2
    obtain⟨x0,fr0,s0,h0,hA⟩:=hs c h1 h2
    rw[hev] at h0
    simp only[aN] at h0
    obtain⟨⟨v,loc',s1⟩,h3,fr1,_,h5⟩:=h0
    exact⟨v,loc',s1,h3,fun m hm hm'=>hA m hm (iv hm' (anr h5).next)⟩
   ·intro x w' c1 v loc' s1 s21 G1 B1 q
    obtain⟨x0,fr0,s0,h0,_⟩:=hs c1 q.agree q.inb
    rw[hev,q.eval] at h0
    simp only[aq,aN] at h0
    obtain⟨fr1,hp,_⟩:=h0
    have af:=q.after fx hp
    have hown: ∀c,ki s1.ci c1 c->fW (Q.at c) (db (Q.at c) n) f o mk fr s=some (v,loc',s1):=fun c hag=>
     xy (Q:=Q) (kO Q n) (qn Q n) f o mk fr c1 s v loc' s1 q.eval c hag
    refine hn ro f all mk rest (i+1) fr1 c1 A G1 B1 s1 s21 _ w' (p.after af) af.fx q.inb hl' ?_ K ?_
    ·intro c h1 h2
     obtain⟨y,fr',s',h3,h4⟩:=hs c (q.agree.trans h1 af.goes.ci) h2
     rw[hev,hown c h1] at h3
     simp only[aq,hp] at h3
     exact⟨y,fr',s',h3,fun m hm=>h4 m (gN af.goes.next hm)⟩
    ·intro a' w'' ⟨c,fr',s',s2',G',B',h1,h2,h3,h4⟩
     refine hK a' w'' ⟨c,fr',s',s2',G',B',q.agree.trans h1 af.goes.ci,h2,?_,af.trans h4⟩
     rw[hev,hown c h1]
     simp only[aq,hp]
     exact h3
theorem LB.congr {B:Nat->Nat} {l l2:Loc} (h: ∀u,kI l l2 u) {b:Nat}:LB B l b->LB B l2 b:=by
 rintro⟨t,cs,h1,h2⟩
 refine⟨t,cs,?_,h2⟩
 rw[<-(h t).1,<-(h t).2];exact h1
theorem dC.congr {G:Gh} {h:bD bR} {B:Nat->Nat} {fr fr2:Fr} {tmps:Array Value} {w:World} (x:dC G h B fr tmps w) (hs:fr2.size=fr.size) (he: ∀d,ay fr2.env d=ay fr.env d)
 (hl: ∀u,kI fr.loc fr2.loc u):dC G h B fr2 tmps w where
 size:=x.size.trans hs.symm
 env t:=by
  have:=x.env t
  rw[he t]
  revert this
  generalize ay fr.env t=v
  generalize tmps.getD t undef=y
  intro hv
  cases v<;>first
   |exact hv
   |(obtain⟨h1,h2,h3⟩:=hv
     exact⟨by rw[<-(hl _).1];exact h1,h2,fun e=>h3 (by rw[(hl _).1];exact e)⟩)
 locs:=by
  have hg: ∀t cs,fr2.loc.get t (fr2.loc.gen t)=some cs->fr.loc.get t (fr.loc.gen t)=some cs:=fun t cs h=>by
   rw[(hl t).1,(hl t).2];exact h
  exact⟨fun t cs h=>x.locs.cells t cs (hg t cs h),fun t cs h=>x.locs.free t cs (hg t cs h),fun t cs h=>x.locs.ro t cs (hg t cs h),
   fun t u cs ds h h'=>x.locs.inj t u cs ds (hg t cs h) (hg u ds h')⟩
section
variable {Q:cI} {f:FuncId} {all:Array Oper} {mk:bt} {F:Nat->Fr} {S:Nat->St} {M:Nat->bt} {lv:Nat->Nat} {Lo:Nat->Bool}
theorem bu.untouched (t:bu Q f all mk F S M lv Lo) {k n:Nat} (hk:k<all.size) (h: ¬bu.Th Q f all F S M k n):(S (k+1)).heap.get n=(S k).heap.get n:=by
 have ho:all[k]? =some all[k]:=nG hk
 cases hw:fE all (F k).env all[k] with
 |true=>
  obtain⟨v,loc',s1,_,_,_,h4,_,g⟩:=t.done ho hw
  rw[h4]
  refine g.frame n fun t'=>h ⟨_,ho,hw,?_⟩
  rw[h4];exact t'
 |false=>
  rcases t.step ho with⟨h',_⟩|⟨_,_,h'⟩
  ·rw[hw] at h';cases h'
  ·rw[h']
theorem bu.X_from {H:Nat->Option bR} (t:bu Q f all mk F S M lv Lo) {n k:Nat} (h:bu.X Q f all F S M H n k=(S k).heap.get n): ∀ {j:Nat},k<=j->j<=all.size->bu.X Q f all F S M H n j=(S j).heap.get n
 |0,h1,_=>by have:k=0:=by omega
             subst this;exact h
 |j+1,h1,h2=>by
  by_cases e:k=j+1
  ·subst e;exact h
  ·have ih:=t.X_from h (j:=j) (by omega) (by omega)
   rw[bu.X]
   split
   ·rfl
   ·rename_i hT
    rw[ih,t.untouched (by omega) hT]
theorem bu.Th_touch (t:bu Q f all mk F S M lv Lo) {n:Nat}: ∀ {k:Nat},k<=all.size->eA mk n=false->(S k).heap.get n≠none->lQ mk (S 0) (S k) n
 |0,_,hn,h=>.inl ⟨hn,h⟩
 |k+1,hk,hn,h=>by
  have hle:=t.next_le (nG (show k<all.size by omega))
  by_cases hT:bu.Th Q f all F S M k n
  ·obtain⟨o,ho,hw,ht⟩:=hT
   rcases ht with⟨_,h2⟩|h2
   ·exact(t.Th_touch (k:=k) (by omega) hn h2).imp id fun h=>⟨h.1,by omega⟩
   ·exact .inr ⟨gN (t.mono (iK k) (by omega)) h2.1,h2.2⟩
  ·rw[t.untouched (by omega) hT] at h
   exact(t.Th_touch (k:=k) (by omega) hn h).imp id fun h=>⟨h.1,by omega⟩
theorem bu.hid (t:bu Q f all mk F S M lv Lo) {n k:Nat} {o:Oper} (ho:all[k]? =some o) (h:eA (bu.fm Q f F S M k o) n=false):eA mk n=false:=by
 cases e:eA mk n with
 |false=>rfl
 |true=>
  have:=t.tr.more k o (by simpa using ho) n e
  rw[aQ] at this
  rw[bu.fm,DB this] at h;cases h
theorem bu.same (t:bu Q f all mk F S M lv Lo) {s2:bD bR} (h0: ∀n o,eA mk n=false->(S 0).heap.get n=some o->s2.get n=some o) (n:Nat):
 (lQ mk (S 0) (S all.size) n->bu.X Q f all F S M s2.get n all.size=(S all.size).heap.get n)/\(¬lQ mk (S 0) (S all.size) n->bu.X Q f all F S M s2.get n all.size=s2.get n):=by
 constructor
 ·rintro(⟨h1,h2⟩|⟨h1,h2⟩)
  ·refine t.X_from (k:=0) ?_ (iK _) (bK _)
   cases e:(S 0).heap.get n with
   |none=>exact absurd e h2
   |some o=>exact h0 n o h1 e
  ·have: ∃k,k<all.size/\(S k).next<=n/\n<(S (k+1)).next:=by
    have key: ∀j,j<=all.size->n<(S j).next-> ∃k,k<all.size/\(S k).next<=n/\n<(S (k+1)).next:=by
     intro j
     induction j with
     |zero=>intro _ h;omega
     |succ j ih=>
      intro hj h
      rcases iJ n (S j).next with h'|h'
      ·exact ih (by omega) h'
      ·exact⟨j,by omega,h',h⟩
    exact key _ (bK _) h2
   obtain⟨k,hk,h3,h4⟩:=this
   have ho:all[k]? =some all[k]:=nG hk
   have hw:fE all (F k).env all[k]=true:=by
    cases hw:fE all (F k).env all[k] with
    |true=>rfl
    |false=>
     rcases t.step ho with⟨h',_⟩|⟨_,_,h'⟩
     ·rw[hw] at h';cases h'
     ·rw[h'] at h4;omega
   refine t.X_from (k:=k+1) ?_ (by omega) (bK _)
   rw[bu.X,if_pos ⟨_,ho,hw,.inr ⟨h3,h4⟩⟩]
 ·intro hn
  have key: ∀j,j<=all.size->bu.X Q f all F S M s2.get n j=s2.get n:=by
   intro j
   induction j with
   |zero=>intro _;rfl
   |succ j ih=>
    intro hj
    rw[bu.X,if_neg]
    ·exact ih (by omega)
    ·rintro⟨o,ho,hw,ht⟩
     have hm:=t.mono (show j+1<=all.size by omega) (bK _)
     rcases ht with⟨h1,h2⟩|⟨h1,h2⟩
     ·have hmj:=t.mono (show j<=all.size by omega) (bK _)
      exact hn ((t.Th_touch (show j<=all.size by omega) (t.hid ho h1) h2).imp id fun h=>⟨h.1,by omega⟩)
     ·exact hn (.inr ⟨gN (t.mono (iK j) (by omega)) h1,by omega⟩)
  exact key _ (bK _)
end
noncomputable def C0 (Q:cI) (n:Nat) (f:FuncId) (all:Array Oper) (mk:bt) (fr:Fr) (s:St) (ch:Nat->Nat):Option (Ex×Fr×St):=
 ((db (Q.at ch) n).draw f all (Region.before all).toList mk [] 0 all.toList fr s).bind fun x=>some (.normal,x.1,x.2)
structure HD (Q:cI) (f:FuncId) (all:Array Oper) (F:Nat->Fr) (S:Nat->St) (M:Nat->bt) (B:Nat->Nat) (G:Gh) (s2:St) (a:Act) (w:World) (listed:Array Bool) (a':Act) (w':World)
 (fr':Fr) (h:bD bR) (G':Gh) (B':Nat->Nat):Prop where
 size:listed.size=all.size
 closed:Cb all (fun k=>listed.getD k false=true)
 cur:j4 Q f all F S M s2.heap.get (fun k=>listed.getD k false=true) fr' h.get
 wr:WR G' h w'
 ext:jf G s2.heap w G' h w' (S 0).next (S all.size).next (LB B (F 0).loc)
 fx:dC G' h B' fr' a'.tmps w'
 boxes: ∀b,LB B' fr'.loc b->LB B (F 0).loc b\/w.heap.size<=b
 defers: ∃rs,a'.defers=rs.map sl++a.defers/\sT w.heap.size w' rs
 free: ∀k,k<all.size->listed.getD k false=false-> ∀m,(S k).next<=m->m<(S (k+1)).next->G'.at_ m=none
theorem j4.congr {Q:cI} {f:FuncId} {all:Array Oper} {F:Nat->Fr} {S:Nat->St} {M:Nat->bt} {H:Nat->Option bR} {D D':Nat->Prop} {fr:Fr} {h:Nat->Option bR} (c:j4 Q f all F S M H D fr h)
 (hD: ∀k,k<all.size->(D k↔D' k)):j4 Q f all F S M H D' fr h where
 env t:=(c.env t).trans (yo (X:=fun k=>ay (F k).env t) fun k hk _=>hD k hk)
 size:=c.size
 loc u:=(c.loc u).trans (yo (X:=bu.L F u) fun k hk _=>hD k hk)
 heap n:=(c.heap n).trans (yo (X:=bu.X Q f all F S M H n) fun k hk _=>hD k hk)
theorem zC {listed:Array Bool} {i:Nat} (hi:i<listed.size) (k:Nat):(listed.setIfInBounds i true).getD k false=true↔(listed.getD k false=true\/k=i):=by
 simp only[mh,w9]
 by_cases e:i=k
 ·subst e;simp[hi]
 ·simp[e,Ne.symm e]
def rq (listed:Array Bool):Nat:=listed.toList.countP (fun b=> !b)
theorem apU {listed:Array Bool} {i:Nat} (h:listed.getD i true=false):rq (listed.setIfInBounds i true)+1=rq listed:=by
 obtain⟨l⟩:=listed
 simp only[rq,List.setIfInBounds_toArray,mh,B7] at*
 induction l generalizing i with
 |nil=>simp at h
 |cons b l ih=>
  cases i with
  |zero=>
   simp at h;subst h
   simp
  |succ i=>
   have:=ih (i:=i) (by simpa using h)
   simp only[List.set_cons_succ,List.countP_cons]
   omega
theorem apT {listed:Array Bool} (h:rq listed=0) (k:Nat) (hk:k<listed.size):listed.getD k false=true:=by
 obtain⟨l⟩:=listed
 simp only[rq,List.countP_eq_zero] at h
 simp only[vq] at hk
 have:=h l[k] (List.getElem_mem hk)
 simp only[mh,B7,j2 hk,oh]
 simpa using this
theorem Zj {Q:cI} {f:FuncId} {all:Array Oper} {mk:bt} {ch:Nat->Nat} {G:Gh} {B:Nat->Nat} {s2:St} {a:Act} {w:World}
 {F:Nat->Fr} {S:Nat->St} {M:Nat->bt} {lv:Nat->Nat} {Lo:Nat->Bool} (t:bu (Q.at ch) f all mk F S M lv Lo) (ro:Option Nat) (hc: ∀k,k<all.size->sR Q (lv k)/\pU Q (lv k)) (hi:kH Q ch)
 (h0: ∀n o,eA mk n=false->(S 0).heap.get n=some o->s2.heap.get n=some o) (K:Exit->Act->World->Prop)
 (hK: ∀listed a' w' fr' h G' B',(∀k,k<all.size->listed.getD k false=true)->HD (Q.at ch) f all F S M B G s2 a w listed a' w' fr' h G' B'->K .normal a' w'):
 ∀(fuel:Nat) (listed:Array Bool) (a':Act) (w':World) (fr':Fr) (h:bD bR) (G':Gh) (B':Nat->Nat),rq listed=fuel->
  HD (Q.at ch) f all F S M B G s2 a w listed a' w' fr' h G' B'->wpAnyIn (lU ro) 0 Q.P .any all K fuel listed a' w':=by
 intro fuel
 induction fuel with
 |zero=>
  intro listed a' w' fr' h G' B' hu m
  have hall: ∀k,k<all.size->listed.getD k false=true:=fun k hk=>apT hu k (by rw[m.size];exact hk)
  refine⟨?_,hK listed a' w' fr' h G' B' hall m⟩
  rw[List.eq_nil_iff_forall_not_mem]
  intro i hi
  rw[mem_ready] at hi
  obtain⟨h1,o,h2,_⟩:=hi
  have hlt:=bu.lt_size h2
  have:=hall i hlt
  simp only[mh] at h1 this
  rw[nG (by rw[m.size];exact hlt)] at h1 this
  simp at h1 this
  rw[h1] at this;cases this
 |succ fuel ih=>
  intro listed a' w' fr' h G' B' hu m
  refine⟨fun hr=>?_,fun i hi'=>?_⟩
  ·
   exfalso
   have key: ∀k,k<all.size->listed.getD k false=true:=by
    intro k
    induction k using Nat.strongRecOn with
    |_ k ihk=>
     intro hk
     have ho:all[k]? =some all[k]:=nG hk
     have hnot:k ∉ Region.ready .any all listed:=by rw[hr];simp
     rw[mem_ready] at hnot
     have hkl:k<listed.size:=by rw[m.size];exact hk
     cases e:listed.getD k false with
     |true=>rfl
     |false=>
      exfalso
      apply hnot
      refine⟨?_,all[k],ho,fun ed hed hb=>?_⟩
      ·simp only[mh,nG hkl,oh] at e ⊢
       exact e
      ·have hlt:=H0 t.ap k all[k] (by simp) ed hed hb
       rw[aQ] at hlt
       exact ihk ed.on hlt (by omega)
   have hz:rq listed=0:=by
    obtain⟨l⟩:=listed
    simp only[rq,List.countP_eq_zero]
    intro b hb
    obtain⟨k,hk,rfl⟩:=List.getElem_of_mem hb
    have hs:=m.size
    simp only[vq] at hs
    have:=key k (by omega)
    simp only[mh,B7,j2 hk,oh] at this
    simp[this]
   omega
  ·rw[mem_ready] at hi'
   obtain⟨h1,o,ho,h2⟩:=hi'
   have hlt:=bu.lt_size ho
   have hil:i<listed.size:=by rw[m.size];exact hlt
   have hnd: ¬listed.getD i false=true:=by
    simp only[mh,nG hil,oh] at h1 ⊢
    rw[h1];simp
   have hnd':listed.getD i false=false:=by simpa using hnd
   have x:lq all (fun k=>listed.getD k false=true) i o:=⟨m.closed,ho,hnd,h2⟩
   have hu':rq (listed.setIfInBounds i true)=fuel:=by have:=apU h1;omega
   have hsz':(listed.setIfInBounds i true).size=all.size:=by rw[Array.size_setIfInBounds];exact m.size
   have hcl':Cb all (fun k=>(listed.setIfInBounds i true).getD k false=true):=by
    intro j oj hj hoj e he hb
    rw[zC hil] at hj ⊢
    rcases hj with hj|rfl
    ·exact .inl (m.closed j oj hj hoj e he hb)
    ·rw[ho] at hoj;injection hoj with hoj;subst hoj
     exact .inl (h2 e he hb)
   have hfr': ∀ {G1:Gh} {h1':bD bR} {w1:World} {L:Nat->Prop},jf G' h w' G1 h1' w1 (S i).next (S (i+1)).next L->
    ∀k,k<all.size->(listed.setIfInBounds i true).getD k false=false-> ∀q,(S k).next<=q->q<(S (k+1)).next->G1.at_ q=none:=by
    intro G1 h1' w1 L ex k hk hkd q hq1 hq2
    have hk2: ¬(listed.getD k false=true\/k=i):=fun h=>by
     rw[<-zC hil] at h;rw[hkd] at h;cases h
    have hkf:listed.getD k false=false:=by
     cases e:listed.getD k false with
     |false=>rfl
     |true=>exact absurd (.inl e) hk2
    have h0':=m.free k hk hkf q hq1 hq2
    cases e:G1.at_ q with
    |none=>rfl
    |some ad=>
     obtain⟨e1,e2⟩:=ex.names q ad e h0'
     rcases Nat.lt_trichotomy k i with h|h|h
     ·have:=t.mono (show k+1<=i by omega) (by omega);omega
     ·exact absurd (.inr h) hk2
     ·have:=t.mono (show i+1<=k by omega) (by omega);omega
   unfold wpOpIn
   simp only[ho]
   rw[m.fx.wanted,m.cur.wanted t x]
   cases hw:fE all (F i).env o with
   |false=>
    simp only[rB,if_false]
    obtain⟨fr1,hp,hcur⟩:=m.cur.skip t x hw
    refine⟨fun _ _=>uw ro _,?_⟩
    refine ih _ _ _ fr1 h G' B' hu' ⟨hsz',hcl',hcur.congr fun k _=>(zC hil k).symm,m.wr,m.ext,m.fx.put hp m.fx.locs (LV.of_VR (Hi G')) fun _ _ h=>h,?_,?_,?_⟩
    ·intro b hb;rw[(qy hp).2.1] at hb;exact m.boxes b hb
    ·rw[CA];exact m.defers
    ·exact hfr' (L:=fun _=>False) (dF.refl.toL _)
   |true=>
    simp only[if_true]
    obtain⟨v,loc1,s1,fr1,e1,e2,e3,hp,hcur⟩:=m.cur.run t h0 x hw
    have hsees:=m.cur.sees t h0 x hw
    have hpre:lr (bu.fm (Q.at ch) f F S M i o) (fun q=>q<(S (i+1)).next) G' (bu.from_ S i (S i).heap) (bu.from_ S i h) w':=
     ⟨fun n hn=>t.none_above (sP hlt) n hn,hsees,m.wr,fun q hq1 hq2=>m.free i hlt hnd' q hq1 hq2⟩
    refine Vc (hc i hlt).1 (hc i hlt).2 ro hpre m.fx hi (f:=f) (fr:=fr') ?_ _ K ?_
    ·intro c hag _
     have:=xy (Q:=Q) (kO Q (lv i)) (qn Q (lv i)) f o (bu.fm (Q.at ch) f F S M i o) fr' ch (bu.from_ S i (S i).heap) v loc1 s1 e1 c (fun j hj=>hag j (by rw[e2] at hj;exact hj))
     exact⟨v,loc1,s1,this,fun q _ hq=>by rw[e3] at hq;exact hq⟩
    ·intro y w1 c v' loc' s1' s21 G1 B1 q
     have:=xy (Q:=Q) (kO Q (lv i)) (qn Q (lv i)) f o (bu.fm (Q.at ch) f F S M i o) fr' ch (bu.from_ S i (S i).heap) v loc1 s1 e1 c (fun j hj=>q.agree j (by rw[e2] at hj;exact hj))
     have hq:=q.eval
     have this:fW (Q.at c) (db (Q.at c) (lv i)) f o (bu.fm (Q.at ch) f F S M i o) fr' (bu.from_ S i (S i).heap)=some (v,loc1,s1):=this
     rw[this] at hq
     simp only[bp,bX] at hq
     obtain⟨rfl,rfl,rfl⟩:=hq
     have hc1:=hcur s21 q.same
     have af:=q.after m.fx hp
     have ex:jf G' h w' G1 s21.heap w1 (S i).next (S (i+1)).next (LB B' fr'.loc):=by
      have:=q.ext;rw[e3] at this;exact this
     refine ih _ _ _ fr1 s21.heap G1 B1 hu' ⟨hsz',hcl',hc1.congr fun k _=>(zC hil k).symm,q.wr,?_,af.fx,?_,IK m.wr m.fx m.defers m.ext.size ex af.defers,hfr' ex⟩
     ·have x1:=m.ext
      have x2:=ex.widen (lo':=(S 0).next) (hi':=(S all.size).next) (t.mono (iK i) (sP hlt)) (t.mono (show i+1<=all.size by omega) (bK _))
      exact⟨x1.le.trans x2.le,gN x1.size x2.size,
       fun b hb ho hl=>(x2.keep b (iv hb x1.size) (fun o=>ho (x1.owns b hb o)) (fun l=>(m.boxes b l).elim hl (fun h=>by omega))).trans (x1.keep b hb ho hl),
       fun b hb o=>x1.owns b hb (x2.owns b (iv hb x1.size) o),
       fun n ad h h0=>by
        cases e:G'.at_ n with
        |none=>exact x2.names n ad h e
        |some b=>exact x1.names n b e h0,
       fun b o v hb h h0=>by
        cases e:G'.ro b o with
        |none=>exact x1.owns b hb (x2.cells b o v (iv hb x1.size) h e)
        |some u=>exact x1.cells b o u hb e h0,
       x1.quiet.trans x2.quiet⟩
     ·intro b hb
      rcases af.boxes b hb with h'|h'
      ·exact m.boxes b h'
      ·exact .inr (gN m.ext.size h')
theorem Zk {Q:cI} {n:Nat} (hm:Q.P.follows .mixedOrders=true) (ro:Option Nat) (hc: ∀k,k<n->sR Q k/\pU Q k) {f:FuncId} {all:Array Oper} {mk:bt} {fr:Fr} {ch:Nat->Nat} {A:Nat->Prop} {G:Gh} {B:Nat->Nat}
 {s s2:St} {a:Act} {w:World} {id:Nat} (p:lr mk A G s s2 w) (fx:dC G s2.heap B fr a.tmps w) (hi:kH Q ch) (hap:lR all 0 all.toList (Region.before all).toList=true)
 (hs:pX Q A ch s (C0 Q n f all mk fr s)) (K:Exit->Act->World->Prop)
 (hK: ∀a' w',qK Q mk ch fr G B s s2 a w (C0 Q n f all mk fr s) .normal a' w'->K .normal a' w'):(Code.region id all true).wpIn (lU ro) 0 Q.P K a w:=by
 obtain⟨x0,fr1,s1,h0,hA⟩:=hs ch (.refl _ _) hi
 have h0':=h0
 simp only[C0,aN,bp,bX] at h0
 obtain⟨⟨fr2,s2'⟩,hd,hx,hf,hs'⟩:=h0
 subst hx;dsimp only at hf hs';subst hf;subst hs'
 obtain⟨F,S,M,lv,Lo,eF,eS,eF',eS',hlv,tr⟩:=C3 hd
 rw[aQ,tZ] at eF' eS'
 have t:bu (Q.at ch) f all mk F S M lv Lo:=⟨tr,hap,by rw[eS];exact p.fresh⟩
 have hsee: ∀n o,eA mk n=false->(S 0).heap.get n=some o->s2.heap.get n=some o:=by rw[eS];exact p.sees.get
 have hgo:=((kO Q n).draw f all _ mk [] 0 all.toList fr ch s fr2 s2' hd).1
 refine wpIn_region_any hm ?_
 refine Zj (G:=G) (B:=B) (s2:=s2) (a:=a) (w:=w) t ro (fun k hk=>hc _ ?_) hi hsee K ?_ all.size _ a _ (F 0) s2.heap G B ?_ ?_
 ·have:=hlv k all[k] (by simp)
  rwa [aQ] at this
 ·intro listed a' w' fr' h G' B' hall m
  obtain⟨c1,c2,c3,c4⟩:=m.cur.fin hall
  refine hK a' w' ⟨ch,fr2,s2',⟨h,s2'.next,s2'.minw,s2'.ci⟩,G',B',.refl _ _,hi,h0',hgo,⟨rfl,rfl,rfl,?_,?_⟩,m.wr,?_,?_,?_,m.defers⟩
  ·intro n hn
   show h.get n=_
   rw[c4,<-eS']
   exact(t.same hsee n).1 (by rw[eS,eS'];exact hn)
  ·intro n hn
   show h.get n=_
   rw[c4]
   exact(t.same hsee n).2 (by rw[eS,eS'];exact hn)
  ·have:=m.ext;rw[eS,eS',eF] at this;exact this
  ·refine m.fx.congr ?_ ?_ ?_
   ·rw[<-eF',c1];exact t.size_eq (bK _)
   ·intro d;rw[<-eF',c2]
   ·intro u;rw[<-eF'];exact c3 u
  ·intro b hb
   rw[<-eF]
   refine m.boxes b (LB.congr (fun u=>?_) hb)
   rw[<-eF'];exact(c3 u).symm
 ·simp[rq,List.countP_replicate]
 ·refine⟨by simp,?_,?_,p.wr.of_heap rfl,(dF.of_heap (w:=w) (w':= {w with drawn:=w.drawn+1 }) rfl ⟨rfl,rfl,rfl,kF _⟩).toL _,?_,fun b h=>.inl h,⟨[],rfl,.nil _ _⟩,?_⟩
  ·intro j o hj
   simp[mh,Hy] at hj
   split at hj<;>simp at hj
  ·refine j4.start fun k hk=>?_
   simp[mh,Hy] at hk
   split at hk<;>simp at hk
  ·rw[eF]
   exact⟨fx.size,fx.env,⟨fx.locs.cells,fx.locs.free,fx.locs.ro,fx.locs.inj⟩⟩
  ·intro k hk _ q h1 h2
   have l1:=t.mono (iK k) (sP hk)
   have l2:=t.mono (show k+1<=all.size by omega) (bK _)
   rw[eS] at l1
   rw[eS'] at l2
   exact p.free q (by omega) (hA q (by omega) (by omega))
structure Good (Q:cI):Prop where
 mixed:Q.P.follows .mixedOrders=true
 spec:Xl Q
 specH:Xk Q
 specW:Xm Q:=by intro f sp h;cases h
 names: ∀(f:Nat) (fn:Func),Q.P.funcs[f]? =some fn->(fn.name== "runtime.NumGoroutine")=false
section
variable {Q:cI} {n:Nat}
noncomputable def BE (Q:cI) (n:Nat) (f:FuncId) (y:Code) (mk:bt) (x:Ex) (fr:Fr) (s:St) (c:Nat->Nat):Option (Ex×Fr×St):=nZ (db (Q.at c) n) f y mk (x,fr,s)
theorem V3 (hn:pU Q n) (ro:Option Nat) {f:FuncId} {x y:Code} {mk:bt} {fr:Fr} {ch:Nat->Nat} {A:Nat->Prop} {G:Gh} {B:Nat->Nat} {s s2:St} {a:Act} {w:World}
 (hf:ro≠none->fP x=true) (p:lr mk A G s s2 w) (fx:dC G s2.heap B fr a.tmps w) (hi:kH Q ch) (hs:pX Q A ch s (fun c=>(kr Q n f x mk fr s c).bind fun r=>BE Q n f y mk r.1 r.2.1 r.2.2 c))
 (K:Exit->Act->World->Prop) (KY:Act->World->Prop)
 (hK: ∀e a' w',qK Q mk ch fr G B s s2 a w (fun c=>(kr Q n f x mk fr s c).bind fun r=>BE Q n f y mk r.1 r.2.1 r.2.2 c) e a' w'->K e.to a' w')
 (hY: ∀a1 w1 ch1 fr1 s1 s21 G1 B1,lr mk A G1 s1 s21 w1->dC G1 s21.heap B1 fr1 a1.tmps w1->kH Q ch1->pX Q A ch1 s1 (kr Q n f y mk fr1 s1)->
  (∀e a' w',qK Q mk ch1 fr1 G1 B1 s1 s21 a1 w1 (kr Q n f y mk fr1 s1) e a' w'->K e.to a' w')->KY a1 w1):x.wpIn (lU ro) 0 Q.P (Exit.then KY K) a w:=by
 have hown:=CV Q n f x mk fr s
 refine(hn ro f x mk fr ch A G B s s2 a w hf p fx hi (hs.first ?_) _ ?_).1
 ·intro e fr' s' c e2 fr'' s'' h
  unfold BE at h
  cases e with
  |normal=>exact(II (n:=n) h).next
  |exit id=>simp only[nZ,bp,bX] at h;obtain⟨_,_,rfl⟩:=h;exact bK _
  |ret=>simp only[nZ,bp,bX] at h;obtain⟨_,_,rfl⟩:=h;exact bK _
 ·rintro e a1 w1 ⟨c1,fr1,s1,s21,G1,B1,h1,h2,h3,h4⟩
  cases e with
  |normal=>
   refine hY a1 w1 c1 fr1 s1 s21 G1 B1 (p.after h4) h4.fx h2 ?_ ?_
   ·exact hs.second hown h1 h3 h4.goes.ci h4.goes.next
   ·intro e a' w' pp
    exact hK e a' w' (qK.second (E2:=fun x fr s c=>BE Q n f y mk x fr s c) hown h1 h3 h4 pp)
  |exit id=>
   refine hK (.exit id) a1 w1 ⟨c1,fr1,s1,s21,G1,B1,h1,h2,?_,h4⟩
   simp only[h3,aq];rfl
  |ret=>
   refine hK .ret a1 w1 ⟨c1,fr1,s1,s21,G1,B1,h1,h2,?_,h4⟩
   simp only[h3,aq];rfl
theorem Y7 (hgd:Good Q) (hn:pU Q n) (ho:zc Q n) (hcall:sR Q n) (hc: ∀k,k<n->sR Q k/\pU Q k):pU Q (n+1):=by
 intro ro f c mk fr ch A G B s s2 a w hfl p fx hi hs K hK
 cases c with
 |skip=>exact⟨wpIn_skip (hK .normal a w ⟨ch,fr,s,s2,G,B,.refl _ _,hi,rfl,.refl p fx⟩),by simp⟩
 |label l=>exact⟨wpIn_label (hK .normal a w ⟨ch,fr,s,s2,G,B,.refl _ _,hi,rfl,.refl p fx⟩),by simp⟩
 |ret=>exact⟨wpIn_ret (hK .ret a w ⟨ch,fr,s,s2,G,B,.refl _ _,hi,rfl,.refl p fx⟩),by simp⟩
 |exit id=>exact⟨wpIn_exit (hK (.exit id) a w ⟨ch,fr,s,s2,G,B,.refl _ _,hi,rfl,.refl p fx⟩),by simp⟩
 |seq x y=>
  have hfl:ro≠none->fP x=true/\fP y=true:=fun h=>by simpa[fP] using hfl h
  refine⟨wpIn_seq (V3 hn ro (fun h=>(hfl h).1) p fx hi hs K _ hK ?_),by simp⟩
  intro a1 w1 ch1 fr1 s1 s21 G1 B1 p1 fx1 hi1 hs1 hK1
  exact(hn ro f y mk fr1 ch1 A G1 B1 s1 s21 a1 w1 (fun h=>(hfl h).2) p1 fx1 hi1 hs1 K hK1).1
 |cond x y z=>
  refine⟨?_,by simp⟩
  obtain⟨e0,fr0,s0,h0,_⟩:=hs ch (.refl _ _) hi
  have h0:(ev fr.env x).bind (vL (db (Q.at ch) n) f y z mk fr s)=some (e0,fr0,s0):=h0
  simp only[aN] at h0
  obtain⟨v,hv,h0⟩:=h0
  have hl:=fx.ev hv
  cases v<;>try (cases h0;done)
  rename_i b
  have hl:VR G (.bool b) (a.eval x):=hl
  have hx:a.eval x= .bool b:=by
   generalize a.eval x=u at hl
   cases hl;rfl
  have hev: ∀c,kr Q (n+1) f (.cond x y z) mk fr s c=kr Q n f (if b then y else z) mk fr s c:=by
   intro c
   show(ev fr.env x).bind (vL (db (Q.at c) n) f y z mk fr s)=_
   rw[hv];cases b<;>rfl
  have hfl:ro≠none->fP (if b then y else z)=true:=fun h=>by
   have:fP y=true/\fP z=true:=by simpa[fP] using hfl h
   cases b
   ·exact this.2
   ·exact this.1
  refine wpIn_cond hx (hn ro f _ mk fr ch A G B s s2 a w hfl p fx hi ?_ K ?_).1
  ·intro c h1 h2;have:=hs c h1 h2;rw[hev] at this;exact this
  ·rintro e a' w' ⟨c,fr',s',s2',G',B',h1,h2,h3,h4⟩
   exact hK e a' w' ⟨c,fr',s',s2',G',B',h1,h2,by rw[hev];exact h3,h4⟩
 |block id b=>
  refine⟨wpIn_block ?_,by simp⟩
  have hev: ∀c,kr Q (n+1) f (.block id b) mk fr s c=(kr Q n f b mk fr s c).bind fun x=>some (oD id x):=fun _=>rfl
  refine(hn ro f b mk fr ch A G B s s2 a w (fun h=>by simpa[fP] using hfl h) p fx hi ?_ _ ?_).1
  ·intro c h1 h2
   obtain⟨e,fr',s',h3,h4⟩:=hs c h1 h2
   rw[hev] at h3
   simp only[aN] at h3
   obtain⟨⟨e1,fr1,s1⟩,h5,h6⟩:=h3
   refine⟨e1,fr1,s1,h5,?_⟩
   have:s1=s':=by
    cases e1<;>simp only[oD,bp,bX] at h6
    ·exact h6.2.2
    ·rename_i i
     cases hb:bo i id<;>rw[hb] at h6<;>simp at h6<;>exact h6.2.2
    ·exact h6.2.2
   subst this;exact h4
  ·rintro e a' w' ⟨c,fr',s',s2',G',B',h1,h2,h3,h4⟩
   have hpost: ∀e',oD id (e,fr',s')=(e',fr',s')->K e'.to a' w':=fun e' he=>
    hK e' a' w' ⟨c,fr',s',s2',G',B',h1,h2,by rw[hev,h3,aq,he],h4⟩
   cases e with
   |normal=>exact hpost .normal rfl
   |ret=>exact hpost .ret rfl
   |exit i=>
    show(if i=id then K .normal a' w' else K (.exit i) a' w')
    by_cases e:i=id
    ·rw[if_pos e]
     refine hpost .normal ?_
     subst e;simp[oD]
    ·rw[if_neg e]
     refine hpost (.exit i) ?_
     have:bo i id=false:=by
      cases h:bo i id with
      |false=>rfl
      |true=>exact absurd (fN h) e
     simp[oD,this]
 |scope b=>
  have hro:ro=none:=by
   cases ro with
   |none=>rfl
   |some l=>exact absurd (hfl (by simp)) (by simp[fP])
  subst hro
  refine⟨(wpIn_wide (n:=0)).2 (wp_scope_straight ((wpIn_wide (n:=0)).1 ?_)),by simp⟩
  refine(hn none f b mk fr ch A G B s s2 a w (fun h=>absurd rfl h) p fx hi hs _ ?_).1
  intro e a' w' h
  have:=hK e a' w' h
  cases e<;>exact this
 |loop b=>
  have hfb:ro≠none->fP b=true:=fun h=>by simpa[fP] using hfl h
  have hrounds:Code.roundsIn (lU ro) 0 Q.P b K (n+1) a w:=by
   rw[roundsIn_succ]
   refine V3 (y:=.loop b) hn ro hfb p fx hi hs K _ hK ?_
   intro a1 w1 ch1 fr1 s1 s21 G1 B1 p1 fx1 hi1 hs1 hK1
   exact(hn ro f (.loop b) mk fr1 ch1 A G1 B1 s1 s21 a1 w1 hfl p1 fx1 hi1 hs1 K hK1).2 b rfl
  refine⟨wpIn_loop_rounds _ hrounds,?_⟩
  intro b' hb;injection hb with hb;subst hb;exact hrounds
 |region id ops draw=>
  refine⟨?_,by simp⟩
  cases draw with
  |false=>
   refine wpIn_region ?_
   have:=ho ro f ops mk ops.toList 0 fr ch A G B s s2 a w p fx hi (fun k o hk=>by rw[aQ];simpa using hk) hs K (fun a' w' h=>hK .normal a' w' h)
   rw[tZ,<-List.range_eq_range'] at this
   exact this
  |true=>
   have hev: ∀c,kr Q (n+1) f (.region id ops true) mk fr s c=(bif lR ops 0 ops.toList (Region.before ops).toList then(db (Q.at c) n).draw f ops (Region.before ops).toList mk [] 0 ops.toList fr s else none).bind fun x=>some (.normal,x.1,x.2):=fun _=>rfl
   cases hap:lR ops 0 ops.toList (Region.before ops).toList with
   |false=>
    obtain⟨e0,fr0,s0,h0,_⟩:=hs ch (.refl _ _) hi
    rw[hev,hap] at h0
    cases h0
   |true=>
    simp only[hap,cT] at hev
    refine Zk hgd.mixed ro hc p fx hi hap ?_ K ?_ (n:=n) (f:=f)
    ·intro c h1 h2;have:=hs c h1 h2;rw[hev] at this;exact this
    ·rintro a' w' ⟨c,fr',s',s2',G',B',h1,h2,h3,h4⟩
     exact hK .normal a' w' ⟨c,fr',s',s2',G',B',h1,h2,by rw[hev];exact h3,h4⟩
 |rangeFunc g ps ca cb=>
  refine⟨?_,by simp⟩
  have hro:ro=none:=by
   cases ro with
   |none=>rfl
   |some l=>exact absurd (hfl (by simp)) (by simp[fP])
  subst hro
  obtain⟨e0,fr0,s0,h0,hA0⟩:=hs ch (.refl _ _) hi
  have hev0: ∀c,kr Q (n+1) f (.rangeFunc g ps ca cb) mk fr s c=(ev fr.env g).bind (sE (Q.at c) (db (Q.at c) n) f ps.toList ca cb mk fr s):=fun _=>rfl
  rw[hev0] at h0
  simp only[aN] at h0
  obtain⟨gv,hg,h0⟩:=h0
  unfold sE at h0
  split at h0
  case h_2=>cases h0
  rename_i h first captured
  obtain⟨hb,h0⟩:=cq h0
  have hb':=hb
  simp only[df] at hb
  obtain⟨hbody,hnoref,hfa,hfb⟩:=hb
  have hgl:=fx.ev hg
  have hgl:VR G (.func (.func h) first captured) (a.eval g):=hgl
  generalize hgx:a.eval g=gx at hgl
  cases hgl with
  |func hfst hcap=>
  rename_i fs cs
  have hev: ∀c,kr Q (n+1) f (.rangeFunc g ps ca cb) mk fr s c=((db (Q.at c) n).call h (first++(.yld s.next::captured)) mk (s.new (.loop f fr.env fr.size ps.toList ca cb none))).bind fun x=>uS mk s.next fr x.2:=by
   intro c
   have hb':(nc (Q.at c).P h&&(fr.env.all sq&&(fP ca&&fP cb)))=true:=hb'
   rw[hev0,hg]
   simp only[aq,sE,hb',cT]
  have hend: ∀c x fr' s',kr Q (n+1) f (.rangeFunc g ps ca cb) mk fr s c=some (x,fr',s')-> ∃v s1 o,(db (Q.at c) n).call h (first++(.yld s.next::captured)) mk (s.new (.loop f fr.env fr.size ps.toList ca cb none))=some (v,s1)/\
   s1.get mk s.next=some o/\(∃f' env' size' ps' a' b' pe,o= .loop f' env' size' ps' a' b' pe/\x=uN pe)/\fr'=fr/\s'=s1.put s.next none:=by
   intro c x fr' s' h1
   rw[hev] at h1
   simp only[aN] at h1
   obtain⟨⟨v,s1⟩,h2,h3⟩:=h1
   simp only[uS,aN] at h3
   obtain⟨o,h4,h5⟩:=h3
   cases o with
   |loop f' env' size' ps' a' b' pe=>
    simp only[bp,bX] at h5
    obtain⟨rfl,rfl,rfl⟩:=h5
    exact⟨v,s1,_,h2,h4,⟨f',env',size',ps',a',b',pe,rfl,rfl⟩,rfl,rfl⟩
   |cells _=>cases h5
   |tok=>cases h5
   |map _ _=>cases h5
   |iter _ _ _ _=>cases h5
  have hnx: ∀c v s1,(db (Q.at c) n).call h (first++(.yld s.next::captured)) mk (s.new (.loop f fr.env fr.size ps.toList ca cb none))=some (v,s1)->s.next+1<=s1.next:=fun c v s1 h1=>
   ((kO Q n).call h _ mk c _ v s1 h1).1.next
  obtain⟨e1,fr1,s1,h1,hA1⟩:=hs ch (.refl _ _) hi
  have hAn:A s.next:=by
   obtain⟨v,s1',o,q1,_,_,_,q5⟩:=hend _ _ _ _ h1
   refine hA1 _ (bK _) ?_
   have:=hnx _ _ _ q1
   rw[q5];exact this
  have hfree:G.at_ s.next=none:=p.free _ (bK _) hAn
  refine wpIn_rangeFunc ?_
  intro fn _
  obtain⟨rec,hrec⟩: ∃rec:Loop,rec= {state:=.ready,pending:=none,fn,tmps:=a.tmps,params:=ps,assign:=ca,body:=cb,defers:=w.heap.size }:=⟨_,rfl⟩
  have r1:(Instr.enterLoop fn a.tmps ps ca cb (lU none).round).run Q.P w= .ok (w.heap.size+1,[sl w.heap.size]) ((w.alloc (.deferred (some []))).alloc (.loop rec)):=by
   rw[hrec];exact run_enterLoop_outer fn a.tmps ps ca cb
  obtain⟨wrA,xA⟩:=p.wr.fresh (.deferred (some [])) trivial
  obtain⟨wrB,xB⟩:=wrA.fresh (.loop rec) trivial
  obtain⟨w1,hw1⟩: ∃w1,(w.alloc (.deferred (some []))).alloc (.loop rec)=w1:=⟨_,rfl⟩
  rw[hw1] at r1 wrB xB
  have hsA:(w.alloc (.deferred (some []))).heap.size=w.heap.size+1:=by simp
  have hs1:w1.heap.size=w.heap.size+2:=by rw[<-hw1];simp
  have hl1:w1.heap[w.heap.size+1]? =some (.loop rec):=by rw[<-hw1,nL,if_pos hsA.symm]
  have hd1:w1.heap[w.heap.size]? =some (.deferred (some [])):=by rw[<-hw1,nL,if_neg (by omega),nL,if_pos rfl]
  have hno1: ¬fy G s2.heap (w.heap.size+1):=fun o=>by have:=p.wr.owned_lt o;omega
  have x1:dF G s2.heap w G s2.heap w1 s.next s.next:=(xA s.next s.next).trans (xB s.next s.next) (bK _) (bK _)
  have hLR:xk G rec fr.env fr.size ps.toList ca cb none:=by
   subst hrec
   refine⟨rfl,rfl,fx.size,fun t=>?_,rfl,rfl,rfl,hfa,hfb⟩
   have:=fx.env t
   have hnr:sq (ay fr.env t)=true:=by
    unfold ay
    cases hgt:fr.env.get t with
    |none=>rfl
    |some v=>exact bD.all_get hnoref hgt
   cases hv:ay fr.env t<;>rw[hv] at this hnr<;>first|exact this|cases hnr
  have wr2:=wrB.named (n:=s.next) (a:=⟨w.heap.size+1,0,none⟩) (o:=.loop f fr.env fr.size ps.toList ca cb none) hfree (by rw[hs1];show w.heap.size+1<_;omega) rfl hno1 ⟨rec,hl1,hLR⟩ (fun i v hv=>by
   rw[wrB.aside_ro hl1 trivial] at hv;cases hv)
  have hle:=G.name_le (⟨w.heap.size+1,0,none⟩:Addr) hfree
  have hat:(G.name s.next ⟨w.heap.size+1,0,none⟩).at_ s.next=some ⟨w.heap.size+1,0,none⟩:=by simp[Gh.name]
  have wr2:WR (G.name s.next ⟨w.heap.size+1,0,none⟩) (s2.new (.loop f fr.env fr.size ps.toList ca cb none)).heap w1:=by
   show WR _ (s2.heap.set s2.next _) _
   rw[p.sees.next];exact wr2
  have g0:=gI.new mk s (.loop f fr.env fr.size ps.toList ca cb none)
  have sm0:=hJ.new p.sees (.loop f fr.env fr.size ps.toList ca cb none)
  have p2:lr mk A (G.name s.next ⟨w.heap.size+1,0,none⟩) (s.new (.loop f fr.env fr.size ps.toList ca cb none)) (s2.new (.loop f fr.env fr.size ps.toList ca cb none)) w1:=
   ⟨p.fresh.goes g0,sm0.sees p.sees g0,wr2,fun q hq hAq=>by
    have hq:s.next+1<=q:=hq
    show(if q=s.next then _ else G.at_ q)=none
    rw[if_neg (by omega)];exact p.free q (by omega) hAq⟩
  have hargs:cU (G.name s.next ⟨w.heap.size+1,0,none⟩) (first++(.yld s.next::captured)) (fs++(.func (.yield (w.heap.size+1)) #[] #[]::cs)):=
   (hfst.mono hle).append (.cons (.yld hat) (hcap.mono hle))
  have hcl:=hcall h _ mk _ _ _ w1 _ ch A p2 hargs hi (fun ch' ha hb=>by
   obtain⟨x,fr',s',q1,q2⟩:=hs ch' ha hb
   obtain⟨v,s1',o,q3,_,_,_,q5⟩:=hend _ _ _ _ q1
   refine⟨v,s1',q3,fun q hq hq'=>q2 q ?_ ?_⟩
   ·have hq:s.next+1<=q:=hq
    omega
   ·rw[q5];exact hq')
  have hent:(callFunc h ⟨fs++(.func (.yield (w.heap.size+1)) #[] #[]::cs)⟩).run Q.P w1= .ok (.enter h ⟨fs++(.func (.yield (w.heap.size+1)) #[] #[]::cs)⟩) w1:=by
   unfold nc at hbody
   cases hfn:(Q.at ch).P.funcs[h]? with
   |none=>rw[hfn] at hbody;cases hbody
   |some fnn=>
    rw[hfn] at hbody
    have hfn:Q.P.funcs[h]? =some fnn:=hfn
    have hbody:fnn.body.isSome=true:=hbody
    cases hbb:fnn.body with
    |none=>rw[hbb] at hbody;cases hbody
    |some bb=>
     have hnm:=hgd.names h fnn hfn
     have hnm': ¬fnn.name= "runtime.NumGoroutine" :=by simpa using hnm
     simp[callFunc,go_sem,hfn,hbb,hnm']
  have hcalls:Calls Q.P h ⟨fs++(.func (.yield (w.heap.size+1)) #[] #[]::cs)⟩ w1 (fun e w'=> ∃y,e= .returned y/\ ∃ch' v s' s2' G',y7 Q n h (first++(.yld s.next::captured)) mk ch (G.name s.next ⟨w.heap.size+1,0,none⟩) (s.new (.loop f fr.env fr.size ps.toList ca cb none)) (s2.new (.loop f fr.env fr.size ps.toList ca cb none)) w1 y w' ch' v s' s2' G'):=by
   rcases hcl with⟨y,w',h1,_⟩|⟨_,h2⟩
   ·rw[hent] at h1;cases h1
   ·exact h2
  have eargs:(⟨fs⟩:Array Value)++ #[.func (.yield (w.heap.size+1)) #[] #[]]++(⟨cs⟩:Array Value)=⟨fs++(.func (.yield (w.heap.size+1)) #[] #[]::cs)⟩:=by
   apply mf;simp
  refine⟨w.heap.size+1,[sl w.heap.size],w1, {target:=.fn (.func h) ⟨cs⟩,args:=⟨fs⟩++ #[.func (.yield (w.heap.size+1)) #[] #[]] },w1,h,⟨fs++(.func (.yield (w.heap.size+1)) #[] #[]::cs)⟩,w1,r1,?_,fun f' _=>uw none f',?_,Dk none 0,?_⟩
  ·simp[resolve,Act.eval,Deferred.ofValue] at hgx ⊢
   simp[hgx]
  ·simp only[invoke,eargs];exact hent
  refine I6.2 (hcalls.mono ?_)
  rintro e w3 ⟨y,rfl,ch',v,s',s2',G',c⟩
  have hags:ki s.ci ch ch':=c.agree
  obtain⟨xx,frx,sx,hx,hAx⟩:=hs ch' hags c.inb
  obtain⟨v',s1',o,q3,q4,⟨f',env',size',ps',a',b',pe,rfl,rfl⟩,efr,rfl⟩:=hend _ _ _ _ hx
  replace efr:=efr.symm
  subst efr
  have hce:=c.eval
  rw[q3] at hce
  simp only[bp,bX] at hce
  obtain⟨rfl,rfl⟩:=hce
  have gC:=((kO Q n).call h _ mk ch' _ v' s1' q3).1
  have y2:=c.same.sees (sm0.sees p.sees g0) gC
  have q4':=y2.look q4
  have hat':G'.at_ s.next=some ⟨w.heap.size+1,0,none⟩:=c.ext.le.at_ _ _ hat
  obtain⟨ad,ha1,_,rec',hr1,hLR'⟩:=c.wr.obj s.next _ (qf q4').2
  rw[hat'] at ha1;injection ha1 with ha1;subst ha1
  have hr1:w3.heap[w.heap.size+1]? =some (.loop rec'):=hr1
  have hst:rec'.state≠ .busy:=by rw[hLR'.state];cases pe<;>simp
  have hkill: ¬fy G' (s2'.put s.next none).heap (w.heap.size+1):=A7 c.wr (by rw[(qf q4').2];simp) hat'
  have hwr4:WR G' (s2'.put s.next none).heap (ef w3 (w.heap.size+1) (.loop {rec' with state:=.exhausted })):=(c.wr.killed s.next).aside hr1 trivial hkill
  have hdk:w3.heap[w.heap.size]? =some (.deferred (some [])):=by
   refine(c.ext.keep _ (by omega) ?_).trans hd1
   exact wr2.not_deferred hd1
  have hxt:jf G s2.heap w G' (s2'.put s.next none).heap (ef w3 (w.heap.size+1) (.loop {rec' with state:=.exhausted })) s.next s1'.next (LB B fr.loc):=by
   have hC:=c.ext
   refine jf.aside (o:=.loop rec') ?_ hr1 trivial trivial (fun h=>by omega)
   refine⟨hle.trans hC.le,gN x1.size hC.size,?_,?_,?_,?_,x1.quiet.trans hC.quiet⟩
   ·intro b hb ho _
    refine(hC.keep b (by omega) ?_).trans (x1.keep b hb ho)
    rintro⟨m,ad,t1,t2,t3⟩
    have t1:(s2.heap.set s2.next _).get m≠none:=t1
    rw[bD.get_set,p.sees.next] at t1
    have t2:(if m=s.next then some ⟨w.heap.size+1,0,none⟩ else G.at_ m)=some ad:=t2
    by_cases e:m=s.next
    ·rw[if_pos e] at t2;injection t2 with t2;subst t2
     have t3:w.heap.size+1=b:=t3
     omega
    ·rw[if_neg e] at t1 t2;exact ho ⟨m,ad,t1,t2,t3⟩
   ·intro b hb ho
    have ho:=hC.owns b (by omega) (tH ho)
    obtain⟨m,ad,t1,t2,t3⟩:=ho
    have t1:(s2.heap.set s2.next _).get m≠none:=t1
    rw[bD.get_set,p.sees.next] at t1
    have t2:(if m=s.next then some ⟨w.heap.size+1,0,none⟩ else G.at_ m)=some ad:=t2
    by_cases e:m=s.next
    ·rw[if_pos e] at t2;injection t2 with t2;subst t2
     have t3:w.heap.size+1=b:=t3
     omega
    ·rw[if_neg e] at t1 t2;exact⟨m,ad,t1,t2,t3⟩
   ·intro m ad hm h0
    by_cases e:m=s.next
    ·subst e
     exact⟨bK _,iv (iC _) gC.next⟩
    ·have h0':(G.name s.next ⟨w.heap.size+1,0,none⟩).at_ m=none:=by
      show(if m=s.next then _ else G.at_ m)=none
      rw[if_neg e];exact h0
     have:=hC.names m ad hm h0'
     have hq:s.next+1<=m:=this.1
     exact⟨by omega,this.2⟩
   ·intro b o v hb hv h0
    have ho:=hC.cells b o v (by omega) hv h0
    obtain⟨m,ad,t1,t2,t3⟩:=ho
    have t1:(s2.heap.set s2.next _).get m≠none:=t1
    rw[bD.get_set,p.sees.next] at t1
    have t2:(if m=s.next then some ⟨w.heap.size+1,0,none⟩ else G.at_ m)=some ad:=t2
    by_cases e:m=s.next
    ·rw[if_pos e] at t2;injection t2 with t2;subst t2
     have t3:w.heap.size+1=b:=t3
     omega
    ·rw[if_neg e] at t1 t2;exact⟨m,ad,t1,t2,t3⟩
  have hfx4:dC G' (s2'.put s.next none).heap B fr a.tmps (ef w3 (w.heap.size+1) (.loop {rec' with state:=.exhausted })):=by
   have e1:ou (G.name s.next ⟨w.heap.size+1,0,none⟩) (s2.new (.loop f fr.env fr.size ps.toList ca cb none)).heap B fr.loc w1:=by
    have:=fx.locs.ext x1
    refine⟨fun t cs ht=>?_,fun t cs ht ho=>?_,this.ro,this.inj⟩
    ·obtain⟨C,e,u1,u2⟩:=this.cells t cs ht
     exact⟨C,e,u1,fun i v hi=>let⟨v1,z,v2,v3⟩:=u2 i v hi;⟨v1,z,v2,v3.mono hle⟩⟩
    ·obtain⟨m,ad,t1,t2,t3⟩:=ho
     have t1:(s2.heap.set s2.next _).get m≠none:=t1
     rw[bD.get_set,p.sees.next] at t1
     have t2:(if m=s.next then some ⟨w.heap.size+1,0,none⟩ else G.at_ m)=some ad:=t2
     by_cases e:m=s.next
     ·rw[if_pos e] at t2;injection t2 with t2;subst t2
      obtain⟨C,ty,u1,_⟩:=fx.locs.cells t cs ht
      have t3:w.heap.size+1=B t:=t3
      have:=ia u1
      omega
     ·rw[if_neg e] at t1 t2;exact fx.locs.free t cs ht ⟨m,ad,t1,t2,t3⟩
   have e2:=e1.ext c.ext
   have e3:ou G' (s2'.put s.next none).heap B fr.loc w3:=⟨e2.cells,fun t cs ht ho=>e2.free t cs ht (tH ho),e2.ro,e2.inj⟩
   exact⟨fx.size,fun t=>(fx.env t).mono (hle.trans c.ext.le),e3.aside hr1 trivial⟩
  have gP:=gI.put q4 (mk:=mk) none
  have hpost:qK Q mk ch fr G B s s2 a w (kr Q (n+1) f (.rangeFunc g ps ca cb) mk fr s) (uN pe) {a with defers:=[sl w.heap.size]++a.defers } (ef w3 (w.heap.size+1) (.loop {rec' with state:=.exhausted })):=by
   refine⟨ch',fr,s1'.put s.next none,s2'.put s.next none,G',B,hags,c.inb,hx,⟨(g0.trans gC).trans gP,(sm0.trans g0 gC c.same).trans (g0.trans gC) gP (.put y2 q4 none),hwr4,hxt,hfx4,fun b h=>.inl h,[w.heap.size],rfl,by simp,?_⟩⟩
   intro r hr
   simp only[List.mem_singleton] at hr
   subst hr
   refine⟨bK _,?_⟩
   rw[jn _ _ _ _ (ia hr1),if_neg (by omega)];exact hdk
  refine⟨_,_,run_endLoop hr1 hst,?_⟩
  have:=hK _ _ _ hpost
  rw[GF]
  rw[hLR'.pending] at this ⊢
  cases pe with
  |none=>exact this
  |some x=>
   cases x with
   |normal=>exact wpIn_skip this
   |exit id=>exact wpIn_exit this
   |ret=>exact wpIn_ret this
 |_=>
  obtain⟨e0,fr0,s0,h0,_⟩:=hs ch (.refl _ _) hi
  cases h0
end
section
variable {P:Program} {mk:bt} {G:Gh} {B:Nat->Nat} {fr:Fr} {s:St} {tmps:Array Value} {w:World}
theorem alj {t:TypeId} {u v:aj} {x:Value} (wr:WR G s.heap w) (fl:ou G s.heap B fr.loc w) (hl:LV G fr.loc B u x) (he:lY P mk t u fr.loc s=some v):
 ∃ad y,x= .pointer (some ad)/\(loadVar t ad).run P w= .ok y w/\VR G v y:=by
 unfold lY at he
 split at he
 ·rename_i t' g off
  simp only[aN] at he
  obtain⟨cs,hcs,he⟩:=he
  obtain⟨h1,_,h2⟩:=hl
  have hg:=Ug hcs
  replace h2:=h2 hg
  subst hg
  obtain⟨C,e,hb,hc⟩:=fl.cells t' cs hcs
  obtain⟨y,hy,hv,ht⟩:=wR (w:=w) (b:=B t') (base:=0) he (fun i u hi=>by
   obtain⟨hs,z,hz,hr⟩:=hc i u hi
   exact⟨hs,z,by rw[oE hb];simpa using hz,hr⟩)
  simp only[aQ] at hy
  exact⟨_,y,h2,hy,hv⟩
 ·rename_i n off
  simp only[aN] at he
  obtain⟨ob,hob,he⟩:=he
  split at he
  ·rename_i cs
   have hl:VR G _ _:=hl
   cases hl
   rename_i ad hn
   obtain⟨ad',hn',hsp,C,e,hb,_,hc⟩:=wr.obj n _ (jk hob)
   rw[hn] at hn';injection hn' with hn';subst hn'
   obtain⟨y,hy,hv,ht⟩:=wR (w:=w) (b:=ad.block) (base:=ad.off) he (fun i u hi=>by
    obtain⟨hs,z,hz,hr⟩:=hc i u hi
    exact⟨hs,z,by rw[oE hb];exact hz,hr⟩)
   exact⟨_,y,rfl,hy,hv⟩
  ·cases he
 ·rename_i cs
  have hl:VR G _ _:=hl
  cases hl
  rename_i b base hro
  obtain⟨y,hy,hv,ht⟩:=wR (w:=w) (b:=b) (base:=base) he (fun i u hi=>wr.ro _ _ _ (hro i u hi))
  simp only[cQ] at hy
  exact⟨_,y,rfl,hy,hv⟩
 ·cases he
def Bs (tmps:Array Value):ResultVar->Sem Value
 | .tmp t=>pure (tmps.getD t undef)
 | .cell a t=>do loadVar t (<-asAddr (tmps.getD a undef))
theorem VH {Q:cI} (wr:WR G s.heap w) (fx:dC G s.heap B fr tmps w): ∀ {l:List ResultVar} {vs:List aj},gL Q mk fr s l=some vs->
 ∃ys,(l.mapM (Bs tmps)).run Q.P w= .ok ys w/\cU G vs ys
 | [],_,h=>by
   simp only[gL,bp] at h;subst h
   exact⟨[],by simp[Sem.run_pure],.nil⟩
 |r::l,_,h=>by
  simp only[gL,aN] at h
  obtain⟨v,hv,vs,hvs,h⟩:=h
  obtain⟨hcl,h⟩:=cq h
  injection h with h;subst h
  obtain⟨ys,h1,h2⟩:=VH wr fx hvs
  have: ∃y,(Bs tmps r).run Q.P w= .ok y w/\VR G v y:=by
   cases r with
   |tmp t=>
    have hx:=dC.evc (a:=⟨tmps,[]⟩) fx hv
    exact⟨_,rfl,hx.1⟩
   |cell a t=>
    obtain⟨ad,y,e1,e2,e3⟩:=alj wr fx.locs (fx.env a) hv
    exact⟨y,by simp[Bs,e1,asAddr,e2],e3⟩
  obtain⟨y,h3,h4⟩:=this
  refine⟨y::ys,?_,.cons h4 h2⟩
  rw[List.mapM_cons]
  simp[h3,h1]
theorem aoj {Q:cI} (wr:WR G s.heap w) (fx:dC G s.heap B fr tmps w) {fn:Func} {vs:List aj} (h:gL Q mk fr s fn.results.toList=some vs):
 ∃y,(results fn tmps).run Q.P w= .ok y w/\VR G (jO vs) y:=by
 obtain⟨ys,h1,h2⟩:=VH wr fx h
 have hr:results fn tmps=(do let vs<-fn.results.mapM (Bs tmps);pure (if h:vs.size=1 then vs[0] else .tuple vs)):=by
  unfold results
  congr 1
 rw[hr,Array.mapM_eq_mapM_toList]
 simp only[Sem.run_bind,Sem.run_map,h1,je,Sem.run_pure]
 cases h2 with
 |nil=>exact⟨.tuple ⟨[]⟩,by simp,.tup .nil⟩
 |cons a b=>
  rename_i v y vs' ys'
  cases b with
  |nil=>exact⟨y,by simp,a⟩
  |cons c d=>exact⟨.tuple ⟨_⟩,by simp,.tup (.cons a (.cons c d))⟩
end
theorem U0: ∀(l:List aj) (n t:Nat),(cZ n l).get t=if t<n then none else l[t-n]?
 | [],n,t=>by
   simp only[cZ]
   have:(bD.nil:bq).get t=none:=rfl
   rw[this];simp
 |v::l,n,t=>by
  rw[cZ,bD.get_set,U0 l (n+1) t]
  by_cases e:t=n
  ·subst e;simp
  ·rw[if_neg e]
   by_cases h:t<n
   ·simp[h,Nat.lt_succ_of_lt h]
   ·rw[if_neg h,if_neg (by omega),show t-n=(t-(n+1))+1 by omega]
    simp
theorem Zr {G:Gh} {h:bD bR} {w:World} {args:List aj} {xs:List Value} (hv:cU G args xs) (nt:Nat):
 dC G h (fun _=>0) ⟨cZ 0 args,bif cK args.length nt then nt else args.length,[]⟩ ((⟨xs⟩:Array Value)++Array.replicate (nt-(⟨xs⟩:Array Value).size) undef) w where
 size:=by
  have:=hv.length
  simp only[Array.size_append,vq,Array.size_replicate,pC]
  by_cases e:args.length<=nt
  ·simp[e];omega
  ·simp[e];omega
 env t:=by
  have hlen:=hv.length
  simp only[ay,U0,Nat.not_lt_zero,if_false,Nat.sub_zero]
  cases e:args[t]? with
  |some v=>
   obtain⟨x,hx,hr⟩:=hv.get e
   have hlt:t<xs.length:=by
    rcases iJ t xs.length with h|h
    ·exact h
    ·rw[List.getElem?_eq_none h] at hx;cases hx
   have:((⟨xs⟩:Array Value)++Array.replicate (nt-(⟨xs⟩:Array Value).size) undef).getD t undef=x:=by
    rw[mh,Array.getElem?_append_left (by simpa using hlt)]
    simp[hx]
   rw[this]
   exact LV.of_VR hr
  |none=>
   have hge:xs.length<=t:=by rw[<-hlen];exact List.getElem?_eq_none_iff.1 e
   have:((⟨xs⟩:Array Value)++Array.replicate (nt-(⟨xs⟩:Array Value).size) undef).getD t undef=undef:=by
    rw[mh,Array.getElem?_append_right (by simpa using hge),Hy]
    split<;>rfl
   rw[this]
   exact LV.of_VR (Hi G)
 locs:=⟨fun t cs h=>by simp[Loc.get] at h,fun t cs h=>by simp[Loc.get] at h,fun t cs h=>by simp[Loc.get] at h,fun t u cs ds h=>by simp[Loc.get] at h⟩
theorem TZ {Q:cI} {fn:Func} {R:Ending->World->Prop} {G0 G:Gh} {h0:bD bR} {w0:World} {B:Nat->Nat} {fr:Fr} {tmps:Array Value} {lo hi:Nat} {mk:bt} {s:St} {vs:List aj}
 (hres:gL Q mk fr s fn.results.toList=some vs) (hR: ∀y w',WR G s.heap w'->dF G0 h0 w0 G s.heap w' lo hi->VR G (jO vs) y->R (.returned y) w'):
 ∀(rs:List Nat) (w:World),WR G s.heap w->dC G s.heap B fr tmps w->dF G0 h0 w0 G s.heap w lo hi->sT w0.heap.size w rs->LeavesInM Fence.wide 0 Q.P fn tmps R (rs.map sl++[]) .returning w
 | [],w,wr,fx,ex,_=>by
   obtain⟨y,r1,r2⟩:=aoj (Q:=Q) wr fx hres
   exact⟨y,r1,hR y w wr ex r2⟩
 |r::rs,w,wr,fx,ex,m=>by
  obtain⟨h1,h2⟩:=m.at_ r (by simp)
  have hnd:=List.nodup_cons.1 m.nodup
  refine⟨by simp,.inl ⟨r,ef w r (.deferred none),rfl,run_takeDeferred h2,?_⟩⟩
  refine TZ hres hR rs _ (wr.aside h2 trivial (wr.not_deferred h2)) (fx.aside h2 trivial) (ex.aside h2 trivial trivial fun h=>by omega) ⟨hnd.2,fun q hq=>?_⟩
  obtain⟨q1,q2⟩:=m.at_ q (by simp[hq])
  refine⟨q1,?_⟩
  rw[jn _ _ _ _ (ia h2),if_neg]
  ·exact q2
  ·intro e;subst e;exact hnd.1 hq
theorem Yy {Q:cI} {n:Nat} (hg:Good Q) (hn:pU Q n):sR Q (n+1):=by
 intro f args mk s s2 G w xs ch A p hv hi hs
 have hev: ∀c,(db (Q.at c) (n+1)).call f args mk s=j8 (Q.at c) (db (Q.at c) n) f args mk s:=fun _=>rfl
 cases hsp:Q.spec f with
 |some sp=>
  have hev': ∀c,(db (Q.at c) (n+1)).call f args mk s=(sp args).bind fun v=>some (v,s):=by
   intro c
   have:(Q.at c).spec f=some sp:=hsp
   rw[hev,j8,this]
  obtain⟨v,s',h0,_⟩:=hs ch (.refl _ _) hi
  rw[hev'] at h0
  simp only[aN,bp,bX] at h0
  obtain⟨v',h1,rfl,rfl⟩:=h0
  refine(hg.spec f sp hsp args v' h1 G s2.heap w xs p.wr hv).mono ?_
  rintro y w' ⟨G',h2,h3,h4⟩
  refine⟨ch,v',s,s2,G',.refl _ _,hi,by rw[hev',h1];rfl,.refl p.sees,h2,?_,h4⟩
  exact⟨h3.le,h3.size,h3.keep,h3.owns,fun m a e e0=>by have:=h3.names m a e e0;omega,h3.cells,h3.quiet⟩
 |none=>
 cases hsh:Q.specH f with
 |some sp=>
  have hev': ∀c,(db (Q.at c) (n+1)).call f args mk s=(oW (s.get mk) (sp args)).bind fun v=>some (v,s):=by
   intro c
   have h1:(Q.at c).spec f=none:=hsp
   have h2:(Q.at c).specH f=some sp:=hsh
   rw[hev,j8,h1]
   simp only[h2]
  obtain⟨v,s',h0,_⟩:=hs ch (.refl _ _) hi
  rw[hev'] at h0
  simp only[aN,bp,bX] at h0
  obtain⟨v',h1,rfl,rfl⟩:=h0
  have h1':oW s2.heap.get (sp args)=some v':=by
   have:=GN p.sees (sp args) v' h1
   generalize sp args=x at this
   clear h1 hev'
   induction x with
   |ret _=>exact this
   |ask m k ih=>
    simp only[oW,aN] at this ⊢
    obtain⟨o,q1,q2⟩:=this
    exact⟨o,(qf q1).2,ih o q2⟩
  refine(hg.specH f sp hsh args v' G s2.heap w xs p.wr hv h1').mono ?_
  rintro y w' ⟨G',h2,h3,h4⟩
  refine⟨ch,v',s,s2,G',.refl _ _,hi,by rw[hev',h1];rfl,.refl p.sees,h2,?_,h4⟩
  exact⟨h3.le,h3.size,h3.keep,h3.owns,fun m a e e0=>by have:=h3.names m a e e0;omega,h3.cells,h3.quiet⟩
 |none=>
 cases hsw:Q.specW f with
 |some sp=>
  have hev': ∀c,(db (Q.at c) (n+1)).call f args mk s=(sp args).bind (rc mk s):=by
   intro c
   have h1:(Q.at c).spec f=none:=hsp
   have h2:(Q.at c).specH f=none:=hsh
   have h3:(Q.at c).specW f=some sp:=hsw
   rw[hev,j8,h1]
   simp only[h2,h3]
  obtain⟨v,s',h0,_⟩:=hs ch (.refl _ _) hi
  have h00:=h0
  rw[hev'] at h0
  simp only[aN] at h0
  obtain⟨q,h1,h3⟩:=h0
  cases q with
  |none=>
   simp only[rc,bp,bX] at h3
   obtain⟨rfl,rfl⟩:=h3
   refine((hg.specW f sp hsw args G s2.heap w xs p.wr hv).1 h1).mono ?_
   rintro y w' ⟨G',k2,k3,k4⟩
   refine⟨ch,_,_,s2,G',.refl _ _,hi,h00,.refl p.sees,k2,?_,k4⟩
   exact⟨k3.le,k3.size,k3.keep,k3.owns,fun m a e e0=>by have:=k3.names m a e e0;omega,k3.cells,k3.quiet⟩
  |some q=>
   simp only[rc,aN] at h3
   obtain⟨o,h2,h3⟩:=h3
   cases o<;>simp only[wQ,aN,bp,bX,reduceCtorEq] at h3
   obtain⟨cs',h4,rfl,rfl⟩:=h3
   have h5:=(qf (p.sees.look h2)).2
   refine((hg.specW f sp hsw args G s2.heap w xs p.wr hv).2 q.1 q.2 _ cs' h1 h5 h4).mono ?_
   rintro y w' ⟨G',k2,k3,k4⟩
   refine⟨ch,_,_,s2.put q.1 (some (.cells cs')),G',.refl _ _,hi,h00,.put p.sees h2 _,k2,?_,k4⟩
   exact⟨k3.le,k3.size,k3.keep,k3.owns,fun m a e e0=>by have:=k3.names m a e e0;omega,k3.cells,k3.quiet⟩
 |none=>
  have hev': ∀c,(db (Q.at c) (n+1)).call f args mk s=(Q.P.funcs[f]?).bind fun fn=>fn.body.bind fun b=>
   (kr Q n f b mk ⟨cZ 0 args,bif cK args.length fn.ntmps then fn.ntmps else args.length,[]⟩ s c).bind (oK (Q.at c) fn mk):=by
   intro c
   have h1:(Q.at c).spec f=none:=hsp
   have h2:(Q.at c).specH f=none:=hsh
   have h3:(Q.at c).specW f=none:=hsw
   rw[hev,j8,h1]
   simp only[h2,h3];rfl
  obtain⟨v0,s0,h0,_⟩:=hs ch (.refl _ _) hi
  rw[hev'] at h0
  simp only[aN] at h0
  obtain⟨fn,hf,b,hb,_⟩:=h0
  have hev2: ∀c,(db (Q.at c) (n+1)).call f args mk s=(kr Q n f b mk ⟨cZ 0 args,bif cK args.length fn.ntmps then fn.ntmps else args.length,[]⟩ s c).bind (oK (Q.at c) fn mk):=by
   intro c;rw[hev',hf];simp only[aq,hb]
  right
  have hnm:=hg.names f fn hf
  refine⟨?_,?_⟩
  ·have hnm': ¬fn.name= "runtime.NumGoroutine" :=by simpa using hnm
   simp[callFunc,go_sem,hf,hb,hnm']
  refine(callsIn_wide (n:=0)).1 (callsIn_of_wp_marks hf hb trivial ?_)
  have fx:=Zr (G:=G) (h:=s2.heap) (w:=w) hv fn.ntmps
  refine(hn none f b mk _ ch A G (fun _=>0) s s2 _ w (fun h=>absurd rfl h) p fx hi ?_ _ ?_).1
  ·intro c h1 h2
   obtain⟨v,s',h3,h4⟩:=hs c h1 h2
   rw[hev2] at h3
   simp only[aN] at h3
   obtain⟨⟨x,fr',s1⟩,h5,h6⟩:=h3
   refine⟨x,fr',s1,h5,?_⟩
   have:s1=s':=by
    cases x<;>simp only[oK,aN,bp,bX] at h6
    ·obtain⟨_,_,_,e⟩:=h6;exact e
    ·cases h6
    ·obtain⟨_,_,_,e⟩:=h6;exact e
   subst this;exact h4
  ·rintro x a' w' ⟨c,fr',s',s2',G',B',h1,h2,h3,h4⟩
   obtain⟨v,s1,h5,_⟩:=hs c h1 h2
   have h5':=h5
   rw[hev2,h3] at h5
   simp only[aq] at h5
   have hend: ∀vs,gL (Q.at c) mk fr' s' fn.results.toList=some vs->v=jO vs->s1=s'->
    LeavesInM Fence.wide 0 Q.P fn a'.tmps (fun e w'=> ∃y',e= .returned y'/\ ∃ch' v s' s2' G',y7 Q (n+1) f args mk ch G s s2 w y' w' ch' v s' s2' G') a'.defers .returning w':=by
    intro vs hvs e1 e2
    have hvs2:gL (Q.at c) mk fr' s2' fn.results.toList=some vs:=
     Uj (Q:=Q.at c) mk fr' fn.results.toList s' s2' vs hvs (fun m o hm=>(h4.same.sees p.sees h4.goes).look hm)
    obtain⟨rs,d1,d2⟩:=h4.defers
    rw[d1]
    have hx0:dF G s2.heap w G' s2'.heap w' s.next s'.next:=h4.ext.toExt fun b ⟨t,cs,e,_⟩=>by simp[Loc.get] at e
    refine TZ (Q:=Q.at c) hvs2 ?_ rs w' h4.wr h4.fx hx0 d2
    intro y w'' u1 u2 u3
    refine⟨y,rfl,c,v,s1,s2',G',h1,h2,h5',by rw[e2];exact h4.same,u1,?_,by rw[e1];exact u3⟩
    rw[e2];exact u2
   cases x with
   |exit id=>cases h5
   |normal=>
    simp only[oK,aN,bp,bX] at h5
    obtain⟨vs,hvs,e1,e2⟩:=h5
    exact hend vs hvs e1.symm e2.symm
   |ret=>
    simp only[oK,aN,bp,bX] at h5
    obtain⟨vs,hvs,e1,e2⟩:=h5
    exact hend vs hvs e1.symm e2.symm
theorem XT {Q:cI} (hg:Good Q) (n:Nat):sR Q n/\zc Q n/\pU Q n:=by
 induction n using Nat.strongRecOn with
 |_ n ih=>
  cases n with
  |zero=>
   refine⟨?_,?_,?_⟩
   ·intro f args mk s s2 G w xs ch A p hv hi hs
    obtain⟨v,s',h,_⟩:=hs ch (.refl _ _) hi;cases h
   ·intro ro f all mk l i fr ch A G B s s2 a w p fx hi hl hs K hK
    obtain⟨x,fr',s',h,_⟩:=hs ch (.refl _ _) hi;cases h
   ·intro ro f c mk fr ch A G B s s2 a w hfl p fx hi hs K hK
    obtain⟨x,fr',s',h,_⟩:=hs ch (.refl _ _) hi;cases h
  |succ n=>
   obtain⟨h1,h2,h3⟩:=ih n (by omega)
   exact⟨Yy hg h3,ans h1 h3 h2,Y7 hg h3 h2 h1 fun k hk=>⟨(ih k (by omega)).1,(ih k (by omega)).2.2⟩⟩
end Go.Ag
