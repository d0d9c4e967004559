/- A result depends on what the evaluator has looked at alone; regions that draw their order; the evaluator is sound. -/
import Derived.Test.YtbfmdojdemckbaaGreatAg1
import Derived.Orders
import Derived.Scope
import Derived.LoopN
import Derived.OrdersIn
import Derived.LoopNIn
import Derived.RangeFuncRecord
open Array renaming ext'→lp,getD_eq_getD_getElem?→lq,getElem?_eq_getElem→mG,getElem?_replicate→GH,getElem?_setIfInBounds→wv,length_toList→td
open Bool renaming and_eq_false_iff→Bk,and_eq_true→cZ,false_eq_true→qK,false_or→jU,not_eq_true'→te,or_eq_false_iff→rA,or_eq_true→tf
open Classical renaming byContradiction→lW
open List renaming getElem?_eq_getElem→js,getElem?_toArray→Bo,length_cons→aP,mem_cons_of_mem→wA,size_toArray→uE
open Nat renaming add_zero→dc,beq→be,ble→cy,blt→bT,le_of_lt→tm,le_refl→bB,le_succ→ka,le_trans→fW,lt_of_lt_of_le→gu,lt_or_ge→im,lt_succ_self→io,zero_add→aQ,zero_le→iB
open Option renaming bind_eq_some_iff→aG,bind_some→aq,getD_some→pc
open Option.some renaming injEq→bg
open Prod.mk renaming injEq→bL
open Go.Result renaming andThen_ok→iQ
namespace Go.Ag
def kT (mk:bn) (s s':St) (n:Nat):Prop:=(dJ mk n=false/\s.heap.get n≠none)\/(s.next<=n/\n<s'.next)
structure iC (mk:bn) (s s2:St):Prop where
 next:s2.next=s.next
 minw:s2.minw=s.minw
 ci:s2.ci=s.ci
 get: ∀n o,dJ mk n=false->s.heap.get n=some o->s2.heap.get n=some o
theorem iC.refl (mk:bn) (s:St):iC mk s s:=⟨rfl,rfl,rfl,fun _ _ _ h=>h⟩
structure gG (mk:bn) (s s' s2 s2':St):Prop where
 next:s2'.next=s'.next
 minw:s2'.minw=s'.minw
 ci:s2'.ci=s'.ci
 inside: ∀n,kT mk s s' n->s2'.heap.get n=s'.heap.get n
 outside: ∀n, ¬kT mk s s' n->s2'.heap.get n=s2.heap.get n
structure fO (mk:bn) (s s':St):Prop where
 next:s.next<=s'.next
 ci:s.ci<=s'.ci
 minw:s'.minw<=s.minw
 frame: ∀n, ¬kT mk s s' n->s'.heap.get n=s.heap.get n
 noted: ∀n,n<s.next->s'.heap.get n≠s.heap.get n->s'.minw<=n
theorem fO.refl (mk:bn) (s:St):fO mk s s:=⟨bB _,bB _,bB _,fun _ _=>rfl,fun _ _ h=>absurd rfl h⟩
theorem fO.trans {mk:bn} {s s' s'':St} (x:fO mk s s') (y:fO mk s' s''):fO mk s s'' where
 next:=fW x.next y.next
 ci:=fW x.ci y.ci
 minw:=fW y.minw x.minw
 frame n h:=by
  have h1: ¬kT mk s s' n:=fun t=>h (t.imp id fun t=>⟨t.1,gu t.2 y.next⟩)
  have h2: ¬kT mk s' s'' n:=fun t=>by
   rcases t with⟨t1,t2⟩|t
   ·rw[x.frame n h1] at t2;exact h (.inl ⟨t1,t2⟩)
   ·exact h (.inr ⟨fW x.next t.1,t.2⟩)
  rw[y.frame n h2,x.frame n h1]
 noted n hn hne:=by
  by_cases h:s'.heap.get n=s.heap.get n
  ·exact y.noted n (gu hn x.next) (by rw[h];exact hne)
  ·exact fW y.minw (x.noted n hn h)
theorem gG.sees {mk:bn} {s s' s2 s2':St} (a:iC mk s s2) (g:fO mk s s') (x:gG mk s s' s2 s2'):iC mk s' s2' where
 next:=x.next
 minw:=x.minw
 ci:=x.ci
 get n o hv h:=by
  by_cases t:kT mk s s' n
  ·rw[x.inside n t];exact h
  ·rw[x.outside n t]
   rw[g.frame n t] at h
   exact a.get n o hv h
theorem gG.trans {mk:bn} {s s' s'' s2 s2' s2'':St} (gx:fO mk s s') (gy:fO mk s' s'') (x:gG mk s s' s2 s2') (y:gG mk s' s'' s2' s2''):gG mk s s'' s2 s2'' where
 next:=y.next
 minw:=y.minw
 ci:=y.ci
 inside n t:=by
  by_cases t2:kT mk s' s'' n
  ·exact y.inside n t2
  ·rw[y.outside n t2,gy.frame n t2]
   refine x.inside n ?_
   rcases t with t|t
   ·exact .inl t
   ·refine .inr ⟨t.1,?_⟩
    rcases im n s'.next with h|h
    ·exact h
    ·exact absurd (.inr ⟨h,t.2⟩) t2
 outside n t:=by
  have h1: ¬kT mk s s' n:=fun t'=>t (t'.imp id fun t'=>⟨t'.1,gu t'.2 gy.next⟩)
  have h2: ¬kT mk s' s'' n:=fun t'=>by
   rcases t' with⟨t1,t2⟩|t'
   ·rw[gx.frame n h1] at t2;exact t (.inl ⟨t1,t2⟩)
   ·exact t (.inr ⟨fW gx.next t'.1,t'.2⟩)
  rw[y.outside n h2,x.outside n h1]
theorem gG.refl {mk:bn} {s s2:St} (a:iC mk s s2):gG mk s s s2 s2 where
 next:=a.next
 minw:=a.minw
 ci:=a.ci
 inside n t:=by
  rcases t with⟨t1,t2⟩|t
  ·cases h:s.heap.get n with
   |none=>exact absurd h t2
   |some o=>exact a.get n o t1 h
  ·omega
 outside _ _:=rfl
def c8 {α:Type} (mk:bn) (x:(Nat->Nat)->St->Option (α×St)):Prop:=
 ∀ch s a s',x ch s=some (a,s')->fO mk s s'/\ ∀ch' s2,(∀i,i<s'.ci->ch' i=ch i)->iC mk s s2-> ∃s2',x ch' s2=some (a,s2')/\gG mk s s' s2 s2'
theorem pz {mk:bn} {s:St} {n:Nat} {o:bH} (h:s.get mk n=some o):dJ mk n=false/\s.heap.get n=some o:=by
 unfold St.get at h
 cases e:dJ mk n with
 |true=>simp[e] at h
 |false=>simp[e] at h;exact⟨rfl,h⟩
theorem iC.look {mk:bn} {s s2:St} (a:iC mk s s2) {n:Nat} {o:bH} (h:s.get mk n=some o):s2.get mk n=some o:=by
 obtain⟨h1,h2⟩:=pz h
 simp[St.get,h1,a.get n o h1 h2]
theorem fO.new (mk:bn) (s:St) (o:bH):fO mk s (s.new o) where
 next:=ka _
 ci:=bB _
 minw:=bB _
 frame n h:=by
  show(s.heap.set s.next (some o)).get n=_
  rw[bv.get_set,if_neg]
  intro e
  exact h (.inr ⟨by omega,by show n<s.next+1;omega⟩)
 noted n hn hne:=by
  refine absurd ?_ hne
  show(s.heap.set s.next (some o)).get n=_
  rw[bv.get_set,if_neg (by omega)]
theorem gG.new {mk:bn} {s s2:St} (a:iC mk s s2) (o:bH):gG mk s (s.new o) s2 (s2.new o) where
 next:=by show s2.next+1=s.next+1;rw[a.next]
 minw:=a.minw
 ci:=a.ci
 inside n t:=by
  show(s2.heap.set s2.next (some o)).get n=(s.heap.set s.next (some o)).get n
  rw[bv.get_set,bv.get_set,a.next]
  by_cases e:n=s.next
  ·rw[if_pos e,if_pos e]
  ·rw[if_neg e,if_neg e]
   rcases t with⟨t1,t2⟩|⟨t1,t2⟩
   ·cases h:s.heap.get n with
    |none=>exact absurd h t2
    |some o=>exact a.get n o t1 h
   ·have:n<s.next+1:=t2
    omega
 outside n t:=by
  show(s2.heap.set s2.next (some o)).get n=_
  rw[bv.get_set,if_neg]
  intro e
  rw[a.next] at e
  exact t (.inr ⟨by omega,by show n<s.next+1;omega⟩)
theorem fO.put {mk:bn} {s:St} {n:Nat} {o:bH} (h:s.get mk n=some o) (o':Option bH):fO mk s (s.put n o') where
 next:=bB _
 ci:=bB _
 minw:=by
  show(bif cy s.minw n then s.minw else n)<=s.minw
  cases e:cy s.minw n
  ·simp only[cF]
   rw[oS] at e
   have:=of_decide_eq_false e
   omega
  ·simp
 frame m hm:=by
  show(s.heap.set n o').get m=_
  rw[bv.get_set,if_neg]
  intro e;subst e
  obtain⟨h1,h2⟩:=pz h
  exact hm (.inl ⟨h1,by rw[h2];simp⟩)
 noted m _ hne:=by
  show(bif cy s.minw n then s.minw else n)<=m
  have e:m=n:=by
   by_cases e:m=n
   ·exact e
   ·exfalso
    apply hne
    show(s.heap.set n o').get m=_
    rw[bv.get_set,if_neg e]
  subst e
  cases e:cy s.minw m
  ·simp
  ·simp only[cT];exact jl e
theorem gG.put {mk:bn} {s s2:St} (a:iC mk s s2) {n:Nat} {o:bH} (h:s.get mk n=some o) (o':Option bH):gG mk s (s.put n o') s2 (s2.put n o') where
 next:=a.next
 minw:=by show(bif cy s2.minw n then s2.minw else n)=(bif cy s.minw n then s.minw else n);rw[a.minw]
 ci:=a.ci
 inside m t:=by
  show(s2.heap.set n o').get m=(s.heap.set n o').get m
  rw[bv.get_set,bv.get_set]
  by_cases e:m=n
  ·rw[if_pos e,if_pos e]
  ·rw[if_neg e,if_neg e]
   rcases t with⟨t1,t2⟩|⟨t1,t2⟩
   ·cases h:s.heap.get m with
    |none=>exact absurd h t2
    |some o=>exact a.get m o t1 h
   ·have:m<s.next:=t2
    omega
 outside m t:=by
  show(s2.heap.set n o').get m=_
  rw[bv.get_set,if_neg]
  intro e;subst e
  obtain⟨h1,h2⟩:=pz h
  exact t (.inl ⟨h1,by rw[h2];simp⟩)
theorem fO.hide {mk:bn} {s s3:St} {n:Nat} {o:bH} (h:s.get mk n=some o) (g:fO mk (s.put n none) s3) (o':bH):fO mk s (s3.put n (some o')) where
 next:=g.next
 ci:=g.ci
 minw:=by
  have h1:s3.minw<=(bif cy s.minw n then s.minw else n):=g.minw
  have h2:(bif cy s.minw n then s.minw else n)<=s.minw:=(fO.put h none).minw
  have h3:(s3.put n (some o')).minw<=s3.minw:=by
   show(bif cy s3.minw n then s3.minw else n)<=s3.minw
   cases e:cy s3.minw n
   ·rw[oS] at e
    have:=of_decide_eq_false e
    simp only[cF]
    omega
   ·simp
  omega
 frame m hm:=by
  obtain⟨h1,h2⟩:=pz h
  have hmn:m≠n:=fun e=>by subst e;exact hm (.inl ⟨h1,by rw[h2];simp⟩)
  show(s3.heap.set n (some o')).get m=_
  rw[bv.get_set,if_neg hmn]
  have hs1:(s.put n none).heap.get m=s.heap.get m:=by
   show(s.heap.set n none).get m=_
   rw[bv.get_set,if_neg hmn]
  rw[<-hs1]
  refine g.frame m fun t=>hm ?_
  rcases t with⟨t1,t2⟩|t
  ·rw[hs1] at t2;exact .inl ⟨t1,t2⟩
  ·exact .inr t
 noted m hm hne:=by
  have hle:(s3.put n (some o')).minw<=s3.minw/\(s3.put n (some o')).minw<=n:=by
   show(bif cy s3.minw n then s3.minw else n)<=s3.minw/\(bif cy s3.minw n then s3.minw else n)<=n
   cases e:cy s3.minw n
   ·rw[oS] at e
    have:=of_decide_eq_false e
    simp only[cF]
    omega
   ·have:=jl e
    simp only[cT]
    omega
  by_cases hmn:m=n
  ·subst hmn;exact hle.2
  ·have hs1:(s.put n none).heap.get m=s.heap.get m:=by
    show(s.heap.set n none).get m=_
    rw[bv.get_set,if_neg hmn]
   refine fW hle.1 (g.noted m hm ?_)
   rw[hs1]
   intro e
   apply hne
   show(s3.heap.set n (some o')).get m=_
   rw[bv.get_set,if_neg hmn,e]
theorem gG.hide {mk:bn} {s s3 s2 s23:St} {n:Nat} {o:bH} (_y:iC mk s s2) (h:s.get mk n=some o) (x:gG mk (s.put n none) s3 (s2.put n none) s23) (o':bH):gG mk s (s3.put n (some o')) s2 (s23.put n (some o')) where
 next:=x.next
 minw:=by show(bif cy s23.minw n then s23.minw else n)=(bif cy s3.minw n then s3.minw else n);rw[x.minw]
 ci:=x.ci
 inside m t:=by
  show(s23.heap.set n (some o')).get m=(s3.heap.set n (some o')).get m
  rw[bv.get_set,bv.get_set]
  by_cases hmn:m=n
  ·rw[if_pos hmn,if_pos hmn]
  ·rw[if_neg hmn,if_neg hmn]
   refine x.inside m ?_
   rcases t with⟨t1,t2⟩|t
   ·refine .inl ⟨t1,?_⟩
    show(s.heap.set n none).get m≠none
    rw[bv.get_set,if_neg hmn];exact t2
   ·exact .inr t
 outside m t:=by
  obtain⟨h1,h2⟩:=pz h
  have hmn:m≠n:=fun e=>by subst e;exact t (.inl ⟨h1,by rw[h2];simp⟩)
  show(s23.heap.set n (some o')).get m=_
  rw[bv.get_set,if_neg hmn,x.outside m ?_]
  ·show(s2.heap.set n none).get m=_
   rw[bv.get_set,if_neg hmn]
  ·rintro(⟨t1,t2⟩|t')
   ·have t2:(s.heap.set n none).get m≠none:=t2
    rw[bv.get_set,if_neg hmn] at t2
    exact t (.inl ⟨t1,t2⟩)
   ·exact t (.inr t')
def RO {β:Type} (mk:bn) (f:St->Option β):Prop:= ∀s s2 b,f s=some b->(∀n o,s.get mk n=some o->s2.get mk n=some o)->f s2=some b
section
variable {P:Program} {mk:bn}
theorem S8 (t:TypeId) (a:aj) (loc:Loc):RO mk (fun s=>kZ P mk t a loc s):=by
 intro s s2 b h hl
 unfold kZ at h ⊢
 split at h
 ·exact h
 ·simp only[aG] at h ⊢
  obtain⟨ob,hob,h⟩:=h
  exact⟨ob,hl _ _ hob,h⟩
 ·exact h
 ·cases h
theorem S7 (g:Bool) (n:Nat) (x:aj):RO mk (fun s=>j2 mk g n x s):=by
 intro s s2 b h hl
 unfold j2 at h ⊢
 split at h
 ·exact h
 ·exact h
 ·replace h:=bX h
  obtain⟨h1,h⟩:=h
  simp only[h1,cT,aG] at h ⊢
  obtain⟨ob,hob,h⟩:=h
  exact⟨ob,hl _ _ hob,h⟩
 ·cases h
theorem aku (t:TypeId) (x:aj):RO mk (fun s=>gW P mk t x s):=by
 intro s s2 b h hl
 simp only[gW,aG] at h ⊢
 obtain⟨d,hd,h⟩:=h
 refine⟨d,hd,?_⟩
 split at h<;>first
  |exact h
  |(simp only[aG] at h ⊢
    obtain⟨ob,hob,h⟩:=h
    exact⟨ob,hl _ _ hob,h⟩)
  |cases h
theorem akv (t:TypeId) (m k:aj) (ok:Bool):RO mk (fun s=>lM P mk t m k ok s):=by
 intro s s2 b h hl
 simp only[lM,aG] at h ⊢
 obtain⟨ke,hke,z,hz,r,hr,h⟩:=h
 refine⟨ke,hke,z,hz,r,?_,h⟩
 unfold xL at hr ⊢
 split at hr
 ·exact hr
 ·simp only[aG] at hr ⊢
  obtain⟨ob,hob,hr⟩:=hr
  exact⟨ob,hl _ _ hob,hr⟩
 ·cases hr
theorem akt (it:aj):RO mk (fun s=>pm mk it s):=by
 intro s s2 b h hl
 unfold pm at h ⊢
 split at h
 ·simp only[aG] at h ⊢
  obtain⟨ob,hob,h⟩:=h
  refine⟨ob,hl _ _ hob,?_⟩
  split at h
  ·simp only[aG] at h ⊢
   obtain⟨ob2,hob2,h⟩:=h
   exact⟨ob2,hl _ _ hob2,h⟩
  ·cases h
 ·cases h
theorem akw (t:TypeId) (x:aj) (lo hi mx:Option Operand) (env:bj):RO mk (fun s=>jS P mk t x lo hi mx env s):=by
 intro s s2 b h hl
 simp only[jS,aG] at h ⊢
 obtain⟨d,hd,h⟩:=h
 refine⟨d,hd,?_⟩
 split at h
 ·exact h
 ·simp only[aG] at h ⊢
  obtain⟨n,hn,h⟩:=h
  exact⟨n,hn,h⟩
 ·simp only[aG] at h ⊢
  obtain⟨n,hn,h⟩:=h
  refine⟨n,hn,?_⟩
  split at h
  ·simp only[aG] at h ⊢
   obtain⟨p,hp,q,hq,ob,hob,h⟩:=h
   exact⟨p,hp,q,hq,ob,hl _ _ hob,h⟩
  ·cases h
 ·cases h
end
def bV {α β:Type} (mk:bn) (x:(Nat->Nat)->St->Option (α×β×St)):Prop:=
 ∀ch s v l s',x ch s=some (v,l,s')->fO mk s s'/\ ∀ch' s2,(∀i,i<s'.ci->ch' i=ch i)->iC mk s s2-> ∃s2',x ch' s2=some (v,l,s2')/\gG mk s s' s2 s2'
section
variable {P:Program} {mk:bn}
theorem bV.ro {f:St->Option aj} (hf:RO mk f) (l:Loc):bV mk (fun _ s=>fK (f s) l s):=by
 intro ch s v l' s' h
 obtain⟨h1,h2,h3⟩:=jR h
 subst h2;subst h3
 refine⟨.refl mk s',fun ch' s2 _ a=>⟨s2,?_,.refl a⟩⟩
 have:=hf s' s2 v h1 (fun n o ho=>a.look ho)
 simp[fK,this]
theorem bV.const (f:Option aj) (l:Loc):bV mk (fun _ s=>fK f l s):=bV.ro (f:=fun _=>f) (fun _ _ _ h _=>h) l
theorem bV.none {α β:Type}:bV (α:=α) (β:=β) mk (fun _ _=>.none):=by intro ch s v l s' h;cases h
theorem bV.bind {α γ β:Type} (x:Option β) {k:β->(Nat->Nat)->St->Option (α×γ×St)} (hk: ∀b,x=some b->bV mk (k b)):bV mk (fun ch s=>x.bind fun b=>k b ch s):=by
 cases x with
 |none=>intro ch s v l s' h;cases h
 |some b=>exact hk b rfl
theorem bV.vs {f:(Nat->Nat)->St->Option (aj×St)} (hf:c8 mk f) (l:Loc):bV mk (fun ch s=>gX (f ch s) l):=by
 intro ch s v l' s' h
 simp only[gX,aG] at h
 obtain⟨⟨v1,s1⟩,h1,h⟩:=h
 simp only[bg,bL] at h
 obtain⟨rfl,rfl,rfl⟩:=h
 obtain⟨g,hh⟩:=hf ch s v1 s1 h1
 refine⟨g,fun ch' s2 hc a=>?_⟩
 obtain⟨s2',h2,h3⟩:=hh ch' s2 hc a
 exact⟨s2',by simp[gX,h2],h3⟩
theorem c8.of_put {α:Type} {f:St->Option (α×St)} (hf: ∀s a s',f s=some (a,s')-> ∃n o o',s.get mk n=some o/\s'=s.put n o'/\ ∀s2,iC mk s s2->f s2=some (a,s2.put n o')):c8 mk (fun _ s=>f s):=by
 intro ch s a s' h
 obtain⟨n,o,o',h1,rfl,h2⟩:=hf s a s' h
 exact⟨.put h1 o',fun ch' s2 _ hs=>⟨_,h2 s2 hs,.put hs h1 o'⟩⟩
theorem c8.of_new {α:Type} {f:St->Option (α×St)} (hf: ∀s a s',f s=some (a,s')-> ∃o,s'=s.new o/\ ∀s2,iC mk s s2->f s2=some (a,s2.new o)):c8 mk (fun _ s=>f s):=by
 intro ch s a s' h
 obtain⟨o,rfl,h2⟩:=hf s a s' h
 exact⟨.new mk s o,fun ch' s2 _ hs=>⟨_,h2 s2 hs,.new hs o⟩⟩
theorem c8.of_same {α:Type} {f:St->Option (α×St)} (hf: ∀s a s',f s=some (a,s')->s'=s/\ ∀s2,iC mk s s2->f s2=some (a,s2)):c8 mk (fun _ s=>f s):=by
 intro ch s a s' h
 obtain⟨rfl,h2⟩:=hf s a s' h
 exact⟨.refl mk _,fun ch' s2 _ hs=>⟨_,h2 s2 hs,.refl hs⟩⟩
theorem c8.of_any {α:Type} {f:St->Option (α×St)} (hf: ∀s a s',f s=some (a,s')->
 (s'=s/\ ∀s2,iC mk s s2->f s2=some (a,s2))\/(∃o,s'=s.new o/\ ∀s2,iC mk s s2->f s2=some (a,s2.new o))\/
 (∃n o o',s.get mk n=some o/\s'=s.put n o'/\ ∀s2,iC mk s s2->f s2=some (a,s2.put n o'))\/
 (∃n o o' o'',s.get mk n=some o/\s'=(s.put n o').new o''/\ ∀s2,iC mk s s2->f s2=some (a,(s2.put n o').new o''))):c8 mk (fun _ s=>f s):=by
 intro ch s a s' h
 rcases hf s a s' h with⟨rfl,h2⟩|⟨o,rfl,h2⟩|⟨n,o,o',h1,rfl,h2⟩|⟨n,o,o',o'',h1,rfl,h2⟩
 ·exact⟨.refl mk _,fun ch' s2 _ hs=>⟨_,h2 s2 hs,.refl hs⟩⟩
 ·exact⟨.new mk s o,fun ch' s2 _ hs=>⟨_,h2 s2 hs,.new hs o⟩⟩
 ·exact⟨.put h1 o',fun ch' s2 _ hs=>⟨_,h2 s2 hs,.put hs h1 o'⟩⟩
 ·have g1:=fO.put h1 o'
  exact⟨g1.trans (.new mk _ o''),fun ch' s2 _ hs=>⟨_,h2 s2 hs,gG.trans g1 (.new mk _ o'') (.put hs h1 o') (.new ((gG.put hs h1 o').sees hs g1) o'')⟩⟩
end
section
variable {P:Program} {mk:bn}
theorem ah8 (t:TypeId) (m k v:aj) (l:Loc):bV mk (fun _ s=>lR (lS P mk t m k v s) l):=by
 intro ch s u l' s' h
 simp only[lR,aG] at h
 obtain⟨s1,h1,h⟩:=h
 simp only[bg,bL] at h
 obtain⟨rfl,rfl,rfl⟩:=h
 simp only[lS,aG] at h1
 obtain⟨ke,hke,h1⟩:=h1
 split at h1
 ·rename_i n
  simp only[aG] at h1
  obtain⟨ob,hob,h1⟩:=h1
  split at h1
  ·rename_i es clock
   simp only[aG] at h1
   obtain⟨r,hr,h1⟩:=h1
   split at h1
   ·rename_i x
    replace h1:=bX h1
    obtain⟨hc,h1⟩:=h1
    injection h1 with h1;subst h1
    exact⟨.put hob _,fun ch' s2 _ a=>⟨_,by simp[lR,lS,hke,a.look hob,hr,hc],.put a hob _⟩⟩
   ·injection h1 with h1;subst h1
    exact⟨.put hob _,fun ch' s2 _ a=>⟨_,by simp[lR,lS,hke,a.look hob,hr],.put a hob _⟩⟩
  ·cases h1
 ·cases h1
theorem ah2 (t:TypeId) (m k:aj):c8 mk (fun _ s=>tZ P mk t m k s):=by
 refine c8.of_put ?_
 intro s u s' h1
 simp only[tZ,aG] at h1
 obtain⟨ke,hke,z,hz,h1⟩:=h1
 split at h1
 ·rename_i n
  simp only[aG] at h1
  obtain⟨ob,hob,h1⟩:=h1
  split at h1
  ·rename_i es clock
   simp only[aG] at h1
   obtain⟨r,hr,h1⟩:=h1
   split at h1
   ·rename_i x
    replace h1:=bX h1
    obtain⟨hc,h1⟩:=h1
    simp only[bg,bL] at h1
    obtain⟨rfl,rfl⟩:=h1
    exact⟨n,_,_,hob,rfl,fun s2 a=>by simp[tZ,hke,hz,a.look hob,hr,hc]⟩
   ·simp only[bg,bL] at h1
    obtain⟨rfl,rfl⟩:=h1
    exact⟨n,_,_,hob,rfl,fun s2 a=>by simp[tZ,hke,hz,a.look hob,hr]⟩
  ·cases h1
 ·cases h1
theorem ahY (m st v:aj) (l:Loc):bV mk (fun _ s=>lR (u6 mk m st v s) l):=by
 intro ch s u l' s' h
 simp only[lR,aG] at h
 obtain⟨s1,h1,h⟩:=h
 simp only[bg,bL] at h
 obtain⟨rfl,rfl,rfl⟩:=h
 simp only[u6,aG] at h1
 obtain⟨b,hb,h1⟩:=h1
 split at h1
 ·rename_i n
  simp only[aG] at h1
  obtain⟨ob,hob,h1⟩:=h1
  split at h1
  ·simp only[aG] at h1
   obtain⟨es',hes,h1⟩:=h1
   injection h1 with h1;subst h1
   exact⟨.put hob _,fun ch' s2 _ a=>⟨_,by simp[lR,u6,hb,a.look hob,hes],.put a hob _⟩⟩
  ·cases h1
 ·cases h1
theorem ah4 (t:TypeId) (x:aj):c8 mk (fun _ s=>lh P mk t x s):=by
 refine c8.of_new ?_
 intro s u s' h1
 simp only[lh,aG] at h1
 obtain⟨d,hd,h1⟩:=h1
 split at h1
 ·split at h1
  ·simp only[bg,bL] at h1
   obtain⟨rfl,rfl⟩:=h1
   exact⟨_,rfl,fun s2 a=>by simp[lh,hd,a.next]⟩
  ·simp only[aG] at h1
   obtain⟨ob,hob,h1⟩:=h1
   split at h1
   ·simp only[bg,bL] at h1
    obtain⟨rfl,rfl⟩:=h1
    exact⟨_,rfl,fun s2 a=>by simp[lh,hd,a.look hob,a.next]⟩
   ·cases h1
  ·cases h1
 ·cases h1
theorem fO.ci_succ {s s':St} (g:fO mk s s') (_h:s'.ci=s.ci):fO mk s {s' with ci:=s.ci+1 }:=⟨g.next,ka _,g.minw,g.frame,g.noted⟩
theorem gG.ci_succ {s s' s2 s2':St} (a:iC mk s s2) (g:gG mk s s' s2 s2'):gG mk s {s' with ci:=s.ci+1 } s2 {s2' with ci:=s2.ci+1 }:=
 ⟨g.next,g.minw,by show s2.ci+1=s.ci+1;rw[a.ci],g.inside,g.outside⟩
theorem RH (kmax:Nat->Nat) (it:aj) (isString:Bool):c8 mk (fun ch s=>kx mk ch kmax it isString s):=by
 intro ch s u s' h1
 simp only[kx] at h1 ⊢
 split at h1
 ·rename_i n
  simp only[aG] at h1
  obtain⟨ob,hob,h1⟩:=h1
  split at h1
  ·replace h1:=gH h1
   rcases h1 with⟨_,h1⟩|⟨hs,h1⟩
   ·cases h1
   ·simp only[bg,bL] at h1
    obtain⟨rfl,rfl⟩:=h1
    exact⟨.refl mk _,fun ch' s2 _ a=>⟨s2,by simp[a.look hob,hs],.refl a⟩⟩
  ·rename_i m since seen stepped
   replace h1:=gH h1
   rcases h1 with⟨_,h1⟩|⟨hs,h1⟩
   ·cases h1
   ·simp only[aG] at h1
    obtain⟨ob2,hob2,h1⟩:=h1
    split at h1
    ·rename_i es clock
     replace h1:=gH h1
     rcases h1 with⟨_,h1⟩|⟨hgo,h1⟩
     ·cases h1
     ·generalize hUL:dx seen es=UL at h1
      unfold m9 at h1
      split at h1
      ·simp only[bg,bL] at h1
       obtain⟨rfl,rfl⟩:=h1
       exact⟨.refl mk _,fun ch' s2 _ a=>⟨s2,by simp[a.look hob,a.look hob2,hs,hgo,hUL,m9],.refl a⟩⟩
      ·rename_i e r
       replace h1:=bX h1
       obtain⟨hall,h1⟩:=h1
       split at h1
       ·simp only[bg] at h1
        have e1:u=(oX n m since clock seen e s).1:=by rw[h1]
        have e2:s'=s.put n (some (.iter (some m) since (seen++[e.born]) clock)):=(congrArg Prod.snd h1).symm
        subst e1;subst e2
        refine⟨.put hob _,fun ch' s2 _ a=>⟨_,?_,.put a hob _⟩⟩
        simp only[a.look hob,a.look hob2,aq,hs,cF,hgo,hUL,m9,hall,cT]
        rfl
       ·rename_i e2 r2
        replace h1:=bX h1
        obtain⟨hk,h1⟩:=h1
        simp only[aG] at h1
        obtain⟨e',he',h1⟩:=h1
        simp only[bg,bL] at h1
        obtain⟨rfl,rfl⟩:=h1
        refine⟨fO.ci_succ (s':=s.put n (some (.iter (some m) since (seen++[e'.born]) clock))) (.put hob _) rfl,fun ch' s2 hch a=>⟨_,?_,gG.ci_succ a (.put a hob _)⟩⟩
        have hci:ch' s2.ci=ch s.ci:=by rw[a.ci];exact hch s.ci (io _)
        rw[<-a.ci] at hk
        simp only[a.look hob,a.look hob2,aq,hs,cF,hgo,hUL,m9,hall,cT,hk,hci,he']
        rfl
    ·cases h1
  ·cases h1
 ·cases h1
theorem ah0 (t:TypeId) (env:bj) (r:Option Operand):c8 mk (fun _ s=>mp P t env r s):=by
 refine c8.of_new ?_
 intro s u s' h1
 unfold mp at h1 ⊢
 rcases r with _|x
 ·simp only[bg,bL] at h1
  obtain⟨rfl,rfl⟩:=h1
  exact⟨_,rfl,fun s2 a=>by simp[a.next]⟩
 ·simp only[aG] at h1
  obtain⟨d,hd,h1⟩:=h1
  split at h1
  ·simp only[aG] at h1
   obtain⟨y,hy,h1⟩:=h1
   split at h1
   ·simp only[bg,bL] at h1
    obtain⟨rfl,rfl⟩:=h1
    exact⟨_,rfl,fun s2 a=>by simp[hd,hy,a.next]⟩
   ·cases h1
  ·cases h1
theorem ah1 (t:TypeId) (l c:aj) (mu:Bool):c8 mk (fun _ s=>sD P t l c mu s):=by
 refine c8.of_new ?_
 intro s u s' h1
 simp only[sD,aG] at h1 ⊢
 obtain⟨E,hE,ln,hl,cn,hc,h1⟩:=h1
 replace h1:=bX h1
 obtain⟨hcond,h1⟩:=h1
 replace h1:=gH h1
 rcases h1 with⟨hz,h1⟩|⟨hz,h1⟩
 ·simp only[bg,bL] at h1
  obtain⟨rfl,rfl⟩:=h1
  exact⟨_,rfl,fun s2 a=>⟨E,hE,ln,hl,cn,hc,by simp only[hcond,hz,cT,a.next]⟩⟩
 ·simp only[bg,bL] at h1
  obtain⟨rfl,rfl⟩:=h1
  exact⟨_,rfl,fun s2 a=>⟨E,hE,ln,hl,cn,hc,by simp only[hcond,hz,cT,cF,a.next]⟩⟩
theorem ahR (t:TypeId) (len:Nat) (parts:List (Nat×Operand)) (mu:Bool) (env:bj):c8 mk (fun _ s=>dV P t len parts mu env s):=by
 refine c8.of_any ?_
 intro s u s' h1
 simp only[dV,aG] at h1 ⊢
 obtain⟨E,hE,h1⟩:=h1
 replace h1:=bX h1
 obtain⟨hcond,h1⟩:=h1
 simp only[aG] at h1
 obtain⟨cs,hcs,h1⟩:=h1
 replace h1:=gH h1
 rcases h1 with⟨hz,h1⟩|⟨hz,h1⟩
 ·simp only[bg,bL] at h1
  obtain⟨rfl,rfl⟩:=h1
  exact .inr (.inl ⟨_,rfl,fun s2 a=>⟨E,hE,by simp only[hcond,cT,hcs,aq,hz,a.next]⟩⟩)
 ·simp only[aG] at h1
  obtain⟨xs,hxs,h1⟩:=h1
  simp only[bg,bL] at h1
  obtain⟨rfl,rfl⟩:=h1
  exact .inl ⟨rfl,fun s2 a=>⟨E,hE,by simp only[hcond,cT,hcs,aq,hz,cF,hxs]⟩⟩
theorem ahP (t:TypeId) (x y:aj) (mu:Bool):c8 mk (fun _ s=>jN P mk t x y mu s):=by
 refine c8.of_any ?_
 intro s u s' h1
 simp only[jN,aG] at h1 ⊢
 obtain⟨E,hE,ys,hys,h1⟩:=h1
 have hro: ∀s2,iC mk s s2->j2 mk E.g E.n y s2=some ys:=fun s2 a=>S7 E.g E.n y s s2 ys hys (fun n o ho=>a.look ho)
 have fin: ∀ {Q1 Q2 Q3 Q4:Prop},Q1\/Q2\/Q3\/Q4->Q1\/Q2\/Q3\/Q4:=fun h=>h
 cases ys with
 |nil=>
  replace h1:=bX h1
  obtain⟨hsl,h1⟩:=h1
  simp only[bg,bL] at h1
  obtain⟨rfl,rfl⟩:=h1
  exact .inl ⟨rfl,fun s2 a=>⟨E,hE,[],hro s2 a,by simp only[hsl,cT]⟩⟩
 |cons y0 yr=>
  simp only at h1
  have made: ∀(zs:List aj),kr E mu zs s=some (u,s')-> ∃o,s'=s.new o/\ ∀s2,iC mk s s2->kr E mu zs s2=some (u,s2.new o):=by
   intro zs hm
   simp only[kr] at hm ⊢
   replace hm:=bX hm
   obtain⟨hr,hm⟩:=hm
   replace hm:=gH hm
   rcases hm with⟨hz,hm⟩|⟨hz,hm⟩
   ·simp only[bg,bL] at hm
    obtain⟨rfl,rfl⟩:=hm
    exact⟨_,rfl,fun s2 a=>by simp only[hr,hz,cT,a.next]⟩
   ·simp only[bg,bL] at hm
    obtain⟨rfl,rfl⟩:=hm
    exact⟨_,rfl,fun s2 a=>by simp only[hr,hz,cT,cF,a.next]⟩
  unfold lA at h1
  split at h1
  ·obtain⟨o,ho,hm⟩:=made _ h1
   exact .inr (.inl ⟨o,ho,fun s2 a=>⟨E,hE,_,hro s2 a,by simp only[lA];exact hm s2 a⟩⟩)
  ·replace h1:=bX h1
   obtain⟨hsz,h1⟩:=h1
   obtain⟨o,ho,hm⟩:=made _ h1
   exact .inr (.inl ⟨o,ho,fun s2 a=>⟨E,hE,_,hro s2 a,by simp only[lA,hsz,cT];exact hm s2 a⟩⟩)
  ·simp only[aG] at h1
   obtain⟨ob,hob,h1⟩:=h1
   split at h1
   ·replace h1:=bX h1
    obtain⟨hr,h1⟩:=h1
    simp only[bg,bL] at h1
    obtain⟨rfl,rfl⟩:=h1
    exact .inr (.inr (.inr ⟨_,_,none,_,hob,rfl,fun s2 a=>⟨E,hE,_,hro s2 a,by simp only[lA,a.look hob,aq,hr,cT,a.next]⟩⟩))
   ·cases h1
  ·simp only[aG] at h1
   obtain⟨ob,hob,h1⟩:=h1
   split at h1
   ·replace h1:=bX h1
    obtain⟨hr,h1⟩:=h1
    replace h1:=gH h1
    rcases h1 with⟨he,h1⟩|⟨he,h1⟩
    ·simp only[bg,bL] at h1
     obtain⟨rfl,rfl⟩:=h1
     exact .inr (.inr (.inr ⟨_,_,none,_,hob,rfl,fun s2 a=>⟨E,hE,_,hro s2 a,by simp only[lA,a.look hob,aq,hr,he,cT,a.next]⟩⟩))
    ·replace h1:=bX h1
     obtain⟨hl,h1⟩:=h1
     simp only[aG] at h1
     obtain⟨cs',hw,h1⟩:=h1
     simp only[bg,bL] at h1
     obtain⟨rfl,rfl⟩:=h1
     exact .inr (.inr (.inl ⟨_,_,_,hob,rfl,fun s2 a=>⟨E,hE,_,hro s2 a,by simp only[lA,a.look hob,aq,hr,he,cT,cF,hl,hw]⟩⟩))
   ·cases h1
  ·cases h1
theorem ahW (t:TypeId) (x y:aj):c8 mk (fun _ s=>wX P mk t x y s):=by
 refine c8.of_any ?_
 intro s u s' h1
 simp only[wX,aG] at h1 ⊢
 obtain⟨E,hE,ys,hys,h1⟩:=h1
 have hro: ∀s2,iC mk s s2->j2 mk E.g E.n y s2=some ys:=fun s2 a=>S7 E.g E.n y s s2 ys hys (fun n o ho=>a.look ho)
 split at h1
 ·simp only[bg,bL] at h1
  obtain⟨rfl,rfl⟩:=h1
  exact .inl ⟨rfl,fun s2 a=>⟨E,hE,ys,hro s2 a,rfl⟩⟩
 ·simp only[bg,bL] at h1
  obtain⟨rfl,rfl⟩:=h1
  exact .inl ⟨rfl,fun s2 a=>⟨E,hE,ys,hro s2 a,rfl⟩⟩
 ·replace h1:=bX h1
  obtain⟨hr,h1⟩:=h1
  simp only[aG] at h1
  obtain⟨ob,hob,h1⟩:=h1
  split at h1
  ·simp only[aG] at h1
   obtain⟨cs',hw,h1⟩:=h1
   simp only[bg,bL] at h1
   obtain⟨rfl,rfl⟩:=h1
   exact .inr (.inr (.inl ⟨_,_,_,hob,rfl,fun s2 a=>⟨E,hE,ys,hro s2 a,by simp only[hr,cT,a.look hob,aq,hw]⟩⟩))
  ·cases h1
 ·cases h1
theorem ahU (t:TypeId) (x:aj):c8 mk (fun _ s=>(rX P mk t x s).bind fun s'=>some (aj.tup [],s')):=by
 refine c8.of_any ?_
 intro s u s' h1
 simp only[aG] at h1 ⊢
 obtain⟨s1,h1,h2⟩:=h1
 simp only[bg,bL] at h2
 obtain⟨rfl,rfl⟩:=h2
 unfold rX at h1
 split at h1
 ·injection h1 with h1;subst h1
  exact .inl ⟨rfl,fun s2 a=>⟨s2,rfl,rfl⟩⟩
 ·injection h1 with h1;subst h1
  exact .inl ⟨rfl,fun s2 a=>⟨s2,rfl,rfl⟩⟩
 ·simp only[aG] at h1
  obtain⟨ob,hob,h1⟩:=h1
  split at h1
  ·injection h1 with h1;subst h1
   exact .inr (.inr (.inl ⟨_,_,_,hob,rfl,fun s2 a=>⟨_,by simp only[rX,a.look hob,aq],rfl⟩⟩))
  ·cases h1
 ·injection h1 with h1;subst h1
  exact .inl ⟨rfl,fun s2 a=>⟨s2,rfl,rfl⟩⟩
 ·replace h1:=gH h1
  rcases h1 with⟨he,h1⟩|⟨he,h1⟩
  ·injection h1 with h1;subst h1
   exact .inl ⟨rfl,fun s2 a=>⟨s2,by simp only[rX,he,cT],rfl⟩⟩
  ·simp only[aG] at h1
   obtain⟨E,hE,h1⟩:=h1
   replace h1:=bX h1
   obtain⟨hr,h1⟩:=h1
   simp only[aG] at h1
   obtain⟨ob,hob,h1⟩:=h1
   split at h1
   ·simp only[aG] at h1
    obtain⟨cs',hw,h1⟩:=h1
    injection h1 with h1;subst h1
    exact .inr (.inr (.inl ⟨_,_,_,hob,rfl,fun s2 a=>⟨_,by simp only[rX,he,cF,hE,aq,hr,cT,a.look hob,hw],rfl⟩⟩))
   ·cases h1
 ·cases h1
theorem c8.pureOpt {α:Type} (f:Option α):c8 mk (fun _ s=>f.bind fun v=>some (v,s)):=by
 refine c8.of_same ?_
 intro s u s' h1
 simp only[aG] at h1
 obtain⟨v,hv,h1⟩:=h1
 simp only[bg,bL] at h1
 obtain⟨rfl,rfl⟩:=h1
 exact⟨rfl,fun s2 a=>by simp[hv]⟩
theorem ahS (b:Builtin) (ts:List TypeId) (mu:Bool) (args:List aj):c8 mk (fun _ s=>lD P mk b ts mu args s):=by
 intro ch s u s' h1
 unfold lD at h1 ⊢
 split at h1
 ·refine c8.of_same (f:=fun s=>(gW P mk _ _ s).bind fun v=>some (v,s)) ?_ ch s u s' h1
  intro s u s' h1
  simp only[aG] at h1 ⊢
  obtain⟨v,hv,h1⟩:=h1
  simp only[bg,bL] at h1
  obtain⟨rfl,rfl⟩:=h1
  exact⟨rfl,fun s2 a=>⟨v,aku _ _ s s2 v hv (fun n o ho=>a.look ho),rfl⟩⟩
 ·cases hc:lK P _ with
  |false=>rw[hc] at h1;cases h1
  |true=>
   rw[hc] at h1
   simp only[cT] at h1 ⊢
   exact ahP _ _ _ mu ch s u s' h1
 ·exact ahW _ _ _ ch s u s' h1
 ·rename_i t x
  simp only[aG] at h1
  obtain⟨d,hd,s3,hs3,h1⟩:=h1
  have:=ahU (P:=P) (mk:=mk) t x ch s u s' (by simp only[hs3,aq];exact h1)
  refine⟨this.1,fun ch' s2 hc a=>?_⟩
  obtain⟨s2',h2,h3⟩:=this.2 ch' s2 hc a
  exact⟨s2',by simpa[hd] using h2,h3⟩
 ·exact c8.pureOpt _ ch s u s' h1
 ·exact c8.pureOpt _ ch s u s' h1
 ·cases h1
theorem ah7 (t:TypeId) (a v:aj) (loc:Loc):bV mk (fun _ s=>(pS P mk t a v loc s).bind fun r=>some (ii,r.1,r.2)):=by
 intro ch s u l' s' h
 simp only[aG] at h
 obtain⟨⟨l1,s1⟩,h1,h⟩:=h
 simp only[bg,bL] at h
 obtain⟨rfl,rfl,rfl⟩:=h
 simp only[pS,aG] at h1
 obtain⟨n,hn,h1⟩:=h1
 replace h1:=bX h1
 obtain⟨hc,h1⟩:=h1
 split at h1
 ·simp only[aG] at h1
  obtain⟨cs,hcs,cs',hw,h1⟩:=h1
  simp only[bg,bL] at h1
  obtain⟨rfl,rfl⟩:=h1
  exact⟨.refl mk _,fun ch' s2 _ x=>⟨s2,by simp only[pS,hn,aq,hc,cT,hcs,hw],.refl x⟩⟩
 ·simp only[aG] at h1
  obtain⟨ob,hob,h1⟩:=h1
  split at h1
  ·simp only[aG] at h1
   obtain⟨cs',hw,h1⟩:=h1
   simp only[bg,bL] at h1
   obtain⟨rfl,rfl⟩:=h1
   exact⟨.put hob _,fun ch' s2 _ x=>⟨_,by simp only[pS,hn,aq,hc,cT,x.look hob,hw],.put x hob _⟩⟩
  ·cases h1
 ·cases h1
theorem ahQ (h:Nat) (dst:Option Tmp) (cs:List aj) (loc:Loc):bV mk (fun _ s=>oJ h dst cs loc s):=by
 intro ch s u l' s' h1
 unfold oJ at h1 ⊢
 replace h1:=gH h1
 rcases h1 with⟨hb,h1⟩|⟨hb,h1⟩
 ·simp only[aG] at h1
  obtain⟨t,ht,h1⟩:=h1
  simp only[bg,bL] at h1
  obtain⟨rfl,rfl,rfl⟩:=h1
  exact⟨.refl mk _,fun ch' s2 _ x=>⟨s2,by simp only[hb,cT,ht,aq],.refl x⟩⟩
 ·simp only[bg,bL] at h1
  obtain⟨rfl,rfl,rfl⟩:=h1
  exact⟨.new mk s _,fun ch' s2 _ x=>⟨_,by simp only[hb,cF,x.next],.new x _⟩⟩
theorem RI (hint:Tmp->Nat) (dst:Option Tmp) (c:Call) (fr:Fr):bV mk (fun _ s=>qw P mk hint dst c fr s):=by
 unfold qw
 split
 ·exact bV.bind _ fun args _=>bV.vs (ahS _ _ _ _) _
 ·exact bV.none
theorem ahO (kmax:Nat->Nat) (hint:Tmp->Nat) (dst:Option Tmp) (op:Op) (fr:Fr):bV mk (fun ch s=>kg P mk ch kmax hint dst op fr s):=by
 cases op<;>simp only[kg]<;>first
  |exact bV.none
  |exact bV.const _ _
  |exact bV.bind _ fun z _=>ahQ _ _ _ _
  |exact bV.vs (ahR _ _ _ _ _) _
  |exact bV.vs (ah0 _ _ _) _
  |exact bV.bind _ fun a _=>bV.ro (S8 _ _ _) _
  |exact bV.bind _ fun a _=>bV.bind _ fun x _=>ah7 _ _ _ _
  |exact bV.bind _ fun a _=>bV.const _ _
  |exact bV.bind _ fun a _=>bV.bind _ fun b _=>bV.const _ _
  |exact bV.bind _ fun a _=>bV.bind _ fun b _=>bV.vs (ah1 _ _ _ _) _
  |exact bV.bind _ fun a _=>bV.ro (akw _ _ _ _ _ _) _
  |exact bV.bind _ fun a _=>bV.bind _ fun b _=>bV.ro (akv _ _ _ _) _
  |exact bV.bind _ fun a _=>bV.bind _ fun b _=>bV.bind _ fun c _=>ah8 _ _ _ _ _
  |exact bV.bind _ fun a _=>bV.bind _ fun b _=>bV.vs (ah2 _ _ _) _
  |exact bV.bind _ fun a _=>bV.bind _ fun b _=>bV.bind _ fun c _=>ahY _ _ _ _
  |exact bV.bind _ fun a _=>bV.vs (ah4 _ _) _
  |exact bV.bind _ fun a _=>bV.vs (RH _ _ _) _
  |exact bV.bind _ fun a _=>bV.ro (akt _) _
  |exact RI _ _ _ _
end
section
variable {mk:bn} {α β γ δ:Type}
theorem c8.none:c8 (α:=α) mk (fun _ _=>.none):=by intro ch s v s' h;cases h
theorem c8.opt (x:Option β) {k:β->(Nat->Nat)->St->Option (α×St)} (hk: ∀b,x=some b->c8 mk (k b)):c8 mk (fun ch s=>x.bind fun b=>k b ch s):=by
 cases x with
 |none=>intro ch s v s' h;cases h
 |some b=>exact hk b rfl
theorem c8.ret (a:α):c8 mk (fun _ s=>some (a,s)):=by
 intro ch s v s' h
 simp only[bg,bL] at h
 obtain⟨rfl,rfl⟩:=h
 exact⟨.refl mk _,fun ch' s2 _ x=>⟨s2,rfl,.refl x⟩⟩
theorem bV.ret (a:α) (b:β):bV mk (fun _ s=>some (a,b,s)):=by
 intro ch s v l s' h
 simp only[bg,bL] at h
 obtain⟨rfl,rfl,rfl⟩:=h
 exact⟨.refl mk _,fun ch' s2 _ x=>⟨s2,rfl,.refl x⟩⟩
theorem c8.then1 {x:(Nat->Nat)->St->Option (α×St)} {k:α->(Nat->Nat)->St->Option (β×St)} (hx:c8 mk x) (hk: ∀a,c8 mk (k a)):c8 mk (fun ch s=>(x ch s).bind fun r=>k r.1 ch r.2):=by
 intro ch s v s' h
 simp only[aG] at h
 obtain⟨⟨a,s1⟩,h1,h2⟩:=h
 obtain⟨g1,e1⟩:=hx ch s a s1 h1
 obtain⟨g2,e2⟩:=hk a ch s1 v s' h2
 refine⟨g1.trans g2,fun ch' s2 hc y=>?_⟩
 obtain⟨s2',q1,q2⟩:=e1 ch' s2 (fun i hi=>hc i (gu hi g2.ci)) y
 obtain⟨s2'',q3,q4⟩:=e2 ch' s2' hc (q2.sees y g1)
 exact⟨s2'',by simp only[q1,aq];exact q3,q2.trans g1 g2 q4⟩
theorem c8.then3 {x:(Nat->Nat)->St->Option (α×St)} {k:α->(Nat->Nat)->St->Option (β×γ×St)} (hx:c8 mk x) (hk: ∀a,bV mk (k a)):bV mk (fun ch s=>(x ch s).bind fun r=>k r.1 ch r.2):=by
 intro ch s v l s' h
 simp only[aG] at h
 obtain⟨⟨a,s1⟩,h1,h2⟩:=h
 obtain⟨g1,e1⟩:=hx ch s a s1 h1
 obtain⟨g2,e2⟩:=hk a ch s1 v l s' h2
 refine⟨g1.trans g2,fun ch' s2 hc y=>?_⟩
 obtain⟨s2',q1,q2⟩:=e1 ch' s2 (fun i hi=>hc i (gu hi g2.ci)) y
 obtain⟨s2'',q3,q4⟩:=e2 ch' s2' hc (q2.sees y g1)
 exact⟨s2'',by simp only[q1,aq];exact q3,q2.trans g1 g2 q4⟩
theorem bV.then1 {x:(Nat->Nat)->St->Option (α×β×St)} {k:α->β->(Nat->Nat)->St->Option (γ×St)} (hx:bV mk x) (hk: ∀a b,c8 mk (k a b)):c8 mk (fun ch s=>(x ch s).bind fun r=>k r.1 r.2.1 ch r.2.2):=by
 intro ch s v s' h
 simp only[aG] at h
 obtain⟨⟨a,b,s1⟩,h1,h2⟩:=h
 obtain⟨g1,e1⟩:=hx ch s a b s1 h1
 obtain⟨g2,e2⟩:=hk a b ch s1 v s' h2
 refine⟨g1.trans g2,fun ch' s2 hc y=>?_⟩
 obtain⟨s2',q1,q2⟩:=e1 ch' s2 (fun i hi=>hc i (gu hi g2.ci)) y
 obtain⟨s2'',q3,q4⟩:=e2 ch' s2' hc (q2.sees y g1)
 exact⟨s2'',by simp only[q1,aq];exact q3,q2.trans g1 g2 q4⟩
theorem bV.then3 {x:(Nat->Nat)->St->Option (α×β×St)} {k:α->β->(Nat->Nat)->St->Option (γ×δ×St)} (hx:bV mk x) (hk: ∀a b,bV mk (k a b)):bV mk (fun ch s=>(x ch s).bind fun r=>k r.1 r.2.1 ch r.2.2):=by
 intro ch s v l s' h
 simp only[aG] at h
 obtain⟨⟨a,b,s1⟩,h1,h2⟩:=h
 obtain⟨g1,e1⟩:=hx ch s a b s1 h1
 obtain⟨g2,e2⟩:=hk a b ch s1 v l s' h2
 refine⟨g1.trans g2,fun ch' s2 hc y=>?_⟩
 obtain⟨s2',q1,q2⟩:=e1 ch' s2 (fun i hi=>hc i (gu hi g2.ci)) y
 obtain⟨s2'',q3,q4⟩:=e2 ch' s2' hc (q2.sees y g1)
 exact⟨s2'',by simp only[q1,aq];exact q3,q2.trans g1 g2 q4⟩
end
theorem bV.weaken {α β:Type} {mk mk':bn} (hm: ∀n,dJ mk n=true->dJ mk' n=true) {x:(Nat->Nat)->St->Option (α×β×St)} (hx:bV mk' x):bV mk x:=by
 have hv: ∀n,dJ mk' n=false->dJ mk n=false:=fun n h=>by
  cases e:dJ mk n with
  |false=>rfl
  |true=>rw[hm n e] at h;cases h
 have ht: ∀ {s s':St} {n:Nat},kT mk' s s' n->kT mk s s' n:=fun t=>t.imp (fun t=>⟨hv _ t.1,t.2⟩) id
 intro ch s a b s' h
 obtain⟨g,e⟩:=hx ch s a b s' h
 refine⟨⟨g.next,g.ci,g.minw,fun n h=>g.frame n (fun t=>h (ht t)),g.noted⟩,fun ch' s2 hc y=>?_⟩
 obtain⟨s2',q1,q2⟩:=e ch' s2 hc ⟨y.next,y.minw,y.ci,fun n o hn ho=>y.get n o (hv n hn) ho⟩
 refine⟨s2',q1,⟨q2.next,q2.minw,q2.ci,fun n t=>?_,fun n t=>q2.outside n (fun t'=>t (ht t'))⟩⟩
 by_cases t':kT mk' s s' n
 ·exact q2.inside n t'
 ·rw[q2.outside n t',g.frame n t']
  rcases t with⟨t1,t2⟩|t
  ·cases h:s.heap.get n with
   |none=>exact absurd h t2
   |some o=>exact y.get n o t1 h
  ·exact absurd (.inr t) t'
theorem IE {bi:Nat} {rs:List dU} {mk:bn} {n:Nat} (h:dJ mk n=true):dJ (je bi rs mk) n=true:=by
 induction rs with
 |nil=>exact h
 |cons r rs ih=>
  unfold je
  cases bi.testBit r.i||be r.c0 r.c1
  ·simp only[cF,dJ,ih,Bool.or_true]
  ·simpa using ih
def cw.at (Q:cw) (ch:Nat->Nat):cw:= {Q with ch:=ch }
theorem FU {mk:bn} {s s2:St} (y:iC mk s s2): ∀(x:Rd) (v:aj),ng (s.get mk) x=some v->ng (s2.get mk) x=some v
 | .ret _,_,h=>h
 | .ask n k,v,h=>by
   simp only[ng,aG] at h ⊢
   obtain⟨o,h1,h2⟩:=h
   exact⟨o,y.look h1,FU y (k o) v h2⟩
theorem ah5 (mk:bn) (x:Rd):c8 mk (fun _ s=>(ng (s.get mk) x).bind fun v=>some (v,s)):=by
 intro ch s v s' h
 simp only[aG,bg,bL] at h
 obtain⟨u,h1,rfl,rfl⟩:=h
 exact⟨.refl mk _,fun ch' s2 _ y=>⟨s2,by show(ng (s2.get mk) x).bind _=_;rw[FU y x u h1];rfl,.refl y⟩⟩
structure Bv (r:(Nat->Nat)->lw):Prop where
 ops: ∀f all mk l fr,c8 mk (fun ch s=>(r ch).ops f all mk l fr s)
 draw: ∀f all bs mk rs i l fr,c8 mk (fun ch s=>(r ch).draw f all bs mk rs i l fr s)
 code: ∀f c mk fr,bV mk (fun ch s=>(r ch).code f c mk fr s)
 call: ∀f args mk,c8 mk (fun ch s=>(r ch).call f args mk s)
theorem ahZ {α:Type} {mk:bn} {n:Nat} {k:bH->(Nat->Nat)->St->Option (α×bH×St)} (hk: ∀o,bV mk (k o)):
 c8 mk (fun ch s=>(s.get mk n).bind fun o=>(k o ch (s.put n none)).bind fun x=>some (x.1,x.2.2.put n (some x.2.1))):=by
 intro ch s v s' h
 simp only[aG,bg,bL] at h
 obtain⟨o,h1,⟨u,o',s3⟩,h2,rfl,rfl⟩:=h
 obtain⟨g,e⟩:=hk o ch (s.put n none) u o' s3 h2
 refine⟨g.hide h1 o',fun ch' s2 hc y=>?_⟩
 obtain⟨s23,q1,q2⟩:=e ch' (s2.put n none) hc ((gG.put y h1 none).sees y (fO.put h1 none))
 exact⟨s23.put n (some o'),by simp only[y.look h1,aq,q1],q2.hide y h1 o'⟩
section
variable {Q:cw} {r:(Nat->Nat)->lw} (hr:Bv r)
include hr
theorem ah9 (n:Nat) (args:List aj) (mk:bn):c8 mk (fun ch s=>lm (r ch) n args mk s):=by
 unfold lm
 refine ahZ fun o=>?_
 unfold uv
 split
 ·rename_i f env size ps a b
  cases ps.all (fun t=>bT t size)
  ·exact bV.none
  ·simp only[cT]
   refine bV.bind _ fun env' _=>?_
   refine bV.then3 (k:=fun x fr ch s=>tc (r ch) f env size ps a b mk (x,fr,s)) (hr.code f a mk _) fun x fr=>?_
   cases x with
   |normal=>
    refine bV.then3 (k:=fun x fr _ s=>uu f env size ps a b (x,fr,s)) (hr.code f b mk _) fun x fr=>?_
    cases x<;>exact bV.ret _ _
   |exit i=>exact bV.none
   |ret=>exact bV.none
 ·exact bV.none
theorem xI (f:FuncId) (o:Oper) (mk:bn) (fr:Fr):bV mk (fun ch s=>fA (Q.at ch) (r ch) f o mk fr s):=by
 unfold fA
 split
 ·split
  ·exact RI _ _ _ _
  ·rename_i c _ _ _
   cases mj fr.env c
   ·unfold lF
    exact bV.bind _ fun g _=>c8.then3 (hr.call g.1 g.2 mk) fun v=>bV.ret v fr.loc
   ·unfold o0
    exact bV.bind _ fun g _=>c8.then3 (ah9 hr g.1 g.2 mk) fun v=>bV.ret v fr.loc
 ·exact ahO _ _ _ _ _
theorem ah3 (f:FuncId) (all:Array Oper) (mk:bn) (l:List Oper) (fr:Fr):c8 mk (fun ch s=>kQ (Q.at ch) (r ch) f all mk l fr s):=by
 unfold kQ
 split
 ·exact c8.ret fr
 ·rename_i o rest
  cases eX all fr.env o
  ·exact c8.opt _ fun fr' _=>hr.ops f all mk rest fr'
  ·exact bV.then1 (xI hr f o mk fr) fun v l=>c8.opt (ee fr o.dst v l) fun fr' _=>hr.ops f all mk rest fr'
theorem ahX (f:FuncId) (all:Array Oper) (bs:List Nat) (mk:bn) (rs:List dU) (i:Nat) (l:List Oper) (fr:Fr):c8 mk (fun ch s=>lH (Q.at ch) (r ch) f all bs mk rs i l fr s):=by
 unfold lH
 split
 ·exact c8.ret fr
 ·rename_i o rest
  cases eX all fr.env o
  ·exact c8.opt _ fun fr' _=>hr.draw f all bs.tail mk rs (i+1) rest fr'
  ·intro ch s v s' h
   simp only[cT,aG] at h
   obtain⟨⟨u,l,s1⟩,h1,h⟩:=h
   replace h:=bX h
   obtain⟨hc,h⟩:=h
   simp only[aG] at h
   obtain⟨fr',hfr,h⟩:=h
   have hl:=bV.weaken (fun n hn=>IE (bi:=bs.headD 0) (rs:=rs) hn) (xI (Q:=Q) hr f o (je (bs.headD 0) rs mk) fr)
   obtain⟨g1,e1⟩:=hl ch ⟨s.heap,s.next,s.next,s.ci⟩ u l s1 h1
   obtain⟨g2,e2⟩:=hr.draw _ _ _ _ _ _ _ _ ch (s.least s1) v s' h
   have hle:(bif cy s.minw s1.minw then s.minw else s1.minw)<=s.minw/\(bif cy s.minw s1.minw then s.minw else s1.minw)<=s1.minw:=by
    cases e:cy s.minw s1.minw
    ·rw[oS] at e
     have:=of_decide_eq_false e
     simp only[cF]
     omega
    ·have:=jl e
     simp only[cT]
     omega
   have g1':fO mk s (s.least s1):=⟨g1.next,g1.ci,hle.1,g1.frame,fun n hn hne=>fW hle.2 (g1.noted n hn hne)⟩
   refine⟨g1'.trans g2,fun ch' s2 hch y=>?_⟩
   obtain⟨s21,q1,q2⟩:=e1 ch' ⟨s2.heap,s2.next,s2.next,s2.ci⟩ (fun j hj=>hch j (gu hj g2.ci)) ⟨y.next,y.next,y.ci,y.get⟩
   have q2':gG mk s (s.least s1) s2 (s2.least s21):=⟨q2.next,by show(bif cy s2.minw s21.minw then s2.minw else s21.minw)=(bif cy s.minw s1.minw then s.minw else s1.minw);rw[y.minw,q2.minw],q2.ci,q2.inside,q2.outside⟩
   obtain⟨s2',q3,q4⟩:=e2 ch' (s2.least s21) hch (q2'.sees y g1')
   refine⟨s2',?_,q2'.trans g1' g2 q4⟩
   simp only[cT]
   rw[y.next,y.ci] at q1 ⊢
   simp only[q1,aq,q2.minw,q2.ci,q2.next]
   have hc':(fits (bs.headD 0) (dy ((Q.at ch').hint f) o.dst fr.env o.op) (s1.minw.blt s.next||isStore o.op) rs&&s.ci.beq s1.ci)=true:=hc
   rw[hc']
   simp only[cT]
   rw[hfr]
   exact q3
theorem ahV (f:FuncId) (c:Code) (mk:bn) (fr:Fr):bV mk (fun ch s=>rZ (Q.at ch) (r ch) f c mk fr s):=by
 have hseq: ∀(x:Ex) (fr:Fr) (b:Code),bV mk (fun ch s=>ni (r ch) f b mk (x,fr,s)):=by
  intro x fr b
  cases x with
  |normal=>exact hr.code f b mk fr
  |exit i=>exact bV.ret _ _
  |ret=>exact bV.ret _ _
 cases c<;>simp only[rZ]<;>first
  |exact bV.none
  |exact bV.ret _ _
  |exact bV.then3 (hr.code f _ mk fr) fun x fr=>hseq x fr _
  |exact hr.code f _ mk fr
  |skip
 ·
  rename_i id ops draw
  unfold AN
  cases draw
  ·exact c8.then3 (k:=fun fr _ s=>some (Ex.normal,fr,s)) (hr.ops f ops mk ops.toList fr) fun fr=>bV.ret _ _
  ·simp only[cT]
   cases kU ops 0 ops.toList (Region.before ops).toList
   ·exact bV.none
   ·exact c8.then3 (k:=fun fr _ s=>some (Ex.normal,fr,s)) (hr.draw f ops _ mk [] 0 ops.toList fr) fun fr=>bV.ret _ _
 ·
  rename_i x a b
  refine bV.bind _ fun v _=>?_
  unfold u4
  split
  ·exact hr.code f _ mk fr
  ·exact hr.code f _ mk fr
  ·exact bV.none
 ·
  rename_i id b
  refine bV.then3 (k:=fun x fr _ s=>some (nM id (x,fr,s))) (hr.code f b mk fr) fun x fr=>?_
  cases x with
  |normal=>exact bV.ret _ _
  |ret=>exact bV.ret _ _
  |exit i=>
   simp only[nM]
   cases be i id
   ·exact bV.ret _ _
   ·exact bV.ret _ _
 ·
  rename_i g ps a b
  refine bV.bind _ fun v _=>?_
  unfold rr
  split
  ·rename_i h first captured _
   show bV mk (fun ch s=>bif mf Q.P h&&(fr.env.all ri&&(fq a&&fq b)) then _ else none)
   cases mf Q.P h&&(fr.env.all ri&&(fq a&&fq b))
   ·exact bV.none
   ·simp only[cT]
    intro ch s x fr' s' h'
    simp only[aG] at h'
    obtain⟨⟨v,s1⟩,h1,h2⟩:=h'
    simp only[ug,aG] at h2
    obtain⟨o,h3,h4⟩:=h2
    obtain⟨g1,e1⟩:=hr.call h _ mk ch _ v s1 h1
    have g0:=fO.new mk s (.loop f fr.env fr.size ps.toList a b none)
    cases o with
    |loop f' env' size' ps' a' b' p=>
     simp only[bg,bL] at h4
     obtain⟨rfl,rfl,rfl⟩:=h4
     have g2:=fO.put h3 (mk:=mk) none
     refine⟨(g0.trans g1).trans g2,fun ch' s2 hc y=>?_⟩
     have s0:=gG.new y (.loop f fr.env fr.size ps.toList a b none)
     obtain⟨s21,q1,q2⟩:=e1 ch' _ hc (s0.sees y g0)
     have hn:s2.next=s.next:=y.next
     have y1:=q2.sees (s0.sees y g0) g1
     refine⟨s21.put s.next none,?_,(s0.trans g0 g1 q2).trans (g0.trans g1) g2 (.put y1 h3 none)⟩
     simp only[hn,q1,aq,ug,y1.look h3]
    |cells _=>cases h4
    |tok=>cases h4
    |map _ _=>cases h4
    |iter _ _ _ _=>cases h4
  ·exact bV.none
omit hr in
theorem RJ (mk:bn) (fr:Fr) (l:List ResultVar):RO mk (fun s=>gQ Q mk fr s l):=by
 intro s s2 b h hl
 induction l generalizing b with
 |nil=>exact h
 |cons x l ih=>
  simp only[gQ,aG] at h ⊢
  obtain⟨v,hv,vs,hvs,h⟩:=h
  refine⟨v,?_,vs,ih vs hvs,h⟩
  cases x with
  |tmp t=>exact hv
  |cell a t=>exact S8 t _ fr.loc s s2 v hv hl
theorem ahT (f:FuncId) (args:List aj) (mk:bn):c8 mk (fun ch s=>jx (Q.at ch) (r ch) f args mk s):=by
 unfold jx
 show c8 mk (fun ch s=>match Q.spec f with
  |some sp=>(sp args).bind fun v=>some (v,s)
  |none=>match Q.specH f with
   |some sp=>(ng (s.get mk) (sp args)).bind fun v=>some (v,s)
   |none=>match Q.specW f with
   |some sp=>(sp args).bind (qz mk s)
   |none=>(Q.P.funcs[f]?).bind fun fn=>fn.body.bind fun c=>
    ((r ch).code f c mk ⟨cY 0 args,bif cy args.length fn.ntmps then fn.ntmps else args.length,[]⟩ s).bind (nS (Q.at ch) fn mk))
 cases Q.spec f with
 |some sp=>exact c8.pureOpt _
 |none=>
  cases Q.specH f with
  |some sp=>exact ah5 mk (sp args)
  |none=>
  cases Q.specW f with
  |some sp=>
   refine c8.opt (k:=fun p _ s=>qz mk s p) (sp args) fun p _=>?_
   cases p with
   |none=>exact c8.ret _
   |some p=>
   refine c8.of_put (f:=fun s=>(s.get mk p.1).bind (vV s p)) ?_
   intro s a s' h
   simp only[aG] at h
   obtain⟨o,h1,h⟩:=h
   cases o<;>simp only[vV,aG,bg,bL,reduceCtorEq] at h
   obtain⟨cs',h2,rfl,rfl⟩:=h
   exact⟨p.1,_,_,h1,rfl,fun s2 y=>by simp only[y.look h1,aq,vV,h2]⟩
  |none=>
  refine c8.opt _ fun fn _=>c8.opt _ fun c _=>?_
  refine bV.then1 (k:=fun x fr ch s=>nS (Q.at ch) fn mk (x,fr,s)) (hr.code f c mk _) fun x fr=>?_
  have fin:c8 mk (fun(ch:Nat->Nat) s=>(gQ (Q.at ch) mk fr s fn.results.toList).bind fun vs=>some (jQ vs,s)):=by
   intro ch s v s' h
   simp only[aG] at h
   obtain⟨vs,hvs,h⟩:=h
   simp only[bg,bL] at h
   obtain⟨rfl,rfl⟩:=h
   refine⟨.refl mk _,fun ch' s2 _ y=>⟨s2,?_,.refl y⟩⟩
   have:=RJ (Q:=Q.at ch) mk fr fn.results.toList s s2 vs hvs (fun n o ho=>y.look ho)
   have:gQ (Q.at ch') mk fr s2 fn.results.toList=some vs:=by
    rw[<-this]
    clear hvs this
    generalize fn.results.toList=l
    induction l with
    |nil=>rfl
    |cons x l ih=>simp only[gQ,ih];cases x<;>rfl
   simp[this]
  cases x with
  |normal=>exact fin
  |ret=>exact fin
  |exit i=>exact c8.none
end
theorem kq (Q:cw): ∀n:Nat,Bv (fun ch=>cN (Q.at ch) n)
 |0=>⟨fun _ _ _ _ _=>c8.none,fun _ _ _ _ _ _ _ _=>c8.none,fun _ _ _ _=>bV.none,fun _ _ _=>c8.none⟩
 |n+1=>⟨fun f all mk l fr=>ah3 (kq Q n) f all mk l fr,fun f all bs mk rs i l fr=>ahX (kq Q n) f all bs mk rs i l fr,
  fun f c mk fr=>ahV (kq Q n) f c mk fr,fun f args mk=>ahT (kq Q n) f args mk⟩
def fB {α:Type} (x:(Nat->Nat)->St->Option (α×St)):Prop:=
 ∀ch s a s',x ch s=some (a,s')-> ∀ch',(∀i,i<s'.ci->ch' i=ch i)->x ch' s=some (a,s')
def fC {α β:Type} (x:(Nat->Nat)->St->Option (α×β×St)):Prop:=
 ∀ch s a b s',x ch s=some (a,b,s')-> ∀ch',(∀i,i<s'.ci->ch' i=ch i)->x ch' s=some (a,b,s')
theorem fB.const {α:Type} (f:St->Option (α×St)):fB (fun _ s=>f s):=fun _ _ _ _ h _ _=>h
theorem fC.const {α β:Type} (f:St->Option (α×β×St)):fC (fun _ s=>f s):=fun _ _ _ _ _ h _ _=>h
section
variable {mk:bn} {α β γ δ:Type}
theorem fB.opt (x:Option β) {k:β->(Nat->Nat)->St->Option (α×St)} (hk: ∀b,x=some b->fB (k b)):fB (fun ch s=>x.bind fun b=>k b ch s):=by
 cases x with
 |none=>intro ch s v s' h;cases h
 |some b=>exact hk b rfl
theorem fC.opt (x:Option β) {k:β->(Nat->Nat)->St->Option (α×γ×St)} (hk: ∀b,x=some b->fC (k b)):fC (fun ch s=>x.bind fun b=>k b ch s):=by
 cases x with
 |none=>intro ch s v l s' h;cases h
 |some b=>exact hk b rfl
theorem fB.then1 {x:(Nat->Nat)->St->Option (α×St)} {k:α->(Nat->Nat)->St->Option (β×St)} (hx:fB x) (hk: ∀a,fB (k a)) (gk: ∀a,c8 mk (k a)):fB (fun ch s=>(x ch s).bind fun r=>k r.1 ch r.2):=by
 intro ch s v s' h ch' hc
 simp only[aG] at h ⊢
 obtain⟨⟨a,s1⟩,h1,h2⟩:=h
 exact⟨(a,s1),hx ch s a s1 h1 ch' (fun i hi=>hc i (gu hi ((gk a ch s1 v s' h2).1.ci))),hk a ch s1 v s' h2 ch' hc⟩
theorem fB.then3 {x:(Nat->Nat)->St->Option (α×St)} {k:α->(Nat->Nat)->St->Option (β×γ×St)} (hx:fB x) (hk: ∀a,fC (k a)) (gk: ∀a,bV mk (k a)):fC (fun ch s=>(x ch s).bind fun r=>k r.1 ch r.2):=by
 intro ch s v l s' h ch' hc
 simp only[aG] at h ⊢
 obtain⟨⟨a,s1⟩,h1,h2⟩:=h
 exact⟨(a,s1),hx ch s a s1 h1 ch' (fun i hi=>hc i (gu hi ((gk a ch s1 v l s' h2).1.ci))),hk a ch s1 v l s' h2 ch' hc⟩
theorem fC.then1 {x:(Nat->Nat)->St->Option (α×β×St)} {k:α->β->(Nat->Nat)->St->Option (γ×St)} (hx:fC x) (hk: ∀a b,fB (k a b)) (gk: ∀a b,c8 mk (k a b)):fB (fun ch s=>(x ch s).bind fun r=>k r.1 r.2.1 ch r.2.2):=by
 intro ch s v s' h ch' hc
 simp only[aG] at h ⊢
 obtain⟨⟨a,b,s1⟩,h1,h2⟩:=h
 exact⟨(a,b,s1),hx ch s a b s1 h1 ch' (fun i hi=>hc i (gu hi ((gk a b ch s1 v s' h2).1.ci))),hk a b ch s1 v s' h2 ch' hc⟩
theorem fC.then3 {x:(Nat->Nat)->St->Option (α×β×St)} {k:α->β->(Nat->Nat)->St->Option (γ×δ×St)} (hx:fC x) (hk: ∀a b,fC (k a b)) (gk: ∀a b,bV mk (k a b)):fC (fun ch s=>(x ch s).bind fun r=>k r.1 r.2.1 ch r.2.2):=by
 intro ch s v l s' h ch' hc
 simp only[aG] at h ⊢
 obtain⟨⟨a,b,s1⟩,h1,h2⟩:=h
 exact⟨(a,b,s1),hx ch s a b s1 h1 ch' (fun i hi=>hc i (gu hi ((gk a b ch s1 v l s' h2).1.ci))),hk a b ch s1 v l s' h2 ch' hc⟩
end
theorem Wy (mk:bn) (kmax:Nat->Nat) (it:aj) (isString:Bool):fB (fun ch s=>kx mk ch kmax it isString s):=by
 intro ch s u s' h ch' hc
 obtain⟨_,e⟩:=RH (mk:=mk) kmax it isString ch s u s' h
 simp only[kx] at h ⊢
 split at h
 ·rename_i n
  simp only[aG] at h ⊢
  obtain⟨ob,hob,h⟩:=h
  refine⟨ob,hob,?_⟩
  split at h
  ·exact h
  ·rename_i m since seen stepped
   cases isString
   ·simp only[cF,aG] at h ⊢
    obtain⟨ob2,hob2,h⟩:=h
    refine⟨ob2,hob2,?_⟩
    split at h
    ·rename_i es clock
     replace h:=gH h
     rcases h with⟨_,h⟩|⟨hgo,h⟩
     ·cases h
     ·simp only[hgo,cF]
      generalize dx seen es=UL at h ⊢
      unfold m9 at h ⊢
      split at h
      ·exact h
      ·rename_i e1 r
       replace h:=bX h
       obtain⟨hall,h⟩:=h
       simp only[hall,cT]
       split at h
       ·exact h
       ·replace h:=bX h
        obtain⟨hk,h⟩:=h
        simp only[hk,cT]
        simp only[aG] at h ⊢
        obtain⟨e',he',h⟩:=h
        have hlt:s.ci<s'.ci:=by
         simp only[bg,bL] at h
         rw[<-h.2];exact io _
        exact⟨e',by rw[hc s.ci hlt];exact he',h⟩
    ·cases h
   ·cases h
  ·cases h
 ·cases h
theorem Wu {P:Program} (mk:bn) (kmax:Nat->Nat) (hint:Tmp->Nat) (dst:Option Tmp) (op:Op) (fr:Fr):fC (fun ch s=>kg P mk ch kmax hint dst op fr s):=by
 cases op<;>simp only[kg]<;>first
  |exact fC.const _
  |skip
 rename_i it isString
 refine fC.opt _ fun x _=>?_
 intro ch s v l s' h ch' hc
 simp only[gX,aG] at h ⊢
 obtain⟨⟨v1,s1⟩,h1,h⟩:=h
 refine⟨(v1,s1),Wy mk kmax x isString ch s v1 s1 h1 ch' ?_,h⟩
 simp only[bg,bL] at h
 rw[h.2.2];exact hc
structure GK (r:(Nat->Nat)->lw):Prop where
 ops: ∀f all mk l fr,fB (fun ch s=>(r ch).ops f all mk l fr s)
 draw: ∀f all bs mk rs i l fr,fB (fun ch s=>(r ch).draw f all bs mk rs i l fr s)
 code: ∀f c mk fr,fC (fun ch s=>(r ch).code f c mk fr s)
 call: ∀f args mk,fB (fun ch s=>(r ch).call f args mk s)
section
variable {Q:cw} {r:(Nat->Nat)->lw} (hl:Bv r) (hr:GK r)
include hl hr
theorem WA (n:Nat) (args:List aj) (mk:bn):fB (fun ch s=>lm (r ch) n args mk s):=by
 intro ch s v s' h ch' hc
 simp only[lm,aG,bg,bL] at h ⊢
 obtain⟨o,h1,⟨u,o',s3⟩,h2,rfl,rfl⟩:=h
 refine⟨o,h1,(u,o',s3),?_,rfl,rfl⟩
 have hc: ∀i,i<s3.ci->ch' i=ch i:=hc
 unfold uv at h2 ⊢
 split at h2
 ·obtain⟨hb,h2⟩:=bX h2
  simp only[hb,cT,aG] at h2 ⊢
  obtain⟨env',h3,⟨x,fr,s4⟩,h4,h5⟩:=h2
  refine⟨env',h3,(x,fr,s4),?_,?_⟩
  all_goals cases x with
   |exit i=>cases h5
   |ret=>cases h5
   |normal=>
    simp only[tc,aG] at h5 ⊢
    obtain⟨⟨x2,fr2,s5⟩,h6,h7⟩:=h5
    have e5:s5=s3:=by cases x2<;>(simp only[uu,bg,bL] at h7;exact h7.2.2)
    subst e5
    have g2:=(hl.code _ _ mk _ ch s4 x2 fr2 s5 h6).1
    first
     |exact hr.code _ _ mk _ ch _ _ fr s4 h4 ch' (fun i hi=>hc i (gu hi g2.ci))
     |exact⟨(x2,fr2,s5),hr.code _ _ mk _ ch s4 x2 fr2 s5 h6 ch' hc,h7⟩
 ·cases h2
theorem wU (f:FuncId) (o:Oper) (mk:bn) (fr:Fr):fC (fun ch s=>fA (Q.at ch) (r ch) f o mk fr s):=by
 have _:=hl
 unfold fA
 split
 ·split
  ·exact fun ch s a b s' h ch' _=>h
  ·rename_i c _ _ _
   cases mj fr.env c
   case' true=>
    unfold o0
    exact fC.opt _ fun g _=>fB.then3 (mk:=mk) (k:=fun v _ s=>some (v,fr.loc,s)) (WA hl hr g.1 g.2 mk) (fun v=>fC.const _) fun v=>bV.ret v fr.loc
   unfold lF
   exact fC.opt _ fun g _=>fB.then3 (mk:=mk) (k:=fun v _ s=>some (v,fr.loc,s)) (hr.call g.1 g.2 mk) (fun v=>fC.const _) fun v=>bV.ret v fr.loc
 ·exact Wu _ _ _ _ _ _
theorem Wz (f:FuncId) (all:Array Oper) (mk:bn) (l:List Oper) (fr:Fr):fB (fun ch s=>kQ (Q.at ch) (r ch) f all mk l fr s):=by
 unfold kQ
 split
 ·exact fB.const _
 ·rename_i o rest
  cases eX all fr.env o
  ·exact fB.opt _ fun fr' _=>hr.ops f all mk rest fr'
  ·exact fC.then1 (mk:=mk) (k:=fun v l ch s=>(ee fr o.dst v l).bind fun fr'=>(r ch).ops f all mk rest fr' s) (wU hl hr f o mk fr) (fun v l=>fB.opt _ fun fr' _=>hr.ops f all mk rest fr') fun v l=>c8.opt _ fun fr' _=>hl.ops f all mk rest fr'
theorem Wx (f:FuncId) (all:Array Oper) (bs:List Nat) (mk:bn) (rs:List dU) (i:Nat) (l:List Oper) (fr:Fr):fB (fun ch s=>lH (Q.at ch) (r ch) f all bs mk rs i l fr s):=by
 unfold lH
 split
 ·exact fB.const _
 ·rename_i o rest
  cases eX all fr.env o
  ·exact fB.opt _ fun fr' _=>hr.draw f all bs.tail mk rs (i+1) rest fr'
  ·intro ch s v s' h ch' hc
   simp only[cT,aG] at h ⊢
   obtain⟨⟨u,l,s1⟩,h1,h⟩:=h
   replace h:=bX h
   obtain⟨hcond,h⟩:=h
   simp only[aG] at h
   obtain⟨fr',hfr,h⟩:=h
   have g2:=(hl.draw _ _ _ _ _ _ _ _ ch (s.least s1) v s' h).1
   refine⟨(u,l,s1),wU (Q:=Q) hl hr f o _ fr ch _ u l s1 h1 ch' (fun j hj=>hc j (gu hj g2.ci)),?_⟩
   have hc':(fits (bs.headD 0) (dy ((Q.at ch').hint f) o.dst fr.env o.op) (s1.minw.blt s.next||isStore o.op) rs&&s.ci.beq s1.ci)=true:=hcond
   simp only[hc',cT,hfr,aq]
   exact hr.draw _ _ _ _ _ _ _ _ ch (s.least s1) v s' h ch' hc
theorem Ww (f:FuncId) (c:Code) (mk:bn) (fr:Fr):fC (fun ch s=>rZ (Q.at ch) (r ch) f c mk fr s):=by
 have hseq: ∀(x:Ex) (fr:Fr) (b:Code),fC (fun ch s=>ni (r ch) f b mk (x,fr,s))/\bV mk (fun ch s=>ni (r ch) f b mk (x,fr,s)):=by
  intro x fr b
  cases x with
  |normal=>exact⟨hr.code f b mk fr,hl.code f b mk fr⟩
  |exit i=>exact⟨fC.const _,bV.ret _ _⟩
  |ret=>exact⟨fC.const _,bV.ret _ _⟩
 cases c<;>simp only[rZ]<;>first
  |exact fC.const _
  |exact fC.then3 (mk:=mk) (hr.code f _ mk fr) (fun x fr=>(hseq x fr _).1) (fun x fr=>(hseq x fr _).2)
  |exact hr.code f _ mk fr
  |skip
 ·rename_i id ops draw
  unfold AN
  cases draw
  ·exact fB.then3 (mk:=mk) (k:=fun fr _ s=>some (Ex.normal,fr,s)) (hr.ops f ops mk ops.toList fr) (fun _=>fC.const _) fun _=>bV.ret _ _
  ·simp only[cT]
   cases kU ops 0 ops.toList (Region.before ops).toList
   ·exact fC.const _
   ·exact fB.then3 (mk:=mk) (k:=fun fr _ s=>some (Ex.normal,fr,s)) (hr.draw f ops _ mk [] 0 ops.toList fr) (fun _=>fC.const _) fun _=>bV.ret _ _
 ·rename_i x a b
  refine fC.opt _ fun v _=>?_
  unfold u4
  split
  ·exact hr.code f _ mk fr
  ·exact hr.code f _ mk fr
  ·exact fC.const _
 ·rename_i id b
  intro ch s x fr' s' h ch' hc
  simp only[aG] at h ⊢
  obtain⟨⟨x1,fr1,s1⟩,h1,h⟩:=h
  refine⟨(x1,fr1,s1),hr.code f b mk fr ch s x1 fr1 s1 h1 ch' ?_,h⟩
  have:s1=s':=by
   simp only[bg] at h
   cases x1 with
   |normal=>simp only[nM,bL] at h;exact h.2.2
   |ret=>simp only[nM,bL] at h;exact h.2.2
   |exit i=>
    simp only[nM] at h
    cases hb:be i id<;>rw[hb] at h<;>simp only[cT,cF,bL] at h<;>exact h.2.2
  rw[this];exact hc
 ·rename_i g ps a b
  refine fC.opt _ fun v _=>?_
  unfold rr
  split
  ·rename_i h first captured _
   show fC (fun ch s=>bif mf Q.P h&&(fr.env.all ri&&(fq a&&fq b)) then _ else none)
   cases mf Q.P h&&(fr.env.all ri&&(fq a&&fq b))
   ·exact fC.const _
   ·simp only[cT]
    intro ch s x fr' s' h' ch' hc
    simp only[aG] at h' ⊢
    obtain⟨⟨v,s1⟩,h1,h2⟩:=h'
    refine⟨(v,s1),?_,h2⟩
    have:s1.ci=s'.ci:=by
     simp only[ug,aG] at h2
     obtain⟨o,_,h4⟩:=h2
     cases o with
     |loop f' env' size' ps' a' b' p=>
      simp only[bg,bL] at h4
      rw[<-h4.2.2];rfl
     |_=>cases h4
    exact hr.call h _ mk ch _ v s1 h1 ch' (by rw[this];exact hc)
  ·exact fC.const _
omit hl in
theorem Wv (f:FuncId) (args:List aj) (mk:bn):fB (fun ch s=>jx (Q.at ch) (r ch) f args mk s):=by
 unfold jx
 show fB (fun ch s=>match Q.spec f with
  |some sp=>(sp args).bind fun v=>some (v,s)
  |none=>match Q.specH f with
   |some sp=>(ng (s.get mk) (sp args)).bind fun v=>some (v,s)
   |none=>match Q.specW f with
   |some sp=>(sp args).bind (qz mk s)
   |none=>(Q.P.funcs[f]?).bind fun fn=>fn.body.bind fun c=>
    ((r ch).code f c mk ⟨cY 0 args,bif cy args.length fn.ntmps then fn.ntmps else args.length,[]⟩ s).bind (nS (Q.at ch) fn mk))
 cases Q.spec f with
 |some sp=>exact fB.const _
 |none=>
  cases Q.specH f with
  |some sp=>exact fB.const _
  |none=>
  cases Q.specW f with
  |some sp=>exact fB.const (fun s=>(sp args).bind (qz mk s))
  |none=>
  refine fB.opt _ fun fn _=>fB.opt _ fun c _=>?_
  intro ch s v s' h ch' hc
  simp only[aG] at h ⊢
  obtain⟨⟨x1,fr1,s1⟩,h1,h⟩:=h
  have hres: ∀l,gQ (Q.at ch') mk fr1 s1 l=gQ (Q.at ch) mk fr1 s1 l:=by
   intro l
   induction l with
   |nil=>rfl
   |cons x l ih=>simp only[gQ,ih];cases x<;>rfl
  have:s1=s'/\nS (Q.at ch') fn mk (x1,fr1,s1)=some (v,s'):=by
   cases x1 with
   |exit i=>cases h
   |normal=>
    simp only[nS,aG] at h ⊢
    obtain⟨vs,hvs,h⟩:=h
    simp only[bg,bL] at h
    exact⟨h.2,vs,by rw[hres];exact hvs,by simp[h]⟩
   |ret=>
    simp only[nS,aG] at h ⊢
    obtain⟨vs,hvs,h⟩:=h
    simp only[bg,bL] at h
    exact⟨h.2,vs,by rw[hres];exact hvs,by simp[h]⟩
  exact⟨(x1,fr1,s1),hr.code f c mk _ ch s x1 fr1 s1 h1 ch' (by rw[this.1];exact hc),this.2⟩
end
theorem pE (Q:cw): ∀n:Nat,GK (fun ch=>cN (Q.at ch) n)
 |0=>⟨fun _ _ _ _ _=>fB.const _,fun _ _ _ _ _ _ _ _=>fB.const _,fun _ _ _ _=>fC.const _,fun _ _ _=>fB.const _⟩
 |n+1=>⟨fun f all mk l fr=>Wz (kq Q n) (pE Q n) f all mk l fr,fun f all bs mk rs i l fr=>Wx (kq Q n) (pE Q n) f all bs mk rs i l fr,
  fun f c mk fr=>Ww (kq Q n) (pE Q n) f c mk fr,fun f args mk=>Wv (pE Q n) f args mk⟩
section
variable {P:Program} {mk:bn} {ch:Nat->Nat} {kmax:Nat->Nat} {hint:Tmp->Nat} {G:Gh} {s s':St} {B:Nat->Nat} {fr:Fr} {a:Act} {w:World} {o:Oper} {v:aj} {loc':Loc}
theorem Vo (wr:WR G s.heap w) (fx:dg G s.heap B fr a.tmps w) (he:kg P mk ch kmax hint o.dst o.op fr s=some (v,loc',s')) (hfree: ∀n,s.next<=n->n<s'.next->G.at_ n=none)
 (hch: ∀x b xv,o.op= .next x b->evc fr.env x=some xv->2<=jA mk xv s->ch s.ci % jA mk xv s=(w.tape w.drawn (.mapNext (jA mk xv s))) % jA mk xv s):
 fP P G s.heap w B fr.loc s.next s'.next a o v loc' s'.heap:=by
 cases hop:o.op<;>rw[hop] at he<;>simp only[kg] at he
 case move x=>replace he:=jR he;obtain⟨he,rfl,rfl⟩:=he;exact ajq hop wr fx he
 case assign x=>replace he:=jR he;obtain⟨he,rfl,rfl⟩:=he;exact ai6 hop wr fx he
 case pick c p q=>replace he:=jR he;obtain⟨he,rfl,rfl⟩:=he;exact ajt hop wr fx he
 case alloc e=>exact ai5 hop wr fx he hfree
 case box e x=>exact ai8 hop wr fx he hfree
 case build t parts=>replace he:=jR he;obtain⟨he,rfl,rfl⟩:=he;exact ai9 hop wr fx he
 case buildSlice t len parts=>exact aja hop wr fx he hfree
 case load t x=>exact ajk hop wr fx he
 case store t x z=>exact ajw hop wr fx he
 case nilCheck x=>
  simp only[nZ,aG] at he
  obtain⟨u,hu,he⟩:=he
  replace he:=jR he
  obtain⟨he,rfl,rfl⟩:=he
  exact ajs hop wr fx hu he
 case binOp op t x y yt=>exact ai7 hop wr fx he
 case unOp op t x=>exact ajx hop wr fx he
 case convert src dst x=>exact ajc hop wr fx he
 case makeFunc fn first captured=>replace he:=jR he;obtain⟨he,rfl,rfl⟩:=he;exact ajm hop wr fx he
 case makeMap t r=>exact ajn hop wr fx he hfree
 case makeSlice t l c=>exact ajo hop wr fx he hfree
 case slice t x lo hi mx=>exact ajv hop wr fx he
 case fieldAddr t x f=>exact ajh hop wr fx he
 case field t x f=>exact ajg hop wr fx he
 case indexAddr t x i=>exact ajj hop wr fx he
 case index t x i=>exact aji hop wr fx he
 case lookup t x i ok=>exact ajl hop wr fx he
 case mapUpdate t m k x=>exact Sq (.inl hop) wr fx he
 case insert t m k x=>exact Sq (.inr hop) wr fx he
 case mapEntry t m k=>exact ajp hop wr fx he
 case entryStore t m st x=>exact aje hop wr fx he
 case range t x=>exact aju hop wr fx he hfree
 case next it isString=>
  simp only[aG] at he
  obtain⟨xv,hx,he⟩:=he
  exact ajr hop wr fx hx he (hch it isString xv hop hx)
 case entry it=>exact ajd hop wr fx he
 case extract x i=>exact ajf hop wr fx he
 case call c=>exact ajb hop wr fx he hfree
 all_goals cases he
theorem getD_set (tmps:Array Value) (d t:Nat) (x:Value) (hd:d<tmps.size):(tmps.setIfInBounds d x).getD t undef=if t=d then x else tmps.getD t undef:=by
 simp only[lq,wv]
 by_cases e:d=t
 ·subst e;simp[hd]
 ·simp[e,Ne.symm e]
theorem dg.put {G G':Gh} {h h':bv bH} {B B':Nat->Nat} {fr fr':Fr} {a:Act} {w w':World} {dst:Option Tmp} {v:aj} {x:Value} {loc':Loc} (fx:dg G h B fr a.tmps w)
 (hp:ee fr dst v loc'=some fr') (hl:nG G' h' B' loc' w') (hv:LV G' loc' B' v x) (hold: ∀u y,LV G fr.loc B u y->LV G' loc' B' u y):dg G' h' B' fr' (a.put dst x).tmps w':=by
 unfold ee at hp
 cases dst with
 |none=>
  injection hp with hp;subst hp
  exact⟨fx.size,fun t=>hold _ _ (fx.env t),hl⟩
 |some d=>
  replace hp:=bX hp
  obtain⟨hd,hp⟩:=hp
  injection hp with hp;subst hp
  have hd:=mR hd
  refine⟨by simp[Act.put,fx.size],fun t=>?_,hl⟩
  show LV G' loc' B' (ax (fr.env.set d (some v)) t) ((a.tmps.setIfInBounds d x).getD t undef)
  rw[getD_set _ _ _ _ (by rw[fx.size];exact hd)]
  unfold ax
  rw[bv.get_set]
  by_cases e:t=d
  ·rw[if_pos e,if_pos e];exact hv
  ·rw[if_neg e,if_neg e];exact hold _ _ (fx.env t)
theorem dg.wanted {G:Gh} {h:bv bH} {B:Nat->Nat} {fr:Fr} {a:Act} {w:World} (fx:dg G h B fr a.tmps w) (ops:Array Oper) (o:Oper):Region.wanted o (yielded ops a.tmps)=eX ops fr.env o:=by
 unfold Region.wanted eX
 cases hg:o.guard with
 |none=>rfl
 |some g=>
  obtain⟨j,want⟩:=g
  simp only[yielded]
  cases hd:(ops[j]?).bind (·.dst) with
  |none=>simp
  |some d=>
   simp only[aq]
   have hl:=fx.env d
   have hget: ∀b,a.tmps[d]? =some (.bool b)↔a.tmps.getD d undef= .bool b:=by
    intro b
    simp only[lq]
    cases hx:a.tmps[d]? with
    |none=>simp[undef]
    |some x=>simp
   cases hn:ax fr.env d with
   |bool b=>
    rw[hn] at hl
    have hl:VR G (.bool b) (a.tmps.getD d undef):=hl
    have:a.tmps[d]? =some (.bool b):=by
     rw[hget]
     generalize a.tmps.getD d undef=x at hl
     cases hl;rfl
    simp[this]
   |lref t g off=>
    rw[hn] at hl
    obtain⟨_,⟨ad,had⟩,_⟩:=hl
    cases hx:a.tmps[d]? with
    |none=>simp
    |some x=>
     have:x= .pointer (some ad):=by rw[<-had];simp[lq,hx]
     subst this;simp
   |_=>
    rw[hn] at hl
    have hl:VR G _ (a.tmps.getD d undef):=hl
    cases hx:a.tmps[d]? with
    |none=>simp
    |some x=>
     have e:a.tmps.getD d undef=x:=by simp[lq,hx]
     rw[e] at hl
     cases hl<;>simp
end
section
variable {α:Type}
open Classical in
noncomputable def mix (X:Nat->α) (D:Nat->Prop):Nat->α
 |0=>X 0
 |k+1=>if D k/\X (k+1)≠X k then X (k+1) else mix X D k
theorem Fd {X:Nat->α} {D:Nat->Prop} {j:Nat}: ∀ {n:Nat},j<=n->(∀k,j<=k->k<n->D k->X (k+1)=X k)->mix X D n=mix X D j
 |0,h,_=>by have:j=0:=by omega
            subst this;rfl
 |n+1,h,hk=>by
  by_cases e:j=n+1
  ·rw[e]
  ·rw[mix,if_neg (fun x=>x.2 (hk n (by omega) (by omega) x.1))]
   exact Fd (by omega) fun k h1 h2=>hk k h1 (by omega)
theorem Ff {X:Nat->α} {D:Nat->Prop}: ∀ {j:Nat},(∀i,i<j->X (i+1)≠X i->D i)->mix X D j=X j
 |0,_=>rfl
 |j+1,h=>by
  rw[mix]
  split
  ·rfl
  ·rename_i hn
   rw[Ff fun i hi=>h i (by omega)]
   by_cases e:X (j+1)=X j
   ·exact e.symm
   ·exact absurd ⟨h j (by omega) e,e⟩ hn
theorem R7 {X:Nat->α} {D:Nat->Prop} {j n:Nat} (hj:j<=n) (hb: ∀i,i<j->X (i+1)≠X i->D i) (ha: ∀k,j<=k->k<n->D k->X (k+1)=X k):mix X D n=X j:=
 (Fd hj ha).trans (Ff hb)
theorem xS {X:Nat->α} {D D':Nat->Prop}: ∀ {n:Nat},(∀k,k<n->X (k+1)≠X k->(D k↔D' k))->mix X D n=mix X D' n
 |0,_=>rfl
 |n+1,h=>by
  rw[mix,mix,xS fun k hk=>h k (by omega)]
  by_cases e:X (n+1)=X n
  ·simp[e]
  ·have:=h n (by omega) e
   by_cases d:D n
   ·rw[if_pos ⟨d,e⟩,if_pos ⟨this.1 d,e⟩]
   ·rw[if_neg fun x=>d x.1,if_neg fun x=>d (this.2 x.1)]
theorem t7 {X:Nat->α} {D:Nat->Prop} {j n:Nat} (h:X (j+1)=X j):mix X (fun k=>D k\/k=j) n=mix X D n:=
 xS fun _k _ hk=>⟨fun x=>x.elim id fun e=>absurd (e▸h) hk,.inl⟩
theorem aiG {X:Nat->α} {D:Nat->Prop} {j n:Nat} (hj:j<n) (hb: ∀i,i<j->X (i+1)≠X i->D i) (ha: ∀k,j<k->k<n->D k->X (k+1)=X k):
 mix X (fun k=>D k\/k=j) n=X (j+1):=
 R7 (j:=j+1) (by omega) (fun i hi hne=>by
  by_cases e:i=j
  ·exact .inr e
  ·exact .inl (hb i (by omega) hne)) fun k h1 h2 hd=>ha k (by omega) h2 (hd.resolve_right (by omega))
theorem Fe {X:Nat->α} {D:Nat->Prop} {n:Nat} (h: ∀k,k<n->D k):mix X D n=X n:=Ff fun i hi _=>h i hi
theorem Fg {X:Nat->α} {D:Nat->Prop} {n:Nat} (h: ∀k,k<n-> ¬D k):mix X D n=X 0:=
 (Fd (iB n) fun k _ hk hd=>absurd hd (h k hk))
end
inductive mM (ops:Array Oper):Nat->Nat->Prop
 |one {j:Nat} {o:Oper} {e:Edge}:ops[j]? =some o->e∈o.after->Region.binds .any e=true->mM ops e.on j
 |more {i j:Nat} {o:Oper} {e:Edge}:ops[j]? =some o->e∈o.after->Region.binds .any e=true->mM ops i e.on->mM ops i j
theorem mM.closed {ops:Array Oper} {D:Nat->Prop} (hD: ∀j o,D j->ops[j]? =some o-> ∀e∈o.after,Region.binds .any e=true->D e.on) {i j:Nat} (h:mM ops i j):D j->D i:=by
 induction h with
 |one ho he hb=>exact fun hd=>hD _ _ hd ho _ he hb
 |more ho he hb _ ih=>exact fun hd=>ih (hD _ _ hd ho _ he hb)
theorem mM.ready {ops:Array Oper} {D:Nat->Prop} (hD: ∀j o,D j->ops[j]? =some o-> ∀e∈o.after,Region.binds .any e=true->D e.on) {i j:Nat}
 (hj: ∀o,ops[j]? =some o-> ∀e∈o.after,Region.binds .any e=true->D e.on) (h:mM ops i j):D i:=by
 cases h with
 |one ho he hb=>exact hj _ ho _ he hb
 |more ho he hb hd=>exact hd.closed hD (hj _ ho _ he hb)
theorem alZ {s m i k:Nat} (h:(s ||| 2 ^ k ||| m).testBit i=true):s.testBit i=true\/i=k\/m.testBit i=true:=by
 simp only[Nat.testBit_or,tf,Nat.testBit_two_pow,decide_eq_true_eq] at h
 rcases h with(h|h)|h
 ·exact .inl h
 ·exact .inr (.inl h.symm)
 ·exact .inr (.inr h)
theorem VN {ops:Array Oper} {i j b:Nat} (hb:(Region.before ops)[j]? =some b) (hi:b.testBit i=true):mM ops i j:=by
 have inner: ∀(acc:Array Nat) (j:Nat) (o:Oper),ops[j]? =some o->(∀k b,acc[k]? =some b-> ∀i,b.testBit i=true->mM ops i k)->
  ∀(l:List Edge) (s:Nat),(∀e∈l,e∈o.after)->(∀i,s.testBit i=true->mM ops i j)->
  ∀i,(l.foldl (fun s e=>if Region.binds .any e then s ||| 2 ^ e.on ||| acc.getD e.on 0 else s) s).testBit i=true->mM ops i j:=by
  intro acc j o ho hacc l
  induction l with
  |nil=>intro s _ hs i hi;exact hs i hi
  |cons e l ih=>
   intro s hl hs i hi
   refine ih _ (fun e he=>hl e (by simp[he])) ?_ i hi
   intro i hi
   simp only at hi
   split at hi
   ·rename_i hbe
    rcases alZ hi with h|h|h
    ·exact hs i h
    ·subst h;exact .one ho (hl e (by simp)) hbe
    ·refine .more ho (hl e (by simp)) hbe ?_
     cases ha:acc[e.on]? with
     |none=>simp[lq,ha] at h
     |some b=>simp[lq,ha] at h;exact hacc _ b ha i h
   ·exact hs i hi
 have outer: ∀(l:List Oper) (acc:Array Nat),(∀k o,l[k]? =some o->ops[acc.size+k]? =some o)->(∀k b,acc[k]? =some b-> ∀i,b.testBit i=true->mM ops i k)->
  ∀k b,(l.foldl (fun acc o=>acc.push (o.after.foldl (fun s e=>if Region.binds .any e then s ||| 2 ^ e.on ||| acc.getD e.on 0 else s) 0)) acc)[k]? =some b->
   ∀i,b.testBit i=true->mM ops i k:=by
  intro l
  induction l with
  |nil=>intro acc _ hacc;exact hacc
  |cons o l ih=>
   intro acc hl hacc
   refine ih _ (fun k o' hk=>?_) ?_
   ·have:=hl (k+1) o' (by simpa using hk)
    rw[Array.size_push]
    rw[show acc.size+1+k=acc.size+(k+1) by omega]
    exact this
   ·intro k b hk i hi
    rw[Array.getElem?_push] at hk
    split at hk
    ·rename_i hks
     subst hks
     injection hk with hk
     subst hk
     rw[<-Array.foldl_toList] at hi
     exact inner acc acc.size o (by simpa using hl 0 o (by simp)) hacc o.after.toList 0 (fun e he=>by simpa using he) (fun i hi=>by simp at hi) i hi
    ·exact hacc k b hk i hi
 unfold Region.before at hb
 rw[<-Array.foldl_toList] at hb
 exact outer ops.toList #[] (fun k o hk=>by simpa using hk) (fun k b hk=>by simp at hk) j b hb i hi
section
variable {e e2:bj}
theorem Cw {x:Operand} (h:ev e x=ev e2 x):evc e x=evc e2 x:=by simp[evc,h]
theorem vf: ∀ {l:List Operand},(∀x∈l,ev e x=ev e2 x)->evcs e l=evcs e2 l
 | [],_=>rfl
 |x::l,h=>by
  simp only[evcs]
  rw[Cw (h x (by simp)),vf fun y hy=>h y (by simp[hy])]
theorem CG (place:Nat->Option (Nat×Nat)): ∀ {l:List (Nat×Operand)} (cs:List aj),(∀p∈l,ev e p.2=ev e2 p.2)->dQ place e cs l=dQ place e2 cs l
 | [],_,_=>rfl
 |(i,x)::l,cs,h=>by
  simp only[dQ]
  rw[Cw (h (i,x) (by simp))]
  have ih:=fun cs=>CG place cs fun p hp=>h p (wA _ hp)
  simp only[ih]
theorem Fq {x:Option Operand} {d:Nat} (h: ∀y,x=some y->ev e y=ev e2 y):jK e x d=jK e2 x d:=by
 cases x with
 |none=>rfl
 |some y=>simp[jK,h y rfl]
theorem V5 {P:Program} {t:TypeId} {parts:List (Nat×Operand)} (h: ∀p∈parts,ev e p.2=ev e2 p.2):gm P t parts e=gm P t parts e2:=by
 simp only[gm,CG _ _ h]
theorem V6 {P:Program} {t:TypeId} {n:Nat} {parts:List (Nat×Operand)} {mu:Bool} {s:St} (h: ∀p∈parts,ev e p.2=ev e2 p.2):
 dV P t n parts mu e s=dV P t n parts mu e2 s:=by
 simp only[dV,CG _ _ h]
theorem alc {P:Program} {mk:bn} {t:TypeId} {x:aj} {lo hi mx:Option Operand} {s:St} (h1: ∀y,lo=some y->ev e y=ev e2 y) (h2: ∀y,hi=some y->ev e y=ev e2 y)
 (h3: ∀y,mx=some y->ev e y=ev e2 y):jS P mk t x lo hi mx e s=jS P mk t x lo hi mx e2 s:=by
 simp only[jS,Fq h1,Fq h2,Fq h3]
theorem G9 {P:Program} {mk:bn} {ch:Nat->Nat} {kmax:Nat->Nat} {hint:Tmp->Nat} {dst:Option Tmp} {op:Op} {n n2:Nat} {loc:Loc} {s:St} (h: ∀x∈op.operands,ev e x=ev e2 x):
 kg P mk ch kmax hint dst op ⟨e,n,loc⟩ s=kg P mk ch kmax hint dst op ⟨e2,n2,loc⟩ s:=by
 cases op<;>simp only[Op.operands] at h<;>simp only[kg,Aw,Ay,vL,vM,Ax,xX,AB,AC,vK,AA,AD,Az,qw,nZ,kP]
 case build t ps=>rw[V5 fun p hp=>h p.2 (by simpa using⟨p.1,Array.mem_toList_iff.1 hp⟩)]
 case buildSlice t k ps=>rw[V6 fun p hp=>h p.2 (by simpa using⟨p.1,Array.mem_toList_iff.1 hp⟩)]
 case makeFunc fn a b=>simp only[pF,vf (l:=a.toList) fun x hx=>h x (by simp_all),vf (l:=b.toList) fun x hx=>h x (by simp_all)]
 case makeMap t r=>
  cases r with
  |none=>simp[mp]
  |some x=>simp[mp,h x (by simp)]
 case slice t x lo hi mx=>
  rw[Cw (h x (by simp))]
  simp only[alc (lo:=lo) (hi:=hi) (mx:=mx) (fun y hy=>h y (by simp[hy])) (fun y hy=>h y (by simp[hy])) (fun y hy=>h y (by simp[hy]))]
 case call c=>
  cases hc:c.callee with
  |builtin b=>simp only[vf (l:=c.args.toList) fun x hx=>h x (by simp[Call.operands,hc];simpa using hx)]
  |value f=>rfl
  |invoke a b=>rfl
 case pick c a b=>simp only[sO,h c (by simp),h a (by simp),h b (by simp)]
 all_goals first
  |rfl
  |(simp only[evc];simp_all;done)
  |(simp_all;done)
theorem Hq {c:Call} (h: ∀x∈c.operands,ev e x=ev e2 x):callee e c=callee e2 c:=by
 unfold callee
 cases hc:c.callee with
 |builtin b=>rfl
 |invoke a b=>rfl
 |value f=>simp only[h f (by simp[Call.operands,hc]),vf (l:=c.args.toList) fun x hx=>h x (by simp[Call.operands,hc];exact .inr (by simpa using hx))]
theorem I9 {c:Call} (h: ∀x∈c.operands,ev e x=ev e2 x):mj e c=mj e2 c:=by
 unfold mj
 cases hc:c.callee with
 |builtin b=>rfl
 |invoke a b=>rfl
 |value f=>simp only[h f (by simp[Call.operands,hc])]
theorem Uw {c:Call} (h: ∀x∈c.operands,ev e x=ev e2 x):yieldee e c=yieldee e2 c:=by
 unfold yieldee
 cases hc:c.callee with
 |builtin b=>rfl
 |invoke a b=>rfl
 |value f=>simp only[h f (by simp[Call.operands,hc]),vf (l:=c.args.toList) fun x hx=>h x (by simp[Call.operands,hc];exact .inr (by simpa using hx))]
theorem ajC {Q:cw} {r:lw} {f:FuncId} {o:Oper} {mk:bn} {n n2:Nat} {loc:Loc} {s:St} (h: ∀x∈o.op.operands,ev e x=ev e2 x):
 fA Q r f o mk ⟨e,n,loc⟩ s=fA Q r f o mk ⟨e2,n2,loc⟩ s:=by
 unfold fA
 split
 ·rename_i c hc
  rw[hc] at h
  cases hb:c.callee with
  |builtin b=>
   have:=G9 (P:=Q.P) (mk:=mk) (ch:=Q.ch) (kmax:=Q.kmax) (hint:=Q.hint f) (dst:=o.dst) (op:=.call c) (n:=n) (n2:=n2) (loc:=loc) (s:=s) h
   simpa only[kg] using this
  |value g=>simp only[lF,Hq h,o0,Uw h,I9 h]
  |invoke a b=>simp only[lF,Hq h,o0,Uw h,I9 h]
 ·exact G9 h
end
theorem vI (a b:Nat):bT a b=decide (a<b):=by
 show cy (a+1) b=_
 rw[oS];rfl
def ju (l l2:Loc) (t:Nat):Prop:=l.gen t=l2.gen t/\ ∀g,l.get t g=l2.get t g
theorem ju.refl (l:Loc) (t:Nat):ju l l t:=⟨rfl,fun _=>rfl⟩
theorem ju.symm {l l2:Loc} {t:Nat} (h:ju l l2 t):ju l2 l t:=⟨h.1.symm,fun g=>(h.2 g).symm⟩
theorem ju.trans {l l2 l3:Loc} {t:Nat} (h:ju l l2 t) (h':ju l2 l3 t):ju l l3 t:=⟨h.1.trans h'.1,fun g=>(h.2 g).trans (h'.2 g)⟩
theorem ju.set_same {l l2:Loc} (t g:Nat) (cs:List aj):ju (l.set t g cs) (l2.set t g cs) t:=by
 constructor
 ·rw[Loc.gen_set,Loc.gen_set,if_pos rfl,if_pos rfl]
 ·intro k;rw[Loc.get_set,Loc.get_set,if_pos rfl,if_pos rfl]
theorem ju.set_other {l:Loc} {t u:Nat} (h:u≠t) (g:Nat) (cs:List aj):ju (l.set t g cs) l u:=by
 constructor
 ·rw[Loc.gen_set,if_neg h]
 ·intro k;rw[Loc.get_set,if_neg h]
def nV (c:Nat) (F:fN) (m:bn):bn:=
 match F with
 | .all=>m
 | .obj n=>(0,n)::(n+1,c)::m
 |_=>(0,c)::m
theorem CS {c:Nat} {F:fN} {m:bn} {k:Nat} (h:dJ (nV c F m) k=false):dJ m k=false/\(F= .all\/F= .obj k\/c<=k):=by
 unfold nV at h
 split at h
 ·exact⟨h,.inl rfl⟩
 ·rename_i n
  simp only[dJ,rA,Bk] at h
  obtain⟨h1,h2,h3⟩:=h
  refine⟨h3,.inr ?_⟩
  simp only[oS,vI,decide_eq_false_iff_not] at h1 h2
  by_cases e:n=k
  ·exact .inl (by rw[e])
  ·exact .inr (by omega)
 ·simp only[dJ,rA,Bk] at h
  obtain⟨h1,h3⟩:=h
  simp only[oS,vI,decide_eq_false_iff_not] at h1
  exact⟨h3,.inr (.inr (by omega))⟩
theorem CT {c:Nat} {F:fN} {m:bn} {k:Nat} (h:dJ m k=true):dJ (nV c F m) k=true:=by
 cases e:dJ (nV c F m) k with
 |true=>rfl
 |false=>rw[(CS e).1] at h;cases h
theorem CU {c n:Nat} {m:bn} {s:St} {o:bH} (h:s.get m n=some o):s.get (nV c (.obj n) m) n=some o:=by
 obtain⟨h1,h2⟩:=pz h
 have:dJ (nV c (.obj n) m) n=false:=by
  simp only[nV,dJ,h1,Bool.or_false,rA,Bk,oS,vI,decide_eq_false_iff_not]
  omega
 simp[St.get,this,h2]
def cr (c:Nat) (F:fN) (store:Bool) (x:bn->Loc->Option (aj×Loc×St)):Prop:=
 ∀m loc v loc' s',x m loc=some (v,loc',s')-> ∀loc2,(∀t,F= .loc t->ju loc loc2 t)->
  ∃loc2',x (nV c F m) loc2=some (v,loc2',s')/\(∀t,F= .loc t->ju loc' loc2' t)/\(∀t,F≠ .loc t->ju loc' loc t/\ju loc2' loc2 t)/\(store=false->loc'=loc)
theorem cr.plain {c:Nat} {F:fN} {st:Bool} {g:bn->Option (aj×St)} (hF: ∀t,F≠ .loc t) (hg: ∀m r,g m=some r->g (nV c F m)=some r):cr c F st (fun m l=>gX (g m) l):=by
 intro m loc v loc' s' h loc2 _
 simp only[gX,aG] at h
 obtain⟨r,h1,h⟩:=h
 simp only[bg,bL] at h
 obtain⟨rfl,rfl,rfl⟩:=h
 exact⟨loc2,by simp[gX,hg m r h1],fun t ht=>absurd ht (hF t),fun t _=>⟨.refl _ _,.refl _ _⟩,fun _=>rfl⟩
theorem cr.value {c:Nat} {F:fN} {st:Bool} {g:bn->Option aj} {s:St} (hF: ∀t,F≠ .loc t) (hg: ∀m r,g m=some r->g (nV c F m)=some r):cr c F st (fun m l=>fK (g m) l s):=by
 intro m loc v loc' s' h loc2 _
 obtain⟨h1,rfl,rfl⟩:=jR h
 exact⟨loc2,by simp[fK,hg m v h1],fun t ht=>absurd ht (hF t),fun t _=>⟨.refl _ _,.refl _ _⟩,fun _=>rfl⟩
theorem cr.none {c:Nat} {F:fN} {st:Bool}:cr c F st (fun _ _=>.none):=by intro m loc v loc' s' h;cases h
theorem cr.bind {α:Type} {c:Nat} {F:fN} {st:Bool} (y:Option α) {k:α->bn->Loc->Option (aj×Loc×St)} (hk: ∀a,y=some a->cr c F st (k a)):cr c F st (fun m l=>y.bind fun a=>k a m l):=by
 cases y with
 |none=>intro m loc v loc' s' h;cases h
 |some a=>exact hk a rfl
theorem cr.gen {c:Nat} {F:fN} {st:Bool} {g:Loc->Option aj} {s:St} (hg: ∀l l2 r,(∀t,F= .loc t->ju l l2 t)->g l=some r->g l2=some r):cr c F st (fun _ l=>fK (g l) l s):=by
 intro m loc v loc' s' h loc2 h2
 obtain⟨h1,rfl,rfl⟩:=jR h
 exact⟨loc2,by simp[fK,hg loc' loc2 v h2 h1],fun t ht=>h2 t ht,fun t _=>⟨.refl _ _,.refl _ _⟩,fun _=>rfl⟩
theorem cr.box {c:Nat} {st:Bool} {hint:Tmp->Nat} {dst:Option Tmp} {cs:List aj} {s:St} (hst:st=true):cr c (xf hint dst) st (fun _ l=>oJ (mY hint dst) dst cs l s):=by
 intro m loc v loc' s' h loc2 h2
 unfold oJ at h ⊢
 cases dst with
 |none=>
  simp only[mY] at h ⊢
  simp only[show be 0 1=false from rfl,cF,bg,bL] at h ⊢
  obtain⟨rfl,rfl,rfl⟩:=h
  exact⟨loc2,by simp,fun t ht=>by simp[xf] at ht,fun t _=>⟨.refl _ _,.refl _ _⟩,fun _=>rfl⟩
 |some t=>
  simp only[mY,xf] at h h2 ⊢
  cases e:be (hint t) 1 with
  |false=>
   simp only[e,cF,bg,bL] at h h2 ⊢
   obtain⟨rfl,rfl,rfl⟩:=h
   exact⟨loc2,⟨rfl,rfl,rfl⟩,fun t ht=>(by cases ht),fun t _=>⟨.refl _ _,.refl _ _⟩,fun _=>rfl⟩
  |true=>
   simp only[e,cT,aq,bg,bL] at h h2 ⊢
   obtain⟨rfl,rfl,rfl⟩:=h
   have h2:=h2 t rfl
   refine⟨loc2.set t (loc.gen t+1) cs,by simp[h2.1],?_,?_,by simp[hst]⟩
   ·intro u hu;injection hu with hu;subst hu;exact .set_same _ _ _
   ·intro u hu
    have hu:u≠t:=fun e=>hu (by rw[e])
    exact⟨.set_other hu _ _,.set_other hu _ _⟩
section
variable {P:Program} {ch:Nat->Nat} {kmax:Nat->Nat} {hint:Tmp->Nat} {dst:Option Tmp} {e:bj} {n c:Nat} {s:St}
theorem Yu (t:TypeId) (a:Operand):cr c (sg e a) false (fun m l=>vL P m t a ⟨e,n,l⟩ s):=by
 unfold vL sg
 refine cr.bind (ev e a) fun u hu=>?_
 simp only[hu]
 cases u<;>try (exact cr.none)
 case ptr k off=>
  refine cr.value (g:=fun m=>kZ P m t (.ptr k off) [] s) (by simp) fun m r hr=>?_
  simp only[kZ,aG] at hr ⊢
  obtain⟨ob,hob,hr⟩:=hr
  exact⟨ob,CU hob,hr⟩
 case lref k g off=>
  refine cr.gen (g:=fun l=>kZ P [] t (.lref k g off) l s) fun l l2 r hl hr=>?_
  simp only[kZ] at hr ⊢
  rw[<-(hl k rfl).2];exact hr
 case ro cs=>exact cr.value (g:=fun m=>kZ P m t (.ro cs) [] s) (by simp) fun m r hr=>hr
theorem Yx (t:TypeId) (a x:Operand):cr c (sg e a) true (fun m l=>vM P m t a x ⟨e,n,l⟩ s):=by
 unfold vM sg
 refine cr.bind (ev e a) fun u hu=>cr.bind (evc e x) fun v _=>?_
 simp only[hu,pS]
 cases hs:fu P t with
 |none=>exact cr.none
 |some k=>
  simp only[aq]
  cases hc:be v.cells.length k&&bT 0 k with
  |false=>exact cr.none
  |true=>
   simp only[cT]
   cases u<;>try (exact cr.none)
   case ptr j off=>
    intro m loc v' loc' s' h loc2 _
    simp only[aG] at h ⊢
    obtain⟨r,⟨ob,hob,h1⟩,h2⟩:=h
    cases ob<;>simp only[aG] at h1<;>try (cases h1;done)
    rename_i cs
    obtain⟨cs',hcs,h1⟩:=h1
    injection h1 with h1;subst h1
    simp only[bg,bL] at h2
    obtain⟨rfl,rfl,rfl⟩:=h2
    exact⟨loc2,⟨(loc2,_),⟨_,CU hob,by simp only[hcs,aq];rfl⟩,rfl⟩,fun t ht=>(by cases ht),fun t _=>⟨.refl _ _,.refl _ _⟩,fun _=>rfl⟩
   case lref j g off=>
    intro m loc v' loc' s' h loc2 hl
    simp only[aG] at h ⊢
    obtain⟨r,⟨cs,hcs,cs',hw,h1⟩,h2⟩:=h
    injection h1 with h1;subst h1
    simp only[bg,bL] at h2
    obtain⟨rfl,rfl,rfl⟩:=h2
    refine⟨loc2.set j g cs',⟨(_,s),⟨cs,by rw[<-(hl j rfl).2];exact hcs,cs',hw,rfl⟩,rfl⟩,?_,?_,by simp⟩
    ·intro u hu;injection hu with hu;subst hu;exact .set_same _ _ _
    ·intro u hu
     have hu:u≠j:=fun e=>hu (by rw[e])
     exact⟨.set_other hu _ _,.set_other hu _ _⟩
theorem Yv (x:Operand):cr c (pw e x) false (fun _ l=>nZ x (sG l) ⟨e,n,l⟩ s):=by
 unfold nZ pw
 refine cr.bind (ev e x) fun u hu=>?_
 simp only[hu]
 refine cr.gen (g:=fun l=>sG l u) fun l l2 r hl hr=>?_
 cases u
 case lref=>
  simp only[sG] at hr ⊢
  rw[<-(hl _ rfl).1];exact hr
 case func fn _ _=>cases fn<;>exact hr
 all_goals exact hr
theorem Ys (t:TypeId) (x:Operand) (f:Nat):cr c (pw e x) false (fun _ l=>nZ x (fun x=>fE P l t x f) ⟨e,n,l⟩ s):=by
 unfold nZ pw
 refine cr.bind (ev e x) fun u hu=>?_
 simp only[hu]
 refine cr.gen (g:=fun l=>fE P l t u f) fun l l2 r hl hr=>?_
 cases u<;>try exact hr
 simp only[fE] at hr ⊢
 rw[<-(hl _ rfl).1];exact hr
theorem Yt (t:TypeId) (x i:Operand):cr c (pw e x) false (fun _ l=>vK P t x i ⟨e,n,l⟩ s):=by
 unfold vK pw
 refine cr.bind (ev e x) fun u hu=>?_
 simp only[hu]
 refine cr.bind (ev e i) fun j _=>?_
 refine cr.gen (g:=fun l=>iH P l t u j) fun l l2 r hl hr=>?_
 cases u<;>try exact hr
 simp only[iH] at hr ⊢
 rw[<-(hl _ rfl).1];exact hr
theorem ald {m m2:bn} {t:TypeId} {x:aj} {lo hi mx:Option Operand} {r:aj} (hx: ∀k off,x= .ptr k off-> ∀o,s.get m k=some o->s.get m2 k=some o) (h:jS P m t x lo hi mx e s=some r):
 jS P m2 t x lo hi mx e s=some r:=by
 simp only[jS,aG] at h ⊢
 obtain⟨d,hd,h⟩:=h
 refine⟨d,hd,?_⟩
 split at h
 ·exact h
 ·exact h
 ·simp only[aG] at h ⊢
  obtain⟨k,hk,h⟩:=h
  refine⟨k,hk,?_⟩
  split at h
  ·simp only[aG] at h ⊢
   obtain⟨p,hp,q,hq,ob,hob,h⟩:=h
   exact⟨p,hp,q,hq,ob,hx _ _ rfl _ hob,h⟩
  ·cases h
 ·cases h
theorem Yw (t:TypeId) (x:Operand) (lo hi mx:Option Operand):cr c (dy hint dst e (.slice t x lo hi mx)) false (fun m l=>kP x (fun x=>jS P m t x lo hi mx e s) ⟨e,n,l⟩ s):=by
 unfold kP
 refine cr.bind (evc e x) fun u hu=>?_
 have hu:ev e x=some u:=by
  simp only[evc,aG] at hu
  obtain⟨y,hy,hu⟩:=hu
  rw[hy,(bX hu).2]
 simp only[dy,hu]
 refine cr.value (g:=fun m=>jS P m t u lo hi mx e s) ?_ fun m r hr=>?_
 ·intro t;split<;>simp
 ·refine ald (fun k off he o ho=>?_) hr
  subst he
  exact CU ho
theorem cr.state {F:fN} {st:Bool} {g:bn->Option St} (hF: ∀t,F≠ .loc t) (hg: ∀m r,g m=some r->g (nV c F m)=some r):cr c F st (fun m l=>lR (g m) l):=by
 intro m loc v loc' s' h loc2 _
 simp only[lR,aG] at h
 obtain⟨r,h1,h⟩:=h
 simp only[bg,bL] at h
 obtain⟨rfl,rfl,rfl⟩:=h
 exact⟨loc2,by simp[lR,hg m r h1],fun t ht=>absurd ht (hF t),fun t _=>⟨.refl _ _,.refl _ _⟩,fun _=>rfl⟩
theorem nJ {α:Type} {g:bn->Option α} (m:bn) (r:α) (h:g m=some r):g (nV c .all m)=some r:=h
theorem Iu (cl:Call):cr c (dy hint dst e (.call cl)) false (fun m l=>qw P m hint dst cl ⟨e,n,l⟩ s):=by
 obtain⟨callee,args,ats⟩:=cl
 unfold qw
 cases callee with
 |value f=>exact cr.none
 |invoke a b=>exact cr.none
 |builtin b=>
  refine cr.bind (evcs e args.toList) fun vs hvs=>?_
  cases b
  case min=>exact cr.plain (g:=fun m=>lD P m .min _ _ vs s) (by simp[dy]) fun m r hr=>by cases vs<;>exact hr
  case max=>exact cr.plain (g:=fun m=>lD P m .max _ _ vs s) (by simp[dy]) fun m r hr=>by cases vs<;>exact hr
  case len=>
   refine cr.plain (g:=fun m=>lD P m .len _ _ vs s) ?_ fun m r hr=>?_
   ·intro t;simp only[dy];split
    ·split<;>simp
    ·simp
   ·simp only[lD] at hr ⊢
    split at hr<;>try first|(cases hr;done)|(exfalso;rename_i he _;cases he;done)|(exfalso;rename_i he;cases he;done)
    simp only[aG] at hr ⊢
    obtain⟨v,hv,hr⟩:=hr
    refine⟨v,?_,hr⟩
    obtain⟨args⟩:=args
    simp only at hvs
    cases args with
    |nil=>simp[evcs] at hvs
    |cons a0 l=>
     simp only[evcs,aG] at hvs
     obtain⟨u,hu,l',_,hvs⟩:=hvs
     injection hvs with hvs
     injection hvs with hv1 hv2
     subst hv1
     have hu:ev e a0=some u:=by
      simp only[evc,aG] at hu
      obtain⟨y,hy,hu⟩:=hu
      rw[hy,(bX hu).2]
     simp only[gW,dy,Bo,List.getElem?_cons_zero,hu] at hv ⊢
     generalize P.underlying _=ud at hv ⊢
     cases ud with
     |none=>exact hv
     |some d=>
      simp only[aq] at hv ⊢
      cases u<;>cases d<;>exact hv
  all_goals exact cr.plain (g:=fun m=>lD P m _ _ _ vs s) (by simp[dy]) nJ
theorem Yr (op:Op):cr c (dy hint dst e op) (isStore op) (fun m l=>kg P m ch kmax hint dst op ⟨e,n,l⟩ s):=by
 cases op<;>simp only[kg]
 case load t a=>exact Yu t a
 case store t a x=>exact Yx t a x
 case nilCheck x=>exact Yv x
 case fieldAddr t x f=>exact Ys t x f
 case indexAddr t x i=>exact Yt t x i
 case slice t x lo hi mx=>exact Yw t x lo hi mx
 case call cl=>exact Iu cl
 case alloc t=>exact cr.bind (eY P t) fun z _=>cr.box (cs:=z.cells) rfl
 case box t x=>exact cr.bind (evc e x) fun z _=>cr.box (cs:=z.cells) rfl
 case move x=>exact cr.value (g:=fun _=>ev e x) (by simp[dy]) fun _ _ h=>h
 case assign x=>exact cr.value (g:=fun _=>ev e x) (by simp[dy]) fun _ _ h=>h
 case pick a b d=>exact cr.value (g:=fun _=>sO e a b d) (by simp[dy]) fun _ _ h=>h
 case build t ps=>exact cr.value (g:=fun _=>gm P t ps.toList e) (by simp[dy]) fun _ _ h=>h
 case buildSlice t k ps=>exact cr.plain (g:=fun _=>dV P t k ps.toList _ e s) (by simp[dy]) fun _ _ h=>h
 case binOp o t x y yt=>exact cr.bind (evc e x) fun u _=>cr.bind (evc e y) fun v _=>cr.value (g:=fun _=>fy P o t u v) (by simp[dy]) fun _ _ h=>h
 case unOp o t x=>exact cr.bind (evc e x) fun u _=>cr.value (g:=fun _=>wo o u) (by simp[dy]) fun _ _ h=>h
 case convert a b x=>exact cr.bind (evc e x) fun u _=>cr.value (g:=fun _=>yT P a b u) (by simp[dy]) fun _ _ h=>h
 case makeFunc f a b=>exact cr.value (g:=fun _=>pF e f a b) (by simp[dy]) fun _ _ h=>h
 case makeMap t r=>exact cr.plain (g:=fun _=>mp P t e r s) (by simp[dy]) fun _ _ h=>h
 case makeSlice t a b=>exact cr.bind (ev e a) fun u _=>cr.bind (ev e b) fun v _=>cr.plain (g:=fun _=>sD P t u v _ s) (by simp[dy]) fun _ _ h=>h
 case field t x f=>exact cr.bind (evc e x) fun u _=>cr.value (g:=fun _=>yZ P t u f) (by simp[dy]) fun _ _ h=>h
 case index t x i=>exact cr.bind (evc e x) fun u _=>cr.bind (ev e i) fun v _=>cr.value (g:=fun _=>qn P t u v) (by simp[dy]) fun _ _ h=>h
 case extract x i=>exact cr.bind (ev e x) fun u _=>cr.value (g:=fun _=>iE i u) (by simp[dy]) fun _ _ h=>h
 case lookup t x i ok=>exact cr.bind (evc e x) fun u _=>cr.bind (evc e i) fun v _=>cr.value (g:=fun m=>lM P m t u v ok s) (by simp[dy]) nJ
 case mapEntry t x i=>exact cr.bind (evc e x) fun u _=>cr.bind (evc e i) fun v _=>cr.plain (g:=fun m=>tZ P m t u v s) (by simp[dy]) nJ
 case range t x=>exact cr.bind (evc e x) fun u _=>cr.plain (g:=fun m=>lh P m t u s) (by simp[dy]) nJ
 case next x b=>exact cr.bind (evc e x) fun u _=>cr.plain (g:=fun m=>kx m ch kmax u b s) (by simp[dy]) nJ
 case entry x=>exact cr.bind (evc e x) fun u _=>cr.value (g:=fun m=>pm m u s) (by simp[dy]) nJ
 case mapUpdate t a b d=>exact cr.bind (evc e a) fun u _=>cr.bind (evc e b) fun v _=>cr.bind (evc e d) fun x _=>cr.state (g:=fun m=>lS P m t u v x s) (by simp[dy]) nJ
 case insert t a b d=>exact cr.bind (evc e a) fun u _=>cr.bind (evc e b) fun v _=>cr.bind (evc e d) fun x _=>cr.state (g:=fun m=>lS P m t u v x s) (by simp[dy]) nJ
 case entryStore t a b d=>exact cr.bind (evc e a) fun u _=>cr.bind (evc e b) fun v _=>cr.bind (evc e d) fun x _=>cr.state (g:=fun m=>u6 m u v x s) (by simp[dy]) nJ
 all_goals exact cr.none
theorem C3 {Q:cw} {r:lw} {f:FuncId} {o:Oper}:cr c (dy (Q.hint f) o.dst e o.op) (isStore o.op) (fun m l=>fA Q r f o m ⟨e,n,l⟩ s):=by
 unfold fA
 cases ho:o.op<;>simp only<;>try exact Yr _
 rename_i cl
 cases hc:cl.callee with
 |builtin b=>exact Iu cl
 |value g=>
  obtain⟨callee,args,ats⟩:=cl
  simp only at hc;subst hc
  simp only
  generalize hy:mj e _=y
  cases y with
  |true=>
   simp only[cT]
   refine cr.bind (Ag.yieldee e _) fun g _=>?_
   exact cr.plain (g:=fun m=>lm r g.1 g.2 m s) (by simp[dy]) nJ
  |false=>
   simp only[cF]
   refine cr.bind (Ag.callee e _) fun g _=>?_
   exact cr.plain (g:=fun m=>r.call g.1 g.2 m s) (by simp[dy]) nJ
 |invoke a b=>
  obtain⟨callee,args,ats⟩:=cl
  simp only at hc;subst hc
  simp only
  generalize hy:mj e _=y
  cases y with
  |true=>
   simp only[cT]
   refine cr.bind (Ag.yieldee e _) fun g _=>?_
   exact cr.plain (g:=fun m=>lm r g.1 g.2 m s) (by simp[dy]) nJ
  |false=>
   simp only[cF]
   refine cr.bind (Ag.callee e _) fun g _=>?_
   exact cr.plain (g:=fun m=>r.call g.1 g.2 m s) (by simp[dy]) nJ
end
def yC (bi:Nat) (r:dU) (foot:fN) (loud:Bool) (m:bn):Prop:=
 bi.testBit r.i=true\/(((loud||r.loud)&&foot.meets r.foot)=false/\ ∀n,r.c0<=n->n<r.c1->dJ m n=true)
theorem RZ {bi:Nat} {mk:bn}: ∀ {rs:List dU} {r:dU},r∈rs->bi.testBit r.i=false-> ∀n,r.c0<=n->n<r.c1->dJ (je bi rs mk) n=true
 | [],_,h,_,_,_,_=>by cases h
 |q::rs,r,h,hb,n,h0,h1=>by
  unfold je
  rcases List.mem_cons.1 h with rfl|h
  ·have:be r.c0 r.c1=false:=by
    cases e:be r.c0 r.c1 with
    |false=>rfl
    |true=>have:=fp e;omega
   simp only[hb,this,Bool.or_self,cF,dJ,oS,vI,tf,cZ,decide_eq_true_eq]
   exact .inl ⟨h0,h1⟩
  ·have ih:=RZ (mk:=mk) h hb n h0 h1
   cases bi.testBit q.i||be q.c0 q.c1
   ·simp only[cF,dJ,ih,Bool.or_true]
   ·simpa using ih
theorem Yh {bi:Nat} {foot:fN} {loud:Bool} {rs:List dU} {mk:bn} (h:fits bi foot loud rs=true) {r:dU} (hr:r∈rs):yC bi r foot loud (je bi rs mk):=by
 have:=List.all_eq_true.1 h r hr
 cases hb:bi.testBit r.i with
 |true=>exact .inl hb
 |false=>
  refine .inr ⟨?_,RZ hr hb⟩
  simp only[hb,jU] at this
  cases e:(loud||r.loud)&&foot.meets r.foot with
  |false=>rfl
  |true=>rw[e] at this;cases this
section
variable (Q:cw) (f:FuncId) (all:Array Oper) (mk:bn) (F:Nat->Fr) (S:Nat->St) (M:Nat->bn) (lv:Nat->Nat) (Lo:Nat->Bool)
def yJ (k:Nat) (o:Oper):Prop:=
 (eX all (F k).env o=true/\ ∃v loc' s1,fA Q (cN Q (lv k)) f o (M k) (F k) ⟨(S k).heap,(S k).next,(S k).next,(S k).ci⟩=some (v,loc',s1)/\s1.ci=(S k).ci/\
  ee (F k) o.dst v loc'=some (F (k+1))/\S (k+1)=(S k).least s1/\Lo k=(bT s1.minw (S k).next||isStore o.op))\/
 (eX all (F k).env o=false/\ee (F k) o.dst ii (F k).loc=some (F (k+1))/\S (k+1)=S k)
structure wN (i:Nat) (rs:List dU) (bs:List Nat) (l:List Oper):Prop where
 step: ∀k o,l[k]? =some o->yJ Q f all F S M lv Lo (i+k) o
 more: ∀k o,l[k]? =some o-> ∀n,dJ mk n=true->dJ (M (i+k)) n=true
 old: ∀k o,l[k]? =some o->eX all (F (i+k)).env o=true-> ∀r∈rs,yC ((bs[k]?).getD 0) r (dy (Q.hint f) o.dst (F (i+k)).env o.op) (Lo (i+k)) (M (i+k))
 pair: ∀k k' o o',k'<k->l[k]? =some o->l[k']? =some o'->eX all (F (i+k)).env o=true->eX all (F (i+k')).env o'=true->
  yC ((bs[k]?).getD 0) ⟨i+k',(S (i+k')).next,(S (i+k'+1)).next,dy (Q.hint f) o'.dst (F (i+k')).env o'.op,Lo (i+k')⟩ (dy (Q.hint f) o.dst (F (i+k)).env o.op) (Lo (i+k)) (M (i+k))
end
theorem IC (bs:List Nat):(bs[0]?).getD 0=bs.headD 0:=by cases bs<;>rfl
theorem A8 (bs:List Nat) (k:Nat):bs.tail[k]? =bs[k+1]? :=by cases bs<;>simp
theorem ql {α:Type} (i:Nat) (a:α) (F:Nat->α): ∃F':Nat->α,F' i=a/\ ∀k,F' (i+1+k)=F (i+1+k):=
 ⟨fun k=>if k=i then a else F k,by simp,fun k=>by simp only;rw[if_neg (by omega)]⟩
theorem wN.cons {Q:cw} {f:FuncId} {all:Array Oper} {mk:bn} {F F':Nat->Fr} {S S':Nat->St} {M M':Nat->bn} {lv lv':Nat->Nat} {Lo Lo':Nat->Bool} {i:Nat} {rs rs':List dU} {bs:List Nat} {o:Oper} {l:List Oper}
 (t:wN Q f all mk F S M lv Lo (i+1) rs' bs.tail l) (hF: ∀k,F' (i+1+k)=F (i+1+k)) (hS: ∀k,S' (i+1+k)=S (i+1+k)) (hM: ∀k,M' (i+1+k)=M (i+1+k))
 (hlv: ∀k,lv' (i+1+k)=lv (i+1+k)) (hLo: ∀k,Lo' (i+1+k)=Lo (i+1+k)) (hst:yJ Q f all F' S' M' lv' Lo' i o) (hmk: ∀n,dJ mk n=true->dJ (M' i) n=true)
 (hold:eX all (F' i).env o=true-> ∀r∈rs,yC (bs.headD 0) r (dy (Q.hint f) o.dst (F' i).env o.op) (Lo' i) (M' i)) (hrs: ∀r∈rs,r∈rs')
 (hr:eX all (F' i).env o=true->⟨i,(S' i).next,(S' (i+1)).next,dy (Q.hint f) o.dst (F' i).env o.op,Lo' i⟩∈rs'):wN Q f all mk F' S' M' lv' Lo' i rs bs (o::l) where
 step k p hk:=by
  cases k with
  |zero=>simp at hk;subst hk;exact hst
  |succ k=>
   have:=t.step k p (by simpa using hk)
   unfold yJ at this ⊢
   rw[show i+(k+1)=i+1+k by omega,show i+1+k+1=i+1+(k+1) by omega,hF,hF,hS,hS,hM,hlv,hLo]
   exact this
 more k p hk n hn:=by
  cases k with
  |zero=>exact hmk n hn
  |succ k=>rw[show i+(k+1)=i+1+k by omega,hM];exact t.more k p (by simpa using hk) n hn
 old k p hk hw r hr:=by
  cases k with
  |zero=>simp at hk;subst hk;rw[IC];exact hold hw r hr
  |succ k=>
   rw[show i+(k+1)=i+1+k by omega] at hw ⊢
   rw[hF] at hw ⊢
   rw[hM,hLo,<-A8]
   exact t.old k p (by simpa using hk) hw r (hrs r hr)
 pair k k' p p' hlt hk hk' hw hw':=by
  cases k with
  |zero=>omega
  |succ k=>
   rw[show i+(k+1)=i+1+k by omega] at hw ⊢
   rw[hF] at hw ⊢
   rw[hM,hLo,<-A8]
   cases k' with
   |zero=>
    simp at hk';subst hk'
    exact t.old k p (by simpa using hk) hw _ (hr hw')
   |succ k'=>
    rw[show i+(k'+1)=i+1+k' by omega] at hw' ⊢
    rw[hF] at hw' ⊢
    rw[hLo,show i+1+k'+1=i+1+(k'+1) by omega,hS,hS]
    exact t.pair k k' p p' (by omega) (by simpa using hk) (by simpa using hk') hw hw'
theorem Cn {Q:cw} {f:FuncId} {all:Array Oper} {mk:bn}: ∀ {l:List Oper} {n:Nat} {bs:List Nat} {rs:List dU} {i:Nat} {fr fr':Fr} {s s':St},
 (cN Q n).draw f all bs mk rs i l fr s=some (fr',s')->
 ∃F S M lv Lo,F i=fr/\S i=s/\F (i+l.length)=fr'/\S (i+l.length)=s'/\(∀k o,l[k]? =some o->lv (i+k)<n)/\wN Q f all mk F S M lv Lo i rs bs l
 |l,0,bs,rs,i,fr,fr',s,s',h=>by cases h
 | [],n+1,bs,rs,i,fr,fr',s,s',h=>by
   have h:some (fr,s)=some (fr',s'):=h
   simp only[bg,bL] at h
   obtain⟨rfl,rfl⟩:=h
   exact⟨fun _=>fr,fun _=>s,fun _=>mk,fun _=>0,fun _=>false,rfl,rfl,rfl,rfl,by simp,⟨by simp,by simp,by simp,by simp⟩⟩
 |o::l,n+1,bs,rs,i,fr,fr',s,s',h=>by
  have h:lH Q (cN Q n) f all bs mk rs i (o::l) fr s=some (fr',s'):=h
  simp only[lH] at h
  cases hw:eX all fr.env o with
  |true=>
   simp only[hw,cT,aG] at h
   obtain⟨⟨v,loc',s1⟩,h1,h⟩:=h
   obtain⟨hc,h⟩:=bX h
   simp only[aG] at h
   obtain⟨fr1,hf,h⟩:=h
   simp only[cZ] at hc
   obtain⟨hfit,hci⟩:=hc
   have hci:=fp hci
   obtain⟨F,S,M,lv,Lo,e1,e2,e3,e4,hlv,t⟩:=Cn h
   obtain⟨F',F0,F1⟩:=ql i fr F
   obtain⟨S',S0,S1⟩:=ql i s S
   obtain⟨M',M0,M1⟩:=ql i (je (bs.headD 0) rs mk) M
   obtain⟨lv',lv0,lv1⟩:=ql i n lv
   obtain⟨Lo',Lo0,Lo1⟩:=ql i (bT s1.minw s.next||isStore o.op) Lo
   have eF:F' (i+1)=fr1:=(F1 0).trans e1
   have eS:S' (i+1)=s.least s1:=(S1 0).trans e2
   refine⟨F',S',M',lv',Lo',F0,S0,?_,?_,?_,t.cons F1 S1 M1 lv1 Lo1 ?_ ?_ ?_ ?_ ?_⟩
   ·rw[aP,show i+(l.length+1)=i+1+l.length by omega,F1];exact e3
   ·rw[aP,show i+(l.length+1)=i+1+l.length by omega,S1];exact e4
   ·intro k p hk
    cases k with
    |zero=>rw[dc,lv0];omega
    |succ k=>
     rw[show i+(k+1)=i+1+k by omega,lv1]
     have:=hlv k p (by simpa using hk)
     omega
   ·refine .inl ⟨by rw[F0];exact hw,v,loc',s1,?_,?_,?_,?_,?_⟩
    ·rw[F0,S0,M0,lv0];exact h1
    ·rw[S0];exact hci.symm
    ·rw[F0,eF];exact hf
    ·rw[S0,eS]
    ·rw[S0,Lo0]
   ·intro m hm;rw[M0];exact IE hm
   ·intro _ r hr
    rw[F0,Lo0,M0]
    exact Yh hfit hr
   ·intro r hr;exact wA _ hr
   ·intro _
    rw[S0,eS,F0,Lo0]
    exact List.mem_cons_self
  |false=>
   simp only[hw,cF,aG] at h
   obtain⟨fr1,hf,h⟩:=h
   obtain⟨F,S,M,lv,Lo,e1,e2,e3,e4,hlv,t⟩:=Cn h
   obtain⟨F',F0,F1⟩:=ql i fr F
   obtain⟨S',S0,S1⟩:=ql i s S
   obtain⟨M',M0,M1⟩:=ql i mk M
   obtain⟨lv',lv0,lv1⟩:=ql i n lv
   obtain⟨Lo',Lo0,Lo1⟩:=ql i false Lo
   have eF:F' (i+1)=fr1:=(F1 0).trans e1
   have eS:S' (i+1)=s:=(S1 0).trans e2
   refine⟨F',S',M',lv',Lo',F0,S0,?_,?_,?_,t.cons F1 S1 M1 lv1 Lo1 ?_ ?_ ?_ ?_ ?_⟩
   ·rw[aP,show i+(l.length+1)=i+1+l.length by omega,F1];exact e3
   ·rw[aP,show i+(l.length+1)=i+1+l.length by omega,S1];exact e4
   ·intro k p hk
    cases k with
    |zero=>rw[dc,lv0];omega
    |succ k=>
     rw[show i+(k+1)=i+1+k by omega,lv1]
     have:=hlv k p (by simpa using hk)
     omega
   ·exact .inr ⟨by rw[F0];exact hw,by rw[F0,eF];exact hf,by rw[S0,eS]⟩
   ·intro m hm;rw[M0];exact hm
   ·intro h' r hr
    rw[F0,hw] at h';cases h'
   ·intro r hr;exact hr
   ·intro h';rw[F0,hw] at h';cases h'
theorem Hb {ops:Array Oper}: ∀ {l:List Oper} {bs:List Nat} {b:Nat},kU ops b l bs=true-> ∀i j x y,i<j->l[i]? =some x->l[j]? =some y->((bs[j]?).getD 0).testBit (b+i)=true\/w4 ops x y=true
 | [],_,_,_,i,j,x,y,_,hx,_=>by simp at hx
 |o::l,bs,b,h,i,j,x,y,hlt,hx,hy=>by
  simp only[kU,cZ] at h
  obtain⟨_,h1,h2⟩:=h
  cases j with
  |zero=>omega
  |succ j=>
   rw[<-A8]
   cases i with
   |succ i=>
    have:=Hb h2 i j x y (by omega) (by simpa using hx) (by simpa using hy)
    rw[show b+1+i=b+(i+1) by omega] at this
    exact this
   |zero=>
    simp at hx;subst hx
    have hin: ∀ {l:List Oper} {bs:List Nat},yP ops o b l bs=true-> ∀(j:Nat) y,l[j]? =some y->((bs[j]?).getD 0).testBit b=true\/w4 ops o y=true:=by
     intro l
     induction l with
     |nil=>intro bs _ j y hy;simp at hy
     |cons z l ih=>
      intro bs h j y hy
      simp only[yP,cZ,tf] at h
      cases j with
      |zero=>simp at hy;subst hy;rw[IC];exact h.1
      |succ j=>rw[<-A8];exact ih h.2 j y (by simpa using hy)
    exact hin h1 j y (by simpa using hy)
theorem Ha {ops:Array Oper}: ∀ {l:List Oper} {bs:List Nat} {b:Nat},kU ops b l bs=true-> ∀i x,l[i]? =some x-> ∀e∈x.after,Region.binds .any e=true->e.on<b+i
 | [],_,_,_,i,x,hx,_,_,_=>by simp at hx
 |o::l,bs,b,h,i,x,hx,e,he,hb=>by
  simp only[kU,cZ] at h
  obtain⟨h0,_,h2⟩:=h
  cases i with
  |zero=>
   simp at hx;subst hx
   have:=List.all_eq_true.1 h0 e (Array.mem_toList_iff.2 he)
   simp only[hb,Bool.not_true,jU] at this
   exact mR this
  |succ i=>
   have:=Ha h2 i x (by simpa using hx) e he hb
   omega
structure bp (Q:cw) (f:FuncId) (all:Array Oper) (mk:bn) (F:Nat->Fr) (S:Nat->St) (M:Nat->bn) (lv:Nat->Nat) (Lo:Nat->Bool):Prop where
 tr:wN Q f all mk F S M lv Lo 0 [] (Region.before all).toList all.toList
 ap:kU all 0 all.toList (Region.before all).toList=true
 fresh: ∀n,(S 0).next<=n->(S 0).heap.get n=none
section
variable {Q:cw} {f:FuncId} {all:Array Oper} {mk:bn} {F:Nat->Fr} {S:Nat->St} {M:Nat->bn} {lv:Nat->Nat} {Lo:Nat->Bool}
noncomputable def bp.foot (Q:cw) (f:FuncId) (F:Nat->Fr) (k:Nat) (o:Oper):fN:=dy (Q.hint f) o.dst (F k).env o.op
noncomputable def bp.fm (Q:cw) (f:FuncId) (F:Nat->Fr) (S:Nat->St) (M:Nat->bn) (k:Nat) (o:Oper):bn:=nV (S k).next (bp.foot Q f F k o) (M k)
theorem bp.step (t:bp Q f all mk F S M lv Lo) {k:Nat} {o:Oper} (hk:all[k]? =some o):yJ Q f all F S M lv Lo k o:=by
 have:=t.tr.step k o (by simpa using hk)
 rwa [aQ] at this
theorem bp.done (t:bp Q f all mk F S M lv Lo) {k:Nat} {o:Oper} (hk:all[k]? =some o) (hw:eX all (F k).env o=true):
 ∃v loc' s1,fA Q (cN Q (lv k)) f o (M k) (F k) ⟨(S k).heap,(S k).next,(S k).next,(S k).ci⟩=some (v,loc',s1)/\s1.ci=(S k).ci/\
  ee (F k) o.dst v loc'=some (F (k+1))/\S (k+1)=(S k).least s1/\Lo k=(bT s1.minw (S k).next||isStore o.op)/\
  fO (bp.fm Q f F S M k o) ⟨(S k).heap,(S k).next,(S k).next,(S k).ci⟩ s1:=by
 rcases t.step hk with⟨_,v,loc',s1,h1,h2,h3,h4,h5⟩|⟨h,_⟩
 ·refine⟨v,loc',s1,h1,h2,h3,h4,h5,?_⟩
  obtain⟨loc2',h6,_⟩:=C3 (c:=(S k).next) (e:=(F k).env) (n:=(F k).size) (M k) (F k).loc v loc' s1 h1 (F k).loc (fun _ _=>.refl _ _)
  have hl:=xI (Q:=Q) (kq Q (lv k)) f o (bp.fm Q f F S M k o) (F k)
  exact(hl Q.ch _ v loc2' s1 h6).1
 ·rw[hw] at h;cases h
theorem bp.next_le (t:bp Q f all mk F S M lv Lo) {k:Nat} {o:Oper} (hk:all[k]? =some o):(S k).next<=(S (k+1)).next:=by
 cases hw:eX all (F k).env o with
 |true=>
  obtain⟨v,loc',s1,_,_,_,h4,_,g⟩:=t.done hk hw
  rw[h4];exact g.next
 |false=>
  rcases t.step hk with⟨h,_⟩|⟨_,_,h⟩
  ·rw[hw] at h;cases h
  ·rw[h];exact bB _
theorem bp.mono (t:bp Q f all mk F S M lv Lo) {i:Nat}: ∀ {j:Nat},i<=j->j<=all.size->(S i).next<=(S j).next
 |0,h,_=>by have:i=0:=by omega
            subst this;exact bB _
 |j+1,h,hj=>by
  by_cases e:i=j+1
  ·rw[e];exact bB _
  ·exact fW (t.mono (by omega) (by omega)) (t.next_le (mG (by omega)))
theorem bp.none_above (t:bp Q f all mk F S M lv Lo): ∀ {k:Nat},k<=all.size-> ∀n,(S k).next<=n->(S k).heap.get n=none
 |0,_,n,h=>t.fresh n h
 |k+1,hk,n,h=>by
  have ho:all[k]? =some all[k]:=mG (by omega)
  have hle:=t.next_le ho
  have ih:=t.none_above (k:=k) (by omega) n (by omega)
  cases hw:eX all (F k).env all[k] with
  |true=>
   obtain⟨v,loc',s1,_,_,_,h4,_,g⟩:=t.done ho hw
   rw[h4] at h ⊢
   refine(g.frame n ?_).trans ih
   rintro(⟨_,h'⟩|h')
   ·exact h' ih
   ·exact absurd h (by have:=h'.2;show¬s1.next<=n;omega)
  |false=>
   rcases t.step ho with⟨h',_⟩|⟨_,_,h'⟩
   ·rw[hw] at h';cases h'
   ·rw[h'];exact ih
def bp.Th (Q:cw) (f:FuncId) (all:Array Oper) (F:Nat->Fr) (S:Nat->St) (M:Nat->bn) (k n:Nat):Prop:=
 ∃o,all[k]? =some o/\eX all (F k).env o=true/\kT (bp.fm Q f F S M k o) (S k) (S (k+1)) n
open Classical in
noncomputable def bp.X (Q:cw) (f:FuncId) (all:Array Oper) (F:Nat->Fr) (S:Nat->St) (M:Nat->bn) (H:Nat->Option bH) (n:Nat):Nat->Option bH
 |0=>H n
 |k+1=>if bp.Th Q f all F S M k n then(S (k+1)).heap.get n else bp.X Q f all F S M H n k
theorem bp.X_change {H:Nat->Option bH} {n k:Nat} (h:bp.X Q f all F S M H n (k+1)≠bp.X Q f all F S M H n k):bp.Th Q f all F S M k n:=by
 by_cases e:bp.Th Q f all F S M k n
 ·exact e
 ·exact absurd (by rw[bp.X,if_neg e]) h
theorem bp.X_sees (t:bp Q f all mk F S M lv Lo) {H:Nat->Option bH} (h0: ∀n o,dJ mk n=false->(S 0).heap.get n=some o->H n=some o):
 ∀ {k:Nat},k<=all.size-> ∀n o,dJ mk n=false->(S k).heap.get n=some o->bp.X Q f all F S M H n k=some o
 |0,_,n,o,hn,h=>h0 n o hn h
 |k+1,hk,n,o,hn,h=>by
  have ho:all[k]? =some all[k]:=mG (by omega)
  rw[bp.X]
  split
  ·exact h
  ·rename_i hT
   refine t.X_sees h0 (by omega) n o hn ?_
   cases hw:eX all (F k).env all[k] with
   |true=>
    obtain⟨v,loc',s1,_,_,_,h4,_,g⟩:=t.done ho hw
    rw[h4] at h
    refine(g.frame n fun t'=>hT ⟨_,ho,hw,?_⟩).symm.trans h
    rw[h4];exact t'
   |false=>
    rcases t.step ho with⟨h',_⟩|⟨_,_,h'⟩
    ·rw[hw] at h';cases h'
    ·rw[h'] at h;exact h
end
def pf (all:Array Oper) (i j:Nat):Prop:=(((Region.before all).toList[j]?).getD 0).testBit i=true
theorem pf.dep {all:Array Oper} {i j:Nat} (h:pf all i j):mM all i j:=by
 unfold pf at h
 cases hb:(Region.before all)[j]? with
 |none=>simp[hb] at h
 |some b=>simp[hb] at h;exact VN hb h
section
variable {Q:cw} {f:FuncId} {all:Array Oper} {mk:bn} {F:Nat->Fr} {S:Nat->St} {M:Nat->bn} {lv:Nat->Nat} {Lo:Nat->Bool}
theorem bp.compat (t:bp Q f all mk F S M lv Lo) {i j:Nat} {oi oj:Oper} (hij:i<j) (hi:all[i]? =some oi) (hj:all[j]? =some oj) (wi:eX all (F i).env oi=true) (wj:eX all (F j).env oj=true)
 (hn: ¬pf all i j):((Lo j||Lo i)&&(bp.foot Q f F j oj).meets (bp.foot Q f F i oi))=false/\ ∀n,(S i).next<=n->n<(S (i+1)).next->dJ (M j) n=true:=by
 have:=t.tr.pair j i oj oi hij (by simpa using hj) (by simpa using hi) (by rw[aQ];exact wj) (by rw[aQ];exact wi)
 simp only[aQ] at this
 exact this.resolve_left hn
theorem bp.lt_size {i:Nat} {o:Oper} (h:all[i]? =some o):i<all.size:=(Array.getElem?_eq_some_iff.1 h).1
theorem bp.loud (t:bp Q f all mk F S M lv Lo) {H:Nat->Option bH} (h0: ∀n o,dJ mk n=false->(S 0).heap.get n=some o->H n=some o) {i n:Nat} {o:Oper} (hi:all[i]? =some o)
 (w:eX all (F i).env o=true) (hc:bp.X Q f all F S M H n (i+1)≠bp.X Q f all F S M H n i) (hv:dJ (bp.fm Q f F S M i o) n=false) (hp:(S i).heap.get n≠none):Lo i=true:=by
 have hT:=bp.X_change hc
 have hlt:n<(S i).next:=by
  rcases im n (S i).next with h|h
  ·exact h
  ·exact absurd (t.none_above (tm (bp.lt_size hi)) n h) hp
 obtain⟨v,loc',s1,_,_,_,h4,h5,g⟩:=t.done hi w
 have hm:dJ mk n=false:=by
  cases e:dJ mk n with
  |false=>rfl
  |true=>
   have:=t.tr.more i o (by simpa using hi) n e
   rw[aQ] at this
   rw[bp.fm,CT this] at hv;cases hv
 cases ho:(S i).heap.get n with
 |none=>exact absurd ho hp
 |some ob=>
  have hX:=t.X_sees h0 (tm (bp.lt_size hi)) n ob hm ho
  rw[bp.X,if_pos hT,hX,<-ho,h4] at hc
  have:=g.noted n hlt hc
  rw[h5]
  have:bT s1.minw (S i).next=true:=by rw[vI];exact decide_eq_true (by omega)
  rw[this];rfl
theorem ain {F1 F2:fN} {n:Nat} (h1:F1= .all\/F1= .obj n) (h2:F2= .all\/F2= .obj n):F1.meets F2=true:=by
 rcases h1 with rfl|rfl<;>rcases h2 with rfl|rfl<;>simp[fN.meets]
theorem bp.heap_apart (t:bp Q f all mk F S M lv Lo) {H:Nat->Option bH} (h0: ∀n o,dJ mk n=false->(S 0).heap.get n=some o->H n=some o) {i j n:Nat} (hij:i<j) (hj:j<all.size) (hn: ¬pf all i j):
 (bp.Th Q f all F S M j n->bp.X Q f all F S M H n (i+1)=bp.X Q f all F S M H n i)/\
 (bp.Th Q f all F S M i n->bp.X Q f all F S M H n (j+1)=bp.X Q f all F S M H n j):=by
 have key:bp.Th Q f all F S M i n->bp.Th Q f all F S M j n->
  (bp.X Q f all F S M H n (i+1)≠bp.X Q f all F S M H n i\/bp.X Q f all F S M H n (j+1)≠bp.X Q f all F S M H n j)->False:=by
  rintro⟨oi,hi,wi,Ti⟩ ⟨oj,hj',wj,Tj⟩ hch
  obtain⟨c1,c2⟩:=t.compat hij hi hj' wi wj hn
  have hle:(S (i+1)).next<=(S j).next:=t.mono (by omega) (by omega)
  have hle':=t.next_le hi
  have hnj:dJ (bp.fm Q f F S M j oj) n=false/\(S j).heap.get n≠none:=by
   rcases Tj with h|h
   ·exact h
   ·exfalso
    rcases Ti with⟨_,hp⟩|h'
    ·exact hp (t.none_above (by omega) n (by omega))
    ·omega
  have hmj:=CS hnj.1
  have hlt:n<(S j).next:=by
   rcases im n (S j).next with h|h
   ·exact h
   ·exact absurd (t.none_above (by omega) n h) hnj.2
  have hni:dJ (bp.fm Q f F S M i oi) n=false/\(S i).heap.get n≠none:=by
   rcases Ti with h|h
   ·exact h
   ·exfalso
    have:=c2 n h.1 h.2
    rw[hmj.1] at this;cases this
  have hmi:=CS hni.1
  have hlti:n<(S i).next:=by
   rcases im n (S i).next with h|h
   ·exact h
   ·exact absurd (t.none_above (by omega) n h) hni.2
  have hm:(bp.foot Q f F j oj).meets (bp.foot Q f F i oi)=true:=
   ain (hmj.2.imp id fun h=>h.resolve_right (by omega)) (hmi.2.imp id fun h=>h.resolve_right (by omega))
  rw[hm,Bool.and_true] at c1
  rcases hch with h|h
  ·rw[t.loud h0 hi wi h hni.1 hni.2] at c1;simp at c1
  ·rw[t.loud h0 hj' wj h hnj.1 hnj.2] at c1;simp at c1
 constructor
 ·intro hT
  apply lW
  intro hne
  exact key (bp.X_change hne) hT (.inl hne)
 ·intro hT
  apply lW
  intro hne
  exact key hT (bp.X_change hne) (.inr hne)
end
theorem pQ {fr fr':Fr} {dst:Option Tmp} {v:aj} {l:Loc} (h:ee fr dst v l=some fr'):
 fr'.size=fr.size/\fr'.loc=l/\(∀d,dst=some d->d<fr.size/\ax fr'.env d=v)/\ ∀t,dst≠some t->ax fr'.env t=ax fr.env t:=by
 unfold ee at h
 cases dst with
 |none=>
  injection h with h;subst h
  exact⟨rfl,rfl,by simp,fun _ _=>rfl⟩
 |some d=>
  obtain⟨hd,h⟩:=bX h
  injection h with h;subst h
  refine⟨rfl,rfl,?_,?_⟩
  ·intro d' hd';injection hd' with hd';subst hd'
   exact⟨mR hd,by simp[ax,FE]⟩
  ·intro t ht
   have:t≠d:=fun e=>ht (by rw[e])
   simp[ax,bv.get_set,this]
theorem Xe {ops:Array Oper} {x y:Oper} (h:w4 ops x y=true):(∀d,x.dst=some d->d ∉ tY ops y/\y.dst≠some d)/\ ∀d,y.dst=some d->d ∉ tY ops x:=by
 simp only[w4,cZ] at h
 have hmem: ∀(d:Nat) (l:List Nat),l.any (be d)=false->d ∉ l:=by
  intro d l hl hd
  rw[List.any_eq_false] at hl
  exact hl d hd (by simp)
 obtain⟨h1,h2⟩:=h
 refine⟨fun d hd=>?_,fun d hd=>?_⟩
 ·rw[hd] at h1
  simp only[cZ,te] at h1
  refine⟨hmem d _ h1.1,fun e=>?_⟩
  have h1:=h1.2
  rw[e] at h1
  simp at h1
 ·rw[hd] at h2
  simp only[te] at h2
  exact hmem d _ h2
section
variable {Q:cw} {f:FuncId} {all:Array Oper} {mk:bn} {F:Nat->Fr} {S:Nat->St} {M:Nat->bn} {lv:Nat->Nat} {Lo:Nat->Bool}
def bp.Te (all:Array Oper) (k t:Nat):Prop:= ∃o,all[k]? =some o/\(t∈tY all o\/o.dst=some t)
theorem bp.put (t:bp Q f all mk F S M lv Lo) {k:Nat} {o:Oper} (hk:all[k]? =some o): ∃v l,ee (F k) o.dst v l=some (F (k+1)):=by
 rcases t.step hk with⟨_,v,loc',s1,_,_,h3,_⟩|⟨_,h,_⟩
 ·exact⟨_,_,h3⟩
 ·exact⟨_,_,h⟩
theorem bp.env_change (t:bp Q f all mk F S M lv Lo) {k d:Nat} {o:Oper} (hk:all[k]? =some o) (h:ax (F (k+1)).env d≠ax (F k).env d):o.dst=some d:=by
 obtain⟨v,l,hp⟩:=t.put hk
 by_cases e:o.dst=some d
 ·exact e
 ·exact absurd ((pQ hp).2.2.2 d e) h
theorem bp.size_eq (t:bp Q f all mk F S M lv Lo): ∀ {k:Nat},k<=all.size->(F k).size=(F 0).size
 |0,_=>rfl
 |k+1,h=>by
  obtain⟨v,l,hp⟩:=t.put (mG (show k<all.size by omega))
  rw[(pQ hp).1];exact t.size_eq (by omega)
theorem bp.env_apart (t:bp Q f all mk F S M lv Lo) {i j d:Nat} (hij:i<j) (hj:j<all.size) (hn: ¬pf all i j):
 (bp.Te all j d->ax (F (i+1)).env d=ax (F i).env d)/\(bp.Te all i d->ax (F (j+1)).env d=ax (F j).env d):=by
 have hi':all[i]? =some all[i]:=mG (by omega)
 have hj':all[j]? =some all[j]:=mG hj
 have:=Hb t.ap i j all[i] all[j] hij (by simp) (by simp)
 rw[aQ] at this
 obtain⟨h1,h2⟩:=Xe (this.resolve_left hn)
 constructor
 ·rintro⟨o,ho,hT⟩
  rw[hj'] at ho;injection ho with ho;subst ho
  apply lW
  intro hne
  obtain⟨h3,h4⟩:=h1 d (t.env_change hi' hne)
  exact hT.elim h3 h4
 ·rintro⟨o,ho,hT⟩
  rw[hi'] at ho;injection ho with ho;subst ho
  apply lW
  intro hne
  have h3:=t.env_change hj' hne
  exact hT.elim (h2 d h3) fun h4=>(h1 d h4).2 h3
def bp.L (F:Nat->Fr) (t k:Nat):Nat×(Nat->Option (List aj)):=((F k).loc.gen t,fun g=>(F k).loc.get t g)
theorem bp.L_eq {F:Nat->Fr} {t k k':Nat}:bp.L F t k=bp.L F t k'↔ju (F k).loc (F k').loc t:=by
 unfold bp.L ju
 rw[bL]
 exact⟨fun h=>⟨h.1,fun g=>congrFun h.2 g⟩,fun h=>⟨h.1,funext h.2⟩⟩
def bp.Tl (Q:cw) (f:FuncId) (all:Array Oper) (F:Nat->Fr) (k u:Nat):Prop:= ∃o,all[k]? =some o/\eX all (F k).env o=true/\bp.foot Q f F k o= .loc u
theorem bp.loc_change (t:bp Q f all mk F S M lv Lo) {k u:Nat} (hk:k<all.size) (h:bp.L F u (k+1)≠bp.L F u k):bp.Tl Q f all F k u/\Lo k=true:=by
 have hk':all[k]? =some all[k]:=mG hk
 rcases t.step hk' with⟨w,v,loc',s1,h1,_,h3,_,h5⟩|⟨_,hp,_⟩
 ·have hl:=(pQ h3).2.1
  obtain⟨loc2',_,_,h7,h8⟩:=C3 (c:=(S k).next) (e:=(F k).env) (n:=(F k).size) (M k) (F k).loc v loc' s1 h1 (F k).loc (fun _ _=>.refl _ _)
  constructor
  ·apply lW
   intro hT
   apply h
   rw[bp.L_eq,hl]
   exact(h7 u fun e=>hT ⟨_,hk',w,e⟩).1
  ·rw[h5]
   cases e:isStore all[k].op with
   |true=>simp
   |false=>
    exfalso;apply h
    rw[bp.L_eq,hl,h8 e];exact .refl _ _
 ·exfalso;apply h
  rw[bp.L_eq,(pQ hp).2.1];exact .refl _ _
theorem bp.loc_apart (t:bp Q f all mk F S M lv Lo) {i j u:Nat} (hij:i<j) (hj:j<all.size) (hn: ¬pf all i j):
 (bp.Tl Q f all F j u->bp.L F u (i+1)=bp.L F u i)/\(bp.Tl Q f all F i u->bp.L F u (j+1)=bp.L F u j):=by
 have key:bp.Tl Q f all F i u->bp.Tl Q f all F j u->(Lo i=true\/Lo j=true)->False:=by
  rintro⟨oi,hi,wi,fi⟩ ⟨oj,hj',wj,fj⟩ hl
  obtain⟨c1,_⟩:=t.compat hij hi hj' wi wj hn
  rw[fi,fj] at c1
  rcases hl with h|h<;>rw[h] at c1<;>simp[fN.meets] at c1
 constructor
 ·intro hT
  apply lW
  intro hne
  obtain⟨h1,h2⟩:=t.loc_change (by omega) hne
  exact key h1 hT (.inl h2)
 ·intro hT
  apply lW
  intro hne
  obtain⟨h1,h2⟩:=t.loc_change hj hne
  exact key hT h1 (.inr h2)
end
section
variable {Q:cw} {f:FuncId} {all:Array Oper} {mk:bn} {F:Nat->Fr} {S:Nat->St} {M:Nat->bn} {lv:Nat->Nat} {Lo:Nat->Bool}
structure jM (Q:cw) (f:FuncId) (all:Array Oper) (F:Nat->Fr) (S:Nat->St) (M:Nat->bn) (H:Nat->Option bH) (D:Nat->Prop) (fr:Fr) (h:Nat->Option bH):Prop where
 env: ∀t,ax fr.env t=mix (fun k=>ax (F k).env t) D all.size
 size:fr.size=(F 0).size
 loc: ∀u,(fr.loc.gen u,fun g=>fr.loc.get u g)=mix (bp.L F u) D all.size
 heap: ∀n,h n=mix (bp.X Q f all F S M H n) D all.size
def Bu (all:Array Oper) (D:Nat->Prop):Prop:= ∀j o,D j->all[j]? =some o-> ∀e∈o.after,Region.binds .any e=true->D e.on
structure kf (all:Array Oper) (D:Nat->Prop) (j:Nat) (o:Oper):Prop where
 closed:Bu all D
 at_:all[j]? =some o
 new: ¬D j
 preds: ∀e∈o.after,Region.binds .any e=true->D e.on
theorem kf.ord {D:Nat->Prop} {j:Nat} {o:Oper} (x:kf all D j o) {i:Nat} (h:pf all i j):D i:=
 h.dep.ready x.closed fun o' ho e he hb=>by
  rw[x.at_] at ho;injection ho with ho;subst ho
  exact x.preds e he hb
theorem kf.notOrd {D:Nat->Prop} {j:Nat} {o:Oper} (x:kf all D j o) {k:Nat} (hk:D k): ¬pf all j k:=fun h=>x.new (h.dep.closed x.closed hk)
theorem kf.both {α:Type} {X:Nat->α} {D:Nat->Prop} {j:Nat} {o:Oper} (x:kf all D j o)
 (hb: ∀i,i<j-> ¬pf all i j->X (i+1)=X i) (ha: ∀k,j<k->k<all.size-> ¬pf all j k->X (k+1)=X k):
 mix X D all.size=X j/\mix X (fun k=>D k\/k=j) all.size=X (j+1):=by
 have hj:=bp.lt_size x.at_
 have hb': ∀i,i<j->X (i+1)≠X i->D i:=fun i hi hne=>by
  apply lW
  intro hd
  exact hne (hb i hi fun h=>hd (x.ord h))
 have ha': ∀k,j<k->k<all.size->D k->X (k+1)=X k:=fun k h1 h2 hd=>ha k h1 h2 (x.notOrd hd)
 refine⟨R7 (by omega) hb' fun k h1 h2 hd=>?_,aiG hj hb' ha'⟩
 by_cases e:k=j
 ·exact absurd (e▸hd) x.new
 ·exact ha' k (by omega) h2 hd
theorem kf.env (t:bp Q f all mk F S M lv Lo) {D:Nat->Prop} {j d:Nat} {o:Oper} (x:kf all D j o) (hT:bp.Te all j d):
 mix (fun k=>ax (F k).env d) D all.size=ax (F j).env d/\mix (fun k=>ax (F k).env d) (fun k=>D k\/k=j) all.size=ax (F (j+1)).env d:=
 x.both (X:=fun k=>ax (F k).env d) (fun _i hi hn=>(t.env_apart hi (bp.lt_size x.at_) hn).1 hT) fun _k h1 h2 hn=>(t.env_apart h1 h2 hn).2 hT
theorem kf.loc (t:bp Q f all mk F S M lv Lo) {D:Nat->Prop} {j u:Nat} {o:Oper} (x:kf all D j o) (hT:bp.Tl Q f all F j u):
 mix (bp.L F u) D all.size=bp.L F u j/\mix (bp.L F u) (fun k=>D k\/k=j) all.size=bp.L F u (j+1):=
 x.both (fun _i hi hn=>(t.loc_apart hi (bp.lt_size x.at_) hn).1 hT) fun _k h1 h2 hn=>(t.loc_apart h1 h2 hn).2 hT
theorem kf.heap (t:bp Q f all mk F S M lv Lo) {H:Nat->Option bH} (h0: ∀n o,dJ mk n=false->(S 0).heap.get n=some o->H n=some o) {D:Nat->Prop} {j n:Nat} {o:Oper} (x:kf all D j o)
 (hT:bp.Th Q f all F S M j n):
 mix (bp.X Q f all F S M H n) D all.size=bp.X Q f all F S M H n j/\mix (bp.X Q f all F S M H n) (fun k=>D k\/k=j) all.size=bp.X Q f all F S M H n (j+1):=
 x.both (fun _i hi hn=>(t.heap_apart h0 hi (bp.lt_size x.at_) hn).1 hT) fun _k h1 h2 hn=>(t.heap_apart h0 h1 h2 hn).2 hT
theorem kf.keep {α:Type} {X:Nat->α} {D:Nat->Prop} {j n:Nat} (h:X (j+1)=X j):mix X (fun k=>D k\/k=j) n=mix X D n:=t7 h
variable {H:Nat->Option bH} {D:Nat->Prop} {fr:Fr} {h:Nat->Option bH} {j:Nat} {o:Oper}
theorem jM.ev (t:bp Q f all mk F S M lv Lo) (c:jM Q f all F S M H D fr h) (x:kf all D j o): ∀y∈o.op.operands,Ag.ev fr.env y=Ag.ev (F j).env y:=by
 intro y hy
 cases y with
 |tmp d=>
  simp only[Ag.ev]
  rw[c.env d,(x.env t ⟨o,x.at_,.inl ?_⟩).1]
  unfold tY
  refine List.mem_append_left _ (List.mem_filterMap.2 ⟨.tmp d,by simpa using hy,rfl⟩)
 |_=>rfl
theorem jM.wanted (t:bp Q f all mk F S M lv Lo) (c:jM Q f all F S M H D fr h) (x:kf all D j o):eX all fr.env o=eX all (F j).env o:=by
 unfold eX
 cases hg:o.guard with
 |none=>rfl
 |some g=>
  obtain⟨g,want⟩:=g
  simp only
  cases hd:(all[g]?).bind (·.dst) with
  |none=>rfl
  |some d=>
   simp only
   rw[c.env d,(x.env t ⟨o,x.at_,.inl ?_⟩).1]
   unfold tY
   refine List.mem_append_right _ ?_
   simp[hg,hd]
end
theorem SO {fr:Fr} {dst:Option Tmp} {v:aj} {l:Loc} (h: ∀d,dst=some d->d<fr.size): ∃fr',ee fr dst v l=some fr':=by
 unfold ee
 cases hd:dst with
 |none=>exact⟨_,rfl⟩
 |some d=>
  have:bT d fr.size=true:=by rw[vI];exact decide_eq_true (h d hd)
  simp only[this,cT]
  exact⟨_,rfl⟩
section
variable {Q:cw} {f:FuncId} {all:Array Oper} {mk:bn} {F:Nat->Fr} {S:Nat->St} {M:Nat->bn} {lv:Nat->Nat} {Lo:Nat->Bool}
variable {H:Nat->Option bH} {D:Nat->Prop} {fr:Fr} {h:bv bH} {j:Nat} {o:Oper}
def bp.from_ (S:Nat->St) (j:Nat) (h:bv bH):St:=⟨h,(S j).next,(S j).next,(S j).ci⟩
theorem jM.sees (t:bp Q f all mk F S M lv Lo) (h0: ∀n o,dJ mk n=false->(S 0).heap.get n=some o->H n=some o) (c:jM Q f all F S M H D fr h.get) (x:kf all D j o)
 (hw:eX all (F j).env o=true):iC (bp.fm Q f F S M j o) (bp.from_ S j (S j).heap) (bp.from_ S j h) where
 next:=rfl
 minw:=rfl
 ci:=rfl
 get n ob hn hg:=by
  have hg:(S j).heap.get n=some ob:=hg
  show h.get n=some ob
  have hT:bp.Th Q f all F S M j n:=⟨o,x.at_,hw,.inl ⟨hn,by rw[hg];simp⟩⟩
  rw[c.heap n,(x.heap t h0 hT).1]
  refine t.X_sees h0 (tm (bp.lt_size x.at_)) n ob ?_ hg
  cases e:dJ mk n with
  |false=>rfl
  |true=>
   have:=t.tr.more j o (by simpa using x.at_) n e
   rw[aQ] at this
   rw[bp.fm,CT this] at hn;cases hn
theorem jM.run (t:bp Q f all mk F S M lv Lo) (h0: ∀n o,dJ mk n=false->(S 0).heap.get n=some o->H n=some o) (c:jM Q f all F S M H D fr h.get) (x:kf all D j o)
 (hw:eX all (F j).env o=true):
 ∃v loc' s1 fr',fA Q (cN Q (lv j)) f o (bp.fm Q f F S M j o) fr (bp.from_ S j (S j).heap)=some (v,loc',s1)/\s1.ci=(S j).ci/\s1.next=(S (j+1)).next/\ee fr o.dst v loc'=some fr'/\
  ∀s2',gG (bp.fm Q f F S M j o) (bp.from_ S j (S j).heap) s1 (bp.from_ S j h) s2'->jM Q f all F S M H (fun k=>D k\/k=j) fr' s2'.heap.get:=by
 obtain⟨v,loc1,s1,h1,h2,h3,h4,h5,g⟩:=t.done x.at_ hw
 obtain⟨loc2,e1,e2,e3,e4⟩:=C3 (c:=(S j).next) (e:=(F j).env) (n:=(F j).size) (M j) (F j).loc v loc1 s1 h1 fr.loc (fun u hu=>by
  have hT:bp.Tl Q f all F j u:=⟨o,x.at_,hw,hu⟩
  have h6:=(c.loc u).trans (x.loc t hT).1
  unfold bp.L at h6
  rw[bL] at h6
  exact⟨h6.1.symm,fun g=>(congrFun h6.2 g).symm⟩)
 have e1:fA Q (cN Q (lv j)) f o (bp.fm Q f F S M j o) ⟨(F j).env,(F j).size,fr.loc⟩ (bp.from_ S j (S j).heap)=some (v,loc2,s1):=e1
 rw[ajC (e2:=fr.env) (n2:=fr.size) (fun y hy=>(c.ev t x y hy).symm)] at e1
 have hsz:fr.size=(F j).size:=c.size.trans (t.size_eq (tm (bp.lt_size x.at_))).symm
 obtain⟨p1,p2,p3,p4⟩:=pQ h3
 have hp: ∃fr',ee fr o.dst v loc2=some fr':=SO fun d hd=>by rw[hsz];exact(p3 d hd).1
 obtain⟨fr',hp⟩:=hp
 obtain⟨q1,q2,q3,q4⟩:=pQ hp
 refine⟨v,loc2,s1,fr',e1,h2,by rw[h4];rfl,hp,fun s2' same=>⟨fun d=>?_,q1.trans c.size,fun u=>?_,fun n=>?_⟩⟩
 ·by_cases hd:o.dst=some d
  ·rw[(q3 d hd).2,(x.env t ⟨o,x.at_,.inr hd⟩).2,(p3 d hd).2]
  ·rw[q4 d hd,c.env d]
   exact(t7 (X:=fun k=>ax (F k).env d) (p4 d hd)).symm
 ·rw[q2]
  by_cases hu:bp.foot Q f F j o= .loc u
  ·rw[(x.loc t ⟨o,x.at_,hw,hu⟩).2]
   have:=e2 u hu
   unfold bp.L
   rw[p2,this.1]
   rw[bL]
   exact⟨rfl,funext fun g=>(this.2 g).symm⟩
  ·obtain⟨a1,a2⟩:=e3 u hu
   rw[t7 (X:=bp.L F u) (bp.L_eq.2 (by rw[p2];exact a1)),<-c.loc u,bL]
   exact⟨a2.1,funext a2.2⟩
 ·have hiff:bp.Th Q f all F S M j n↔kT (bp.fm Q f F S M j o) (bp.from_ S j (S j).heap) s1 n:=by
   constructor
   ·rintro⟨o',ho',_,hT⟩
    rw[x.at_] at ho';injection ho' with ho';subst ho'
    rw[h4] at hT;exact hT
   ·intro hT
    refine⟨o,x.at_,hw,?_⟩
    rw[h4];exact hT
  by_cases hT:bp.Th Q f all F S M j n
  ·rw[(x.heap t h0 hT).2,bp.X,if_pos hT,h4]
   exact same.inside n (hiff.1 hT)
  ·rw[t7 (X:=bp.X Q f all F S M H n) (by rw[bp.X,if_neg hT]),<-c.heap n]
   exact same.outside n (fun e=>hT (hiff.2 e))
theorem jM.skip (t:bp Q f all mk F S M lv Lo) (c:jM Q f all F S M H D fr h.get) (x:kf all D j o) (hw:eX all (F j).env o=false):
 ∃fr',ee fr o.dst ii fr.loc=some fr'/\jM Q f all F S M H (fun k=>D k\/k=j) fr' h.get:=by
 rcases t.step x.at_ with⟨h',_⟩|⟨_,h3,_⟩
 ·rw[hw] at h';cases h'
 have hsz:fr.size=(F j).size:=c.size.trans (t.size_eq (tm (bp.lt_size x.at_))).symm
 obtain⟨p1,p2,p3,p4⟩:=pQ h3
 have hp: ∃fr',ee fr o.dst ii fr.loc=some fr':=SO fun d hd=>by rw[hsz];exact(p3 d hd).1
 obtain⟨fr',hp⟩:=hp
 obtain⟨q1,q2,q3,q4⟩:=pQ hp
 refine⟨fr',hp,⟨fun d=>?_,q1.trans c.size,fun u=>?_,fun n=>?_⟩⟩
 ·by_cases hd:o.dst=some d
  ·rw[(q3 d hd).2,(x.env t ⟨o,x.at_,.inr hd⟩).2,(p3 d hd).2]
  ·rw[q4 d hd,c.env d]
   exact(t7 (X:=fun k=>ax (F k).env d) (p4 d hd)).symm
 ·rw[q2,t7 (X:=bp.L F u) (bp.L_eq.2 (by rw[p2];exact .refl _ _)),<-c.loc u]
 ·rw[t7 (X:=bp.X Q f all F S M H n) ?_,<-c.heap n]
  rw[bp.X,if_neg]
  rintro⟨o',ho',hw',_⟩
  rw[x.at_] at ho';injection ho' with ho';subst ho'
  rw[hw] at hw';cases hw'
theorem jM.start {s2:bv bH} (hD: ∀k, ¬D k):jM Q f all F S M s2.get D (F 0) s2.get where
 env d:=(Fg (X:=fun k=>ax (F k).env d) fun k _=>hD k).symm
 size:=rfl
 loc u:=by rw[Fg (X:=bp.L F u) fun k _=>hD k];rfl
 heap n:=by rw[Fg (X:=bp.X Q f all F S M s2.get n) fun k _=>hD k];rfl
theorem jM.fin (c:jM Q f all F S M H D fr h.get) (hD: ∀k,k<all.size->D k):
 fr.size=(F 0).size/\(∀d,ax fr.env d=ax (F all.size).env d)/\(∀u,ju fr.loc (F all.size).loc u)/\ ∀n,h.get n=bp.X Q f all F S M H n all.size:=by
 refine⟨c.size,fun d=>?_,fun u=>?_,fun n=>?_⟩
 ·rw[c.env d];exact Fe (X:=fun k=>ax (F k).env d) hD
 ·have:=c.loc u
  rw[Fe hD] at this
  unfold bp.L at this
  rw[bL] at this
  exact⟨this.1,congrFun this.2⟩
 ·rw[c.heap n];exact Fe hD
end
def kX:Option Nat->Fence
 |none=>Fence.wide
 |some l=>Fence.wide.inRound l
theorem tK (ro:Option Nat) (f:FuncId):(kX ro).fn f:=by cases ro<;>exact trivial
theorem XZ (ro:Option Nat):(kX ro).depth=none:=by cases ro<;>rfl
theorem X0 (ro:Option Nat) (l:Nat):(kX ro).inRound l=kX (some l):=by cases ro<;>rfl
theorem CD (ro:Option Nat) (n:Nat):(kX ro).depth.isSome=true->1<=n:=by rw[XZ];intro h;cases h
theorem H9 {ro:Option Nat} {P:Program} {f:FuncId} {args:Array Value} {w:World} {R:Ending->World->Prop}:CallsIn (kX ro) 0 P f args w R↔Calls P f args w R:=by
 cases ro with
 |none=>exact callsIn_wide
 |some l=>exact callsIn_wide (n:=0)
def nD:Obj->Prop
 | .loop _=>True
 | .deferred _=>True
 |_=>False
theorem nD.warm {o:Obj} (h:nD o):Obj.warm o:=by cases o<;>first|exact trivial|exact h.elim
section
variable {G:Gh} {h:bv bH} {w:World} {b:Nat} {o ob:Obj}
theorem BT (hb:w.heap[b]? =some o) (ha:nD o) {C:Array Value} {e:TypeId} {z:Nat×Nat}:w.heap[b]? ≠some (.cells C e z):=by
 rw[hb];intro h;injection h with h;subst h;exact ha.elim
theorem Vu (hb:w.heap[b]? =some o) (ha:nD o) (i:Nat):w.cell? ⟨b,i,none⟩=none:=by
 cases o<;>first
  |exact ha.elim
  |simp[World.cell?,hb]
theorem WR.aside_ro (x:WR G h w) (hb:w.heap[b]? =some o) (ha:nD o) (i:Nat):G.ro b i=none:=by
 cases e:G.ro b i with
 |none=>rfl
 |some v=>
  obtain⟨_,y,hy,_⟩:=x.ro b i v e
  rw[Vu hb ha] at hy;cases hy
theorem WR.aside (x:WR G h w) (hb:w.heap[b]? =some o) (ha:nD o) (hno: ¬eM G h b):WR G h (dN w b ob) where
 obj n o' hn:=by
  obtain⟨a,h1,h2,h3⟩:=x.obj n o' hn
  refine⟨a,h1,h2,h3.of_block ?_⟩
  rw[iZ w b _ ob (gL hb),if_neg]
  intro e
  exact hno ⟨n,a,by rw[hn];simp,h1,e⟩
 sep:=x.sep
 ro c i v hv:=by
  have hc:c≠b:=fun e=>by subst e;rw[x.aside_ro hb ha] at hv;cases hv
  obtain⟨h1,y,h2,h3⟩:=x.ro c i v hv
  refine⟨h1,y,?_,h3⟩
  rw[<-h2];simp[World.cell?,iZ w b _ ob (gL hb),hc]
 apart:=x.apart
 dim c d hd:=by
  have hc:c≠b:=fun e=>by
   subst e
   obtain⟨C,e,h1,_⟩:=x.dim c d hd
   exact BT hb ha h1
  rw[iZ w b _ ob (gL hb),if_neg hc];exact x.dim c d hd
 below n a ha':=by rw[vS];exact x.below n a ha'
theorem nG.aside {B:Nat->Nat} {loc:Loc} (x:nG G h B loc w) (hb:w.heap[b]? =some o) (ha:nD o):nG G h B loc (dN w b ob) where
 cells t cs ht:=by
  obtain⟨C,e,h1,h2⟩:=x.cells t cs ht
  refine⟨C,e,?_,h2⟩
  rw[iZ w b _ ob (gL hb),if_neg]
  ·exact h1
  ·intro e';rw[e'] at h1;exact BT hb ha h1
 free:=x.free
 ro:=x.ro
 inj:=x.inj
theorem dg.aside {B:Nat->Nat} {fr:Fr} {tmps:Array Value} (x:dg G h B fr tmps w) (hb:w.heap[b]? =some o) (ha:nD o):dg G h B fr tmps (dN w b ob):=
 ⟨x.size,x.env,x.locs.aside hb ha⟩
theorem dg.not_LB {B:Nat->Nat} {fr:Fr} {tmps:Array Value} (x:dg G h B fr tmps w) (hb:w.heap[b]? =some o) (ha:nD o): ¬LB B fr.loc b:=by
 rintro⟨t,cs,h1,rfl⟩
 obtain⟨C,e,h2,_⟩:=x.locs.cells t cs h1
 exact BT hb ha h2
theorem WR.not_deferred (x:WR G h w) {d:Option (List Deferred)} (hb:w.heap[b]? =some (.deferred d)): ¬eM G h b:=by
 rintro⟨n,a,h1,h2,rfl⟩
 cases e:h.get n with
 |none=>exact h1 e
 |some o=>
  obtain⟨a',h3,_,h4⟩:=x.obj n o e
  rw[h2] at h3;injection h3 with h3;subst h3
  cases o with
  |cells cs=>obtain⟨C,e,h5,_⟩:=h4;rw[hb] at h5;cases h5
  |tok=>obtain⟨C,e,h5⟩:=h4;rw[hb] at h5;cases h5
  |map es c=>obtain⟨ES,h5,_⟩:=h4;rw[hb] at h5;cases h5
  |iter m a b c=>obtain⟨_,m',h5,_⟩:=h4;rw[hb] at h5;cases h5
  |loop _ _ _ _ _ _ _=>obtain⟨r,h5,_⟩:=h4;rw[hb] at h5;cases h5
theorem WR.back (x:WR G h w) {n:Nat} {a:Addr} {lo:bH} (ha:G.at_ n=some a) (hs:a.spot=none) (hno: ¬eM G h a.block) (hr:oz G w a lo) (hro: ∀i,G.ro a.block i=none):WR G (h.set n (some lo)) w:=by
 refine⟨?_,?_,x.ro,?_,x.dim,x.below⟩
 ·intro m o' hm
  rw[bv.get_set] at hm
  by_cases e:m=n
  ·rw[if_pos e] at hm
   injection hm with hm;subst hm;subst e
   exact⟨a,ha,hs,hr⟩
  ·rw[if_neg e] at hm;exact x.obj m o' hm
 ·intro m k c d hm hk hc hd he
  rw[bv.get_set] at hm hk
  by_cases e1:m=n<;>by_cases e2:k=n
  ·rw[e1,e2]
  ·rw[e1,ha] at hc
   rw[if_neg e2] at hk
   injection hc with hc;subst hc
   exact absurd ⟨k,d,hk,hd,he.symm⟩ hno
  ·rw[e2,ha] at hd
   rw[if_neg e1] at hm
   injection hd with hd;subst hd
   exact absurd ⟨m,c,hm,hc,he⟩ hno
  ·rw[if_neg e1] at hm
   rw[if_neg e2] at hk
   exact x.sep m k c d hm hk hc hd he
 ·intro m ob b i v hm hb hv
  rw[bv.get_set] at hm
  by_cases e:m=n
  ·subst e;rw[ha] at hb;injection hb with hb;subst hb
   rw[hro] at hv;cases hv
  ·rw[if_neg e] at hm
   exact x.apart m ob b i v hm hb hv
theorem ajQ {n c:Nat} {a:Addr} {lo:bH} (ha:G.at_ n=some a) (h':eM G (h.set n (some lo)) c):c=a.block\/eM G h c:=by
 obtain⟨m,d,h1,h2,h3⟩:=h'
 rw[bv.get_set] at h1
 by_cases e:m=n
 ·subst e;rw[ha] at h2;injection h2 with h2;subst h2;exact .inl h3.symm
 ·rw[if_neg e] at h1;exact .inr ⟨m,d,h1,h2,h3⟩
variable {G0:Gh} {h0:bv bH} {w0:World} {lo hi:Nat} {L:Nat->Prop}
theorem iR.aside (x:iR G0 h0 w0 G h w lo hi L) (hb:w.heap[b]? =some o) (ha:nD o) (ha':nD ob) (hk:b<w0.heap.size->eM G0 h0 b):iR G0 h0 w0 G h (dN w b ob) lo hi L where
 le:=x.le
 size:=by rw[vS];exact x.size
 keep c hc ho hl:=by
  rw[iZ w b c ob (gL hb),if_neg]
  ·exact x.keep c hc ho hl
  ·intro e;subst e;exact ho (hk hc)
 owns:=x.owns
 names:=x.names
 cells:=x.cells
 quiet:=x.quiet.trans (x5 w hb ha.warm ha'.warm)
theorem iR.toExt (x:iR G0 h0 w0 G h w lo hi L) (hL: ∀b, ¬L b):dr G0 h0 w0 G h w lo hi:=
 ⟨x.le,x.size,fun b hb ho=>x.keep b hb ho (hL b),x.owns,x.names,x.cells,x.quiet⟩
theorem dr.aside (x:dr G0 h0 w0 G h w lo hi) (hb:w.heap[b]? =some o) (ha:nD o) (ha':nD ob) (hk:b<w0.heap.size->eM G0 h0 b):dr G0 h0 w0 G h (dN w b ob) lo hi:=
 (iR.aside (x.toL fun _=>False) hb ha ha' hk).toExt fun _ h=>h
end
def rf (r:Nat):Deferred:= {target:=.collected r,args:= #[] }
structure rN (lo:Nat) (w:World) (rs:List Nat):Prop where
 nodup:rs.Nodup
 at_: ∀r∈rs,lo<=r/\w.heap[r]? =some (.deferred (some []))
theorem rN.nil (lo:Nat) (w:World):rN lo w []:=⟨.nil,fun _ h=>by cases h⟩
theorem FK (w:World) (b:Nat) (o:Obj):w.putObj b o=dN w b o:=rfl
theorem Tz {G:Gh}: ∀ {ps:List Tmp} {args:List aj} {xs:List Value} {env env':bj} {size:Nat} {tmps:Array Value},yg ps args env=some env'->cp G args xs->
 (∀t∈ps,t<size)->tmps.size=size->(∀t,VR G (ax env t) (tmps.getD t undef))->
 xs.length=ps.length/\((ps.zip xs).foldl (fun tmps (t,a)=>tmps.setIfInBounds t a) tmps).size=size/\ ∀t,VR G (ax env' t) (((ps.zip xs).foldl (fun tmps (t,a)=>tmps.setIfInBounds t a) tmps).getD t undef)
 | [],[],xs,env,env',size,tmps,he,hv,hp,hs,ht=>by
   cases hv
   simp only[yg,bg] at he
   subst he
   exact⟨rfl,hs,ht⟩
 | [],_::_,_,_,_,_,_,he,_,_,_,_=>by cases he
 |_::_,[],_,_,_,_,_,he,_,_,_,_=>by cases he
 |p::ps,v::args,xs,env,env',size,tmps,he,hv,hp,hs,ht=>by
  cases hv with
  |cons a b=>
   rename_i x xs
   have hpl:p<tmps.size:=by rw[hs];exact hp p (by simp)
   have:=Tz (tmps:=tmps.setIfInBounds p x) (ps:=ps) he b (fun t h=>hp t (by simp[h])) (by simpa using hs) (fun t=>by
    rw[Ag.getD_set _ _ _ _ hpl]
    unfold ax
    rw[bv.get_set]
    by_cases e:t=p
    ·rw[if_pos e,if_pos e];exact a
    ·rw[if_neg e,if_neg e];exact ht t)
   exact⟨by simp[this.1],this.2⟩
def jV (k:Nat) (ch ch':Nat->Nat):Prop:= ∀i,i<k->ch' i=ch i
theorem jV.refl (k:Nat) (ch:Nat->Nat):jV k ch ch:=fun _ _=>rfl
theorem jV.trans {k k':Nat} {ch ch' ch'':Nat->Nat} (h:jV k ch ch') (h':jV k' ch' ch'') (hk:k<=k'):jV k ch ch'':=fun i hi=>(h' i (gu hi hk)).trans (h i hi)
def kd (Q:cw) (ch:Nat->Nat):Prop:= ∀i,ch i<Q.kmax i
def yE (s:St):Prop:= ∀n,s.next<=n->s.heap.get n=none
theorem yE.goes {mk:bn} {s s':St} (h:yE s) (g:fO mk s s'):yE s':=fun n hn=>by
 have h0:=h n (fW g.next hn)
 rw[g.frame n ?_]
 ·exact h0
 ·rintro(⟨_,h'⟩|h')
  ·exact h' h0
  ·omega
def kF (P:Program) (f:FuncId) (args:Array Value) (w:World) (R:Value->World->Prop):Prop:=
 (∃y w',(callFunc f args).run P w= .ok (.value y) w'/\R y w')\/
 ((callFunc f args).run P w= .ok (.enter f args) w/\Calls P f args w (fun e w'=> ∃y,e= .returned y/\R y w'))
theorem kF.mono {P:Program} {f:FuncId} {args:Array Value} {w:World} {R R':Value->World->Prop} (h:kF P f args w R) (hr: ∀y w',R y w'->R' y w'):kF P f args w R':=by
 rcases h with⟨y,w',h1,h2⟩|⟨h1,h2⟩
 ·exact .inl ⟨y,w',h1,hr y w' h2⟩
 ·exact .inr ⟨h1,h2.mono fun e w' ⟨y,he,h3⟩=>⟨y,he,hr y w' h3⟩⟩
def UK (Q:cw):Prop:=
 ∀f sp,Q.specH f=some sp-> ∀args v (G:Gh) (h:bv bH) (w:World) (xs:List Value),WR G h w->cp G args xs->ng h.get (sp args)=some v->
  kF Q.P f ⟨xs⟩ w fun y w'=> ∃G',WR G' h w'/\dr G h w G' h w' 0 0/\VR G' v y
def UN (Q:cw):Prop:=
 ∀f sp,Q.specW f=some sp-> ∀args (G:Gh) (h:bv bH) (w:World) (xs:List Value),WR G h w->cp G args xs->
  (sp args=some none->kF Q.P f ⟨xs⟩ w fun y w'=> ∃G',WR G' h w'/\dr G h w G' h w' 0 0/\VR G' (.tup []) y)/\
  ∀n g cs cs',sp args=some (some (n,g))->h.get n=some (.cells cs)->g cs=some cs'->
   kF Q.P f ⟨xs⟩ w fun y w'=> ∃G',WR G' (h.set n (some (.cells cs'))) w'/\dr G h w G' (h.set n (some (.cells cs'))) w' 0 0/\VR G' (.tup []) y
def UM (Q:cw):Prop:=
 ∀f sp,Q.spec f=some sp-> ∀args v,sp args=some v-> ∀(G:Gh) (h:bv bH) (w:World) (xs:List Value),WR G h w->cp G args xs->
  kF Q.P f ⟨xs⟩ w fun y w'=> ∃G',WR G' h w'/\dr G h w G' h w' 0 0/\VR G' v y
structure kG (mk:bn) (A:Nat->Prop) (G:Gh) (s s2:St) (w:World):Prop where
 fresh:yE s
 sees:iC mk s s2
 wr:WR G s2.heap w
 free: ∀m,s.next<=m->A m->G.at_ m=none
structure yB (Q:cw) (n:Nat) (f:FuncId) (args:List aj) (mk:bn) (ch:Nat->Nat) (G:Gh) (s s2:St) (w:World) (y:Value) (w':World)
 (ch':Nat->Nat) (v:aj) (s' s2':St) (G':Gh):Prop where
 agree:jV s.ci ch ch'
 inb:kd Q ch'
 eval:(cN (Q.at ch') n).call f args mk s=some (v,s')
 same:gG mk s s' s2 s2'
 wr:WR G' s2'.heap w'
 ext:dr G s2.heap w G' s2'.heap w' s.next s'.next
 val:VR G' v y
def rL (Q:cw) (n:Nat):Prop:=
 ∀(f:FuncId) (args:List aj) (mk:bn) (s s2:St) (G:Gh) (w:World) (xs:List Value) (ch:Nat->Nat) (A:Nat->Prop),
  kG mk A G s s2 w->cp G args xs->kd Q ch->
  (∀ch',jV s.ci ch ch'->kd Q ch'-> ∃v s',(cN (Q.at ch') n).call f args mk s=some (v,s')/\ ∀m,s.next<=m->m<s'.next->A m)->
  kF Q.P f ⟨xs⟩ w fun y w'=> ∃ch' v s' s2' G',yB Q n f args mk ch G s s2 w y w' ch' v s' s2' G'
section
variable {G G' G'':Gh} {h h' h'':bv bH} {w w' w'':World} {lo mid hi:Nat} {L L':Nat->Prop}
theorem iR.trans (x:iR G h w G' h' w' lo mid L) (y:iR G' h' w' G'' h'' w'' mid hi L') (hL: ∀b,L' b->L b\/w.heap.size<=b) (l1:lo<=mid) (l2:mid<=hi):
 iR G h w G'' h'' w'' lo hi L where
 le:=x.le.trans y.le
 size:=fW x.size y.size
 keep b hb ho hl:=(y.keep b (gu hb x.size) (fun o=>ho (x.owns b hb o)) (fun l=>(hL b l).elim hl (fun h=>by omega))).trans (x.keep b hb ho hl)
 owns b hb o:=x.owns b hb (y.owns b (gu hb x.size) o)
 names n a h h0:=by
  cases e:G'.at_ n with
  |none=>have:=y.names n a h e;omega
  |some b=>have:=x.names n b e h0;omega
 cells b o v hb h h0:=by
  cases e:G'.ro b o with
  |none=>exact x.owns b hb (y.cells b o v (gu hb x.size) h e)
  |some u=>exact x.cells b o u hb e h0
 quiet:=x.quiet.trans y.quiet
theorem iR.widen {lo' hi':Nat} (x:iR G h w G' h' w' lo hi L) (h1:lo'<=lo) (h2:hi<=hi'):iR G h w G' h' w' lo' hi' L:=
 ⟨x.le,x.size,x.keep,x.owns,fun n a e e0=>by have:=x.names n a e e0;omega,x.cells,x.quiet⟩
end
theorem HP {G' G'':Gh} {h' h'':bv bH} {w' w'':World} {B':Nat->Nat} {fr':Fr} {tmps:Array Value} {d d' d'':List Deferred} {lo l1 l2:Nat} (wr:WR G' h' w') (fx:dg G' h' B' fr' tmps w')
 (x: ∃rs,d'=rs.map rf++d/\rN lo w' rs) (hlo:lo<=w'.heap.size) (ex:iR G' h' w' G'' h'' w'' l1 l2 (LB B' fr'.loc)) (y: ∃rs,d''=rs.map rf++d'/\rN w'.heap.size w'' rs):
 ∃rs,d''=rs.map rf++d/\rN lo w'' rs:=by
 obtain⟨rx,x1,x2⟩:=x
 obtain⟨ry,y1,y2⟩:=y
 have keep: ∀r∈rx,w''.heap[r]? =some (.deferred (some [])):=fun r hr=>by
  have h1:=(x2.at_ r hr).2
  exact(ex.keep r (gL h1) (wr.not_deferred h1) (fx.not_LB h1 trivial)).trans h1
 refine⟨ry++rx,by rw[y1,x1];simp,⟨?_,?_⟩⟩
 ·rw[List.nodup_append]
  refine⟨y2.nodup,x2.nodup,fun r hr q hq e=>?_⟩
  subst e
  have h1:=(y2.at_ r hr).1
  have h2:=gL (x2.at_ r hq).2
  omega
 ·intro r hr
  rcases List.mem_append.1 hr with hr|hr
  ·exact⟨fW hlo (y2.at_ r hr).1,(y2.at_ r hr).2⟩
  ·exact⟨(x2.at_ r hr).1,keep r hr⟩
structure nw (mk:bn) (fr:Fr) (G:Gh) (B:Nat->Nat) (s s2:St) (a:Act) (w:World) (fr':Fr) (G':Gh) (B':Nat->Nat) (s' s2':St) (a':Act) (w':World):Prop where
 goes:fO mk s s'
 same:gG mk s s' s2 s2'
 wr:WR G' s2'.heap w'
 ext:iR G s2.heap w G' s2'.heap w' s.next s'.next (LB B fr.loc)
 fx:dg G' s2'.heap B' fr' a'.tmps w'
 boxes: ∀b,LB B' fr'.loc b->LB B fr.loc b\/w.heap.size<=b
 defers: ∃rs,a'.defers=rs.map rf++a.defers/\rN w.heap.size w' rs
section
variable {mk:bn} {A:Nat->Prop} {fr fr' fr'':Fr} {G G' G'':Gh} {B B' B'':Nat->Nat} {s s' s'' s2 s2' s2'':St} {a a' a'':Act} {w w' w'':World}
theorem nw.refl (p:kG mk A G s s2 w) (fx:dg G s2.heap B fr a.tmps w):nw mk fr G B s s2 a w fr G B s s2 a w where
 goes:=.refl _ _
 same:=.refl p.sees
 wr:=p.wr
 ext:=dr.refl.toL _
 fx:=fx
 boxes _ h:=.inl h
 defers:=⟨[],rfl,.nil _ _⟩
theorem nw.trans (x:nw mk fr G B s s2 a w fr' G' B' s' s2' a' w') (y:nw mk fr' G' B' s' s2' a' w' fr'' G'' B'' s'' s2'' a'' w''):
 nw mk fr G B s s2 a w fr'' G'' B'' s'' s2'' a'' w'' where
 goes:=x.goes.trans y.goes
 same:=.trans x.goes y.goes x.same y.same
 wr:=y.wr
 ext:=x.ext.trans y.ext x.boxes x.goes.next y.goes.next
 fx:=y.fx
 boxes b h:=by
  rcases y.boxes b h with h|h
  ·exact x.boxes b h
  ·exact .inr (fW x.ext.size h)
 defers:=HP x.wr x.fx x.defers x.ext.size y.ext y.defers
theorem kG.after (p:kG mk A G s s2 w) (x:nw mk fr G B s s2 a w fr' G' B' s' s2' a' w'):kG mk A G' s' s2' w' where
 fresh:=p.fresh.goes x.goes
 sees:=x.same.sees p.sees x.goes
 wr:=x.wr
 free m hm hA:=by
  cases e:G'.at_ m with
  |none=>rfl
  |some ad=>
   have h0:=p.free m (fW x.goes.next hm) hA
   have:=x.ext.names m ad e h0
   omega
theorem BP (a:Act) (d:Option Tmp) (v:Value):(a.put d v).defers=a.defers:=by
 cases d<;>rfl
end
section
variable {α β:Type}
def pg (Q:cw) (A:Nat->Prop) (ch:Nat->Nat) (s:St) (E:(Nat->Nat)->Option (α×Fr×St)):Prop:=
 ∀ch',jV s.ci ch ch'->kd Q ch'-> ∃x fr' s',E ch'=some (x,fr',s')/\ ∀m,s.next<=m->m<s'.next->A m
def qd (Q:cw) (mk:bn) (ch:Nat->Nat) (fr:Fr) (G:Gh) (B:Nat->Nat) (s s2:St) (a:Act) (w:World) (E:(Nat->Nat)->Option (α×Fr×St)) (x:α) (a':Act) (w':World):Prop:=
 ∃ch' fr' s' s2' G' B',jV s.ci ch ch'/\kd Q ch'/\E ch'=some (x,fr',s')/\nw mk fr G B s s2 a w fr' G' B' s' s2' a' w'
def Bz (E:(Nat->Nat)->Option (α×Fr×St)):Prop:= ∀ch x fr' s',E ch=some (x,fr',s')-> ∀ch',jV s'.ci ch ch'->E ch'=some (x,fr',s')
variable {Q:cw} {A:Nat->Prop} {ch ch1:Nat->Nat} {s s1:St} {E1:(Nat->Nat)->Option (α×Fr×St)} {E2:α->Fr->St->(Nat->Nat)->Option (β×Fr×St)}
theorem pg.first (hs:pg Q A ch s (fun c=>(E1 c).bind fun r=>E2 r.1 r.2.1 r.2.2 c)) (g: ∀x fr' s' c y fr'' s'',E2 x fr' s' c=some (y,fr'',s'')->s'.next<=s''.next):pg Q A ch s E1:=by
 intro ch' h1 h2
 obtain⟨x,fr',s',h3,h4⟩:=hs ch' h1 h2
 simp only[aG] at h3
 obtain⟨⟨x1,fr1,s1⟩,h5,h6⟩:=h3
 exact⟨x1,fr1,s1,h5,fun m hm hm'=>h4 m hm (gu hm' (g _ _ _ _ _ _ _ h6))⟩
theorem pg.second (hs:pg Q A ch s (fun c=>(E1 c).bind fun r=>E2 r.1 r.2.1 r.2.2 c)) (ho:Bz E1) {x:α} {fr1:Fr} (hag:jV s.ci ch ch1) (e1:E1 ch1=some (x,fr1,s1)) (hci:s.ci<=s1.ci) (hnx:s.next<=s1.next):
 pg Q A ch1 s1 (E2 x fr1 s1):=by
 intro ch' h1 h2
 obtain⟨y,fr',s',h3,h4⟩:=hs ch' (hag.trans h1 hci) h2
 have:=ho ch1 x fr1 s1 e1 ch' h1
 simp only[this,aq] at h3
 exact⟨y,fr',s',h3,fun m hm=>h4 m (fW hnx hm)⟩
theorem qd.second {mk:bn} {fr fr1:Fr} {G G1:Gh} {B B1:Nat->Nat} {s2 s21:St} {a a1 a':Act} {w w1 w':World} {x:α} {y:β} (ho:Bz E1) (hag:jV s.ci ch ch1)
 (e1:E1 ch1=some (x,fr1,s1)) (af:nw mk fr G B s s2 a w fr1 G1 B1 s1 s21 a1 w1) (p:qd Q mk ch1 fr1 G1 B1 s1 s21 a1 w1 (E2 x fr1 s1) y a' w'):
 qd Q mk ch fr G B s s2 a w (fun c=>(E1 c).bind fun r=>E2 r.1 r.2.1 r.2.2 c) y a' w':=by
 obtain⟨ch',fr',s',s2',G',B',h1,h2,h3,h4⟩:=p
 refine⟨ch',fr',s',s2',G',B',hag.trans h1 af.goes.ci,h2,?_,af.trans h4⟩
 simp only[ho ch1 x fr1 s1 e1 ch' h1,aq]
 exact h3
end
def Ex.to:Ex->Exit
 | .normal=>.normal
 | .exit id=>.exit id
 | .ret=>.ret
noncomputable def j1 (Q:cw) (n:Nat) (f:FuncId) (c:Code) (mk:bn) (fr:Fr) (s:St) (ch:Nat->Nat):Option (Ex×Fr×St):=(cN (Q.at ch) n).code f c mk fr s
def pd (Q:cw) (n:Nat):Prop:=
 ∀(ro:Option Nat) (f:FuncId) (c:Code) (mk:bn) (fr:Fr) (ch:Nat->Nat) (A:Nat->Prop) (G:Gh) (B:Nat->Nat) (s s2:St) (a:Act) (w:World),(ro≠none->fq c=true)->
  kG mk A G s s2 w->dg G s2.heap B fr a.tmps w->kd Q ch->pg Q A ch s (j1 Q n f c mk fr s)->
  ∀K:Exit->Act->World->Prop,(∀x a' w',qd Q mk ch fr G B s s2 a w (j1 Q n f c mk fr s) x a' w'->K x.to a' w')->
   c.wpIn (kX ro) 0 Q.P K a w/\ ∀b,c= .loop b->Code.roundsIn (kX ro) 0 Q.P b K n a w
theorem Cj (Q:cw) (n:Nat) (f:FuncId) (c:Code) (mk:bn) (fr:Fr) (s:St):Bz (j1 Q n f c mk fr s):=
 fun ch x fr' s' h ch' hag=>(pE Q n).code f c mk fr ch s x fr' s' h ch' hag
theorem HN {Q:cw} {n:Nat} {f:FuncId} {c:Code} {mk:bn} {fr:Fr} {s:St} {ch:Nat->Nat} {x:Ex} {fr':Fr} {s':St} (h:j1 Q n f c mk fr s ch=some (x,fr',s')):fO mk s s':=
 ((kq Q n).code f c mk fr ch s x fr' s' h).1
structure G3 (Q:cw) (n:Nat) (m:Nat) (args:List aj) (mk:bn) (ch:Nat->Nat) (G:Gh) (s s2:St) (w:World) (y:Value) (w':World)
 (ch':Nat->Nat) (v:aj) (s' s2':St) (G':Gh):Prop where
 agree:jV s.ci ch ch'
 inb:kd Q ch'
 eval:lm (cN (Q.at ch') n) m args mk s=some (v,s')
 same:gG mk s s' s2 s2'
 wr:WR G' s2'.heap w'
 ext:dr G s2.heap w G' s2'.heap w' s.next s'.next
 val:VR G' v y
theorem akB {Q:cw} {n:Nat} (hcs:pd Q n) (ro:Option Nat) {m:Nat} {args:List aj} {mk:bn} {s s2:St} {G:Gh} {w:World} {xs:List Value} {ch:Nat->Nat} {A:Nat->Prop}
 (p:kG mk A G s s2 w) (hv:cp G args xs) (hi:kd Q ch) {ad:Addr} (hm:G.at_ m=some ad)
 (hs: ∀ch',jV s.ci ch ch'->kd Q ch'-> ∃v s',lm (cN (Q.at ch') n) m args mk s=some (v,s')/\ ∀q,s.next<=q->q<s'.next->A q):
 ∃rec:Loop,w.heap[ad.block]? =some (.loop rec)/\xs.length=rec.params.size/\
  RoundIn (kX ro) 0 Q.P ad.block rec.fn ((rec.params.zip ⟨xs⟩).foldl (fun tmps (t,a)=>tmps.setIfInBounds t a) rec.tmps) rec.assign rec.body w
   (fun e w'=> ∃y,e= .returned y/\ ∃ch' v s' s2' G',G3 Q n m args mk ch G s s2 w y w' ch' v s' s2' G'):=by
 obtain⟨v0,s0,h0,_⟩:=hs ch (.refl _ _) hi
 simp only[lm,aG] at h0
 obtain⟨o,ho,⟨u,o',s3⟩,hin,_⟩:=h0
 unfold uv at hin
 split at hin
 case h_2=>cases hin
 rename_i f env size ps a b
 obtain⟨hps,hin⟩:=bX hin
 simp only[aG] at hin
 obtain⟨env',henv,_⟩:=hin
 have ho2:=(pz (p.sees.look ho)).2
 obtain⟨ad',hm',hsp,rec,hrec,hL⟩:=p.wr.obj m _ ho2
 rw[hm] at hm';injection hm' with hm';subst hm'
 have g1:=fO.put ho (mk:=mk) none
 have y1:iC mk (s.put m none) (s2.put m none):=(gG.put p.sees ho none).sees p.sees g1
 have wr1:WR G (s2.put m none).heap w:=p.wr.killed m
 have hno: ¬eM G (s2.put m none).heap ad.block:=Au p.wr (by rw[ho2];simp) hm
 have howned:eM G s2.heap ad.block:=⟨m,ad,by rw[ho2];simp,hm,rfl⟩
 have hl:=gL hrec
 have p1:kG mk A G (s.put m none) (s2.put m none) w:=⟨p.fresh.goes g1,y1,wr1,p.free⟩
 have hps': ∀t∈ps,t<size:=fun t ht=>mR (List.all_eq_true.1 hps t ht)
 obtain⟨hlen,hsz,henvR⟩:=Tz henv hv hps' hL.size hL.env
 have hfold:(rec.params.zip ⟨xs⟩).foldl (fun tmps (t,a)=>tmps.setIfInBounds t a) rec.tmps=(ps.zip xs).foldl (fun tmps (t,a)=>tmps.setIfInBounds t a) rec.tmps:=by
  rw[<-hL.params]
  have:rec.params.zip (⟨xs⟩:Array Value)=(⟨rec.params.toList.zip xs⟩:Array (Tmp×Value)):=by apply lp;simp
  rw[this];simp
 have hparams:rec.params.size=ps.length:=by rw[<-hL.params];simp
 have hnil: ∀t,Loc.get [] t (Loc.gen [] t)=none:=fun t=>rfl
 have fx1:dg G (s2.put m none).heap (fun _=>0) ⟨env',size,[]⟩ ((ps.zip xs).foldl (fun tmps (t,a)=>tmps.setIfInBounds t a) rec.tmps) w:=
  ⟨hsz,fun t=>LV.of_VR (henvR t),⟨(fun t cs h=>by cases h),(fun t cs h=>by cases h),(fun t cs h=>by cases h),(fun t u cs ds h=>by cases h)⟩⟩
 have hev: ∀c,lm (cN (Q.at c) n) m args mk s=((j1 Q n f a mk ⟨env',size,[]⟩ (s.put m none) c).bind (tc (cN (Q.at c) n) f env size ps a b mk)).bind fun x=>some (x.1,x.2.2.put m (some x.2.1)):=by
  intro c
  simp only[lm,ho,aq,uv,hps,cT,henv];rfl
 refine⟨rec,hrec,by rw[hlen,hparams],?_⟩
 rw[hfold,hL.assign,hL.body]
 refine roundIn_of_wpIn (tK ro _) ?_
 rw[X0]
 refine(hcs (some ad.block) f a mk ⟨env',size,[]⟩ ch A G (fun _=>0) (s.put m none) (s2.put m none) ⟨_,[]⟩ w (fun _=>hL.flatA) p1 fx1 hi ?_ _ ?_).1
 ·intro c h1 h2
  obtain⟨v,s',h3,h4⟩:=hs c h1 h2
  rw[hev] at h3
  simp only[aG,bg,bL] at h3
  obtain⟨⟨u,o',s5⟩,⟨⟨x,fr',s4⟩,h5,h6⟩,_,rfl⟩:=h3
  refine⟨x,fr',s4,h5,fun q hq hq'=>h4 q hq (gu hq' ?_)⟩
  cases x with
  |exit i=>cases h6
  |ret=>cases h6
  |normal=>
   simp only[tc,aG] at h6
   obtain⟨⟨x2,fr2,s6⟩,h7,h8⟩:=h6
   have e6:s6=s5:=by cases x2<;>(simp only[uu,bg,bL] at h8;exact h8.2.2)
   subst e6
   exact(HN (Q:=Q) (n:=n) (ch:=c) h7).next
 ·rintro x a1 w1 ⟨c1,fr1,s3,s23,G1,B1,ag1,in1,e1,af1⟩
  obtain⟨v,s',h3,h4⟩:=hs c1 ag1 in1
  have h3':=h3
  rw[hev,e1] at h3
  simp only[aq,aG,bg,bL] at h3
  obtain⟨⟨u,o',s5⟩,h6,_,rfl⟩:=h3
  have hnL: ¬LB (fun _=>0) ([]:Loc) ad.block:=fun⟨t,cs,h,_⟩=>by cases h
  have keep1:w1.heap[ad.block]? =some (.loop rec):=(af1.ext.keep _ hl hno hnL).trans hrec
  have hno1: ¬eM G1 s23.heap ad.block:=fun o=>hno (af1.ext.owns _ hl o)
  cases x with
  |exit i=>cases h6
  |ret=>cases h6
  |normal=>
   refine⟨_,run_beginRound keep1 hL.state,?_⟩
   rw[FK]
   have p1':=p1.after af1
   have p2:kG mk A G1 s3 s23 (dN w1 ad.block (.loop {rec with state:=.busy })):=⟨p1'.fresh,p1'.sees,p1'.wr.aside keep1 trivial hno1,p1'.free⟩
   have fx2:dg G1 s23.heap B1 fr1 a1.tmps (dN w1 ad.block (.loop {rec with state:=.busy })):=af1.fx.aside keep1 trivial
   have hl1:=gL keep1
   have hb1:(dN w1 ad.block (.loop {rec with state:=.busy })).heap[ad.block]? =some (.loop {rec with state:=.busy }):=by rw[iZ _ _ _ _ hl1,if_pos rfl]
   refine(hcs (some ad.block) f b mk fr1 c1 A G1 B1 s3 s23 a1 _ (fun _=>hL.flatB) p2 fx2 in1 ?_ _ ?_).1
   ·intro c h1 h2
    obtain⟨v,s',h7,h8⟩:=hs c (ag1.trans h1 af1.goes.ci) h2
    rw[hev,Cj Q n f a mk _ _ c1 _ _ _ e1 c h1] at h7
    simp only[aq,aG,bg,bL,tc] at h7
    obtain⟨⟨u,o',s6⟩,⟨⟨x2,fr2,s7⟩,h9,h10⟩,_,rfl⟩:=h7
    refine⟨x2,fr2,s7,h9,fun q hq hq'=>h8 q (fW af1.goes.next hq) ?_⟩
    have e6:s7=s6:=by cases x2<;>(simp only[uu,bg,bL] at h10;exact h10.2.2)
    subst e6;exact hq'
   ·rintro x2 a2 w3 ⟨c2,fr2,s6,s26,G2,B2,ag2,in2,e2,af2⟩
    have keep2:w3.heap[ad.block]? =some (.loop {rec with state:=.busy }):=(af2.ext.keep _ (by rw[vS];exact hl1) hno1 (fx2.not_LB hb1 trivial)).trans hb1
    have hno2: ¬eM G2 s26.heap ad.block:=fun o=>hno1 (af2.ext.owns _ (by rw[vS];exact hl1) o)
    have hm2:G2.at_ m=some ad:=af2.ext.le.at_ _ _ (af1.ext.le.at_ _ _ hm)
    have fin: ∀(jump:Option Code) (pe:Option Ex),jump=pe.map Ex.code->uu f env size ps a b (x2,fr2,s6)=some (.bool jump.isNone,.loop f env size ps a b pe,s6)->
     ∃v w',(Instr.endRound ad.block jump).run Q.P w3= .ok v w'/\ ∃y,Ending.returned v= .returned y/\ ∃ch' v s' s2' G',G3 Q n m args mk ch G s s2 w y w' ch' v s' s2' G':=by
     intro jump pe hj hy2
     refine⟨_,_,run_endRound jump keep2,_,rfl,c2,.bool jump.isNone,s6.put m (some (.loop f env size ps a b pe)),s26.put m (some (.loop f env size ps a b pe)),G2,?_⟩
     rw[FK]
     have hext:iR G s2.heap w G2 s26.heap w3 s.next s6.next (fun _=>False):=by
      have x0:dr G s2.heap w G (s2.put m none).heap w s.next s.next:=dr.killed
      have x1:iR G s2.heap w G1 s23.heap (dN w1 ad.block (.loop {rec with state:=.busy })) s.next s3.next (fun _=>False):=
       ((x0.toL fun _=>False).trans af1.ext (fun b h=>by obtain⟨t,cs,h,_⟩:=h;cases h) (bB _) af1.goes.next).aside keep1 trivial trivial (fun _=>howned)
      exact x1.trans af2.ext (fun b h=>by
       rcases af1.boxes b h with h|h
       ·obtain⟨t,cs,h,_⟩:=h;cases h
       ·exact .inr h) af1.goes.next af2.goes.next
     refine⟨ag1.trans ag2 af1.goes.ci,in2,?_,(gG.trans af1.goes af2.goes af1.same af2.same).hide p.sees ho _,?_,?_,.bool _⟩
     ·rw[hev,Cj Q n f a mk _ _ c1 _ _ _ e1 c2 ag2]
      have e2:(cN (Q.at c2) n).code f b mk fr1 s3=some (x2,fr2,s6):=e2
      simp only[aq,tc,e2,hy2]
     ·refine(af2.wr.aside keep2 trivial hno2).back hm2 hsp hno2 ⟨_,by rw[iZ _ _ _ _ (gL keep2),if_pos rfl],?_⟩ (af2.wr.aside_ro keep2 trivial)
      refine⟨?_,hj,hL.size,fun t=>(hL.env t).mono (af1.ext.le.trans af2.ext.le),hL.params,hL.assign,hL.body,hL.flatA,hL.flatB⟩
      cases pe<;>(subst hj;rfl)
     ·have x2:=(hext.toExt fun _ h=>h).aside (ob:=.loop { {rec with state:=.busy } with state:=if jump.isNone then .ready else .done,pending:=jump }) keep2 trivial trivial (fun _=>howned)
      exact⟨x2.le,x2.size,x2.keep,fun c hc o=>by
       rcases ajQ hm2 o with rfl|o
       ·exact howned
       ·exact x2.owns c hc o,x2.names,x2.cells,x2.quiet⟩
    cases x2 with
    |normal=>exact fin none none rfl rfl
    |exit id=>exact fin (some (.exit id)) (some (.exit id)) rfl rfl
    |ret=>exact fin (some .ret) (some .ret) rfl rfl
structure Bx (Q:cw) (n:Nat) (f:FuncId) (o:Oper) (mk:bn) (fr:Fr) (ch:Nat->Nat) (G:Gh) (B:Nat->Nat) (s s2:St) (w:World) (x:Value) (w':World)
 (ch':Nat->Nat) (v:aj) (loc':Loc) (s' s2':St) (G':Gh) (B':Nat->Nat):Prop where
 agree:jV s.ci ch ch'
 inb:kd Q ch'
 eval:fA (Q.at ch') (cN (Q.at ch') n) f o mk fr s=some (v,loc',s')
 same:gG mk s s' s2 s2'
 wr:WR G' s2'.heap w'
 ext:iR G s2.heap w G' s2'.heap w' s.next s'.next (LB B fr.loc)
 locs:nG G' s2'.heap B' loc' w'
 val:LV G' loc' B' v x
 old: ∀u y,LV G fr.loc B u y->LV G' loc' B' u y
 boxes: ∀b,LB B' loc' b->LB B fr.loc b\/w.heap.size<=b
theorem aiW {mk:bn} {ch:Nat->Nat} {kmax:Nat->Nat} {it:aj} {b:Bool} {s:St} {r:aj×St} (h:kx mk ch kmax it b s=some r) (h2:2<=jA mk it s):jA mk it s<=kmax s.ci:=by
 unfold kx at h
 split at h
 ·rename_i n
  simp only[aG] at h
  obtain⟨ob,hob,h⟩:=h
  split at h
  ·simp[jA,hob] at h2
  ·rename_i m since seen stepped
   cases b
   ·simp only[cF,aG] at h
    obtain⟨ob2,hob2,h⟩:=h
    split at h
    ·rename_i es clock
     have hc:jA mk (.ptr n 0) s=(dx seen es).length:=by simp[jA,hob,hob2]
     rw[hc] at h2 ⊢
     rcases gH h with⟨_,h⟩|⟨_,h⟩
     ·cases h
     ·generalize dx seen es=l at h h2
      unfold m9 at h
      split at h
      ·simp at h2
      ·obtain⟨_,h⟩:=bX h
       split at h
       ·simp at h2
       ·obtain⟨h,_⟩:=bX h
        exact jl h
    ·cases h
   ·cases h
  ·cases h
 ·cases h
theorem Ss {Q:cw} {n:Nat} (hc:rL Q n) (hcs:pd Q n) (ro:Option Nat) {f:FuncId} {o:Oper} {mk:bn} {fr:Fr} {ch:Nat->Nat} {A:Nat->Prop} {G:Gh} {B:Nat->Nat} {s s2:St} {a:Act} {w:World}
 (p:kG mk A G s s2 w) (fx:dg G s2.heap B fr a.tmps w) (hi:kd Q ch)
 (he: ∀ch',jV s.ci ch ch'->kd Q ch'-> ∃v loc' s',fA (Q.at ch') (cN (Q.at ch') n) f o mk fr s=some (v,loc',s')/\ ∀m,s.next<=m->m<s'.next->A m)
 (K:Act->World->Prop) (E:Exit->Act->World->Prop)
 (hK: ∀x w' ch' v loc' s' s2' G' B',Bx Q n f o mk fr ch G B s s2 w x w' ch' v loc' s' s2' G' B'->K (a.put o.dst x) w'):o.wpIn (kX ro) 0 Q.P a w K E:=by
 have hloc:bV mk (fun ch s=>fA (Q.at ch) (cN (Q.at ch) n) f o mk fr s):=xI (Q:=Q) (kq Q n) f o mk fr
 have plain:(∀c,o.op≠ .defer c)->(∀ch' s,fA (Q.at ch') (cN (Q.at ch') n) f o mk fr s=kg Q.P mk ch' Q.kmax (Q.hint f) o.dst o.op fr s)->o.wpIn (kX ro) 0 Q.P a w K E:=by
  intro hnd hop
  have hch: ∃ch',jV s.ci ch ch'/\kd Q ch'/\ ∀x b xv,o.op= .next x b->evc fr.env x=some xv->2<=jA mk xv s2->
   ch' s2.ci % jA mk xv s2=(w.tape w.drawn (.mapNext (jA mk xv s2))) % jA mk xv s2:=by
   by_cases hn: ∃x b xv,o.op= .next x b/\evc fr.env x=some xv/\2<=jA mk xv s2
   ·obtain⟨x,b,xv,hx1,hx2,hx3⟩:=hn
    obtain⟨v,loc',s',h1,_⟩:=he ch (.refl _ _) hi
    obtain⟨s2',h3,_⟩:=(hloc ch s v loc' s' h1).2 ch s2 (fun _ _=>rfl) p.sees
    have hle:jA mk xv s2<=Q.kmax s.ci:=by
     have h3:fA (Q.at ch) (cN (Q.at ch) n) f o mk fr s2=some (v,loc',s2'):=h3
     rw[hop,hx1] at h3
     simp only[kg,hx2,aq,gX,aG] at h3
     obtain⟨r,hr,_⟩:=h3
     rw[<-p.sees.ci];exact aiW hr hx3
    refine⟨fun i=>if i=s.ci then(w.tape w.drawn (.mapNext (jA mk xv s2))) % jA mk xv s2 else ch i,?_,?_,?_⟩
    ·intro i hi'
     simp only
     rw[if_neg (by omega)]
    ·intro i
     simp only
     split
     ·rename_i e;subst e
      exact gu (Nat.mod_lt _ (by omega)) hle
     ·exact hi i
    ·intro x' b' xv' hx1' hx2' _
     rw[hx1] at hx1'
     injection hx1' with e1 e2
     subst e1
     rw[hx2] at hx2'
     injection hx2' with e3
     subst e3
     simp only
     rw[if_pos p.sees.ci,Nat.mod_mod]
   ·exact⟨ch,.refl _ _,hi,fun x b xv h1 h2 h3=>absurd ⟨x,b,xv,h1,h2,h3⟩ hn⟩
  obtain⟨ch',hag,hin,hch⟩:=hch
  obtain⟨v,loc',s',h1,h2⟩:=he ch' hag hin
  obtain⟨g,hl⟩:=hloc ch' s v loc' s' h1
  obtain⟨s2',h3,h4⟩:=hl ch' s2 (fun _ _=>rfl) p.sees
  have h3':kg Q.P mk ch' Q.kmax (Q.hint f) o.dst o.op fr s2=some (v,loc',s2'):=by rw[<-hop];exact h3
  have hpost:=Vo p.wr fx h3' (fun m hm1 hm2=>p.free m (by rw[<-p.sees.next];exact hm1) (h2 m (by rw[<-p.sees.next];exact hm1) (by rw[<-h4.next];exact hm2))) hch
  obtain⟨nx,x,w',G',B',r1,r2,r3,r4,r5,r6,r7,r8⟩:=hpost
  have r4':iR G s2.heap w G' s2'.heap w' s.next s'.next (LB B fr.loc):=by rw[<-p.sees.next,<-h4.next];exact r4
  have hk:=hK x w' ch' v loc' s' s2' G' B' ⟨hag,hin,h1,h4,r3,r4',r5,r6,r7,r8⟩
  refine⟨fun _ _=>tK ro _,?_⟩
  rw[Oper.semAt_eq _ _ _ hnd,r1]
  rcases r2 with rfl|⟨rfl,rfl⟩<;>exact hk
 cases hop:o.op
 case call c=>
  cases hcl:c.callee with
  |builtin b=>exact plain (fun c h=>by rw[hop] at h;cases h) fun ch' s=>by simp only[fA,hop,hcl,kg];rfl
  |invoke x y=>
   obtain⟨v,loc',s',h1,_⟩:=he ch (.refl _ _) hi
   simp[fA,hop,hcl,lF,callee,mj] at h1
  |value g=>
   have hnd: ∀c,o.op≠ .defer c:=fun c h=>by rw[hop] at h;cases h
   cases hyld:mj fr.env c with
   |true=>
    have heval: ∀ch' s,fA (Q.at ch') (cN (Q.at ch') n) f o mk fr s=o0 (cN (Q.at ch') n) c mk fr s:=fun ch' s=>by simp only[fA,hop,hcl,hyld,cT]
    obtain⟨v0,loc0,s0,h0,_⟩:=he ch (.refl _ _) hi
    rw[heval] at h0
    simp only[o0,aG] at h0
    obtain⟨⟨m,args⟩,hyee,_⟩:=h0
    have hyee':=hyee
    simp only[yieldee,hcl,aG] at hyee
    obtain⟨gv,hg,hyee⟩:=hyee
    have hgl:=fx.ev hg
    cases gv<;>try (cases hyee;done)
    rename_i m'
    simp only[aG,bg,bL] at hyee
    obtain⟨as,has,rfl,rfl⟩:=hyee
    have hgl:VR G (.yld m') (a.eval g):=hgl
    generalize hgx:a.eval g=gx at hgl
    cases hgl with
    |yld hm=>
     rename_i ad
     have hargs:=(fx.evcs has).1
     obtain⟨rec,q1,q2,q3⟩:=akB hcs ro p hargs hi hm (fun ch' ha hb=>by
      obtain⟨v,loc',s',h1,h2⟩:=he ch' ha hb
      rw[heval] at h1
      simp only[o0,hyee',aq,aG,bg,bL] at h1
      obtain⟨⟨v1,s1⟩,h3,rfl,rfl,rfl⟩:=h1
      exact⟨v1,s1,h3,h2⟩)
     have hrun:(execOp a.eval o).run Q.P w= .ok (.round ad.block rec.fn ((rec.params.zip ⟨c.args.toList.map a.eval⟩).foldl (fun tmps (t,a)=>tmps.setIfInBounds t a) rec.tmps) rec.assign rec.body) w:=by
      have hsz:(⟨c.args.toList.map a.eval⟩:Array Value).size=rec.params.size:=by rw[<-q2];rfl
      have:=run_yield (P:=Q.P) (args:=⟨c.args.toList.map a.eval⟩) q1 hsz
      have e:(#[]:Array Value)++c.args.map a.eval=⟨c.args.toList.map a.eval⟩:=by apply lp;simp
      simp only[execOp,hop,resolve,hcl,hgx,Deferred.ofValue,Sem.run_bind,Sem.run_pure,iQ,invoke,e]
      exact this
     refine⟨fun _ _=>tK ro _,?_⟩
     rw[Oper.semAt_eq _ _ _ hnd,hrun]
     refine⟨CD ro 0,q3.mono ?_⟩
     rintro e w' ⟨y,rfl,ch',v,s',s2',G',c1⟩
     refine hK y w' ch' v fr.loc s' s2' G' B ⟨c1.agree,c1.inb,?_,c1.same,c1.wr,c1.ext.toL _,fx.locs.ext c1.ext,LV.of_VR c1.val,fun _ _ h=>h.mono c1.ext.le,fun _ h=>.inl h⟩
     rw[heval]
     simp only[o0,hyee',aq,c1.eval]
   |false=>
   have heval: ∀ch' s,fA (Q.at ch') (cN (Q.at ch') n) f o mk fr s=lF (cN (Q.at ch') n) c mk fr s:=fun ch' s=>by simp only[fA,hop,hcl,hyld,cF]
   obtain⟨v0,loc0,s0,h0,_⟩:=he ch (.refl _ _) hi
   rw[heval] at h0
   simp only[lF,aG] at h0
   obtain⟨⟨fn,args⟩,hcallee,_⟩:=h0
   have hcallee':=hcallee
   simp only[callee,hcl,aG] at hcallee
   obtain⟨gv,hg,hcallee⟩:=hcallee
   have hgl:=fx.ev hg
   cases gv<;>try (cases hcallee;done)
   rename_i fn' first captured
   cases fn'<;>try (cases hcallee;done)
   rename_i fid
   simp only[aG] at hcallee
   obtain⟨as,has,hcallee⟩:=hcallee
   simp only[bg,bL] at hcallee
   obtain⟨rfl,rfl⟩:=hcallee
   have hgl:VR G (.func (.func fid) first captured) (a.eval g):=hgl
   generalize hgx:a.eval g=gx at hgl
   cases hgl with
   |func hf hcap=>
    rename_i fs cs
    have hargs:=(fx.evcs has).1
    have hall:cp G (first++(as++captured)) (fs++(c.args.toList.map a.eval++cs)):=hf.append (hargs.append hcap)
    have hrun:(execOp a.eval o).run Q.P w=(callFunc fid ⟨fs++(c.args.toList.map a.eval++cs)⟩).run Q.P w:=by
     have:(((⟨fs⟩:Array Value)++c.args.map a.eval)++(⟨cs⟩:Array Value))=⟨fs++(c.args.toList.map a.eval++cs)⟩:=by
      apply lp;simp
     simp only[execOp,hop,resolve,hcl,hgx,Deferred.ofValue,Sem.run_bind,Sem.run_pure,iQ,invoke,this]
    have hcs':=hc fid (first++(as++captured)) mk s s2 G w _ ch A p hall hi (fun ch' ha hb=>by
     obtain⟨v,loc',s',h1,h2⟩:=he ch' ha hb
     rw[heval] at h1
     simp only[lF,hcallee',aq,aG] at h1
     obtain⟨⟨v1,s1⟩,h3,h1⟩:=h1
     simp only[bg,bL] at h1
     obtain⟨rfl,rfl,rfl⟩:=h1
     exact⟨v1,s1,h3,h2⟩)
    have fin: ∀y w',(∃ch' v s' s2' G',yB Q n fid (first++(as++captured)) mk ch G s s2 w y w' ch' v s' s2' G')->K (a.put o.dst y) w':=by
     rintro y w' ⟨ch',v,s',s2',G',c⟩
     refine hK y w' ch' v fr.loc s' s2' G' B ⟨c.agree,c.inb,?_,c.same,c.wr,c.ext.toL _,fx.locs.ext c.ext,LV.of_VR c.val,fun _ _ h=>h.mono c.ext.le,fun _ h=>.inl h⟩
     rw[heval]
     simp only[lF,hcallee',aq,c.eval]
    refine⟨fun _ _=>tK ro _,?_⟩
    rw[Oper.semAt_eq _ _ _ hnd,hrun]
    rcases hcs' with⟨y,w',h1,h2⟩|⟨h1,h2⟩
    ·rw[h1];exact fin y w' h2
    ·rw[h1]
     refine⟨CD ro 0,H9.2 (h2.mono ?_)⟩
     rintro e w' ⟨y,rfl,h3⟩
     exact fin y w' h3
 case defer c=>
  obtain⟨v,loc',s',h1,_⟩:=he ch (.refl _ _) hi
  simp only[fA,hop,kg] at h1
  cases h1
 all_goals exact plain (fun c h=>by rw[hop] at h;cases h) fun ch' s=>by simp only[fA,hop];rfl
section
variable {mk:bn} {A:Nat->Prop} {fr fr' fr'':Fr} {G G' G'':Gh} {B B' B'':Nat->Nat} {s s' s'' s2 s2' s2'':St} {a a' a'':Act} {w w' w'':World}
theorem Bx.after {Q:cw} {n:Nat} {f:FuncId} {o:Oper} {ch ch':Nat->Nat} {x:Value} {v:aj} {loc':Loc}
 (fx:dg G s2.heap B fr a.tmps w) (q:Bx Q n f o mk fr ch G B s s2 w x w' ch' v loc' s' s2' G' B') (hp:ee fr o.dst v loc'=some fr'):
 nw mk fr G B s s2 a w fr' G' B' s' s2' (a.put o.dst x) w' where
 goes:=(xI (Q:=Q) (kq Q n) f o mk fr ch' s v loc' s' q.eval).1
 same:=q.same
 wr:=q.wr
 ext:=q.ext
 fx:=fx.put hp q.locs q.val q.old
 boxes b h:=q.boxes b (by rw[(pQ hp).2.1] at h;exact h)
 defers:=⟨[],BP _ _ _,.nil _ _⟩
theorem Gq (G:Gh):VR G ii undef:=.tup .nil
theorem nw.skip (p:kG mk A G s s2 w) (fx:dg G s2.heap B fr a.tmps w) {dst:Option Tmp} (hp:ee fr dst ii fr.loc=some fr'):
 nw mk fr G B s s2 a w fr' G B s s2 (a.put dst undef) w where
 goes:=.refl _ _
 same:=.refl p.sees
 wr:=p.wr
 ext:=dr.refl.toL _
 fx:=fx.put hp fx.locs (LV.of_VR (Gq G)) fun _ _ h=>h
 boxes b h:=.inl (by rw[(pQ hp).2.1] at h;exact h)
 defers:=⟨[],BP _ _ _,.nil _ _⟩
end
noncomputable def qx (Q:cw) (n:Nat) (f:FuncId) (all:Array Oper) (mk:bn) (l:List Oper) (fr:Fr) (s:St) (ch:Nat->Nat):Option (Ex×Fr×St):=
 ((cN (Q.at ch) n).ops f all mk l fr s).bind fun x=>some (.normal,x.1,x.2)
def yG (Q:cw) (n:Nat):Prop:=
 ∀(ro:Option Nat) (f:FuncId) (all:Array Oper) (mk:bn) (l:List Oper) (i:Nat) (fr:Fr) (ch:Nat->Nat) (A:Nat->Prop) (G:Gh) (B:Nat->Nat) (s s2:St) (a:Act) (w:World),
  kG mk A G s s2 w->dg G s2.heap B fr a.tmps w->kd Q ch->(∀k o,l[k]? =some o->all[i+k]? =some o)->pg Q A ch s (qx Q n f all mk l fr s)->
  ∀K:Exit->Act->World->Prop,(∀a' w',qd Q mk ch fr G B s s2 a w (qx Q n f all mk l fr s) .normal a' w'->K .normal a' w')->wpOpsIn (kX ro) 0 Q.P all K (List.range' i l.length) a w
theorem ajD {Q:cw} {n:Nat} {f:FuncId} {all:Array Oper} {mk:bn} {l:List Oper} {fr:Fr} {s:St} {ch:Nat->Nat} {x:Ex} {fr':Fr} {s':St} (h:qx Q n f all mk l fr s ch=some (x,fr',s')):fO mk s s':=by
 simp only[qx,aG,bg,bL] at h
 obtain⟨⟨fr1,s1⟩,h1,_,_,rfl⟩:=h
 exact((kq Q n).ops f all mk l fr ch s fr1 s1 h1).1
theorem ajE {Q:cw} {n:Nat} (hc:rL Q n) (hcs:pd Q n) (hn:yG Q n):yG Q (n+1):=by
 intro ro f all mk l i fr ch A G B s s2 a w p fx hi hl hs K hK
 cases l with
 |nil=>
  simp only[List.length_nil,List.range'_zero,wpOpsIn]
  exact hK a w ⟨ch,fr,s,s2,G,B,.refl _ _,hi,rfl,.refl p fx⟩
 |cons o rest=>
  have ho:all[i]? =some o:=hl 0 o rfl
  have hl': ∀k o,rest[k]? =some o->all[i+1+k]? =some o:=fun k o' hk=>by
   have:=hl (k+1) o' (by simpa using hk)
   rwa [show i+1+k=i+(k+1) by omega]
  simp only[aP,List.range'_succ,wpOpsIn,ho,fx.wanted]
  cases hw:eX all fr.env o with
  |false=>
   simp only[qK,if_false]
   have hev: ∀c,qx Q (n+1) f all mk (o::rest) fr s c=((ee fr o.dst ii fr.loc).bind fun fr'=>qx Q n f all mk rest fr' s c):=by
    intro c
    show((kQ (Q.at c) (cN (Q.at c) n) f all mk (o::rest) fr s).bind _)=_
    simp only[kQ,hw,cF,qx]
    cases ee fr o.dst ii fr.loc<;>rfl
   obtain⟨x0,fr0,s0,h0,_⟩:=hs ch (.refl _ _) hi
   rw[hev] at h0
   simp only[aG] at h0
   obtain⟨fr1,hp,_⟩:=h0
   have af:=nw.skip p fx (a:=a) hp
   refine⟨fun _ _=>tK ro _,?_⟩
   refine hn ro f all mk rest (i+1) fr1 ch A G B s s2 _ w p af.fx hi hl' ?_ K ?_
   ·intro c h1 h2
    have:=hs c h1 h2
    rw[hev,hp] at this
    exact this
   ·intro a' w' ⟨c,fr',s',s2',G',B',h1,h2,h3,h4⟩
    refine hK a' w' ⟨c,fr',s',s2',G',B',h1,h2,?_,af.trans h4⟩
    rw[hev,hp];exact h3
  |true=>
   simp only[if_true]
   have hev: ∀c,qx Q (n+1) f all mk (o::rest) fr s c=((fA (Q.at c) (cN (Q.at c) n) f o mk fr s).bind fun x=>(ee fr o.dst x.1 x.2.1).bind fun fr'=>qx Q n f all mk rest fr' x.2.2 c):=by
    intro c
    show((kQ (Q.at c) (cN (Q.at c) n) f all mk (o::rest) fr s).bind _)=_
    simp only[kQ,hw,cT,qx]
    cases fA (Q.at c) (cN (Q.at c) n) f o mk fr s with
    |none=>rfl
    |some x=>
     simp only[aq]
     cases ee fr o.dst x.1 x.2.1<;>rfl
   refine Ss (f:=f) (fr:=fr) hc hcs ro p fx hi ?_ _ K ?_
   ·intro c h1 h2
    obtain⟨x0,fr0,s0,h0,hA⟩:=hs c h1 h2
    rw[hev] at h0
    simp only[aG] at h0
    obtain⟨⟨v,loc',s1⟩,h3,fr1,_,h5⟩:=h0
    exact⟨v,loc',s1,h3,fun m hm hm'=>hA m hm (gu hm' (ajD h5).next)⟩
   ·intro x w' c1 v loc' s1 s21 G1 B1 q
    obtain⟨x0,fr0,s0,h0,_⟩:=hs c1 q.agree q.inb
    rw[hev,q.eval] at h0
    simp only[aq,aG] at h0
    obtain⟨fr1,hp,_⟩:=h0
    have af:=q.after fx hp
    have hown: ∀c,jV s1.ci c1 c->fA (Q.at c) (cN (Q.at c) n) f o mk fr s=some (v,loc',s1):=fun c hag=>
     wU (Q:=Q) (kq Q n) (pE Q n) f o mk fr c1 s v loc' s1 q.eval c hag
    refine hn ro f all mk rest (i+1) fr1 c1 A G1 B1 s1 s21 _ w' (p.after af) af.fx q.inb hl' ?_ K ?_
    ·intro c h1 h2
     obtain⟨y,fr',s',h3,h4⟩:=hs c (q.agree.trans h1 af.goes.ci) h2
     rw[hev,hown c h1] at h3
     simp only[aq,hp] at h3
     exact⟨y,fr',s',h3,fun m hm=>h4 m (fW af.goes.next hm)⟩
    ·intro a' w'' ⟨c,fr',s',s2',G',B',h1,h2,h3,h4⟩
     refine hK a' w'' ⟨c,fr',s',s2',G',B',q.agree.trans h1 af.goes.ci,h2,?_,af.trans h4⟩
     rw[hev,hown c h1]
     simp only[aq,hp]
     exact h3
theorem LB.congr {B:Nat->Nat} {l l2:Loc} (h: ∀u,ju l l2 u) {b:Nat}:LB B l b->LB B l2 b:=by
 rintro⟨t,cs,h1,h2⟩
 refine⟨t,cs,?_,h2⟩
 rw[<-(h t).1,<-(h t).2];exact h1
theorem dg.congr {G:Gh} {h:bv bH} {B:Nat->Nat} {fr fr2:Fr} {tmps:Array Value} {w:World} (x:dg G h B fr tmps w) (hs:fr2.size=fr.size) (he: ∀d,ax fr2.env d=ax fr.env d)
 (hl: ∀u,ju fr.loc fr2.loc u):dg G h B fr2 tmps w where
 size:=x.size.trans hs.symm
 env t:=by
  have:=x.env t
  rw[he t]
  revert this
  generalize ax fr.env t=v
  generalize tmps.getD t undef=y
  intro hv
  cases v<;>first
   |exact hv
   |(obtain⟨h1,h2,h3⟩:=hv
     exact⟨by rw[<-(hl _).1];exact h1,h2,fun e=>h3 (by rw[(hl _).1];exact e)⟩)
 locs:=by
  have hg: ∀t cs,fr2.loc.get t (fr2.loc.gen t)=some cs->fr.loc.get t (fr.loc.gen t)=some cs:=fun t cs h=>by
   rw[(hl t).1,(hl t).2];exact h
  exact⟨fun t cs h=>x.locs.cells t cs (hg t cs h),fun t cs h=>x.locs.free t cs (hg t cs h),fun t cs h=>x.locs.ro t cs (hg t cs h),
   fun t u cs ds h h'=>x.locs.inj t u cs ds (hg t cs h) (hg u ds h')⟩
section
variable {Q:cw} {f:FuncId} {all:Array Oper} {mk:bn} {F:Nat->Fr} {S:Nat->St} {M:Nat->bn} {lv:Nat->Nat} {Lo:Nat->Bool}
theorem bp.untouched (t:bp Q f all mk F S M lv Lo) {k n:Nat} (hk:k<all.size) (h: ¬bp.Th Q f all F S M k n):(S (k+1)).heap.get n=(S k).heap.get n:=by
 have ho:all[k]? =some all[k]:=mG hk
 cases hw:eX all (F k).env all[k] with
 |true=>
  obtain⟨v,loc',s1,_,_,_,h4,_,g⟩:=t.done ho hw
  rw[h4]
  refine g.frame n fun t'=>h ⟨_,ho,hw,?_⟩
  rw[h4];exact t'
 |false=>
  rcases t.step ho with⟨h',_⟩|⟨_,_,h'⟩
  ·rw[hw] at h';cases h'
  ·rw[h']
theorem bp.X_from {H:Nat->Option bH} (t:bp Q f all mk F S M lv Lo) {n k:Nat} (h:bp.X Q f all F S M H n k=(S k).heap.get n): ∀ {j:Nat},k<=j->j<=all.size->bp.X Q f all F S M H n j=(S j).heap.get n
 |0,h1,_=>by have:k=0:=by omega
             subst this;exact h
 |j+1,h1,h2=>by
  by_cases e:k=j+1
  ·subst e;exact h
  ·have ih:=t.X_from h (j:=j) (by omega) (by omega)
   rw[bp.X]
   split
   ·rfl
   ·rename_i hT
    rw[ih,t.untouched (by omega) hT]
theorem bp.Th_touch (t:bp Q f all mk F S M lv Lo) {n:Nat}: ∀ {k:Nat},k<=all.size->dJ mk n=false->(S k).heap.get n≠none->kT mk (S 0) (S k) n
 |0,_,hn,h=>.inl ⟨hn,h⟩
 |k+1,hk,hn,h=>by
  have hle:=t.next_le (mG (show k<all.size by omega))
  by_cases hT:bp.Th Q f all F S M k n
  ·obtain⟨o,ho,hw,ht⟩:=hT
   rcases ht with⟨_,h2⟩|h2
   ·exact(t.Th_touch (k:=k) (by omega) hn h2).imp id fun h=>⟨h.1,by omega⟩
   ·exact .inr ⟨fW (t.mono (iB k) (by omega)) h2.1,h2.2⟩
  ·rw[t.untouched (by omega) hT] at h
   exact(t.Th_touch (k:=k) (by omega) hn h).imp id fun h=>⟨h.1,by omega⟩
theorem bp.hid (t:bp Q f all mk F S M lv Lo) {n k:Nat} {o:Oper} (ho:all[k]? =some o) (h:dJ (bp.fm Q f F S M k o) n=false):dJ mk n=false:=by
 cases e:dJ mk n with
 |false=>rfl
 |true=>
  have:=t.tr.more k o (by simpa using ho) n e
  rw[aQ] at this
  rw[bp.fm,CT this] at h;cases h
theorem bp.same (t:bp Q f all mk F S M lv Lo) {s2:bv bH} (h0: ∀n o,dJ mk n=false->(S 0).heap.get n=some o->s2.get n=some o) (n:Nat):
 (kT mk (S 0) (S all.size) n->bp.X Q f all F S M s2.get n all.size=(S all.size).heap.get n)/\(¬kT mk (S 0) (S all.size) n->bp.X Q f all F S M s2.get n all.size=s2.get n):=by
 constructor
 ·rintro(⟨h1,h2⟩|⟨h1,h2⟩)
  ·refine t.X_from (k:=0) ?_ (iB _) (bB _)
   cases e:(S 0).heap.get n with
   |none=>exact absurd e h2
   |some o=>exact h0 n o h1 e
  ·have: ∃k,k<all.size/\(S k).next<=n/\n<(S (k+1)).next:=by
    have key: ∀j,j<=all.size->n<(S j).next-> ∃k,k<all.size/\(S k).next<=n/\n<(S (k+1)).next:=by
     intro j
     induction j with
     |zero=>intro _ h;omega
     |succ j ih=>
      intro hj h
      rcases im n (S j).next with h'|h'
      ·exact ih (by omega) h'
      ·exact⟨j,by omega,h',h⟩
    exact key _ (bB _) h2
   obtain⟨k,hk,h3,h4⟩:=this
   have ho:all[k]? =some all[k]:=mG hk
   have hw:eX all (F k).env all[k]=true:=by
    cases hw:eX all (F k).env all[k] with
    |true=>rfl
    |false=>
     rcases t.step ho with⟨h',_⟩|⟨_,_,h'⟩
     ·rw[hw] at h';cases h'
     ·rw[h'] at h4;omega
   refine t.X_from (k:=k+1) ?_ (by omega) (bB _)
   rw[bp.X,if_pos ⟨_,ho,hw,.inr ⟨h3,h4⟩⟩]
 ·intro hn
  have key: ∀j,j<=all.size->bp.X Q f all F S M s2.get n j=s2.get n:=by
   intro j
   induction j with
   |zero=>intro _;rfl
   |succ j ih=>
    intro hj
    rw[bp.X,if_neg]
    ·exact ih (by omega)
    ·rintro⟨o,ho,hw,ht⟩
     have hm:=t.mono (show j+1<=all.size by omega) (bB _)
     rcases ht with⟨h1,h2⟩|⟨h1,h2⟩
     ·have hmj:=t.mono (show j<=all.size by omega) (bB _)
      exact hn ((t.Th_touch (show j<=all.size by omega) (t.hid ho h1) h2).imp id fun h=>⟨h.1,by omega⟩)
     ·exact hn (.inr ⟨fW (t.mono (iB j) (by omega)) h1,by omega⟩)
  exact key _ (bB _)
end
noncomputable def Cm (Q:cw) (n:Nat) (f:FuncId) (all:Array Oper) (mk:bn) (fr:Fr) (s:St) (ch:Nat->Nat):Option (Ex×Fr×St):=
 ((cN (Q.at ch) n).draw f all (Region.before all).toList mk [] 0 all.toList fr s).bind fun x=>some (.normal,x.1,x.2)
structure GM (Q:cw) (f:FuncId) (all:Array Oper) (F:Nat->Fr) (S:Nat->St) (M:Nat->bn) (B:Nat->Nat) (G:Gh) (s2:St) (a:Act) (w:World) (listed:Array Bool) (a':Act) (w':World)
 (fr':Fr) (h:bv bH) (G':Gh) (B':Nat->Nat):Prop where
 size:listed.size=all.size
 closed:Bu all (fun k=>listed.getD k false=true)
 cur:jM Q f all F S M s2.heap.get (fun k=>listed.getD k false=true) fr' h.get
 wr:WR G' h w'
 ext:iR G s2.heap w G' h w' (S 0).next (S all.size).next (LB B (F 0).loc)
 fx:dg G' h B' fr' a'.tmps w'
 boxes: ∀b,LB B' fr'.loc b->LB B (F 0).loc b\/w.heap.size<=b
 defers: ∃rs,a'.defers=rs.map rf++a.defers/\rN w.heap.size w' rs
 free: ∀k,k<all.size->listed.getD k false=false-> ∀m,(S k).next<=m->m<(S (k+1)).next->G'.at_ m=none
theorem jM.congr {Q:cw} {f:FuncId} {all:Array Oper} {F:Nat->Fr} {S:Nat->St} {M:Nat->bn} {H:Nat->Option bH} {D D':Nat->Prop} {fr:Fr} {h:Nat->Option bH} (c:jM Q f all F S M H D fr h)
 (hD: ∀k,k<all.size->(D k↔D' k)):jM Q f all F S M H D' fr h where
 env t:=(c.env t).trans (xS (X:=fun k=>ax (F k).env t) fun k hk _=>hD k hk)
 size:=c.size
 loc u:=(c.loc u).trans (xS (X:=bp.L F u) fun k hk _=>hD k hk)
 heap n:=(c.heap n).trans (xS (X:=bp.X Q f all F S M H n) fun k hk _=>hD k hk)
theorem za {listed:Array Bool} {i:Nat} (hi:i<listed.size) (k:Nat):(listed.setIfInBounds i true).getD k false=true↔(listed.getD k false=true\/k=i):=by
 simp only[lq,wv]
 by_cases e:i=k
 ·subst e;simp[hi]
 ·simp[e,Ne.symm e]
def qG (listed:Array Bool):Nat:=listed.toList.countP (fun b=> !b)
theorem al8 {listed:Array Bool} {i:Nat} (h:listed.getD i true=false):qG (listed.setIfInBounds i true)+1=qG listed:=by
 obtain⟨l⟩:=listed
 simp only[qG,List.setIfInBounds_toArray,lq,Bo] at*
 induction l generalizing i with
 |nil=>simp at h
 |cons b l ih=>
  cases i with
  |zero=>
   simp at h;subst h
   simp
  |succ i=>
   have:=ih (i:=i) (by simpa using h)
   simp only[List.set_cons_succ,List.countP_cons]
   omega
theorem al7 {listed:Array Bool} (h:qG listed=0) (k:Nat) (hk:k<listed.size):listed.getD k false=true:=by
 obtain⟨l⟩:=listed
 simp only[qG,List.countP_eq_zero] at h
 simp only[uE] at hk
 have:=h l[k] (List.getElem_mem hk)
 simp only[lq,Bo,js hk,pc]
 simpa using this
theorem Xc {Q:cw} {f:FuncId} {all:Array Oper} {mk:bn} {ch:Nat->Nat} {G:Gh} {B:Nat->Nat} {s2:St} {a:Act} {w:World}
 {F:Nat->Fr} {S:Nat->St} {M:Nat->bn} {lv:Nat->Nat} {Lo:Nat->Bool} (t:bp (Q.at ch) f all mk F S M lv Lo) (ro:Option Nat) (hc: ∀k,k<all.size->rL Q (lv k)/\pd Q (lv k)) (hi:kd Q ch)
 (h0: ∀n o,dJ mk n=false->(S 0).heap.get n=some o->s2.heap.get n=some o) (K:Exit->Act->World->Prop)
 (hK: ∀listed a' w' fr' h G' B',(∀k,k<all.size->listed.getD k false=true)->GM (Q.at ch) f all F S M B G s2 a w listed a' w' fr' h G' B'->K .normal a' w'):
 ∀(fuel:Nat) (listed:Array Bool) (a':Act) (w':World) (fr':Fr) (h:bv bH) (G':Gh) (B':Nat->Nat),qG listed=fuel->
  GM (Q.at ch) f all F S M B G s2 a w listed a' w' fr' h G' B'->wpAnyIn (kX ro) 0 Q.P .any all K fuel listed a' w':=by
 intro fuel
 induction fuel with
 |zero=>
  intro listed a' w' fr' h G' B' hu m
  have hall: ∀k,k<all.size->listed.getD k false=true:=fun k hk=>al7 hu k (by rw[m.size];exact hk)
  refine⟨?_,hK listed a' w' fr' h G' B' hall m⟩
  rw[List.eq_nil_iff_forall_not_mem]
  intro i hi
  rw[mem_ready] at hi
  obtain⟨h1,o,h2,_⟩:=hi
  have hlt:=bp.lt_size h2
  have:=hall i hlt
  simp only[lq] at h1 this
  rw[mG (by rw[m.size];exact hlt)] at h1 this
  simp at h1 this
  rw[h1] at this;cases this
 |succ fuel ih=>
  intro listed a' w' fr' h G' B' hu m
  refine⟨fun hr=>?_,fun i hi'=>?_⟩
  ·
   exfalso
   have key: ∀k,k<all.size->listed.getD k false=true:=by
    intro k
    induction k using Nat.strongRecOn with
    |_ k ihk=>
     intro hk
     have ho:all[k]? =some all[k]:=mG hk
     have hnot:k ∉ Region.ready .any all listed:=by rw[hr];simp
     rw[mem_ready] at hnot
     have hkl:k<listed.size:=by rw[m.size];exact hk
     cases e:listed.getD k false with
     |true=>rfl
     |false=>
      exfalso
      apply hnot
      refine⟨?_,all[k],ho,fun ed hed hb=>?_⟩
      ·simp only[lq,mG hkl,pc] at e ⊢
       exact e
      ·have hlt:=Ha t.ap k all[k] (by simp) ed hed hb
       rw[aQ] at hlt
       exact ihk ed.on hlt (by omega)
   have hz:qG listed=0:=by
    obtain⟨l⟩:=listed
    simp only[qG,List.countP_eq_zero]
    intro b hb
    obtain⟨k,hk,rfl⟩:=List.getElem_of_mem hb
    have hs:=m.size
    simp only[uE] at hs
    have:=key k (by omega)
    simp only[lq,Bo,js hk,pc] at this
    simp[this]
   omega
  ·rw[mem_ready] at hi'
   obtain⟨h1,o,ho,h2⟩:=hi'
   have hlt:=bp.lt_size ho
   have hil:i<listed.size:=by rw[m.size];exact hlt
   have hnd: ¬listed.getD i false=true:=by
    simp only[lq,mG hil,pc] at h1 ⊢
    rw[h1];simp
   have hnd':listed.getD i false=false:=by simpa using hnd
   have x:kf all (fun k=>listed.getD k false=true) i o:=⟨m.closed,ho,hnd,h2⟩
   have hu':qG (listed.setIfInBounds i true)=fuel:=by have:=al8 h1;omega
   have hsz':(listed.setIfInBounds i true).size=all.size:=by rw[Array.size_setIfInBounds];exact m.size
   have hcl':Bu all (fun k=>(listed.setIfInBounds i true).getD k false=true):=by
    intro j oj hj hoj e he hb
    rw[za hil] at hj ⊢
    rcases hj with hj|rfl
    ·exact .inl (m.closed j oj hj hoj e he hb)
    ·rw[ho] at hoj;injection hoj with hoj;subst hoj
     exact .inl (h2 e he hb)
   have hfr': ∀ {G1:Gh} {h1':bv bH} {w1:World} {L:Nat->Prop},iR G' h w' G1 h1' w1 (S i).next (S (i+1)).next L->
    ∀k,k<all.size->(listed.setIfInBounds i true).getD k false=false-> ∀q,(S k).next<=q->q<(S (k+1)).next->G1.at_ q=none:=by
    intro G1 h1' w1 L ex k hk hkd q hq1 hq2
    have hk2: ¬(listed.getD k false=true\/k=i):=fun h=>by
     rw[<-za hil] at h;rw[hkd] at h;cases h
    have hkf:listed.getD k false=false:=by
     cases e:listed.getD k false with
     |false=>rfl
     |true=>exact absurd (.inl e) hk2
    have h0':=m.free k hk hkf q hq1 hq2
    cases e:G1.at_ q with
    |none=>rfl
    |some ad=>
     obtain⟨e1,e2⟩:=ex.names q ad e h0'
     rcases Nat.lt_trichotomy k i with h|h|h
     ·have:=t.mono (show k+1<=i by omega) (by omega);omega
     ·exact absurd (.inr h) hk2
     ·have:=t.mono (show i+1<=k by omega) (by omega);omega
   unfold wpOpIn
   simp only[ho]
   rw[m.fx.wanted,m.cur.wanted t x]
   cases hw:eX all (F i).env o with
   |false=>
    simp only[qK,if_false]
    obtain⟨fr1,hp,hcur⟩:=m.cur.skip t x hw
    refine⟨fun _ _=>tK ro _,?_⟩
    refine ih _ _ _ fr1 h G' B' hu' ⟨hsz',hcl',hcur.congr fun k _=>(za hil k).symm,m.wr,m.ext,m.fx.put hp m.fx.locs (LV.of_VR (Gq G')) fun _ _ h=>h,?_,?_,?_⟩
    ·intro b hb;rw[(pQ hp).2.1] at hb;exact m.boxes b hb
    ·rw[BP];exact m.defers
    ·exact hfr' (L:=fun _=>False) (dr.refl.toL _)
   |true=>
    simp only[if_true]
    obtain⟨v,loc1,s1,fr1,e1,e2,e3,hp,hcur⟩:=m.cur.run t h0 x hw
    have hsees:=m.cur.sees t h0 x hw
    have hpre:kG (bp.fm (Q.at ch) f F S M i o) (fun q=>q<(S (i+1)).next) G' (bp.from_ S i (S i).heap) (bp.from_ S i h) w':=
     ⟨fun n hn=>t.none_above (tm hlt) n hn,hsees,m.wr,fun q hq1 hq2=>m.free i hlt hnd' q hq1 hq2⟩
    refine Ss (hc i hlt).1 (hc i hlt).2 ro hpre m.fx hi (f:=f) (fr:=fr') ?_ _ K ?_
    ·intro c hag _
     have:=wU (Q:=Q) (kq Q (lv i)) (pE Q (lv i)) f o (bp.fm (Q.at ch) f F S M i o) fr' ch (bp.from_ S i (S i).heap) v loc1 s1 e1 c (fun j hj=>hag j (by rw[e2] at hj;exact hj))
     exact⟨v,loc1,s1,this,fun q _ hq=>by rw[e3] at hq;exact hq⟩
    ·intro y w1 c v' loc' s1' s21 G1 B1 q
     have:=wU (Q:=Q) (kq Q (lv i)) (pE Q (lv i)) f o (bp.fm (Q.at ch) f F S M i o) fr' ch (bp.from_ S i (S i).heap) v loc1 s1 e1 c (fun j hj=>q.agree j (by rw[e2] at hj;exact hj))
     have hq:=q.eval
     have this:fA (Q.at c) (cN (Q.at c) (lv i)) f o (bp.fm (Q.at ch) f F S M i o) fr' (bp.from_ S i (S i).heap)=some (v,loc1,s1):=this
     rw[this] at hq
     simp only[bg,bL] at hq
     obtain⟨rfl,rfl,rfl⟩:=hq
     have hc1:=hcur s21 q.same
     have af:=q.after m.fx hp
     have ex:iR G' h w' G1 s21.heap w1 (S i).next (S (i+1)).next (LB B' fr'.loc):=by
      have:=q.ext;rw[e3] at this;exact this
     refine ih _ _ _ fr1 s21.heap G1 B1 hu' ⟨hsz',hcl',hc1.congr fun k _=>(za hil k).symm,q.wr,?_,af.fx,?_,HP m.wr m.fx m.defers m.ext.size ex af.defers,hfr' ex⟩
     ·have x1:=m.ext
      have x2:=ex.widen (lo':=(S 0).next) (hi':=(S all.size).next) (t.mono (iB i) (tm hlt)) (t.mono (show i+1<=all.size by omega) (bB _))
      exact⟨x1.le.trans x2.le,fW x1.size x2.size,
       fun b hb ho hl=>(x2.keep b (gu hb x1.size) (fun o=>ho (x1.owns b hb o)) (fun l=>(m.boxes b l).elim hl (fun h=>by omega))).trans (x1.keep b hb ho hl),
       fun b hb o=>x1.owns b hb (x2.owns b (gu hb x1.size) o),
       fun n ad h h0=>by
        cases e:G'.at_ n with
        |none=>exact x2.names n ad h e
        |some b=>exact x1.names n b e h0,
       fun b o v hb h h0=>by
        cases e:G'.ro b o with
        |none=>exact x1.owns b hb (x2.cells b o v (gu hb x1.size) h e)
        |some u=>exact x1.cells b o u hb e h0,
       x1.quiet.trans x2.quiet⟩
     ·intro b hb
      rcases af.boxes b hb with h'|h'
      ·exact m.boxes b h'
      ·exact .inr (fW m.ext.size h')
theorem Xd {Q:cw} {n:Nat} (hm:Q.P.follows .mixedOrders=true) (ro:Option Nat) (hc: ∀k,k<n->rL Q k/\pd Q k) {f:FuncId} {all:Array Oper} {mk:bn} {fr:Fr} {ch:Nat->Nat} {A:Nat->Prop} {G:Gh} {B:Nat->Nat}
 {s s2:St} {a:Act} {w:World} {id:Nat} (p:kG mk A G s s2 w) (fx:dg G s2.heap B fr a.tmps w) (hi:kd Q ch) (hap:kU all 0 all.toList (Region.before all).toList=true)
 (hs:pg Q A ch s (Cm Q n f all mk fr s)) (K:Exit->Act->World->Prop)
 (hK: ∀a' w',qd Q mk ch fr G B s s2 a w (Cm Q n f all mk fr s) .normal a' w'->K .normal a' w'):(Code.region id all true).wpIn (kX ro) 0 Q.P K a w:=by
 obtain⟨x0,fr1,s1,h0,hA⟩:=hs ch (.refl _ _) hi
 have h0':=h0
 simp only[Cm,aG,bg,bL] at h0
 obtain⟨⟨fr2,s2'⟩,hd,hx,hf,hs'⟩:=h0
 subst hx;dsimp only at hf hs';subst hf;subst hs'
 obtain⟨F,S,M,lv,Lo,eF,eS,eF',eS',hlv,tr⟩:=Cn hd
 rw[aQ,td] at eF' eS'
 have t:bp (Q.at ch) f all mk F S M lv Lo:=⟨tr,hap,by rw[eS];exact p.fresh⟩
 have hsee: ∀n o,dJ mk n=false->(S 0).heap.get n=some o->s2.heap.get n=some o:=by rw[eS];exact p.sees.get
 have hgo:=((kq Q n).draw f all _ mk [] 0 all.toList fr ch s fr2 s2' hd).1
 refine wpIn_region_any hm ?_
 refine Xc (G:=G) (B:=B) (s2:=s2) (a:=a) (w:=w) t ro (fun k hk=>hc _ ?_) hi hsee K ?_ all.size _ a _ (F 0) s2.heap G B ?_ ?_
 ·have:=hlv k all[k] (by simp)
  rwa [aQ] at this
 ·intro listed a' w' fr' h G' B' hall m
  obtain⟨c1,c2,c3,c4⟩:=m.cur.fin hall
  refine hK a' w' ⟨ch,fr2,s2',⟨h,s2'.next,s2'.minw,s2'.ci⟩,G',B',.refl _ _,hi,h0',hgo,⟨rfl,rfl,rfl,?_,?_⟩,m.wr,?_,?_,?_,m.defers⟩
  ·intro n hn
   show h.get n=_
   rw[c4,<-eS']
   exact(t.same hsee n).1 (by rw[eS,eS'];exact hn)
  ·intro n hn
   show h.get n=_
   rw[c4]
   exact(t.same hsee n).2 (by rw[eS,eS'];exact hn)
  ·have:=m.ext;rw[eS,eS',eF] at this;exact this
  ·refine m.fx.congr ?_ ?_ ?_
   ·rw[<-eF',c1];exact t.size_eq (bB _)
   ·intro d;rw[<-eF',c2]
   ·intro u;rw[<-eF'];exact c3 u
  ·intro b hb
   rw[<-eF]
   refine m.boxes b (LB.congr (fun u=>?_) hb)
   rw[<-eF'];exact(c3 u).symm
 ·simp[qG,List.countP_replicate]
 ·refine⟨by simp,?_,?_,p.wr.of_heap rfl,(dr.of_heap (w:=w) (w':= {w with drawn:=w.drawn+1 }) rfl ⟨rfl,rfl,rfl,ka _⟩).toL _,?_,fun b h=>.inl h,⟨[],rfl,.nil _ _⟩,?_⟩
  ·intro j o hj
   simp[lq,GH] at hj
   split at hj<;>simp at hj
  ·refine jM.start fun k hk=>?_
   simp[lq,GH] at hk
   split at hk<;>simp at hk
  ·rw[eF]
   exact⟨fx.size,fx.env,⟨fx.locs.cells,fx.locs.free,fx.locs.ro,fx.locs.inj⟩⟩
  ·intro k hk _ q h1 h2
   have l1:=t.mono (iB k) (tm hk)
   have l2:=t.mono (show k+1<=all.size by omega) (bB _)
   rw[eS] at l1
   rw[eS'] at l2
   exact p.free q (by omega) (hA q (by omega) (by omega))
structure Good (Q:cw):Prop where
 mixed:Q.P.follows .mixedOrders=true
 spec:UM Q
 specH:UK Q
 specW:UN Q:=by intro f sp h;cases h
 names: ∀(f:Nat) (fn:Func),Q.P.funcs[f]? =some fn->(fn.name== "runtime.NumGoroutine")=false
section
variable {Q:cw} {n:Nat}
noncomputable def AZ (Q:cw) (n:Nat) (f:FuncId) (y:Code) (mk:bn) (x:Ex) (fr:Fr) (s:St) (c:Nat->Nat):Option (Ex×Fr×St):=ni (cN (Q.at c) n) f y mk (x,fr,s)
theorem Tw (hn:pd Q n) (ro:Option Nat) {f:FuncId} {x y:Code} {mk:bn} {fr:Fr} {ch:Nat->Nat} {A:Nat->Prop} {G:Gh} {B:Nat->Nat} {s s2:St} {a:Act} {w:World}
 (hf:ro≠none->fq x=true) (p:kG mk A G s s2 w) (fx:dg G s2.heap B fr a.tmps w) (hi:kd Q ch) (hs:pg Q A ch s (fun c=>(j1 Q n f x mk fr s c).bind fun r=>AZ Q n f y mk r.1 r.2.1 r.2.2 c))
 (K:Exit->Act->World->Prop) (KY:Act->World->Prop)
 (hK: ∀e a' w',qd Q mk ch fr G B s s2 a w (fun c=>(j1 Q n f x mk fr s c).bind fun r=>AZ Q n f y mk r.1 r.2.1 r.2.2 c) e a' w'->K e.to a' w')
 (hY: ∀a1 w1 ch1 fr1 s1 s21 G1 B1,kG mk A G1 s1 s21 w1->dg G1 s21.heap B1 fr1 a1.tmps w1->kd Q ch1->pg Q A ch1 s1 (j1 Q n f y mk fr1 s1)->
  (∀e a' w',qd Q mk ch1 fr1 G1 B1 s1 s21 a1 w1 (j1 Q n f y mk fr1 s1) e a' w'->K e.to a' w')->KY a1 w1):x.wpIn (kX ro) 0 Q.P (Exit.then KY K) a w:=by
 have hown:=Cj Q n f x mk fr s
 refine(hn ro f x mk fr ch A G B s s2 a w hf p fx hi (hs.first ?_) _ ?_).1
 ·intro e fr' s' c e2 fr'' s'' h
  unfold AZ at h
  cases e with
  |normal=>exact(HN (n:=n) h).next
  |exit id=>simp only[ni,bg,bL] at h;obtain⟨_,_,rfl⟩:=h;exact bB _
  |ret=>simp only[ni,bg,bL] at h;obtain⟨_,_,rfl⟩:=h;exact bB _
 ·rintro e a1 w1 ⟨c1,fr1,s1,s21,G1,B1,h1,h2,h3,h4⟩
  cases e with
  |normal=>
   refine hY a1 w1 c1 fr1 s1 s21 G1 B1 (p.after h4) h4.fx h2 ?_ ?_
   ·exact hs.second hown h1 h3 h4.goes.ci h4.goes.next
   ·intro e a' w' pp
    exact hK e a' w' (qd.second (E2:=fun x fr s c=>AZ Q n f y mk x fr s c) hown h1 h3 h4 pp)
  |exit id=>
   refine hK (.exit id) a1 w1 ⟨c1,fr1,s1,s21,G1,B1,h1,h2,?_,h4⟩
   simp only[h3,aq];rfl
  |ret=>
   refine hK .ret a1 w1 ⟨c1,fr1,s1,s21,G1,B1,h1,h2,?_,h4⟩
   simp only[h3,aq];rfl
theorem WY (hgd:Good Q) (hn:pd Q n) (ho:yG Q n) (hcall:rL Q n) (hc: ∀k,k<n->rL Q k/\pd Q k):pd Q (n+1):=by
 intro ro f c mk fr ch A G B s s2 a w hfl p fx hi hs K hK
 cases c with
 |skip=>exact⟨wpIn_skip (hK .normal a w ⟨ch,fr,s,s2,G,B,.refl _ _,hi,rfl,.refl p fx⟩),by simp⟩
 |label l=>exact⟨wpIn_label (hK .normal a w ⟨ch,fr,s,s2,G,B,.refl _ _,hi,rfl,.refl p fx⟩),by simp⟩
 |ret=>exact⟨wpIn_ret (hK .ret a w ⟨ch,fr,s,s2,G,B,.refl _ _,hi,rfl,.refl p fx⟩),by simp⟩
 |exit id=>exact⟨wpIn_exit (hK (.exit id) a w ⟨ch,fr,s,s2,G,B,.refl _ _,hi,rfl,.refl p fx⟩),by simp⟩
 |seq x y=>
  have hfl:ro≠none->fq x=true/\fq y=true:=fun h=>by simpa[fq] using hfl h
  refine⟨wpIn_seq (Tw hn ro (fun h=>(hfl h).1) p fx hi hs K _ hK ?_),by simp⟩
  intro a1 w1 ch1 fr1 s1 s21 G1 B1 p1 fx1 hi1 hs1 hK1
  exact(hn ro f y mk fr1 ch1 A G1 B1 s1 s21 a1 w1 (fun h=>(hfl h).2) p1 fx1 hi1 hs1 K hK1).1
 |cond x y z=>
  refine⟨?_,by simp⟩
  obtain⟨e0,fr0,s0,h0,_⟩:=hs ch (.refl _ _) hi
  have h0:(ev fr.env x).bind (u4 (cN (Q.at ch) n) f y z mk fr s)=some (e0,fr0,s0):=h0
  simp only[aG] at h0
  obtain⟨v,hv,h0⟩:=h0
  have hl:=fx.ev hv
  cases v<;>try (cases h0;done)
  rename_i b
  have hl:VR G (.bool b) (a.eval x):=hl
  have hx:a.eval x= .bool b:=by
   generalize a.eval x=u at hl
   cases hl;rfl
  have hev: ∀c,j1 Q (n+1) f (.cond x y z) mk fr s c=j1 Q n f (if b then y else z) mk fr s c:=by
   intro c
   show(ev fr.env x).bind (u4 (cN (Q.at c) n) f y z mk fr s)=_
   rw[hv];cases b<;>rfl
  have hfl:ro≠none->fq (if b then y else z)=true:=fun h=>by
   have:fq y=true/\fq z=true:=by simpa[fq] using hfl h
   cases b
   ·exact this.2
   ·exact this.1
  refine wpIn_cond hx (hn ro f _ mk fr ch A G B s s2 a w hfl p fx hi ?_ K ?_).1
  ·intro c h1 h2;have:=hs c h1 h2;rw[hev] at this;exact this
  ·rintro e a' w' ⟨c,fr',s',s2',G',B',h1,h2,h3,h4⟩
   exact hK e a' w' ⟨c,fr',s',s2',G',B',h1,h2,by rw[hev];exact h3,h4⟩
 |block id b=>
  refine⟨wpIn_block ?_,by simp⟩
  have hev: ∀c,j1 Q (n+1) f (.block id b) mk fr s c=(j1 Q n f b mk fr s c).bind fun x=>some (nM id x):=fun _=>rfl
  refine(hn ro f b mk fr ch A G B s s2 a w (fun h=>by simpa[fq] using hfl h) p fx hi ?_ _ ?_).1
  ·intro c h1 h2
   obtain⟨e,fr',s',h3,h4⟩:=hs c h1 h2
   rw[hev] at h3
   simp only[aG] at h3
   obtain⟨⟨e1,fr1,s1⟩,h5,h6⟩:=h3
   refine⟨e1,fr1,s1,h5,?_⟩
   have:s1=s':=by
    cases e1<;>simp only[nM,bg,bL] at h6
    ·exact h6.2.2
    ·rename_i i
     cases hb:be i id<;>rw[hb] at h6<;>simp at h6<;>exact h6.2.2
    ·exact h6.2.2
   subst this;exact h4
  ·rintro e a' w' ⟨c,fr',s',s2',G',B',h1,h2,h3,h4⟩
   have hpost: ∀e',nM id (e,fr',s')=(e',fr',s')->K e'.to a' w':=fun e' he=>
    hK e' a' w' ⟨c,fr',s',s2',G',B',h1,h2,by rw[hev,h3,aq,he],h4⟩
   cases e with
   |normal=>exact hpost .normal rfl
   |ret=>exact hpost .ret rfl
   |exit i=>
    show(if i=id then K .normal a' w' else K (.exit i) a' w')
    by_cases e:i=id
    ·rw[if_pos e]
     refine hpost .normal ?_
     subst e;simp[nM]
    ·rw[if_neg e]
     refine hpost (.exit i) ?_
     have:be i id=false:=by
      cases h:be i id with
      |false=>rfl
      |true=>exact absurd (fp h) e
     simp[nM,this]
 |scope b=>
  have hro:ro=none:=by
   cases ro with
   |none=>rfl
   |some l=>exact absurd (hfl (by simp)) (by simp[fq])
  subst hro
  refine⟨(wpIn_wide (n:=0)).2 (wp_scope_straight ((wpIn_wide (n:=0)).1 ?_)),by simp⟩
  refine(hn none f b mk fr ch A G B s s2 a w (fun h=>absurd rfl h) p fx hi hs _ ?_).1
  intro e a' w' h
  have:=hK e a' w' h
  cases e<;>exact this
 |loop b=>
  have hfb:ro≠none->fq b=true:=fun h=>by simpa[fq] using hfl h
  have hrounds:Code.roundsIn (kX ro) 0 Q.P b K (n+1) a w:=by
   rw[roundsIn_succ]
   refine Tw (y:=.loop b) hn ro hfb p fx hi hs K _ hK ?_
   intro a1 w1 ch1 fr1 s1 s21 G1 B1 p1 fx1 hi1 hs1 hK1
   exact(hn ro f (.loop b) mk fr1 ch1 A G1 B1 s1 s21 a1 w1 hfl p1 fx1 hi1 hs1 K hK1).2 b rfl
  refine⟨wpIn_loop_rounds _ hrounds,?_⟩
  intro b' hb;injection hb with hb;subst hb;exact hrounds
 |region id ops draw=>
  refine⟨?_,by simp⟩
  cases draw with
  |false=>
   refine wpIn_region ?_
   have:=ho ro f ops mk ops.toList 0 fr ch A G B s s2 a w p fx hi (fun k o hk=>by rw[aQ];simpa using hk) hs K (fun a' w' h=>hK .normal a' w' h)
   rw[td,<-List.range_eq_range'] at this
   exact this
  |true=>
   have hev: ∀c,j1 Q (n+1) f (.region id ops true) mk fr s c=(bif kU ops 0 ops.toList (Region.before ops).toList then(cN (Q.at c) n).draw f ops (Region.before ops).toList mk [] 0 ops.toList fr s else none).bind fun x=>some (.normal,x.1,x.2):=fun _=>rfl
   cases hap:kU ops 0 ops.toList (Region.before ops).toList with
   |false=>
    obtain⟨e0,fr0,s0,h0,_⟩:=hs ch (.refl _ _) hi
    rw[hev,hap] at h0
    cases h0
   |true=>
    simp only[hap,cT] at hev
    refine Xd hgd.mixed ro hc p fx hi hap ?_ K ?_ (n:=n) (f:=f)
    ·intro c h1 h2;have:=hs c h1 h2;rw[hev] at this;exact this
    ·rintro a' w' ⟨c,fr',s',s2',G',B',h1,h2,h3,h4⟩
     exact hK .normal a' w' ⟨c,fr',s',s2',G',B',h1,h2,by rw[hev];exact h3,h4⟩
 |rangeFunc g ps ca cb=>
  refine⟨?_,by simp⟩
  have hro:ro=none:=by
   cases ro with
   |none=>rfl
   |some l=>exact absurd (hfl (by simp)) (by simp[fq])
  subst hro
  obtain⟨e0,fr0,s0,h0,hA0⟩:=hs ch (.refl _ _) hi
  have hev0: ∀c,j1 Q (n+1) f (.rangeFunc g ps ca cb) mk fr s c=(ev fr.env g).bind (rr (Q.at c) (cN (Q.at c) n) f ps.toList ca cb mk fr s):=fun _=>rfl
  rw[hev0] at h0
  simp only[aG] at h0
  obtain⟨gv,hg,h0⟩:=h0
  unfold rr at h0
  split at h0
  case h_2=>cases h0
  rename_i h first captured
  obtain⟨hb,h0⟩:=bX h0
  have hb':=hb
  simp only[cZ] at hb
  obtain⟨hbody,hnoref,hfa,hfb⟩:=hb
  have hgl:=fx.ev hg
  have hgl:VR G (.func (.func h) first captured) (a.eval g):=hgl
  generalize hgx:a.eval g=gx at hgl
  cases hgl with
  |func hfst hcap=>
  rename_i fs cs
  have hev: ∀c,j1 Q (n+1) f (.rangeFunc g ps ca cb) mk fr s c=((cN (Q.at c) n).call h (first++(.yld s.next::captured)) mk (s.new (.loop f fr.env fr.size ps.toList ca cb none))).bind fun x=>ug mk s.next fr x.2:=by
   intro c
   have hb':(mf (Q.at c).P h&&(fr.env.all ri&&(fq ca&&fq cb)))=true:=hb'
   rw[hev0,hg]
   simp only[aq,rr,hb',cT]
  have hend: ∀c x fr' s',j1 Q (n+1) f (.rangeFunc g ps ca cb) mk fr s c=some (x,fr',s')-> ∃v s1 o,(cN (Q.at c) n).call h (first++(.yld s.next::captured)) mk (s.new (.loop f fr.env fr.size ps.toList ca cb none))=some (v,s1)/\
   s1.get mk s.next=some o/\(∃f' env' size' ps' a' b' pe,o= .loop f' env' size' ps' a' b' pe/\x=ub pe)/\fr'=fr/\s'=s1.put s.next none:=by
   intro c x fr' s' h1
   rw[hev] at h1
   simp only[aG] at h1
   obtain⟨⟨v,s1⟩,h2,h3⟩:=h1
   simp only[ug,aG] at h3
   obtain⟨o,h4,h5⟩:=h3
   cases o with
   |loop f' env' size' ps' a' b' pe=>
    simp only[bg,bL] at h5
    obtain⟨rfl,rfl,rfl⟩:=h5
    exact⟨v,s1,_,h2,h4,⟨f',env',size',ps',a',b',pe,rfl,rfl⟩,rfl,rfl⟩
   |cells _=>cases h5
   |tok=>cases h5
   |map _ _=>cases h5
   |iter _ _ _ _=>cases h5
  have hnx: ∀c v s1,(cN (Q.at c) n).call h (first++(.yld s.next::captured)) mk (s.new (.loop f fr.env fr.size ps.toList ca cb none))=some (v,s1)->s.next+1<=s1.next:=fun c v s1 h1=>
   ((kq Q n).call h _ mk c _ v s1 h1).1.next
  obtain⟨e1,fr1,s1,h1,hA1⟩:=hs ch (.refl _ _) hi
  have hAn:A s.next:=by
   obtain⟨v,s1',o,q1,_,_,_,q5⟩:=hend _ _ _ _ h1
   refine hA1 _ (bB _) ?_
   have:=hnx _ _ _ q1
   rw[q5];exact this
  have hfree:G.at_ s.next=none:=p.free _ (bB _) hAn
  refine wpIn_rangeFunc ?_
  intro fn _
  obtain⟨rec,hrec⟩: ∃rec:Loop,rec= {state:=.ready,pending:=none,fn,tmps:=a.tmps,params:=ps,assign:=ca,body:=cb,defers:=w.heap.size }:=⟨_,rfl⟩
  have r1:(Instr.enterLoop fn a.tmps ps ca cb (kX none).round).run Q.P w= .ok (w.heap.size+1,[rf w.heap.size]) ((w.alloc (.deferred (some []))).alloc (.loop rec)):=by
   rw[hrec];exact run_enterLoop_outer fn a.tmps ps ca cb
  obtain⟨wrA,xA⟩:=p.wr.fresh (.deferred (some [])) trivial
  obtain⟨wrB,xB⟩:=wrA.fresh (.loop rec) trivial
  obtain⟨w1,hw1⟩: ∃w1,(w.alloc (.deferred (some []))).alloc (.loop rec)=w1:=⟨_,rfl⟩
  rw[hw1] at r1 wrB xB
  have hsA:(w.alloc (.deferred (some []))).heap.size=w.heap.size+1:=by simp
  have hs1:w1.heap.size=w.heap.size+2:=by rw[<-hw1];simp
  have hl1:w1.heap[w.heap.size+1]? =some (.loop rec):=by rw[<-hw1,mP,if_pos hsA.symm]
  have hd1:w1.heap[w.heap.size]? =some (.deferred (some [])):=by rw[<-hw1,mP,if_neg (by omega),mP,if_pos rfl]
  have hno1: ¬eM G s2.heap (w.heap.size+1):=fun o=>by have:=p.wr.owned_lt o;omega
  have x1:dr G s2.heap w G s2.heap w1 s.next s.next:=(xA s.next s.next).trans (xB s.next s.next) (bB _) (bB _)
  have hLR:wK G rec fr.env fr.size ps.toList ca cb none:=by
   subst hrec
   refine⟨rfl,rfl,fx.size,fun t=>?_,rfl,rfl,rfl,hfa,hfb⟩
   have:=fx.env t
   have hnr:ri (ax fr.env t)=true:=by
    unfold ax
    cases hgt:fr.env.get t with
    |none=>rfl
    |some v=>exact bv.all_get hnoref hgt
   cases hv:ax fr.env t<;>rw[hv] at this hnr<;>first|exact this|cases hnr
  have wr2:=wrB.named (n:=s.next) (a:=⟨w.heap.size+1,0,none⟩) (o:=.loop f fr.env fr.size ps.toList ca cb none) hfree (by rw[hs1];show w.heap.size+1<_;omega) rfl hno1 ⟨rec,hl1,hLR⟩ (fun i v hv=>by
   rw[wrB.aside_ro hl1 trivial] at hv;cases hv)
  have hle:=G.name_le (⟨w.heap.size+1,0,none⟩:Addr) hfree
  have hat:(G.name s.next ⟨w.heap.size+1,0,none⟩).at_ s.next=some ⟨w.heap.size+1,0,none⟩:=by simp[Gh.name]
  have wr2:WR (G.name s.next ⟨w.heap.size+1,0,none⟩) (s2.new (.loop f fr.env fr.size ps.toList ca cb none)).heap w1:=by
   show WR _ (s2.heap.set s2.next _) _
   rw[p.sees.next];exact wr2
  have g0:=fO.new mk s (.loop f fr.env fr.size ps.toList ca cb none)
  have sm0:=gG.new p.sees (.loop f fr.env fr.size ps.toList ca cb none)
  have p2:kG mk A (G.name s.next ⟨w.heap.size+1,0,none⟩) (s.new (.loop f fr.env fr.size ps.toList ca cb none)) (s2.new (.loop f fr.env fr.size ps.toList ca cb none)) w1:=
   ⟨p.fresh.goes g0,sm0.sees p.sees g0,wr2,fun q hq hAq=>by
    have hq:s.next+1<=q:=hq
    show(if q=s.next then _ else G.at_ q)=none
    rw[if_neg (by omega)];exact p.free q (by omega) hAq⟩
  have hargs:cp (G.name s.next ⟨w.heap.size+1,0,none⟩) (first++(.yld s.next::captured)) (fs++(.func (.yield (w.heap.size+1)) #[] #[]::cs)):=
   (hfst.mono hle).append (.cons (.yld hat) (hcap.mono hle))
  have hcl:=hcall h _ mk _ _ _ w1 _ ch A p2 hargs hi (fun ch' ha hb=>by
   obtain⟨x,fr',s',q1,q2⟩:=hs ch' ha hb
   obtain⟨v,s1',o,q3,_,_,_,q5⟩:=hend _ _ _ _ q1
   refine⟨v,s1',q3,fun q hq hq'=>q2 q ?_ ?_⟩
   ·have hq:s.next+1<=q:=hq
    omega
   ·rw[q5];exact hq')
  have hent:(callFunc h ⟨fs++(.func (.yield (w.heap.size+1)) #[] #[]::cs)⟩).run Q.P w1= .ok (.enter h ⟨fs++(.func (.yield (w.heap.size+1)) #[] #[]::cs)⟩) w1:=by
   unfold mf at hbody
   cases hfn:(Q.at ch).P.funcs[h]? with
   |none=>rw[hfn] at hbody;cases hbody
   |some fnn=>
    rw[hfn] at hbody
    have hfn:Q.P.funcs[h]? =some fnn:=hfn
    have hbody:fnn.body.isSome=true:=hbody
    cases hbb:fnn.body with
    |none=>rw[hbb] at hbody;cases hbody
    |some bb=>
     have hnm:=hgd.names h fnn hfn
     have hnm': ¬fnn.name= "runtime.NumGoroutine" :=by simpa using hnm
     simp[callFunc,go_sem,hfn,hbb,hnm']
  have hcalls:Calls Q.P h ⟨fs++(.func (.yield (w.heap.size+1)) #[] #[]::cs)⟩ w1 (fun e w'=> ∃y,e= .returned y/\ ∃ch' v s' s2' G',yB Q n h (first++(.yld s.next::captured)) mk ch (G.name s.next ⟨w.heap.size+1,0,none⟩) (s.new (.loop f fr.env fr.size ps.toList ca cb none)) (s2.new (.loop f fr.env fr.size ps.toList ca cb none)) w1 y w' ch' v s' s2' G'):=by
   rcases hcl with⟨y,w',h1,_⟩|⟨_,h2⟩
   ·rw[hent] at h1;cases h1
   ·exact h2
  have eargs:(⟨fs⟩:Array Value)++ #[.func (.yield (w.heap.size+1)) #[] #[]]++(⟨cs⟩:Array Value)=⟨fs++(.func (.yield (w.heap.size+1)) #[] #[]::cs)⟩:=by
   apply lp;simp
  refine⟨w.heap.size+1,[rf w.heap.size],w1, {target:=.fn (.func h) ⟨cs⟩,args:=⟨fs⟩++ #[.func (.yield (w.heap.size+1)) #[] #[]] },w1,h,⟨fs++(.func (.yield (w.heap.size+1)) #[] #[]::cs)⟩,w1,r1,?_,fun f' _=>tK none f',?_,CD none 0,?_⟩
  ·simp[resolve,Act.eval,Deferred.ofValue] at hgx ⊢
   simp[hgx]
  ·simp only[invoke,eargs];exact hent
  refine H9.2 (hcalls.mono ?_)
  rintro e w3 ⟨y,rfl,ch',v,s',s2',G',c⟩
  have hags:jV s.ci ch ch':=c.agree
  obtain⟨xx,frx,sx,hx,hAx⟩:=hs ch' hags c.inb
  obtain⟨v',s1',o,q3,q4,⟨f',env',size',ps',a',b',pe,rfl,rfl⟩,efr,rfl⟩:=hend _ _ _ _ hx
  replace efr:=efr.symm
  subst efr
  have hce:=c.eval
  rw[q3] at hce
  simp only[bg,bL] at hce
  obtain⟨rfl,rfl⟩:=hce
  have gC:=((kq Q n).call h _ mk ch' _ v' s1' q3).1
  have y2:=c.same.sees (sm0.sees p.sees g0) gC
  have q4':=y2.look q4
  have hat':G'.at_ s.next=some ⟨w.heap.size+1,0,none⟩:=c.ext.le.at_ _ _ hat
  obtain⟨ad,ha1,_,rec',hr1,hLR'⟩:=c.wr.obj s.next _ (pz q4').2
  rw[hat'] at ha1;injection ha1 with ha1;subst ha1
  have hr1:w3.heap[w.heap.size+1]? =some (.loop rec'):=hr1
  have hst:rec'.state≠ .busy:=by rw[hLR'.state];cases pe<;>simp
  have hkill: ¬eM G' (s2'.put s.next none).heap (w.heap.size+1):=Au c.wr (by rw[(pz q4').2];simp) hat'
  have hwr4:WR G' (s2'.put s.next none).heap (dN w3 (w.heap.size+1) (.loop {rec' with state:=.exhausted })):=(c.wr.killed s.next).aside hr1 trivial hkill
  have hdk:w3.heap[w.heap.size]? =some (.deferred (some [])):=by
   refine(c.ext.keep _ (by omega) ?_).trans hd1
   exact wr2.not_deferred hd1
  have hxt:iR G s2.heap w G' (s2'.put s.next none).heap (dN w3 (w.heap.size+1) (.loop {rec' with state:=.exhausted })) s.next s1'.next (LB B fr.loc):=by
   have hC:=c.ext
   refine iR.aside (o:=.loop rec') ?_ hr1 trivial trivial (fun h=>by omega)
   refine⟨hle.trans hC.le,fW x1.size hC.size,?_,?_,?_,?_,x1.quiet.trans hC.quiet⟩
   ·intro b hb ho _
    refine(hC.keep b (by omega) ?_).trans (x1.keep b hb ho)
    rintro⟨m,ad,t1,t2,t3⟩
    have t1:(s2.heap.set s2.next _).get m≠none:=t1
    rw[bv.get_set,p.sees.next] at t1
    have t2:(if m=s.next then some ⟨w.heap.size+1,0,none⟩ else G.at_ m)=some ad:=t2
    by_cases e:m=s.next
    ·rw[if_pos e] at t2;injection t2 with t2;subst t2
     have t3:w.heap.size+1=b:=t3
     omega
    ·rw[if_neg e] at t1 t2;exact ho ⟨m,ad,t1,t2,t3⟩
   ·intro b hb ho
    have ho:=hC.owns b (by omega) (sN ho)
    obtain⟨m,ad,t1,t2,t3⟩:=ho
    have t1:(s2.heap.set s2.next _).get m≠none:=t1
    rw[bv.get_set,p.sees.next] at t1
    have t2:(if m=s.next then some ⟨w.heap.size+1,0,none⟩ else G.at_ m)=some ad:=t2
    by_cases e:m=s.next
    ·rw[if_pos e] at t2;injection t2 with t2;subst t2
     have t3:w.heap.size+1=b:=t3
     omega
    ·rw[if_neg e] at t1 t2;exact⟨m,ad,t1,t2,t3⟩
   ·intro m ad hm h0
    by_cases e:m=s.next
    ·subst e
     exact⟨bB _,gu (io _) gC.next⟩
    ·have h0':(G.name s.next ⟨w.heap.size+1,0,none⟩).at_ m=none:=by
      show(if m=s.next then _ else G.at_ m)=none
      rw[if_neg e];exact h0
     have:=hC.names m ad hm h0'
     have hq:s.next+1<=m:=this.1
     exact⟨by omega,this.2⟩
   ·intro b o v hb hv h0
    have ho:=hC.cells b o v (by omega) hv h0
    obtain⟨m,ad,t1,t2,t3⟩:=ho
    have t1:(s2.heap.set s2.next _).get m≠none:=t1
    rw[bv.get_set,p.sees.next] at t1
    have t2:(if m=s.next then some ⟨w.heap.size+1,0,none⟩ else G.at_ m)=some ad:=t2
    by_cases e:m=s.next
    ·rw[if_pos e] at t2;injection t2 with t2;subst t2
     have t3:w.heap.size+1=b:=t3
     omega
    ·rw[if_neg e] at t1 t2;exact⟨m,ad,t1,t2,t3⟩
  have hfx4:dg G' (s2'.put s.next none).heap B fr a.tmps (dN w3 (w.heap.size+1) (.loop {rec' with state:=.exhausted })):=by
   have e1:nG (G.name s.next ⟨w.heap.size+1,0,none⟩) (s2.new (.loop f fr.env fr.size ps.toList ca cb none)).heap B fr.loc w1:=by
    have:=fx.locs.ext x1
    refine⟨fun t cs ht=>?_,fun t cs ht ho=>?_,this.ro,this.inj⟩
    ·obtain⟨C,e,u1,u2⟩:=this.cells t cs ht
     exact⟨C,e,u1,fun i v hi=>let⟨v1,z,v2,v3⟩:=u2 i v hi;⟨v1,z,v2,v3.mono hle⟩⟩
    ·obtain⟨m,ad,t1,t2,t3⟩:=ho
     have t1:(s2.heap.set s2.next _).get m≠none:=t1
     rw[bv.get_set,p.sees.next] at t1
     have t2:(if m=s.next then some ⟨w.heap.size+1,0,none⟩ else G.at_ m)=some ad:=t2
     by_cases e:m=s.next
     ·rw[if_pos e] at t2;injection t2 with t2;subst t2
      obtain⟨C,ty,u1,_⟩:=fx.locs.cells t cs ht
      have t3:w.heap.size+1=B t:=t3
      have:=gL u1
      omega
     ·rw[if_neg e] at t1 t2;exact fx.locs.free t cs ht ⟨m,ad,t1,t2,t3⟩
   have e2:=e1.ext c.ext
   have e3:nG G' (s2'.put s.next none).heap B fr.loc w3:=⟨e2.cells,fun t cs ht ho=>e2.free t cs ht (sN ho),e2.ro,e2.inj⟩
   exact⟨fx.size,fun t=>(fx.env t).mono (hle.trans c.ext.le),e3.aside hr1 trivial⟩
  have gP:=fO.put q4 (mk:=mk) none
  have hpost:qd Q mk ch fr G B s s2 a w (j1 Q (n+1) f (.rangeFunc g ps ca cb) mk fr s) (ub pe) {a with defers:=[rf w.heap.size]++a.defers } (dN w3 (w.heap.size+1) (.loop {rec' with state:=.exhausted })):=by
   refine⟨ch',fr,s1'.put s.next none,s2'.put s.next none,G',B,hags,c.inb,hx,⟨(g0.trans gC).trans gP,(sm0.trans g0 gC c.same).trans (g0.trans gC) gP (.put y2 q4 none),hwr4,hxt,hfx4,fun b h=>.inl h,[w.heap.size],rfl,by simp,?_⟩⟩
   intro r hr
   simp only[List.mem_singleton] at hr
   subst hr
   refine⟨bB _,?_⟩
   rw[iZ _ _ _ _ (gL hr1),if_neg (by omega)];exact hdk
  refine⟨_,_,run_endLoop hr1 hst,?_⟩
  have:=hK _ _ _ hpost
  rw[FK]
  rw[hLR'.pending] at this ⊢
  cases pe with
  |none=>exact this
  |some x=>
   cases x with
   |normal=>exact wpIn_skip this
   |exit id=>exact wpIn_exit this
   |ret=>exact wpIn_ret this
 |_=>
  obtain⟨e0,fr0,s0,h0,_⟩:=hs ch (.refl _ _) hi
  cases h0
end
section
variable {P:Program} {mk:bn} {G:Gh} {B:Nat->Nat} {fr:Fr} {s:St} {tmps:Array Value} {w:World}
theorem ahN {t:TypeId} {u v:aj} {x:Value} (wr:WR G s.heap w) (fl:nG G s.heap B fr.loc w) (hl:LV G fr.loc B u x) (he:kZ P mk t u fr.loc s=some v):
 ∃ad y,x= .pointer (some ad)/\(loadVar t ad).run P w= .ok y w/\VR G v y:=by
 unfold kZ at he
 split at he
 ·rename_i t' g off
  simp only[aG] at he
  obtain⟨cs,hcs,he⟩:=he
  obtain⟨h1,_,h2⟩:=hl
  have hg:=RG hcs
  replace h2:=h2 hg
  subst hg
  obtain⟨C,e,hb,hc⟩:=fl.cells t' cs hcs
  obtain⟨y,hy,hv,ht⟩:=vW (w:=w) (b:=B t') (base:=0) he (fun i u hi=>by
   obtain⟨hs,z,hz,hr⟩:=hc i u hi
   exact⟨hs,z,by rw[nN hb];simpa using hz,hr⟩)
  simp only[aQ] at hy
  exact⟨_,y,h2,hy,hv⟩
 ·rename_i n off
  simp only[aG] at he
  obtain⟨ob,hob,he⟩:=he
  split at he
  ·rename_i cs
   have hl:VR G _ _:=hl
   cases hl
   rename_i ad hn
   obtain⟨ad',hn',hsp,C,e,hb,_,hc⟩:=wr.obj n _ (iV hob)
   rw[hn] at hn';injection hn' with hn';subst hn'
   obtain⟨y,hy,hv,ht⟩:=vW (w:=w) (b:=ad.block) (base:=ad.off) he (fun i u hi=>by
    obtain⟨hs,z,hz,hr⟩:=hc i u hi
    exact⟨hs,z,by rw[nN hb];exact hz,hr⟩)
   exact⟨_,y,rfl,hy,hv⟩
  ·cases he
 ·rename_i cs
  have hl:VR G _ _:=hl
  cases hl
  rename_i b base hro
  obtain⟨y,hy,hv,ht⟩:=vW (w:=w) (b:=b) (base:=base) he (fun i u hi=>wr.ro _ _ _ (hro i u hi))
  simp only[dc] at hy
  exact⟨_,y,rfl,hy,hv⟩
 ·cases he
def AM (tmps:Array Value):ResultVar->Sem Value
 | .tmp t=>pure (tmps.getD t undef)
 | .cell a t=>do loadVar t (<-asAddr (tmps.getD a undef))
theorem S4 {Q:cw} (wr:WR G s.heap w) (fx:dg G s.heap B fr tmps w): ∀ {l:List ResultVar} {vs:List aj},gQ Q mk fr s l=some vs->
 ∃ys,(l.mapM (AM tmps)).run Q.P w= .ok ys w/\cp G vs ys
 | [],_,h=>by
   simp only[gQ,bg] at h;subst h
   exact⟨[],by simp[Sem.run_pure],.nil⟩
 |r::l,_,h=>by
  simp only[gQ,aG] at h
  obtain⟨v,hv,vs,hvs,h⟩:=h
  obtain⟨hcl,h⟩:=bX h
  injection h with h;subst h
  obtain⟨ys,h1,h2⟩:=S4 wr fx hvs
  have: ∃y,(AM tmps r).run Q.P w= .ok y w/\VR G v y:=by
   cases r with
   |tmp t=>
    have hx:=dg.evc (a:=⟨tmps,[]⟩) fx hv
    exact⟨_,rfl,hx.1⟩
   |cell a t=>
    obtain⟨ad,y,e1,e2,e3⟩:=ahN wr fx.locs (fx.env a) hv
    exact⟨y,by simp[AM,e1,asAddr,e2],e3⟩
  obtain⟨y,h3,h4⟩:=this
  refine⟨y::ys,?_,.cons h4 h2⟩
  rw[List.mapM_cons]
  simp[h3,h1]
theorem aks {Q:cw} (wr:WR G s.heap w) (fx:dg G s.heap B fr tmps w) {fn:Func} {vs:List aj} (h:gQ Q mk fr s fn.results.toList=some vs):
 ∃y,(results fn tmps).run Q.P w= .ok y w/\VR G (jQ vs) y:=by
 obtain⟨ys,h1,h2⟩:=S4 wr fx h
 have hr:results fn tmps=(do let vs<-fn.results.mapM (AM tmps);pure (if h:vs.size=1 then vs[0] else .tuple vs)):=by
  unfold results
  congr 1
 rw[hr,Array.mapM_eq_mapM_toList]
 simp only[Sem.run_bind,Sem.run_map,h1,iQ,Sem.run_pure]
 cases h2 with
 |nil=>exact⟨.tuple ⟨[]⟩,by simp,.tup .nil⟩
 |cons a b=>
  rename_i v y vs' ys'
  cases b with
  |nil=>exact⟨y,by simp,a⟩
  |cons c d=>exact⟨.tuple ⟨_⟩,by simp,.tup (.cons a (.cons c d))⟩
end
theorem Sl: ∀(l:List aj) (n t:Nat),(cY n l).get t=if t<n then none else l[t-n]?
 | [],n,t=>by
   simp only[cY]
   have:(bv.nil:bj).get t=none:=rfl
   rw[this];simp
 |v::l,n,t=>by
  rw[cY,bv.get_set,Sl l (n+1) t]
  by_cases e:t=n
  ·subst e;simp
  ·rw[if_neg e]
   by_cases h:t<n
   ·simp[h,Nat.lt_succ_of_lt h]
   ·rw[if_neg h,if_neg (by omega),show t-n=(t-(n+1))+1 by omega]
    simp
theorem Xk {G:Gh} {h:bv bH} {w:World} {args:List aj} {xs:List Value} (hv:cp G args xs) (nt:Nat):
 dg G h (fun _=>0) ⟨cY 0 args,bif cy args.length nt then nt else args.length,[]⟩ ((⟨xs⟩:Array Value)++Array.replicate (nt-(⟨xs⟩:Array Value).size) undef) w where
 size:=by
  have:=hv.length
  simp only[Array.size_append,uE,Array.size_replicate,oS]
  by_cases e:args.length<=nt
  ·simp[e];omega
  ·simp[e];omega
 env t:=by
  have hlen:=hv.length
  simp only[ax,Sl,Nat.not_lt_zero,if_false,Nat.sub_zero]
  cases e:args[t]? with
  |some v=>
   obtain⟨x,hx,hr⟩:=hv.get e
   have hlt:t<xs.length:=by
    rcases im t xs.length with h|h
    ·exact h
    ·rw[List.getElem?_eq_none h] at hx;cases hx
   have:((⟨xs⟩:Array Value)++Array.replicate (nt-(⟨xs⟩:Array Value).size) undef).getD t undef=x:=by
    rw[lq,Array.getElem?_append_left (by simpa using hlt)]
    simp[hx]
   rw[this]
   exact LV.of_VR hr
  |none=>
   have hge:xs.length<=t:=by rw[<-hlen];exact List.getElem?_eq_none_iff.1 e
   have:((⟨xs⟩:Array Value)++Array.replicate (nt-(⟨xs⟩:Array Value).size) undef).getD t undef=undef:=by
    rw[lq,Array.getElem?_append_right (by simpa using hge),GH]
    split<;>rfl
   rw[this]
   exact LV.of_VR (Gq G)
 locs:=⟨fun t cs h=>by simp[Loc.get] at h,fun t cs h=>by simp[Loc.get] at h,fun t cs h=>by simp[Loc.get] at h,fun t u cs ds h=>by simp[Loc.get] at h⟩
theorem Rq {Q:cw} {fn:Func} {R:Ending->World->Prop} {G0 G:Gh} {h0:bv bH} {w0:World} {B:Nat->Nat} {fr:Fr} {tmps:Array Value} {lo hi:Nat} {mk:bn} {s:St} {vs:List aj}
 (hres:gQ Q mk fr s fn.results.toList=some vs) (hR: ∀y w',WR G s.heap w'->dr G0 h0 w0 G s.heap w' lo hi->VR G (jQ vs) y->R (.returned y) w'):
 ∀(rs:List Nat) (w:World),WR G s.heap w->dg G s.heap B fr tmps w->dr G0 h0 w0 G s.heap w lo hi->rN w0.heap.size w rs->LeavesInM Fence.wide 0 Q.P fn tmps R (rs.map rf++[]) .returning w
 | [],w,wr,fx,ex,_=>by
   obtain⟨y,r1,r2⟩:=aks (Q:=Q) wr fx hres
   exact⟨y,r1,hR y w wr ex r2⟩
 |r::rs,w,wr,fx,ex,m=>by
  obtain⟨h1,h2⟩:=m.at_ r (by simp)
  have hnd:=List.nodup_cons.1 m.nodup
  refine⟨by simp,.inl ⟨r,dN w r (.deferred none),rfl,run_takeDeferred h2,?_⟩⟩
  refine Rq hres hR rs _ (wr.aside h2 trivial (wr.not_deferred h2)) (fx.aside h2 trivial) (ex.aside h2 trivial trivial fun h=>by omega) ⟨hnd.2,fun q hq=>?_⟩
  obtain⟨q1,q2⟩:=m.at_ q (by simp[hq])
  refine⟨q1,?_⟩
  rw[iZ _ _ _ _ (gL h2),if_neg]
  ·exact q2
  ·intro e;subst e;exact hnd.1 hq
theorem Wb {Q:cw} {n:Nat} (hg:Good Q) (hn:pd Q n):rL Q (n+1):=by
 intro f args mk s s2 G w xs ch A p hv hi hs
 have hev: ∀c,(cN (Q.at c) (n+1)).call f args mk s=jx (Q.at c) (cN (Q.at c) n) f args mk s:=fun _=>rfl
 cases hsp:Q.spec f with
 |some sp=>
  have hev': ∀c,(cN (Q.at c) (n+1)).call f args mk s=(sp args).bind fun v=>some (v,s):=by
   intro c
   have:(Q.at c).spec f=some sp:=hsp
   rw[hev,jx,this]
  obtain⟨v,s',h0,_⟩:=hs ch (.refl _ _) hi
  rw[hev'] at h0
  simp only[aG,bg,bL] at h0
  obtain⟨v',h1,rfl,rfl⟩:=h0
  refine(hg.spec f sp hsp args v' h1 G s2.heap w xs p.wr hv).mono ?_
  rintro y w' ⟨G',h2,h3,h4⟩
  refine⟨ch,v',s,s2,G',.refl _ _,hi,by rw[hev',h1];rfl,.refl p.sees,h2,?_,h4⟩
  exact⟨h3.le,h3.size,h3.keep,h3.owns,fun m a e e0=>by have:=h3.names m a e e0;omega,h3.cells,h3.quiet⟩
 |none=>
 cases hsh:Q.specH f with
 |some sp=>
  have hev': ∀c,(cN (Q.at c) (n+1)).call f args mk s=(ng (s.get mk) (sp args)).bind fun v=>some (v,s):=by
   intro c
   have h1:(Q.at c).spec f=none:=hsp
   have h2:(Q.at c).specH f=some sp:=hsh
   rw[hev,jx,h1]
   simp only[h2]
  obtain⟨v,s',h0,_⟩:=hs ch (.refl _ _) hi
  rw[hev'] at h0
  simp only[aG,bg,bL] at h0
  obtain⟨v',h1,rfl,rfl⟩:=h0
  have h1':ng s2.heap.get (sp args)=some v':=by
   have:=FU p.sees (sp args) v' h1
   generalize sp args=x at this
   clear h1 hev'
   induction x with
   |ret _=>exact this
   |ask m k ih=>
    simp only[ng,aG] at this ⊢
    obtain⟨o,q1,q2⟩:=this
    exact⟨o,(pz q1).2,ih o q2⟩
  refine(hg.specH f sp hsh args v' G s2.heap w xs p.wr hv h1').mono ?_
  rintro y w' ⟨G',h2,h3,h4⟩
  refine⟨ch,v',s,s2,G',.refl _ _,hi,by rw[hev',h1];rfl,.refl p.sees,h2,?_,h4⟩
  exact⟨h3.le,h3.size,h3.keep,h3.owns,fun m a e e0=>by have:=h3.names m a e e0;omega,h3.cells,h3.quiet⟩
 |none=>
 cases hsw:Q.specW f with
 |some sp=>
  have hev': ∀c,(cN (Q.at c) (n+1)).call f args mk s=(sp args).bind (qz mk s):=by
   intro c
   have h1:(Q.at c).spec f=none:=hsp
   have h2:(Q.at c).specH f=none:=hsh
   have h3:(Q.at c).specW f=some sp:=hsw
   rw[hev,jx,h1]
   simp only[h2,h3]
  obtain⟨v,s',h0,_⟩:=hs ch (.refl _ _) hi
  have h00:=h0
  rw[hev'] at h0
  simp only[aG] at h0
  obtain⟨q,h1,h3⟩:=h0
  cases q with
  |none=>
   simp only[qz,bg,bL] at h3
   obtain⟨rfl,rfl⟩:=h3
   refine((hg.specW f sp hsw args G s2.heap w xs p.wr hv).1 h1).mono ?_
   rintro y w' ⟨G',k2,k3,k4⟩
   refine⟨ch,_,_,s2,G',.refl _ _,hi,h00,.refl p.sees,k2,?_,k4⟩
   exact⟨k3.le,k3.size,k3.keep,k3.owns,fun m a e e0=>by have:=k3.names m a e e0;omega,k3.cells,k3.quiet⟩
  |some q=>
   simp only[qz,aG] at h3
   obtain⟨o,h2,h3⟩:=h3
   cases o<;>simp only[vV,aG,bg,bL,reduceCtorEq] at h3
   obtain⟨cs',h4,rfl,rfl⟩:=h3
   have h5:=(pz (p.sees.look h2)).2
   refine((hg.specW f sp hsw args G s2.heap w xs p.wr hv).2 q.1 q.2 _ cs' h1 h5 h4).mono ?_
   rintro y w' ⟨G',k2,k3,k4⟩
   refine⟨ch,_,_,s2.put q.1 (some (.cells cs')),G',.refl _ _,hi,h00,.put p.sees h2 _,k2,?_,k4⟩
   exact⟨k3.le,k3.size,k3.keep,k3.owns,fun m a e e0=>by have:=k3.names m a e e0;omega,k3.cells,k3.quiet⟩
 |none=>
  have hev': ∀c,(cN (Q.at c) (n+1)).call f args mk s=(Q.P.funcs[f]?).bind fun fn=>fn.body.bind fun b=>
   (j1 Q n f b mk ⟨cY 0 args,bif cy args.length fn.ntmps then fn.ntmps else args.length,[]⟩ s c).bind (nS (Q.at c) fn mk):=by
   intro c
   have h1:(Q.at c).spec f=none:=hsp
   have h2:(Q.at c).specH f=none:=hsh
   have h3:(Q.at c).specW f=none:=hsw
   rw[hev,jx,h1]
   simp only[h2,h3];rfl
  obtain⟨v0,s0,h0,_⟩:=hs ch (.refl _ _) hi
  rw[hev'] at h0
  simp only[aG] at h0
  obtain⟨fn,hf,b,hb,_⟩:=h0
  have hev2: ∀c,(cN (Q.at c) (n+1)).call f args mk s=(j1 Q n f b mk ⟨cY 0 args,bif cy args.length fn.ntmps then fn.ntmps else args.length,[]⟩ s c).bind (nS (Q.at c) fn mk):=by
   intro c;rw[hev',hf];simp only[aq,hb]
  right
  have hnm:=hg.names f fn hf
  refine⟨?_,?_⟩
  ·have hnm': ¬fn.name= "runtime.NumGoroutine" :=by simpa using hnm
   simp[callFunc,go_sem,hf,hb,hnm']
  refine(callsIn_wide (n:=0)).1 (callsIn_of_wp_marks hf hb trivial ?_)
  have fx:=Xk (G:=G) (h:=s2.heap) (w:=w) hv fn.ntmps
  refine(hn none f b mk _ ch A G (fun _=>0) s s2 _ w (fun h=>absurd rfl h) p fx hi ?_ _ ?_).1
  ·intro c h1 h2
   obtain⟨v,s',h3,h4⟩:=hs c h1 h2
   rw[hev2] at h3
   simp only[aG] at h3
   obtain⟨⟨x,fr',s1⟩,h5,h6⟩:=h3
   refine⟨x,fr',s1,h5,?_⟩
   have:s1=s':=by
    cases x<;>simp only[nS,aG,bg,bL] at h6
    ·obtain⟨_,_,_,e⟩:=h6;exact e
    ·cases h6
    ·obtain⟨_,_,_,e⟩:=h6;exact e
   subst this;exact h4
  ·rintro x a' w' ⟨c,fr',s',s2',G',B',h1,h2,h3,h4⟩
   obtain⟨v,s1,h5,_⟩:=hs c h1 h2
   have h5':=h5
   rw[hev2,h3] at h5
   simp only[aq] at h5
   have hend: ∀vs,gQ (Q.at c) mk fr' s' fn.results.toList=some vs->v=jQ vs->s1=s'->
    LeavesInM Fence.wide 0 Q.P fn a'.tmps (fun e w'=> ∃y',e= .returned y'/\ ∃ch' v s' s2' G',yB Q (n+1) f args mk ch G s s2 w y' w' ch' v s' s2' G') a'.defers .returning w':=by
    intro vs hvs e1 e2
    have hvs2:gQ (Q.at c) mk fr' s2' fn.results.toList=some vs:=
     RJ (Q:=Q.at c) mk fr' fn.results.toList s' s2' vs hvs (fun m o hm=>(h4.same.sees p.sees h4.goes).look hm)
    obtain⟨rs,d1,d2⟩:=h4.defers
    rw[d1]
    have hx0:dr G s2.heap w G' s2'.heap w' s.next s'.next:=h4.ext.toExt fun b ⟨t,cs,e,_⟩=>by simp[Loc.get] at e
    refine Rq (Q:=Q.at c) hvs2 ?_ rs w' h4.wr h4.fx hx0 d2
    intro y w'' u1 u2 u3
    refine⟨y,rfl,c,v,s1,s2',G',h1,h2,h5',by rw[e2];exact h4.same,u1,?_,by rw[e1];exact u3⟩
    rw[e2];exact u2
   cases x with
   |exit id=>cases h5
   |normal=>
    simp only[nS,aG,bg,bL] at h5
    obtain⟨vs,hvs,e1,e2⟩:=h5
    exact hend vs hvs e1.symm e2.symm
   |ret=>
    simp only[nS,aG,bg,bL] at h5
    obtain⟨vs,hvs,e1,e2⟩:=h5
    exact hend vs hvs e1.symm e2.symm
theorem Vn {Q:cw} (hg:Good Q) (n:Nat):rL Q n/\yG Q n/\pd Q n:=by
 induction n using Nat.strongRecOn with
 |_ n ih=>
  cases n with
  |zero=>
   refine⟨?_,?_,?_⟩
   ·intro f args mk s s2 G w xs ch A p hv hi hs
    obtain⟨v,s',h,_⟩:=hs ch (.refl _ _) hi;cases h
   ·intro ro f all mk l i fr ch A G B s s2 a w p fx hi hl hs K hK
    obtain⟨x,fr',s',h,_⟩:=hs ch (.refl _ _) hi;cases h
   ·intro ro f c mk fr ch A G B s s2 a w hfl p fx hi hs K hK
    obtain⟨x,fr',s',h,_⟩:=hs ch (.refl _ _) hi;cases h
  |succ n=>
   obtain⟨h1,h2,h3⟩:=ih n (by omega)
   exact⟨Wb hg h3,ajE h1 h3 h2,WY hg h3 h2 h1 fun k hk=>⟨(ih k (by omega)).1,(ih k (by omega)).2.2⟩⟩
end Go.Ag
