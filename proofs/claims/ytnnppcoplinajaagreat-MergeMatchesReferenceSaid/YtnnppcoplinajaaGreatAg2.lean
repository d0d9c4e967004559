/- Results depend on what was looked at alone; drawn regions; the evaluator is sound. -/
import Derived.Test.YtnnppcoplinajaaGreatAg1
import Derived.Orders
import Derived.Scope
import Derived.LoopN
import Derived.OrdersIn
import Derived.LoopNIn
import Derived.RangeFuncRecord
set_option linter.defProp false
open Array renaming ext'→nf,getD_eq_getD_getElem?→ng,getElem?_eq_getElem→oD,getElem?_replicate→MU,getElem?_setIfInBounds→AG,length_toList→wY
open Bool renaming and_eq_false_iff→HD,and_eq_true→bA,false_eq_true→ua,false_or→jd,not_eq_true'→qC,or_eq_false_iff→kj,or_eq_true→sU
open Classical renaming byContradiction→l9
open List renaming all_eq_true→fY,getElem?_eq_getElem→gL,getElem?_toArray→HJ,length_cons→cP,mem_cons_of_mem→vH,size_toArray→yS
open Nat renaming add_zero→qE,beq→aJ,ble→br,blt→bk,le_of_lt→vI,le_refl→aU,le_succ→jf,le_trans→fh,lt_of_lt_of_le→gX,lt_or_ge→ix,lt_succ_self→fK,zero_add→gl,zero_le→cV
open Option renaming bind_eq_some_iff→az,bind_some→bn,getD_some→fq
open Option.some renaming injEq→aP
open Prod.mk renaming injEq→bj
open Go.Result renaming andThen_ok→iU
namespace Go.Ag
def mM(mk:aW)(s s':St)(n:Nat):Prop:=(dC mk n=false/\s.heap.get n≠none)\/(s.al<=n/\n<s'.al)
structure iG (mk:aW) (s s2:St):Prop where
 al:s2.al=s.al
 ge:s2.ge=s.ge
 ci:s2.ci=s.ci
 get: ∀n o,dC mk n=false->s.heap.get n=some o->s2.heap.get n=some o
def iG.refl(mk:aW)(s:St):iG mk s s:=⟨rfl,rfl,rfl,fun _ _ _ h=>h⟩
structure gg (mk:aW) (s s' s2 s2':St):Prop where
 al:s2'.al=s'.al
 ge:s2'.ge=s'.ge
 ci:s2'.ci=s'.ci
 inside: ∀n,mM mk s s' n->s2'.heap.get n=s'.heap.get n
 outside: ∀n, ¬mM mk s s' n->s2'.heap.get n=s2.heap.get n
structure fL (mk:aW) (s s':St):Prop where
 al:s.al<=s'.al
 ci:s.ci<=s'.ci
 ge:s'.ge<=s.ge
 frame: ∀n, ¬mM mk s s' n->s'.heap.get n=s.heap.get n
 noted: ∀n,n<s.al->s'.heap.get n≠s.heap.get n->s'.ge<=n
def fL.refl(mk:aW)(s:St):fL mk s s:=⟨aU _,aU _,aU _,fun _ _=>rfl,fun _ _ h=>absurd rfl h⟩
variable{s s':St}{mk:aW}
def fL.trans{s'':St}(x:fL mk s s')(y:fL mk s' s''):fL mk s s'' where
 al:=fh x.al y.al
 ci:=fh x.ci y.ci
 ge:=fh y.ge x.ge
 frame n h:=by
  have h1: ¬mM mk s s' n:=fun t=>h (t.imp id fun t=>⟨t.1,gX t.2 y.al⟩);have h2: ¬mM mk s' s'' n:=fun t=>by
   rcases t with⟨t1,t2⟩|t
   rw[x.frame n h1] at t2;exact h (.inl ⟨t1,t2⟩);exact h (.inr ⟨fh x.al t.1,t.2⟩)
  rw[y.frame n h2,x.frame n h1]
 noted n hn hne:=by
  by_cases h:s'.heap.get n=s.heap.get n;exact y.noted n (gX hn x.al) (by rw[h];exact hne);exact fh y.ge (x.noted n hn h)
variable{s2 s2':St}
def gg.sees(a:iG mk s s2)(g:fL mk s s')(x:gg mk s s' s2 s2'):iG mk s' s2' where
 al:=x.al
 ge:=x.ge
 ci:=x.ci
 get n o hv h:=by
  by_cases t:mM mk s s' n;rw[x.inside n t];exact h;rw[x.outside n t];rw[g.frame n t] at h;exact a.get n o hv h
def gg.trans{s'' s2'':St}(gx:fL mk s s')(gy:fL mk s' s'')(x:gg mk s s' s2 s2')(y:gg mk s' s'' s2' s2''):gg mk s s'' s2 s2'' where
 al:=y.al
 ge:=y.ge
 ci:=y.ci
 inside n t:=by
  by_cases t2:mM mk s' s'' n;exact y.inside n t2;rw[y.outside n t2,gy.frame n t2];refine x.inside n ?_;rcases t with t|t
  exact .inl t;refine .inr ⟨t.1,?_⟩;rcases ix n s'.al with h|h
  exact h;exact absurd (.inr ⟨h,t.2⟩) t2
 outside n t:=by
  have h1: ¬mM mk s s' n:=fun t'=>t (t'.imp id fun t'=>⟨t'.1,gX t'.2 gy.al⟩);have h2: ¬mM mk s' s'' n:=fun t'=>by
   rcases t' with⟨t1,t2⟩|t'
   rw[gx.frame n h1] at t2;exact t (.inl ⟨t1,t2⟩);exact t (.inr ⟨fh gx.al t'.1,t'.2⟩)
  rw[y.outside n h2,x.outside n h1]
def gg.refl(a:iG mk s s2):gg mk s s s2 s2 where
 al:=a.al
 ge:=a.ge
 ci:=a.ci
 inside n t:=by
  rcases t with⟨t1,t2⟩|t
  cases h:s.heap.get n with
  |none=>exact absurd h t2
  |some o=>exact a.get n o t1 h
  omega
 outside _ _:=rfl
def cD{α:Type}(mk:aW)(x:(Nat->Nat)->St->Option (α×St)):Prop:=
 ∀ch s a s',x ch s=some (a,s')->fL mk s s'/\ ∀ch' s2,(∀i,i<s'.ci->ch' i=ch i)->iG mk s s2-> ∃s2',x ch' s2=some (a,s2')/\gg mk s s' s2 s2'
variable{n:Nat}{o:bf}
def qO(h:s.get mk n=some o):dC mk n=false/\s.heap.get n=some o:=by
 unfold St.get at h;cases e:dC mk n with
 |true=>simp[e] at h
 |false=>simp[e] at h;exact⟨rfl,h⟩
def iG.look(a:iG mk s s2)(h:s.get mk n=some o):s2.get mk n=some o:=by
 obtain⟨h1,h2⟩:=qO h;simp[St.get,h1,a.get n o h1 h2]
def fL.new(mk:aW)(s:St)(o:bf):fL mk s (s.new o) where
 al:=jf _
 ci:=aU _
 ge:=aU _
 frame n h:=by
  show(s.heap.set s.al (some o)).get n=_;rw[aZ.get_set,iN];intro e;exact h (.inr ⟨by omega,by show n<s.al+1;omega⟩)
 noted n hn hne:=by
  refine absurd ?_ hne;show(s.heap.set s.al (some o)).get n=_;rw[aZ.get_set,iN (by omega)]
def gg.new(a:iG mk s s2)(o:bf):gg mk s (s.new o) s2 (s2.new o) where
 al:=by show s2.al+1=s.al+1;rw[a.al]
 ge:=a.ge
 ci:=a.ci
 inside n t:=by
  show(s2.heap.set s2.al (some o)).get n=(s.heap.set s.al (some o)).get n;rw[aZ.get_set,aZ.get_set,a.al];by_cases e:n=s.al;rw[iP e,iP e];rw[iN e,iN e];rcases t with⟨t1,t2⟩|⟨t1,t2⟩
  cases h:s.heap.get n with
  |none=>exact absurd h t2
  |some o=>exact a.get n o t1 h
  have:n<s.al+1:=t2;omega
 outside n t:=by
  show(s2.heap.set s2.al (some o)).get n=_;rw[aZ.get_set,iN];intro e;rw[a.al] at e;exact t (.inr ⟨by omega,by show n<s.al+1;omega⟩)
def fL.put(h:s.get mk n=some o)(o':Option bf):fL mk s (s.put n o') where
 al:=aU _
 ci:=aU _
 ge:=by
  show(bif br s.ge n then s.ge else n)<=s.ge;cases e:br s.ge n;simp only[cF];rw[qU] at e
  have:=of_decide_eq_false e;omega;simp
 frame m hm:=by
  show(s.heap.set n o').get m=_;rw[aZ.get_set,iN];intro e;subst e;obtain⟨h1,h2⟩:=qO h;exact hm (.inl ⟨h1,by rw[h2];simp⟩)
 noted m _ hne:=by
  show(bif br s.ge n then s.ge else n)<=m;have e:m=n:=by
   by_cases e:m=n;exact e;exfalso;apply hne;show(s.heap.set n o').get m=_;rw[aZ.get_set,iN e]
  subst e;cases e:br s.ge m;simp;simp only[cT];exact ju e
def gg.put(a:iG mk s s2)(h:s.get mk n=some o)(o':Option bf):gg mk s (s.put n o') s2 (s2.put n o') where
 al:=a.al
 ge:=by show(bif br s2.ge n then s2.ge else n)=(bif br s.ge n then s.ge else n);rw[a.ge]
 ci:=a.ci
 inside m t:=by
  show(s2.heap.set n o').get m=(s.heap.set n o').get m;rw[aZ.get_set,aZ.get_set];by_cases e:m=n;rw[iP e,iP e];rw[iN e,iN e];rcases t with⟨t1,t2⟩|⟨t1,t2⟩
  cases h:s.heap.get m with
  |none=>exact absurd h t2
  |some o=>exact a.get m o t1 h
  have:m<s.al:=t2;omega
 outside m t:=by
  show(s2.heap.set n o').get m=_;rw[aZ.get_set,iN];intro e;subst e;obtain⟨h1,h2⟩:=qO h;exact t (.inl ⟨h1,by rw[h2];simp⟩)
def fL.hide{s3:St}(h:s.get mk n=some o)(g:fL mk (s.put n none) s3)(o':bf):fL mk s (s3.put n (some o')) where
 al:=g.al
 ci:=g.ci
 ge:=by
  have h1:s3.ge<=(bif br s.ge n then s.ge else n):=g.ge;have h2:(bif br s.ge n then s.ge else n)<=s.ge:=(fL.put h none).ge;have h3:(s3.put n (some o')).ge<=s3.ge:=by
   show(bif br s3.ge n then s3.ge else n)<=s3.ge;cases e:br s3.ge n;rw[qU] at e
   have:=of_decide_eq_false e;simp only[cF];omega;simp
  omega
 frame m hm:=by
  obtain⟨h1,h2⟩:=qO h;have hmn:m≠n:=fun e=>by subst e;exact hm (.inl ⟨h1,by rw[h2];simp⟩)
  show(s3.heap.set n (some o')).get m=_;rw[aZ.get_set,iN hmn];have hs1:(s.put n none).heap.get m=s.heap.get m:=by
   show(s.heap.set n none).get m=_;rw[aZ.get_set,iN hmn]
  rw[<-hs1];refine g.frame m fun t=>hm ?_;rcases t with⟨t1,t2⟩|t
  rw[hs1] at t2;exact .inl ⟨t1,t2⟩;exact .inr t
 noted m hm hne:=by
  have hle:(s3.put n (some o')).ge<=s3.ge/\(s3.put n (some o')).ge<=n:=by
   show(bif br s3.ge n then s3.ge else n)<=s3.ge/\(bif br s3.ge n then s3.ge else n)<=n;cases e:br s3.ge n;rw[qU] at e
   have:=of_decide_eq_false e;simp only[cF];omega
   have:=ju e;simp only[cT];omega
  by_cases hmn:m=n;subst hmn;exact hle.2;have hs1:(s.put n none).heap.get m=s.heap.get m:=by
   show(s.heap.set n none).get m=_;rw[aZ.get_set,iN hmn]
  refine fh hle.1 (g.noted m hm ?_);rw[hs1];intro e;apply hne;show(s3.heap.set n (some o')).get m=_;rw[aZ.get_set,iN hmn,e]
def gg.hide{s3 s23:St}(_y:iG mk s s2)(h:s.get mk n=some o)(x:gg mk (s.put n none) s3 (s2.put n none) s23)(o':bf):gg mk s (s3.put n (some o')) s2 (s23.put n (some o')) where
 al:=x.al
 ge:=by show(bif br s23.ge n then s23.ge else n)=(bif br s3.ge n then s3.ge else n);rw[x.ge]
 ci:=x.ci
 inside m t:=by
  show(s23.heap.set n (some o')).get m=(s3.heap.set n (some o')).get m;rw[aZ.get_set,aZ.get_set];by_cases hmn:m=n;rw[iP hmn,iP hmn];rw[iN hmn,iN hmn];refine x.inside m ?_;rcases t with⟨t1,t2⟩|t
  refine .inl ⟨t1,?_⟩;show(s.heap.set n none).get m≠none;rw[aZ.get_set,iN hmn];exact t2;exact .inr t
 outside m t:=by
  obtain⟨h1,h2⟩:=qO h;have hmn:m≠n:=fun e=>by subst e;exact t (.inl ⟨h1,by rw[h2];simp⟩)
  show(s23.heap.set n (some o')).get m=_;rw[aZ.get_set,iN hmn,x.outside m ?_];show(s2.heap.set n none).get m=_;rw[aZ.get_set,iN hmn];rintro(⟨t1,t2⟩|t');have t2:(s.heap.set n none).get m≠none:=t2;rw[aZ.get_set,iN hmn] at t2;exact t (.inl ⟨t1,t2⟩);exact t (.inr t')
def RO{β:Type}(mk:aW)(f:St->Option β):Prop:= ∀s s2 b,f s=some b->(∀n o,s.get mk n=some o->s2.get mk n=some o)->f s2=some b
section
variable{P:Program}{mk:aW}
def UA(t:TypeId)(a:ae)(loc:Loc):RO mk (fun s=>lR P mk t a loc s):=by
 intro s s2 b h hl;unfold lR at h ⊢;split at h;exact h;simp only[az] at h ⊢;obtain⟨ob,hob,h⟩:=h;exact⟨ob,hl _ _ hob,h⟩;exact h;cases h
def Uz(g:Bool)(n:Nat)(x:ae):RO mk (fun s=>jS mk g n x s):=by
 intro s s2 b h hl;unfold jS at h ⊢;split at h;exact h;exact h;replace h:=bm h;obtain⟨h1,h⟩:=h;simp only[h1,cT,az] at h ⊢;obtain⟨ob,hob,h⟩:=h;exact⟨ob,hl _ _ hob,h⟩;cases h
def amQ(t:TypeId)(x:ae):RO mk (fun s=>gD P mk t x s):=by
 intro s s2 b h hl;simp only[gD,az] at h ⊢;obtain⟨d,hd,h⟩:=h;refine⟨d,hd,?_⟩;split at h<;>first
  |exact h
  |(simp only[az] at h ⊢
    obtain⟨ob,hob,h⟩:=h;exact⟨ob,hl _ _ hob,h⟩)
  |cases h
def amR(t:TypeId)(m k:ae)(ok:Bool):RO mk (fun s=>mU P mk t m k ok s):=by
 intro s s2 b h hl;simp only[mU,az] at h ⊢;obtain⟨ke,hke,z,hz,r,hr,h⟩:=h;refine⟨ke,hke,z,hz,r,?_,h⟩;unfold B3 at hr ⊢;split at hr;exact hr;simp only[az] at hr ⊢;obtain⟨ob,hob,hr⟩:=hr;exact⟨ob,hl _ _ hob,hr⟩;cases hr
def amP(it:ae):RO mk (fun s=>rT mk it s):=by
 intro s s2 b h hl;unfold rT at h ⊢;split at h;simp only[az] at h ⊢;obtain⟨ob,hob,h⟩:=h;refine⟨ob,hl _ _ hob,?_⟩;split at h;simp only[az] at h ⊢;obtain⟨ob2,hob2,h⟩:=h;exact⟨ob2,hl _ _ hob2,h⟩;cases h;cases h
def amS(t:TypeId)(x:ae)(lo hi mx:Option Operand)(env:aI):RO mk (fun s=>ib P mk t x lo hi mx env s):=by
 intro s s2 b h hl;simp only[ib,az] at h ⊢;obtain⟨d,hd,h⟩:=h;refine⟨d,hd,?_⟩;split at h;exact h;simp only[az] at h ⊢;obtain⟨n,hn,h⟩:=h;exact⟨n,hn,h⟩;simp only[az] at h ⊢;obtain⟨n,hn,h⟩:=h;refine⟨n,hn,?_⟩;split at h;simp only[az] at h ⊢;obtain⟨p,hp,q,hq,ob,hob,h⟩:=h;exact⟨p,hp,q,hq,ob,hl _ _ hob,h⟩;cases h;cases h
end
def bI{α β:Type}(mk:aW)(x:(Nat->Nat)->St->Option (α×β×St)):Prop:=
 ∀ch s v l s',x ch s=some (v,l,s')->fL mk s s'/\ ∀ch' s2,(∀i,i<s'.ci->ch' i=ch i)->iG mk s s2-> ∃s2',x ch' s2=some (v,l,s2')/\gg mk s s' s2 s2'
variable{α β:Type}
section
variable{P:Program}{mk:aW}
def bI.ro{f:St->Option ae}(hf:RO mk f)(l:Loc):bI mk (fun _ s=>fC (f s) l s):=by
 intro ch s v l' s' h;obtain⟨h1,h2,h3⟩:=kO h;subst h2;subst h3;refine⟨.refl mk s',fun ch' s2 _ a=>⟨s2,?_,.refl a⟩⟩
 have:=hf s' s2 v h1 (fun n o ho=>a.look ho);simp[fC,this]
def bI.const(f:Option ae)(l:Loc):bI mk (fun _ s=>fC f l s):=bI.ro (f:=fun _=>f) (fun _ _ _ h _=>h) l
def bI.none:bI (α:=α) (β:=β) mk (fun _ _=>.none):=by intro ch s v l s' h;cases h
def bI.bind{γ:Type}(x:Option β){k:β->(Nat->Nat)->St->Option (α×γ×St)}(hk: ∀b,x=some b->bI mk (k b)):bI mk (fun ch s=>x.bind fun b=>k b ch s):=by
 cases x with
 |none=>intro ch s v l s' h;cases h
 |some b=>exact hk b rfl
def bI.vs{f:(Nat->Nat)->St->Option (ae×St)}(hf:cD mk f)(l:Loc):bI mk (fun ch s=>gH (f ch s) l):=by
 intro ch s v l' s' h;simp only[gH,az] at h;obtain⟨⟨v1,s1⟩,h1,h⟩:=h;simp only[aP,bj] at h;obtain⟨rfl,rfl,rfl⟩:=h;obtain⟨g,hh⟩:=hf ch s v1 s1 h1;refine⟨g,fun ch' s2 hc a=>?_⟩;obtain⟨s2',h2,h3⟩:=hh ch' s2 hc a;exact⟨s2',by simp[gH,h2],h3⟩
def cD.of_put{f:St->Option (α×St)}(hf: ∀s a s',f s=some (a,s')-> ∃n o o',s.get mk n=some o/\s'=s.put n o'/\ ∀s2,iG mk s s2->f s2=some (a,s2.put n o')):cD mk (fun _ s=>f s):=by
 intro ch s a s' h;obtain⟨n,o,o',h1,rfl,h2⟩:=hf s a s' h;exact⟨.put h1 o',fun ch' s2 _ hs=>⟨_,h2 s2 hs,.put hs h1 o'⟩⟩
def cD.of_new{f:St->Option (α×St)}(hf: ∀s a s',f s=some (a,s')-> ∃o,s'=s.new o/\ ∀s2,iG mk s s2->f s2=some (a,s2.new o)):cD mk (fun _ s=>f s):=by
 intro ch s a s' h;obtain⟨o,rfl,h2⟩:=hf s a s' h;exact⟨.new mk s o,fun ch' s2 _ hs=>⟨_,h2 s2 hs,.new hs o⟩⟩
def cD.of_same{f:St->Option (α×St)}(hf: ∀s a s',f s=some (a,s')->s'=s/\ ∀s2,iG mk s s2->f s2=some (a,s2)):cD mk (fun _ s=>f s):=by
 intro ch s a s' h;obtain⟨rfl,h2⟩:=hf s a s' h;exact⟨.refl mk _,fun ch' s2 _ hs=>⟨_,h2 s2 hs,.refl hs⟩⟩
def cD.of_any{f:St->Option (α×St)}(hf: ∀s a s',f s=some (a,s')->
 (s'=s/\ ∀s2,iG mk s s2->f s2=some (a,s2))\/(∃o,s'=s.new o/\ ∀s2,iG mk s s2->f s2=some (a,s2.new o))\/
 (∃n o o',s.get mk n=some o/\s'=s.put n o'/\ ∀s2,iG mk s s2->f s2=some (a,s2.put n o'))\/
 (∃n o o' o'',s.get mk n=some o/\s'=(s.put n o').new o''/\ ∀s2,iG mk s s2->f s2=some (a,(s2.put n o').new o''))):cD mk (fun _ s=>f s):=by
 intro ch s a s' h;rcases hf s a s' h with⟨rfl,h2⟩|⟨o,rfl,h2⟩|⟨n,o,o',h1,rfl,h2⟩|⟨n,o,o',o'',h1,rfl,h2⟩
 exact⟨.refl mk _,fun ch' s2 _ hs=>⟨_,h2 s2 hs,.refl hs⟩⟩;exact⟨.new mk s o,fun ch' s2 _ hs=>⟨_,h2 s2 hs,.new hs o⟩⟩;exact⟨.put h1 o',fun ch' s2 _ hs=>⟨_,h2 s2 hs,.put hs h1 o'⟩⟩;have g1:=fL.put h1 o';exact⟨g1.trans (.new mk _ o''),fun ch' s2 _ hs=>⟨_,h2 s2 hs,gg.trans g1 (.new mk _ o'') (.put hs h1 o') (.new ((gg.put hs h1 o').sees hs g1) o'')⟩⟩
end
section
variable{P:Program}{mk:aW}
def aiF(t:TypeId)(m k v:ae)(l:Loc):bI mk (fun _ s=>nK (nM P mk t m k v s) l):=by
 intro ch s u l' s' h;simp only[nK,az] at h;obtain⟨s1,h1,h⟩:=h;simp only[aP,bj] at h;obtain⟨rfl,rfl,rfl⟩:=h;simp only[nM,az] at h1;obtain⟨ke,hke,h1⟩:=h1;split at h1;rename_i n;simp only[az] at h1;obtain⟨ob,hob,h1⟩:=h1;split at h1;rename_i es clock;simp only[az] at h1;obtain⟨r,hr,h1⟩:=h1;split at h1;rename_i x;replace h1:=bm h1;obtain⟨hc,h1⟩:=h1;injection h1 with h1;subst h1
 exact⟨.put hob _,fun ch' s2 _ a=>⟨_,by simp[nK,nM,hke,a.look hob,hr,hc],.put a hob _⟩⟩;injection h1 with h1;subst h1
 exact⟨.put hob _,fun ch' s2 _ a=>⟨_,by simp[nK,nM,hke,a.look hob,hr],.put a hob _⟩⟩;cases h1;cases h1
def aiw(t:TypeId)(m k:ae):cD mk (fun _ s=>x9 P mk t m k s):=by
 refine cD.of_put ?_;intro s u s' h1;simp only[x9,az] at h1;obtain⟨ke,hke,z,hz,h1⟩:=h1;split at h1;rename_i n;simp only[az] at h1;obtain⟨ob,hob,h1⟩:=h1;split at h1;rename_i es clock;simp only[az] at h1;obtain⟨r,hr,h1⟩:=h1;split at h1;rename_i x;replace h1:=bm h1;obtain⟨hc,h1⟩:=h1;simp only[aP,bj] at h1;obtain⟨rfl,rfl⟩:=h1;exact⟨n,_,_,hob,rfl,fun s2 a=>by simp[x9,hke,hz,a.look hob,hr,hc]⟩;simp only[aP,bj] at h1;obtain⟨rfl,rfl⟩:=h1;exact⟨n,_,_,hob,rfl,fun s2 a=>by simp[x9,hke,hz,a.look hob,hr]⟩;cases h1;cases h1
def ais(m st v:ae)(l:Loc):bI mk (fun _ s=>nK (zn mk m st v s) l):=by
 intro ch s u l' s' h;simp only[nK,az] at h;obtain⟨s1,h1,h⟩:=h;simp only[aP,bj] at h;obtain⟨rfl,rfl,rfl⟩:=h;simp only[zn,az] at h1;obtain⟨b,hb,h1⟩:=h1;split at h1;rename_i n;simp only[az] at h1;obtain⟨ob,hob,h1⟩:=h1;split at h1;simp only[az] at h1;obtain⟨es',hes,h1⟩:=h1;injection h1 with h1;subst h1
 exact⟨.put hob _,fun ch' s2 _ a=>⟨_,by simp[nK,zn,hb,a.look hob,hes],.put a hob _⟩⟩;cases h1;cases h1
def aiA(t:TypeId)(x:ae):cD mk (fun _ s=>m7 P mk t x s):=by
 refine cD.of_new ?_;intro s u s' h1;simp only[m7,az] at h1;obtain⟨d,hd,h1⟩:=h1;split at h1;split at h1;simp only[aP,bj] at h1;obtain⟨rfl,rfl⟩:=h1;exact⟨_,rfl,fun s2 a=>by simp[m7,hd,a.al]⟩;simp only[az] at h1;obtain⟨ob,hob,h1⟩:=h1;split at h1;simp only[aP,bj] at h1;obtain⟨rfl,rfl⟩:=h1;exact⟨_,rfl,fun s2 a=>by simp[m7,hd,a.look hob,a.al]⟩;cases h1;cases h1;cases h1
def fL.ci_succ(g:fL mk s s')(_h:s'.ci=s.ci):fL mk s {s' with ci:=s.ci+1 }:=⟨g.al,jf _,g.ge,g.frame,g.noted⟩
def gg.ci_succ(a:iG mk s s2)(g:gg mk s s' s2 s2'):gg mk s {s' with ci:=s.ci+1 } s2 {s2' with ci:=s2.ci+1 }:=
 ⟨g.al,g.ge,by show s2.ci+1=s.ci+1;rw[a.ci],g.inside,g.outside⟩
def Sj(kmax:Nat->Nat)(it:ae)(isString:Bool):cD mk (fun ch s=>lV mk ch kmax it isString s):=by
 intro ch s u s' h1;simp only[lV] at h1 ⊢;split at h1;rename_i n;simp only[az] at h1;obtain⟨ob,hob,h1⟩:=h1;split at h1;replace h1:=gh h1;rcases h1 with⟨_,h1⟩|⟨hs,h1⟩
 cases h1;simp only[aP,bj] at h1;obtain⟨rfl,rfl⟩:=h1;exact⟨.refl mk _,fun ch' s2 _ a=>⟨s2,by simp[a.look hob,hs],.refl a⟩⟩;rename_i m since seen stepped;replace h1:=gh h1;rcases h1 with⟨_,h1⟩|⟨hs,h1⟩
 cases h1;simp only[az] at h1;obtain⟨ob2,hob2,h1⟩:=h1;split at h1;rename_i es clock;replace h1:=gh h1;rcases h1 with⟨_,h1⟩|⟨hgo,h1⟩
 cases h1;generalize hUL:cX seen es=UL at h1;unfold pg at h1;split at h1;simp only[aP,bj] at h1;obtain⟨rfl,rfl⟩:=h1;exact⟨.refl mk _,fun ch' s2 _ a=>⟨s2,by simp[a.look hob,a.look hob2,hs,hgo,hUL,pg],.refl a⟩⟩;rename_i e r;replace h1:=bm h1;obtain⟨hall,h1⟩:=h1;split at h1;simp only[aP] at h1;have e1:u=(rj n m since clock seen e s).1:=by rw[h1]
 have e2:s'=s.put n (some (.iter (some m) since (seen++[e.born]) clock)):=(congrArg Prod.snd h1).symm;subst e1;subst e2;refine⟨.put hob _,fun ch' s2 _ a=>⟨_,?_,.put a hob _⟩⟩;simp only[a.look hob,a.look hob2,bn,hs,cF,hgo,hUL,pg,hall,cT];rfl;rename_i e2 r2;replace h1:=bm h1;obtain⟨hk,h1⟩:=h1;simp only[az] at h1;obtain⟨e',he',h1⟩:=h1;simp only[aP,bj] at h1;obtain⟨rfl,rfl⟩:=h1;refine⟨fL.ci_succ (s':=s.put n (some (.iter (some m) since (seen++[e'.born]) clock))) (.put hob _) rfl,fun ch' s2 hch a=>⟨_,?_,gg.ci_succ a (.put a hob _)⟩⟩;have hci:ch' s2.ci=ch s.ci:=by rw[a.ci];exact hch s.ci (fK _)
 rw[<-a.ci] at hk;simp only[a.look hob,a.look hob2,bn,hs,cF,hgo,hUL,pg,hall,cT,hk,hci,he'];rfl;cases h1;cases h1;cases h1
def aiu(t:TypeId)(env:aI)(r:Option Operand):cD mk (fun _ s=>oh P t env r s):=by
 refine cD.of_new ?_;intro s u s' h1;unfold oh at h1 ⊢;rcases r with _|x
 simp only[aP,bj] at h1;obtain⟨rfl,rfl⟩:=h1;exact⟨_,rfl,fun s2 a=>by simp[a.al]⟩;simp only[az] at h1;obtain⟨d,hd,h1⟩:=h1;split at h1;simp only[az] at h1;obtain⟨y,hy,h1⟩:=h1;split at h1;simp only[aP,bj] at h1;obtain⟨rfl,rfl⟩:=h1;exact⟨_,rfl,fun s2 a=>by simp[hd,hy,a.al]⟩;cases h1;cases h1
def aiv(t:TypeId)(l c:ae)(mu:Bool):cD mk (fun _ s=>qR P t l c mu s):=by
 refine cD.of_new ?_;intro s u s' h1;simp only[qR,az] at h1 ⊢;obtain⟨E,hE,ln,hl,cn,hc,h1⟩:=h1;replace h1:=bm h1;obtain⟨hcond,h1⟩:=h1;replace h1:=gh h1;rcases h1 with⟨hz,h1⟩|⟨hz,h1⟩
 simp only[aP,bj] at h1;obtain⟨rfl,rfl⟩:=h1;exact⟨_,rfl,fun s2 a=>⟨E,hE,ln,hl,cn,hc,by simp only[hcond,hz,cT,a.al]⟩⟩;simp only[aP,bj] at h1;obtain⟨rfl,rfl⟩:=h1;exact⟨_,rfl,fun s2 a=>⟨E,hE,ln,hl,cn,hc,by simp only[hcond,hz,cT,cF,a.al]⟩⟩
def ail(t:TypeId)(len:Nat)(parts:List (Nat×Operand))(mu:Bool)(env:aI):cD mk (fun _ s=>cx P t len parts mu env s):=by
 refine cD.of_any ?_;intro s u s' h1;simp only[cx,az] at h1 ⊢;obtain⟨E,hE,h1⟩:=h1;replace h1:=bm h1;obtain⟨hcond,h1⟩:=h1;simp only[az] at h1;obtain⟨cs,hcs,h1⟩:=h1;replace h1:=gh h1;rcases h1 with⟨hz,h1⟩|⟨hz,h1⟩
 simp only[aP,bj] at h1;obtain⟨rfl,rfl⟩:=h1;exact .inr (.inl ⟨_,rfl,fun s2 a=>⟨E,hE,by simp only[hcond,cT,hcs,bn,hz,a.al]⟩⟩);simp only[az] at h1;obtain⟨xs,hxs,h1⟩:=h1;simp only[aP,bj] at h1;obtain⟨rfl,rfl⟩:=h1;exact .inl ⟨rfl,fun s2 a=>⟨E,hE,by simp only[hcond,cT,hcs,bn,hz,cF,hxs]⟩⟩
def aij(t:TypeId)(x y:ae)(mu:Bool):cD mk (fun _ s=>hG P mk t x y mu s):=by
 refine cD.of_any ?_;intro s u s' h1;simp only[hG,az] at h1 ⊢;obtain⟨E,hE,ys,hys,h1⟩:=h1;have hro: ∀s2,iG mk s s2->jS mk E.g E.n y s2=some ys:=fun s2 a=>Uz E.g E.n y s s2 ys hys (fun n o ho=>a.look ho);have fin: ∀ {Q1 Q2 Q3 Q4:Prop},Q1\/Q2\/Q3\/Q4->Q1\/Q2\/Q3\/Q4:=fun h=>h;cases ys with
 |nil=>
  replace h1:=bm h1;obtain⟨hsl,h1⟩:=h1;simp only[aP,bj] at h1;obtain⟨rfl,rfl⟩:=h1;exact .inl ⟨rfl,fun s2 a=>⟨E,hE,[],hro s2 a,by simp only[hsl,cT]⟩⟩
 |cons y0 yr=>
  simp only at h1;have made: ∀(zs:List ae),kK E mu zs s=some (u,s')-> ∃o,s'=s.new o/\ ∀s2,iG mk s s2->kK E mu zs s2=some (u,s2.new o):=by
   intro zs hm;simp only[kK] at hm ⊢;replace hm:=bm hm;obtain⟨hr,hm⟩:=hm;replace hm:=gh hm;rcases hm with⟨hz,hm⟩|⟨hz,hm⟩
   simp only[aP,bj] at hm;obtain⟨rfl,rfl⟩:=hm;exact⟨_,rfl,fun s2 a=>by simp only[hr,hz,cT,a.al]⟩;simp only[aP,bj] at hm;obtain⟨rfl,rfl⟩:=hm;exact⟨_,rfl,fun s2 a=>by simp only[hr,hz,cT,cF,a.al]⟩
  unfold ml at h1;split at h1;obtain⟨o,ho,hm⟩:=made _ h1;exact .inr (.inl ⟨o,ho,fun s2 a=>⟨E,hE,_,hro s2 a,by simp only[ml];exact hm s2 a⟩⟩);replace h1:=bm h1;obtain⟨hsz,h1⟩:=h1;obtain⟨o,ho,hm⟩:=made _ h1;exact .inr (.inl ⟨o,ho,fun s2 a=>⟨E,hE,_,hro s2 a,by simp only[ml,hsz,cT];exact hm s2 a⟩⟩);simp only[az] at h1;obtain⟨ob,hob,h1⟩:=h1;split at h1;replace h1:=bm h1;obtain⟨hr,h1⟩:=h1;simp only[aP,bj] at h1;obtain⟨rfl,rfl⟩:=h1;exact .inr (.inr (.inr ⟨_,_,none,_,hob,rfl,fun s2 a=>⟨E,hE,_,hro s2 a,by simp only[ml,a.look hob,bn,hr,cT,a.al]⟩⟩));cases h1;simp only[az] at h1;obtain⟨ob,hob,h1⟩:=h1;split at h1;replace h1:=bm h1;obtain⟨hr,h1⟩:=h1;replace h1:=gh h1;rcases h1 with⟨he,h1⟩|⟨he,h1⟩
  simp only[aP,bj] at h1;obtain⟨rfl,rfl⟩:=h1;exact .inr (.inr (.inr ⟨_,_,none,_,hob,rfl,fun s2 a=>⟨E,hE,_,hro s2 a,by simp only[ml,a.look hob,bn,hr,he,cT,a.al]⟩⟩));replace h1:=bm h1;obtain⟨hl,h1⟩:=h1;simp only[az] at h1;obtain⟨cs',hw,h1⟩:=h1;simp only[aP,bj] at h1;obtain⟨rfl,rfl⟩:=h1;exact .inr (.inr (.inl ⟨_,_,_,hob,rfl,fun s2 a=>⟨E,hE,_,hro s2 a,by simp only[ml,a.look hob,bn,hr,he,cT,cF,hl,hw]⟩⟩));cases h1;cases h1
def aiq(t:TypeId)(x y:ae):cD mk (fun _ s=>Bh P mk t x y s):=by
 refine cD.of_any ?_;intro s u s' h1;simp only[Bh,az] at h1 ⊢;obtain⟨E,hE,ys,hys,h1⟩:=h1;have hro: ∀s2,iG mk s s2->jS mk E.g E.n y s2=some ys:=fun s2 a=>Uz E.g E.n y s s2 ys hys (fun n o ho=>a.look ho);split at h1;simp only[aP,bj] at h1;obtain⟨rfl,rfl⟩:=h1;exact .inl ⟨rfl,fun s2 a=>⟨E,hE,ys,hro s2 a,rfl⟩⟩;simp only[aP,bj] at h1;obtain⟨rfl,rfl⟩:=h1;exact .inl ⟨rfl,fun s2 a=>⟨E,hE,ys,hro s2 a,rfl⟩⟩;replace h1:=bm h1;obtain⟨hr,h1⟩:=h1;simp only[az] at h1;obtain⟨ob,hob,h1⟩:=h1;split at h1;simp only[az] at h1;obtain⟨cs',hw,h1⟩:=h1;simp only[aP,bj] at h1;obtain⟨rfl,rfl⟩:=h1;exact .inr (.inr (.inl ⟨_,_,_,hob,rfl,fun s2 a=>⟨E,hE,ys,hro s2 a,by simp only[hr,cT,a.look hob,bn,hw]⟩⟩));cases h1;cases h1
def aio(t:TypeId)(x:ae):cD mk (fun _ s=>(vT P mk t x s).bind fun s'=>some (ae.tup [],s')):=by
 refine cD.of_any ?_;intro s u s' h1;simp only[az] at h1 ⊢;obtain⟨s1,h1,h2⟩:=h1;simp only[aP,bj] at h2;obtain⟨rfl,rfl⟩:=h2;unfold vT at h1;split at h1;injection h1 with h1;subst h1
 exact .inl ⟨rfl,fun s2 a=>⟨s2,rfl,rfl⟩⟩;injection h1 with h1;subst h1
 exact .inl ⟨rfl,fun s2 a=>⟨s2,rfl,rfl⟩⟩;simp only[az] at h1;obtain⟨ob,hob,h1⟩:=h1;split at h1;injection h1 with h1;subst h1
 exact .inr (.inr (.inl ⟨_,_,_,hob,rfl,fun s2 a=>⟨_,by simp only[vT,a.look hob,bn],rfl⟩⟩));cases h1;injection h1 with h1;subst h1
 exact .inl ⟨rfl,fun s2 a=>⟨s2,rfl,rfl⟩⟩;replace h1:=gh h1;rcases h1 with⟨he,h1⟩|⟨he,h1⟩
 injection h1 with h1;subst h1
 exact .inl ⟨rfl,fun s2 a=>⟨s2,by simp only[vT,he,cT],rfl⟩⟩;simp only[az] at h1;obtain⟨E,hE,h1⟩:=h1;replace h1:=bm h1;obtain⟨hr,h1⟩:=h1;simp only[az] at h1;obtain⟨ob,hob,h1⟩:=h1;split at h1;simp only[az] at h1;obtain⟨cs',hw,h1⟩:=h1;injection h1 with h1;subst h1
 exact .inr (.inr (.inl ⟨_,_,_,hob,rfl,fun s2 a=>⟨_,by simp only[vT,he,cF,hE,bn,hr,cT,a.look hob,hw],rfl⟩⟩));cases h1;cases h1
def cD.pureOpt(f:Option α):cD mk (fun _ s=>f.bind fun v=>some (v,s)):=by
 refine cD.of_same ?_;intro s u s' h1;simp only[az] at h1;obtain⟨v,hv,h1⟩:=h1;simp only[aP,bj] at h1;obtain⟨rfl,rfl⟩:=h1;exact⟨rfl,fun s2 a=>by simp[hv]⟩
def aim(b:Builtin)(ts:List TypeId)(mu:Bool)(args:List ae):cD mk (fun _ s=>mp P mk b ts mu args s):=by
 intro ch s u s' h1;unfold mp at h1 ⊢;split at h1;refine cD.of_same (f:=fun s=>(gD P mk _ _ s).bind fun v=>some (v,s)) ?_ ch s u s' h1;intro s u s' h1;simp only[az] at h1 ⊢;obtain⟨v,hv,h1⟩:=h1;simp only[aP,bj] at h1;obtain⟨rfl,rfl⟩:=h1;exact⟨rfl,fun s2 a=>⟨v,amQ _ _ s s2 v hv (fun n o ho=>a.look ho),rfl⟩⟩;cases hc:nF P _ with
 |false=>rw[hc] at h1;cases h1
 |true=>
  rw[hc] at h1;simp only[cT] at h1 ⊢;exact aij _ _ _ mu ch s u s' h1
 exact aiq _ _ _ ch s u s' h1;rename_i t x;simp only[az] at h1;obtain⟨d,hd,s3,hs3,h1⟩:=h1
 have:=aio (P:=P) (mk:=mk) t x ch s u s' (by simp only[hs3,bn];exact h1);refine⟨this.1,fun ch' s2 hc a=>?_⟩;obtain⟨s2',h2,h3⟩:=this.2 ch' s2 hc a;exact⟨s2',by simpa[hd] using h2,h3⟩;exact cD.pureOpt _ ch s u s' h1;exact cD.pureOpt _ ch s u s' h1;cases h1
def aiE(t:TypeId)(a v:ae)(loc:Loc):bI mk (fun _ s=>(nL P mk t a v loc s).bind fun r=>some (fX,r.1,r.2)):=by
 intro ch s u l' s' h;simp only[az] at h;obtain⟨⟨l1,s1⟩,h1,h⟩:=h;simp only[aP,bj] at h;obtain⟨rfl,rfl,rfl⟩:=h;simp only[nL,az] at h1;obtain⟨n,hn,h1⟩:=h1;replace h1:=bm h1;obtain⟨hc,h1⟩:=h1;split at h1;simp only[az] at h1;obtain⟨cs,hcs,cs',hw,h1⟩:=h1;simp only[aP,bj] at h1;obtain⟨rfl,rfl⟩:=h1;exact⟨.refl mk _,fun ch' s2 _ x=>⟨s2,by simp only[nL,hn,bn,hc,cT,hcs,hw],.refl x⟩⟩;simp only[az] at h1;obtain⟨ob,hob,h1⟩:=h1;split at h1;simp only[az] at h1;obtain⟨cs',hw,h1⟩:=h1;simp only[aP,bj] at h1;obtain⟨rfl,rfl⟩:=h1;exact⟨.put hob _,fun ch' s2 _ x=>⟨_,by simp only[nL,hn,bn,hc,cT,x.look hob,hw],.put x hob _⟩⟩;cases h1;cases h1
def aik(h:Nat)(dst:Option Tmp)(cs:List ae)(loc:Loc):bI mk (fun _ s=>qK h dst cs loc s):=by
 intro ch s u l' s' h1;unfold qK at h1 ⊢;replace h1:=gh h1;rcases h1 with⟨hb,h1⟩|⟨hb,h1⟩
 simp only[az] at h1;obtain⟨t,ht,h1⟩:=h1;simp only[aP,bj] at h1;obtain⟨rfl,rfl,rfl⟩:=h1;exact⟨.refl mk _,fun ch' s2 _ x=>⟨s2,by simp only[hb,cT,ht,bn],.refl x⟩⟩;simp only[aP,bj] at h1;obtain⟨rfl,rfl,rfl⟩:=h1;exact⟨.new mk s _,fun ch' s2 _ x=>⟨_,by simp only[hb,cF,x.al],.new x _⟩⟩
def Sk(hint:Tmp->Nat)(dst:Option Tmp)(c:Call)(fr:Fr):bI mk (fun _ s=>tJ P mk hint dst c fr s):=by
 unfold tJ;split;exact bI.bind _ fun args _=>bI.vs (aim _ _ _ _) _;exact bI.none
def aii(kmax:Nat->Nat)(hint:Tmp->Nat)(dst:Option Tmp)(op:Op)(fr:Fr):bI mk (fun ch s=>lI P mk ch kmax hint dst op fr s):=by
 cases op<;>simp only[lI]<;>first
  |exact bI.none
  |exact bI.const _ _
  |exact bI.bind _ fun z _=>aik _ _ _ _
  |exact bI.vs (ail _ _ _ _ _) _
  |exact bI.vs (aiu _ _ _) _
  |exact bI.bind _ fun a _=>bI.ro (UA _ _ _) _
  |exact bI.bind _ fun a _=>bI.bind _ fun x _=>aiE _ _ _ _
  |exact bI.bind _ fun a _=>bI.const _ _
  |exact bI.bind _ fun a _=>bI.bind _ fun b _=>bI.const _ _
  |exact bI.bind _ fun a _=>bI.bind _ fun b _=>bI.vs (aiv _ _ _ _) _
  |exact bI.bind _ fun a _=>bI.ro (amS _ _ _ _ _ _) _
  |exact bI.bind _ fun a _=>bI.bind _ fun b _=>bI.ro (amR _ _ _ _) _
  |exact bI.bind _ fun a _=>bI.bind _ fun b _=>bI.bind _ fun c _=>aiF _ _ _ _ _
  |exact bI.bind _ fun a _=>bI.bind _ fun b _=>bI.vs (aiw _ _ _) _
  |exact bI.bind _ fun a _=>bI.bind _ fun b _=>bI.bind _ fun c _=>ais _ _ _ _
  |exact bI.bind _ fun a _=>bI.vs (aiA _ _) _
  |exact bI.bind _ fun a _=>bI.vs (Sj _ _ _) _
  |exact bI.bind _ fun a _=>bI.ro (amP _) _
  |exact Sk _ _ _ _
end
section
variable{mk:aW}{α β γ δ:Type}
def cD.none:cD (α:=α) mk (fun _ _=>.none):=by intro ch s v s' h;cases h
def cD.opt(x:Option β){k:β->(Nat->Nat)->St->Option (α×St)}(hk: ∀b,x=some b->cD mk (k b)):cD mk (fun ch s=>x.bind fun b=>k b ch s):=by
 cases x with
 |none=>intro ch s v s' h;cases h
 |some b=>exact hk b rfl
def cD.ret(a:α):cD mk (fun _ s=>some (a,s)):=by
 intro ch s v s' h;simp only[aP,bj] at h;obtain⟨rfl,rfl⟩:=h;exact⟨.refl mk _,fun ch' s2 _ x=>⟨s2,rfl,.refl x⟩⟩
def bI.ret(a:α)(b:β):bI mk (fun _ s=>some (a,b,s)):=by
 intro ch s v l s' h;simp only[aP,bj] at h;obtain⟨rfl,rfl,rfl⟩:=h;exact⟨.refl mk _,fun ch' s2 _ x=>⟨s2,rfl,.refl x⟩⟩
def cD.then3{x:(Nat->Nat)->St->Option (α×St)}{k:α->(Nat->Nat)->St->Option (β×γ×St)}(hx:cD mk x)(hk: ∀a,bI mk (k a)):bI mk (fun ch s=>(x ch s).bind fun r=>k r.1 ch r.2):=by
 intro ch s v l s' h;simp only[az] at h;obtain⟨⟨a,s1⟩,h1,h2⟩:=h;obtain⟨g1,e1⟩:=hx ch s a s1 h1;obtain⟨g2,e2⟩:=hk a ch s1 v l s' h2;refine⟨g1.trans g2,fun ch' s2 hc y=>?_⟩;obtain⟨s2',q1,q2⟩:=e1 ch' s2 (fun i hi=>hc i (gX hi g2.ci)) y;obtain⟨s2'',q3,q4⟩:=e2 ch' s2' hc (q2.sees y g1);exact⟨s2'',by simp only[q1,bn];exact q3,q2.trans g1 g2 q4⟩
def bI.then1{x:(Nat->Nat)->St->Option (α×β×St)}{k:α->β->(Nat->Nat)->St->Option (γ×St)}(hx:bI mk x)(hk: ∀a b,cD mk (k a b)):cD mk (fun ch s=>(x ch s).bind fun r=>k r.1 r.2.1 ch r.2.2):=by
 intro ch s v s' h;simp only[az] at h;obtain⟨⟨a,b,s1⟩,h1,h2⟩:=h;obtain⟨g1,e1⟩:=hx ch s a b s1 h1;obtain⟨g2,e2⟩:=hk a b ch s1 v s' h2;refine⟨g1.trans g2,fun ch' s2 hc y=>?_⟩;obtain⟨s2',q1,q2⟩:=e1 ch' s2 (fun i hi=>hc i (gX hi g2.ci)) y;obtain⟨s2'',q3,q4⟩:=e2 ch' s2' hc (q2.sees y g1);exact⟨s2'',by simp only[q1,bn];exact q3,q2.trans g1 g2 q4⟩
def bI.then3{x:(Nat->Nat)->St->Option (α×β×St)}{k:α->β->(Nat->Nat)->St->Option (γ×δ×St)}(hx:bI mk x)(hk: ∀a b,bI mk (k a b)):bI mk (fun ch s=>(x ch s).bind fun r=>k r.1 r.2.1 ch r.2.2):=by
 intro ch s v l s' h;simp only[az] at h;obtain⟨⟨a,b,s1⟩,h1,h2⟩:=h;obtain⟨g1,e1⟩:=hx ch s a b s1 h1;obtain⟨g2,e2⟩:=hk a b ch s1 v l s' h2;refine⟨g1.trans g2,fun ch' s2 hc y=>?_⟩;obtain⟨s2',q1,q2⟩:=e1 ch' s2 (fun i hi=>hc i (gX hi g2.ci)) y;obtain⟨s2'',q3,q4⟩:=e2 ch' s2' hc (q2.sees y g1);exact⟨s2'',by simp only[q1,bn];exact q3,q2.trans g1 g2 q4⟩
end
def bI.weaken{mk':aW}(hm: ∀n,dC mk n=true->dC mk' n=true){x:(Nat->Nat)->St->Option (α×β×St)}(hx:bI mk' x):bI mk x:=by
 have hv: ∀n,dC mk' n=false->dC mk n=false:=fun n h=>by
  cases e:dC mk n with
  |false=>rfl
  |true=>rw[hm n e] at h;cases h
 have ht: ∀ {s s':St} {n:Nat},mM mk' s s' n->mM mk s s' n:=fun t=>t.imp (fun t=>⟨hv _ t.1,t.2⟩) id;intro ch s a b s' h;obtain⟨g,e⟩:=hx ch s a b s' h;refine⟨⟨g.al,g.ci,g.ge,fun n h=>g.frame n (fun t=>h (ht t)),g.noted⟩,fun ch' s2 hc y=>?_⟩;obtain⟨s2',q1,q2⟩:=e ch' s2 hc ⟨y.al,y.ge,y.ci,fun n o hn ho=>y.get n o (hv n hn) ho⟩;refine⟨s2',q1,⟨q2.al,q2.ge,q2.ci,fun n t=>?_,fun n t=>q2.outside n (fun t'=>t (ht t'))⟩⟩;by_cases t':mM mk' s s' n;exact q2.inside n t';rw[q2.outside n t',g.frame n t'];rcases t with⟨t1,t2⟩|t
 cases h:s.heap.get n with
 |none=>exact absurd h t2
 |some o=>exact y.get n o t1 h
 exact absurd (.inr t) t'
variable{rs:List dr}{bi:Nat}
def Pz(h:dC mk n=true):dC (iz bi rs mk) n=true:=by
 induction rs with
 |nil=>exact h
 |cons r rs ih=>
  unfold iz;cases bi.testBit r.i||aJ r.c0 r.c1
  simp only[cF,dC,ih,Bool.or_true];simpa using ih
def bF.at(Q:bF)(ch:Nat->Nat):bF:= {Q with ch:=ch }
def Cw{mk:aW}{s s2:St}(y:iG mk s s2): ∀(x:Rd) (v:ae),kP (s.get mk) x=some v->kP (s2.get mk) x=some v
 | .ret _,_,h=>h
 | .ask n k,v,h=>by
   simp only[kP,az] at h ⊢;obtain⟨o,h1,h2⟩:=h;exact⟨o,y.look h1,Cw y (k o) v h2⟩
def aiB(mk:aW)(x:Rd):cD mk (fun _ s=>(kP (s.get mk) x).bind fun v=>some (v,s)):=by
 intro ch s v s' h;simp only[az,aP,bj] at h;obtain⟨u,h1,rfl,rfl⟩:=h;exact⟨.refl mk _,fun ch' s2 _ y=>⟨s2,by show(kP (s2.get mk) x).bind _=_;rw[Cw y x u h1];rfl,.refl y⟩⟩
structure HQ (r:(Nat->Nat)->nR):Prop where
 ops: ∀f all mk l fr,cD mk (fun ch s=>(r ch).ops f all mk l fr s)
 draw: ∀f all bs mk rs i l fr,cD mk (fun ch s=>(r ch).draw f all bs mk rs i l fr s)
 code: ∀f c mk fr,bI mk (fun ch s=>(r ch).code f c mk fr s)
 call: ∀f args mk,cD mk (fun ch s=>(r ch).call f args mk s)
def ait{k:bf->(Nat->Nat)->St->Option (α×bf×St)}(hk: ∀o,bI mk (k o)):
 cD mk (fun ch s=>(s.get mk n).bind fun o=>(k o ch (s.put n none)).bind fun x=>some (x.1,x.2.2.put n (some x.2.1))):=by
 intro ch s v s' h;simp only[az,aP,bj] at h;obtain⟨o,h1,⟨u,o',s3⟩,h2,rfl,rfl⟩:=h;obtain⟨g,e⟩:=hk o ch (s.put n none) u o' s3 h2;refine⟨g.hide h1 o',fun ch' s2 hc y=>?_⟩;obtain⟨s23,q1,q2⟩:=e ch' (s2.put n none) hc ((gg.put y h1 none).sees y (fL.put h1 none));exact⟨s23.put n (some o'),by simp only[y.look h1,bn,q1],q2.hide y h1 o'⟩
section
variable{Q:bF}{r:(Nat->Nat)->nR}(hr:HQ r)
include hr
def aiG(n:Nat)(args:List ae)(mk:aW):cD mk (fun ch s=>nc (r ch) n args mk s):=by
 unfold nc;refine ait fun o=>?_;unfold yI;split;rename_i f env size ps a b;cases ps.all (fun t=>bk t size);exact bI.none;simp only[cT];refine bI.bind _ fun env' _=>?_;refine bI.then3 (k:=fun x fr ch s=>wX (r ch) f env size ps a b mk (x,fr,s)) (hr.code f a mk _) fun x fr=>?_;cases x with
 |normal=>
  refine bI.then3 (k:=fun x fr _ s=>yH f env size ps a b (x,fr,s)) (hr.code f b mk _) fun x fr=>?_;cases x<;>exact bI.ret _ _
 |exit i=>exact bI.none
 |ret=>exact bI.none
 exact bI.none
def BX(f:FuncId)(o:Oper)(mk:aW)(fr:Fr):bI mk (fun ch s=>fw (Q.at ch) (r ch) f o mk fr s):=by
 unfold fw;split;split;exact Sk _ _ _ _;rename_i c _ _ _;cases n9 fr.env c;unfold nm;exact bI.bind _ fun g _=>cD.then3 (hr.call g.1 g.2 mk) fun v=>bI.ret v fr.loc;unfold rq;exact bI.bind _ fun g _=>cD.then3 (aiG hr g.1 g.2 mk) fun v=>bI.ret v fr.loc;exact aii _ _ _ _ _
def aiz(f:FuncId)(all:Array Oper)(mk:aW)(l:List Oper)(fr:Fr):cD mk (fun ch s=>mF (Q.at ch) (r ch) f all mk l fr s):=by
 unfold mF;split;exact cD.ret fr;rename_i o rest;cases eD all fr.env o;exact cD.opt _ fun fr' _=>hr.ops f all mk rest fr';exact bI.then1 (BX hr f o mk fr) fun v l=>cD.opt (di fr o.dst v l) fun fr' _=>hr.ops f all mk rest fr'
def air(f:FuncId)(all:Array Oper)(bs:List Nat)(mk:aW)(rs:List dr)(i:Nat)(l:List Oper)(fr:Fr):cD mk (fun ch s=>ns (Q.at ch) (r ch) f all bs mk rs i l fr s):=by
 unfold ns;split;exact cD.ret fr;rename_i o rest;cases eD all fr.env o;exact cD.opt _ fun fr' _=>hr.draw f all bs.tail mk rs (i+1) rest fr';intro ch s v s' h;simp only[cT,az] at h;obtain⟨⟨u,l,s1⟩,h1,h⟩:=h;replace h:=bm h;obtain⟨hc,h⟩:=h;simp only[az] at h;obtain⟨fr',hfr,h⟩:=h;have hl:=bI.weaken (fun n hn=>Pz (bi:=bs.headD 0) (rs:=rs) hn) (BX (Q:=Q) hr f o (iz (bs.headD 0) rs mk) fr);obtain⟨g1,e1⟩:=hl ch ⟨s.heap,s.al,s.al,s.ci⟩ u l s1 h1;obtain⟨g2,e2⟩:=hr.draw _ _ _ _ _ _ _ _ ch (s.Gt s1) v s' h;have hle:(bif br s.ge s1.ge then s.ge else s1.ge)<=s.ge/\(bif br s.ge s1.ge then s.ge else s1.ge)<=s1.ge:=by
  cases e:br s.ge s1.ge;rw[qU] at e
  have:=of_decide_eq_false e;simp only[cF];omega
  have:=ju e;simp only[cT];omega
 have g1':fL mk s (s.Gt s1):=⟨g1.al,g1.ci,hle.1,g1.frame,fun n hn hne=>fh hle.2 (g1.noted n hn hne)⟩;refine⟨g1'.trans g2,fun ch' s2 hch y=>?_⟩;obtain⟨s21,q1,q2⟩:=e1 ch' ⟨s2.heap,s2.al,s2.al,s2.ci⟩ (fun j hj=>hch j (gX hj g2.ci)) ⟨y.al,y.al,y.ci,y.get⟩;have q2':gg mk s (s.Gt s1) s2 (s2.Gt s21):=⟨q2.al,by show(bif br s2.ge s21.ge then s2.ge else s21.ge)=(bif br s.ge s1.ge then s.ge else s1.ge);rw[y.ge,q2.ge],q2.ci,q2.inside,q2.outside⟩;obtain⟨s2',q3,q4⟩:=e2 ch' (s2.Gt s21) hch (q2'.sees y g1');refine⟨s2',?_,q2'.trans g1' g2 q4⟩;simp only[cT];rw[y.al,y.ci] at q1 ⊢;simp only[q1,bn,q2.ge,q2.ci,q2.al];have hc':(fits (bs.headD 0) (bZ ((Q.at ch').hint f) o.dst fr.env o.op) (s1.ge.blt s.al||isStore o.op) rs&&s.ci.beq s1.ci)=true:=hc;rw[hc'];simp only[cT];rw[hfr];exact q3
def aip(f:FuncId)(c:Code)(mk:aW)(fr:Fr):bI mk (fun ch s=>vV (Q.at ch) (r ch) f c mk fr s):=by
 have hseq: ∀(x:Ex) (fr:Fr) (b:Code),bI mk (fun ch s=>pw (r ch) f b mk (x,fr,s)):=by
  intro x fr b;cases x with
  |normal=>exact hr.code f b mk fr
  |exit i=>exact bI.ret _ _
  |ret=>exact bI.ret _ _
 cases c<;>simp only[vV]<;>first
  |exact bI.none
  |exact bI.ret _ _
  |exact bI.then3 (hr.code f _ mk fr) fun x fr=>hseq x fr _
  |exact hr.code f _ mk fr
  |skip
 ·
  rename_i id ops draw;unfold G5;cases draw;exact cD.then3 (k:=fun fr _ s=>some (Ex.normal,fr,s)) (hr.ops f ops mk ops.toList fr) fun fr=>bI.ret _ _;simp only[cT];cases mO ops 0 ops.toList (Region.before ops).toList;exact bI.none;exact cD.then3 (k:=fun fr _ s=>some (Ex.normal,fr,s)) (hr.draw f ops _ mk [] 0 ops.toList fr) fun fr=>bI.ret _ _
 ·
  rename_i x a b;refine bI.bind _ fun v _=>?_;unfold zi;split;exact hr.code f _ mk fr;exact hr.code f _ mk fr;exact bI.none
 ·
  rename_i id b;refine bI.then3 (k:=fun x fr _ s=>some (qa id (x,fr,s))) (hr.code f b mk fr) fun x fr=>?_;cases x with
  |normal=>exact bI.ret _ _
  |ret=>exact bI.ret _ _
  |exit i=>
   simp only[qa];cases aJ i id;exact bI.ret _ _;exact bI.ret _ _
 ·
  rename_i g ps a b;refine bI.bind _ fun v _=>?_;unfold vn;split;rename_i h first captured _
  show bI mk (fun ch s=>bif n7 Q.P h&&(fr.env.all u9&&(eJ a&&eJ b)) then _ else none);cases n7 Q.P h&&(fr.env.all u9&&(eJ a&&eJ b));exact bI.none;simp only[cT];intro ch s x fr' s' h';simp only[az] at h';obtain⟨⟨v,s1⟩,h1,h2⟩:=h';simp only[yw,az] at h2;obtain⟨o,h3,h4⟩:=h2;obtain⟨g1,e1⟩:=hr.call h _ mk ch _ v s1 h1;have g0:=fL.new mk s (.loop f fr.env fr.size ps.toList a b none);cases o with
  |loop f' env' size' ps' a' b' p=>
   simp only[aP,bj] at h4;obtain⟨rfl,rfl,rfl⟩:=h4;have g2:=fL.put h3 (mk:=mk) none;refine⟨(g0.trans g1).trans g2,fun ch' s2 hc y=>?_⟩;have s0:=gg.new y (.loop f fr.env fr.size ps.toList a b none);obtain⟨s21,q1,q2⟩:=e1 ch' _ hc (s0.sees y g0);have hn:s2.al=s.al:=y.al;have y1:=q2.sees (s0.sees y g0) g1;refine⟨s21.put s.al none,?_,(s0.trans g0 g1 q2).trans (g0.trans g1) g2 (.put y1 h3 none)⟩;simp only[hn,q1,bn,yw,y1.look h3]
  |cells _=>cases h4
  |tok=>cases h4
  |map _ _=>cases h4
  |iter _ _ _ _=>cases h4
  exact bI.none
omit hr in
def Sl(mk:aW)(fr:Fr)(l:List ResultVar):RO mk (fun s=>bW Q mk fr s l):=by
 intro s s2 b h hl
 induction l generalizing b with
 |nil=>exact h
 |cons x l ih=>
  simp only[bW,az] at h ⊢;obtain⟨v,hv,vs,hvs,h⟩:=h;refine⟨v,?_,vs,ih vs hvs,h⟩;cases x with
  |tmp t=>exact hv
  |cell a t=>exact UA t _ fr.loc s s2 v hv hl
def ain(f:FuncId)(args:List ae)(mk:aW):cD mk (fun ch s=>kE (Q.at ch) (r ch) f args mk s):=by
 unfold kE;show cD mk (fun ch s=>match Q.spec f with
  |some sp=>(sp args).bind fun v=>some (v,s)
  |none=>match Q.specH f with
   |some sp=>(kP (s.get mk) (sp args)).bind fun v=>some (v,s)
   |none=>match Q.specW f with
   |some sp=>(sp args).bind (tL mk s)
   |none=>(Q.P.funcs[f]?).bind fun fn=>fn.body.bind fun c=>
    ((r ch).code f c mk ⟨bt 0 args,bif br args.length fn.ntmps then fn.ntmps else args.length,[]⟩ s).bind (qg (Q.at ch) fn mk))
 cases Q.spec f with
 |some sp=>exact cD.pureOpt _
 |none=>
  cases Q.specH f with
  |some sp=>exact aiB mk (sp args)
  |none=>
  cases Q.specW f with
  |some sp=>
   refine cD.opt (k:=fun p _ s=>tL mk s p) (sp args) fun p _=>?_;cases p with
   |none=>exact cD.ret _
   |some p=>
   refine cD.of_put (f:=fun s=>(s.get mk p.1).bind (An mk s p)) ?_;intro s a s' h;simp only[az] at h;obtain⟨o,h1,h⟩:=h;cases o<;>simp only[An,az,reduceCtorEq] at h;obtain⟨v,h2,h⟩:=h;cases v<;>simp only[A1,aP,bj,reduceCtorEq] at h;obtain⟨rfl,rfl⟩:=h;exact⟨p.1,_,_,h1,rfl,fun s2 y=>by simp only[y.look h1,bn,An,Cw y _ _ h2,A1]⟩
  |none=>
  refine cD.opt _ fun fn _=>cD.opt _ fun c _=>?_;refine bI.then1 (k:=fun x fr ch s=>qg (Q.at ch) fn mk (x,fr,s)) (hr.code f c mk _) fun x fr=>?_;have fin:cD mk (fun(ch:Nat->Nat) s=>(bW (Q.at ch) mk fr s fn.results.toList).bind fun vs=>some (gG vs,s)):=by
   intro ch s v s' h;simp only[az] at h;obtain⟨vs,hvs,h⟩:=h;simp only[aP,bj] at h;obtain⟨rfl,rfl⟩:=h;refine⟨.refl mk _,fun ch' s2 _ y=>⟨s2,?_,.refl y⟩⟩
   have:=Sl (Q:=Q.at ch) mk fr fn.results.toList s s2 vs hvs (fun n o ho=>y.look ho);have:bW (Q.at ch') mk fr s2 fn.results.toList=some vs:=by
    rw[<-this];clear hvs this;generalize fn.results.toList=l
    induction l with
    |nil=>rfl
    |cons x l ih=>simp only[bW,ih];cases x<;>rfl
   simp[this]
  cases x with
  |normal=>exact fin
  |ret=>exact fin
  |exit i=>exact cD.none
end
def lS(Q:bF): ∀n:Nat,HQ (fun ch=>cd (Q.at ch) n)
 |0=>⟨fun _ _ _ _ _=>cD.none,fun _ _ _ _ _ _ _ _=>cD.none,fun _ _ _ _=>bI.none,fun _ _ _=>cD.none⟩
 |n+1=>⟨fun f all mk l fr=>aiz (lS Q n) f all mk l fr,fun f all bs mk rs i l fr=>air (lS Q n) f all bs mk rs i l fr,
  fun f c mk fr=>aip (lS Q n) f c mk fr,fun f args mk=>ain (lS Q n) f args mk⟩
def fV{α:Type}(x:(Nat->Nat)->St->Option (α×St)):Prop:=
 ∀ch s a s',x ch s=some (a,s')-> ∀ch',(∀i,i<s'.ci->ch' i=ch i)->x ch' s=some (a,s')
def fA{α β:Type}(x:(Nat->Nat)->St->Option (α×β×St)):Prop:=
 ∀ch s a b s',x ch s=some (a,b,s')-> ∀ch',(∀i,i<s'.ci->ch' i=ch i)->x ch' s=some (a,b,s')
def fV.const(f:St->Option (α×St)):fV (fun _ s=>f s):=fun _ _ _ _ h _ _=>h
def fA.const(f:St->Option (α×β×St)):fA (fun _ s=>f s):=fun _ _ _ _ _ h _ _=>h
section
variable{mk:aW}{α β γ δ:Type}
def fV.opt(x:Option β){k:β->(Nat->Nat)->St->Option (α×St)}(hk: ∀b,x=some b->fV (k b)):fV (fun ch s=>x.bind fun b=>k b ch s):=by
 cases x with
 |none=>intro ch s v s' h;cases h
 |some b=>exact hk b rfl
def fA.opt(x:Option β){k:β->(Nat->Nat)->St->Option (α×γ×St)}(hk: ∀b,x=some b->fA (k b)):fA (fun ch s=>x.bind fun b=>k b ch s):=by
 cases x with
 |none=>intro ch s v l s' h;cases h
 |some b=>exact hk b rfl
def fV.then3{x:(Nat->Nat)->St->Option (α×St)}{k:α->(Nat->Nat)->St->Option (β×γ×St)}(hx:fV x)(hk: ∀a,fA (k a))(gk: ∀a,bI mk (k a)):fA (fun ch s=>(x ch s).bind fun r=>k r.1 ch r.2):=by
 intro ch s v l s' h ch' hc;simp only[az] at h ⊢;obtain⟨⟨a,s1⟩,h1,h2⟩:=h;exact⟨(a,s1),hx ch s a s1 h1 ch' (fun i hi=>hc i (gX hi ((gk a ch s1 v l s' h2).1.ci))),hk a ch s1 v l s' h2 ch' hc⟩
def fA.then1{x:(Nat->Nat)->St->Option (α×β×St)}{k:α->β->(Nat->Nat)->St->Option (γ×St)}(hx:fA x)(hk: ∀a b,fV (k a b))(gk: ∀a b,cD mk (k a b)):fV (fun ch s=>(x ch s).bind fun r=>k r.1 r.2.1 ch r.2.2):=by
 intro ch s v s' h ch' hc;simp only[az] at h ⊢;obtain⟨⟨a,b,s1⟩,h1,h2⟩:=h;exact⟨(a,b,s1),hx ch s a b s1 h1 ch' (fun i hi=>hc i (gX hi ((gk a b ch s1 v s' h2).1.ci))),hk a b ch s1 v s' h2 ch' hc⟩
def fA.then3{x:(Nat->Nat)->St->Option (α×β×St)}{k:α->β->(Nat->Nat)->St->Option (γ×δ×St)}(hx:fA x)(hk: ∀a b,fA (k a b))(gk: ∀a b,bI mk (k a b)):fA (fun ch s=>(x ch s).bind fun r=>k r.1 r.2.1 ch r.2.2):=by
 intro ch s v l s' h ch' hc;simp only[az] at h ⊢;obtain⟨⟨a,b,s1⟩,h1,h2⟩:=h;exact⟨(a,b,s1),hx ch s a b s1 h1 ch' (fun i hi=>hc i (gX hi ((gk a b ch s1 v l s' h2).1.ci))),hk a b ch s1 v l s' h2 ch' hc⟩
end
def Zk(mk:aW)(kmax:Nat->Nat)(it:ae)(isString:Bool):fV (fun ch s=>lV mk ch kmax it isString s):=by
 intro ch s u s' h ch' hc;obtain⟨_,e⟩:=Sj (mk:=mk) kmax it isString ch s u s' h;simp only[lV] at h ⊢;split at h;rename_i n;simp only[az] at h ⊢;obtain⟨ob,hob,h⟩:=h;refine⟨ob,hob,?_⟩;split at h;exact h;rename_i m since seen stepped;cases isString;simp only[cF,az] at h ⊢;obtain⟨ob2,hob2,h⟩:=h;refine⟨ob2,hob2,?_⟩;split at h;rename_i es clock;replace h:=gh h;rcases h with⟨_,h⟩|⟨hgo,h⟩
 cases h;simp only[hgo,cF];generalize cX seen es=UL at h ⊢;unfold pg at h ⊢;split at h;exact h;rename_i e1 r;replace h:=bm h;obtain⟨hall,h⟩:=h;simp only[hall,cT];split at h;exact h;replace h:=bm h;obtain⟨hk,h⟩:=h;simp only[hk,cT];simp only[az] at h ⊢;obtain⟨e',he',h⟩:=h;have hlt:s.ci<s'.ci:=by
  simp only[aP,bj] at h;rw[<-h.2];exact fK _
 exact⟨e',by rw[hc s.ci hlt];exact he',h⟩;cases h;cases h;cases h;cases h
variable{P:Program}
def Zg(mk:aW)(kmax:Nat->Nat)(hint:Tmp->Nat)(dst:Option Tmp)(op:Op)(fr:Fr):fA (fun ch s=>lI P mk ch kmax hint dst op fr s):=by
 cases op<;>simp only[lI]<;>first
  |exact fA.const _
  |skip
 rename_i it isString;refine fA.opt _ fun x _=>?_;intro ch s v l s' h ch' hc;simp only[gH,az] at h ⊢;obtain⟨⟨v1,s1⟩,h1,h⟩:=h;refine⟨(v1,s1),Zk mk kmax x isString ch s v1 s1 h1 ch' ?_,h⟩;simp only[aP,bj] at h;rw[h.2.2];exact hc
structure M3 (r:(Nat->Nat)->nR):Prop where
 ops: ∀f all mk l fr,fV (fun ch s=>(r ch).ops f all mk l fr s)
 draw: ∀f all bs mk rs i l fr,fV (fun ch s=>(r ch).draw f all bs mk rs i l fr s)
 code: ∀f c mk fr,fA (fun ch s=>(r ch).code f c mk fr s)
 call: ∀f args mk,fV (fun ch s=>(r ch).call f args mk s)
section
variable{Q:bF}{r:(Nat->Nat)->nR}(hl:HQ r)(hr:M3 r)
include hl hr
def Zm(n:Nat)(args:List ae)(mk:aW):fV (fun ch s=>nc (r ch) n args mk s):=by
 intro ch s v s' h ch' hc;simp only[nc,az,aP,bj] at h ⊢;obtain⟨o,h1,⟨u,o',s3⟩,h2,rfl,rfl⟩:=h;refine⟨o,h1,(u,o',s3),?_,rfl,rfl⟩;have hc: ∀i,i<s3.ci->ch' i=ch i:=hc;unfold yI at h2 ⊢;split at h2
 ·obtain⟨hb,h2⟩:=bm h2
  simp only[hb,cT,az] at h2 ⊢;obtain⟨env',h3,⟨x,fr,s4⟩,h4,h5⟩:=h2;refine⟨env',h3,(x,fr,s4),?_,?_⟩
  all_goals cases x with
   |exit i=>cases h5
   |ret=>cases h5
   |normal=>
    simp only[wX,az] at h5 ⊢;obtain⟨⟨x2,fr2,s5⟩,h6,h7⟩:=h5;have e5:s5=s3:=by cases x2<;>(simp only[yH,aP,bj] at h7;exact h7.2.2)
    subst e5;have g2:=(hl.code _ _ mk _ ch s4 x2 fr2 s5 h6).1
    first
     |exact hr.code _ _ mk _ ch _ _ fr s4 h4 ch' (fun i hi=>hc i (gX hi g2.ci))
     |exact⟨(x2,fr2,s5),hr.code _ _ mk _ ch s4 x2 fr2 s5 h6 ch' hc,h7⟩
 cases h2
def A9(f:FuncId)(o:Oper)(mk:aW)(fr:Fr):fA (fun ch s=>fw (Q.at ch) (r ch) f o mk fr s):=by
 have _:=hl;unfold fw;split
 ·split
  exact fun ch s a b s' h ch' _=>h
  ·rename_i c _ _ _
   cases n9 fr.env c
   case' true=>
    unfold rq;exact fA.opt _ fun g _=>fV.then3 (mk:=mk) (k:=fun v _ s=>some (v,fr.loc,s)) (Zm hl hr g.1 g.2 mk) (fun v=>fA.const _) fun v=>bI.ret v fr.loc
   unfold nm;exact fA.opt _ fun g _=>fV.then3 (mk:=mk) (k:=fun v _ s=>some (v,fr.loc,s)) (hr.call g.1 g.2 mk) (fun v=>fA.const _) fun v=>bI.ret v fr.loc
 exact Zg _ _ _ _ _ _
def Zl(f:FuncId)(all:Array Oper)(mk:aW)(l:List Oper)(fr:Fr):fV (fun ch s=>mF (Q.at ch) (r ch) f all mk l fr s):=by
 unfold mF;split;exact fV.const _;rename_i o rest;cases eD all fr.env o;exact fV.opt _ fun fr' _=>hr.ops f all mk rest fr';exact fA.then1 (mk:=mk) (k:=fun v l ch s=>(di fr o.dst v l).bind fun fr'=>(r ch).ops f all mk rest fr' s) (A9 hl hr f o mk fr) (fun v l=>fV.opt _ fun fr' _=>hr.ops f all mk rest fr') fun v l=>cD.opt _ fun fr' _=>hl.ops f all mk rest fr'
def Zj(f:FuncId)(all:Array Oper)(bs:List Nat)(mk:aW)(rs:List dr)(i:Nat)(l:List Oper)(fr:Fr):fV (fun ch s=>ns (Q.at ch) (r ch) f all bs mk rs i l fr s):=by
 unfold ns;split;exact fV.const _;rename_i o rest;cases eD all fr.env o;exact fV.opt _ fun fr' _=>hr.draw f all bs.tail mk rs (i+1) rest fr';intro ch s v s' h ch' hc;simp only[cT,az] at h ⊢;obtain⟨⟨u,l,s1⟩,h1,h⟩:=h;replace h:=bm h;obtain⟨hcond,h⟩:=h;simp only[az] at h;obtain⟨fr',hfr,h⟩:=h;have g2:=(hl.draw _ _ _ _ _ _ _ _ ch (s.Gt s1) v s' h).1;refine⟨(u,l,s1),A9 (Q:=Q) hl hr f o _ fr ch _ u l s1 h1 ch' (fun j hj=>hc j (gX hj g2.ci)),?_⟩;have hc':(fits (bs.headD 0) (bZ ((Q.at ch').hint f) o.dst fr.env o.op) (s1.ge.blt s.al||isStore o.op) rs&&s.ci.beq s1.ci)=true:=hcond;simp only[hc',cT,hfr,bn];exact hr.draw _ _ _ _ _ _ _ _ ch (s.Gt s1) v s' h ch' hc
def Zi(f:FuncId)(c:Code)(mk:aW)(fr:Fr):fA (fun ch s=>vV (Q.at ch) (r ch) f c mk fr s):=by
 have hseq: ∀(x:Ex) (fr:Fr) (b:Code),fA (fun ch s=>pw (r ch) f b mk (x,fr,s))/\bI mk (fun ch s=>pw (r ch) f b mk (x,fr,s)):=by
  intro x fr b;cases x with
  |normal=>exact⟨hr.code f b mk fr,hl.code f b mk fr⟩
  |exit i=>exact⟨fA.const _,bI.ret _ _⟩
  |ret=>exact⟨fA.const _,bI.ret _ _⟩
 cases c<;>simp only[vV]<;>first
  |exact fA.const _
  |exact fA.then3 (mk:=mk) (hr.code f _ mk fr) (fun x fr=>(hseq x fr _).1) (fun x fr=>(hseq x fr _).2)
  |exact hr.code f _ mk fr
  |skip
 rename_i id ops draw;unfold G5;cases draw;exact fV.then3 (mk:=mk) (k:=fun fr _ s=>some (Ex.normal,fr,s)) (hr.ops f ops mk ops.toList fr) (fun _=>fA.const _) fun _=>bI.ret _ _;simp only[cT];cases mO ops 0 ops.toList (Region.before ops).toList;exact fA.const _;exact fV.then3 (mk:=mk) (k:=fun fr _ s=>some (Ex.normal,fr,s)) (hr.draw f ops _ mk [] 0 ops.toList fr) (fun _=>fA.const _) fun _=>bI.ret _ _;rename_i x a b;refine fA.opt _ fun v _=>?_;unfold zi;split;exact hr.code f _ mk fr;exact hr.code f _ mk fr;exact fA.const _;rename_i id b;intro ch s x fr' s' h ch' hc;simp only[az] at h ⊢;obtain⟨⟨x1,fr1,s1⟩,h1,h⟩:=h;refine⟨(x1,fr1,s1),hr.code f b mk fr ch s x1 fr1 s1 h1 ch' ?_,h⟩;have:s1=s':=by
  simp only[aP] at h;cases x1 with
  |normal=>simp only[qa,bj] at h;exact h.2.2
  |ret=>simp only[qa,bj] at h;exact h.2.2
  |exit i=>
   simp only[qa] at h;cases hb:aJ i id<;>rw[hb] at h<;>simp only[cT,cF,bj] at h<;>exact h.2.2
 rw[this];exact hc;rename_i g ps a b;refine fA.opt _ fun v _=>?_;unfold vn;split;rename_i h first captured _
 show fA (fun ch s=>bif n7 Q.P h&&(fr.env.all u9&&(eJ a&&eJ b)) then _ else none);cases n7 Q.P h&&(fr.env.all u9&&(eJ a&&eJ b));exact fA.const _;simp only[cT];intro ch s x fr' s' h' ch' hc;simp only[az] at h' ⊢;obtain⟨⟨v,s1⟩,h1,h2⟩:=h';refine⟨(v,s1),?_,h2⟩;have:s1.ci=s'.ci:=by
  simp only[yw,az] at h2;obtain⟨o,_,h4⟩:=h2;cases o with
  |loop f' env' size' ps' a' b' p=>
   simp only[aP,bj] at h4;rw[<-h4.2.2];rfl
  |_=>cases h4
 exact hr.call h _ mk ch _ v s1 h1 ch' (by rw[this];exact hc);exact fA.const _
omit hl in
def Zh(f:FuncId)(args:List ae)(mk:aW):fV (fun ch s=>kE (Q.at ch) (r ch) f args mk s):=by
 unfold kE;show fV (fun ch s=>match Q.spec f with
  |some sp=>(sp args).bind fun v=>some (v,s)
  |none=>match Q.specH f with
   |some sp=>(kP (s.get mk) (sp args)).bind fun v=>some (v,s)
   |none=>match Q.specW f with
   |some sp=>(sp args).bind (tL mk s)
   |none=>(Q.P.funcs[f]?).bind fun fn=>fn.body.bind fun c=>
    ((r ch).code f c mk ⟨bt 0 args,bif br args.length fn.ntmps then fn.ntmps else args.length,[]⟩ s).bind (qg (Q.at ch) fn mk))
 cases Q.spec f with
 |some sp=>exact fV.const _
 |none=>
  cases Q.specH f with
  |some sp=>exact fV.const _
  |none=>
  cases Q.specW f with
  |some sp=>exact fV.const (fun s=>(sp args).bind (tL mk s))
  |none=>
  refine fV.opt _ fun fn _=>fV.opt _ fun c _=>?_;intro ch s v s' h ch' hc;simp only[az] at h ⊢;obtain⟨⟨x1,fr1,s1⟩,h1,h⟩:=h;have hres: ∀l,bW (Q.at ch') mk fr1 s1 l=bW (Q.at ch) mk fr1 s1 l:=by
   intro l
   induction l with
   |nil=>rfl
   |cons x l ih=>simp only[bW,ih];cases x<;>rfl
  have:s1=s'/\qg (Q.at ch') fn mk (x1,fr1,s1)=some (v,s'):=by
   cases x1 with
   |exit i=>cases h
   |normal=>
    simp only[qg,az] at h ⊢;obtain⟨vs,hvs,h⟩:=h;simp only[aP,bj] at h;exact⟨h.2,vs,by rw[hres];exact hvs,by simp[h]⟩
   |ret=>
    simp only[qg,az] at h ⊢;obtain⟨vs,hvs,h⟩:=h;simp only[aP,bj] at h;exact⟨h.2,vs,by rw[hres];exact hvs,by simp[h]⟩
  exact⟨(x1,fr1,s1),hr.code f c mk _ ch s x1 fr1 s1 h1 ch' (by rw[this.1];exact hc),this.2⟩
end
def sh(Q:bF): ∀n:Nat,M3 (fun ch=>cd (Q.at ch) n)
 |0=>⟨fun _ _ _ _ _=>fV.const _,fun _ _ _ _ _ _ _ _=>fV.const _,fun _ _ _ _=>fA.const _,fun _ _ _=>fV.const _⟩
 |n+1=>⟨fun f all mk l fr=>Zl (lS Q n) (sh Q n) f all mk l fr,fun f all bs mk rs i l fr=>Zj (lS Q n) (sh Q n) f all bs mk rs i l fr,
  fun f c mk fr=>Zi (lS Q n) (sh Q n) f c mk fr,fun f args mk=>Zh (sh Q n) f args mk⟩
variable{fr':Fr}{G':Gh}{B':Nat->Nat}{dst:Option Tmp}{x:Value}{w':World}{h:aZ bf}
section
variable{P:Program}{mk:aW}{ch:Nat->Nat}{kmax:Nat->Nat}{hint:Tmp->Nat}{G:Gh}{s s':St}{B:Nat->Nat}{fr:Fr}{a:Act}{w:World}{o:Oper}{v:ae}{loc':Loc}
def XH(wr:WR G s.heap w)(fx:cy G s.heap B fr a.tmps w)(he:lI P mk ch kmax hint o.dst o.op fr s=some (v,loc',s'))(hfree: ∀n,s.al<=n->n<s'.al->G.at_ n=none)(hch: ∀x b xv,o.op= .next x b->evc fr.env x=some xv->2<=jI mk xv s->ch s.ci % jI mk xv s=(w.tape w.drawn (.mapNext (jI mk xv s))) % jI mk xv s):
 fE P G s.heap w B fr.loc s.al s'.al a o v loc' s'.heap:=by
 cases hop:o.op<;>rw[hop] at he<;>simp only[lI] at he
 case move x=>replace he:=kO he;obtain⟨he,rfl,rfl⟩:=he;exact ak5 hop wr fx he
 case assign x=>replace he:=kO he;obtain⟨he,rfl,rfl⟩:=he;exact akL hop wr fx he
 case pick c p q=>replace he:=kO he;obtain⟨he,rfl,rfl⟩:=he;exact ak8 hop wr fx he
 case alloc e=>exact akK hop wr fx he hfree
 case box e x=>exact akN hop wr fx he hfree
 case build t parts=>replace he:=kO he;obtain⟨he,rfl,rfl⟩:=he;exact akO hop wr fx he
 case buildSlice t len parts=>exact akP hop wr fx he hfree
 case load t x=>exact akZ hop wr fx he
 case store t x z=>exact alb hop wr fx he
 case nilCheck x=>
  simp only[qu,az] at he;obtain⟨u,hu,he⟩:=he;replace he:=kO he;obtain⟨he,rfl,rfl⟩:=he;exact ak7 hop wr fx hu he
 case binOp op t x y yt=>exact akM hop wr fx he
 case unOp op t x=>exact alc hop wr fx he
 case convert src dst x=>exact akR hop wr fx he
 case makeFunc fn first captured=>replace he:=kO he;obtain⟨he,rfl,rfl⟩:=he;exact ak1 hop wr fx he
 case makeMap t r=>exact ak2 hop wr fx he hfree
 case makeSlice t l c=>exact ak3 hop wr fx he hfree
 case slice t x lo hi mx=>exact ala hop wr fx he
 case fieldAddr t x f=>exact akW hop wr fx he
 case field t x f=>exact akV hop wr fx he
 case indexAddr t x i=>exact akY hop wr fx he
 case index t x i=>exact akX hop wr fx he
 case lookup t x i ok=>exact ak0 hop wr fx he
 case mapUpdate t m k x=>exact TJ (.inl hop) wr fx he
 case insert t m k x=>exact TJ (.inr hop) wr fx he
 case mapEntry t m k=>exact ak4 hop wr fx he
 case entryStore t m st x=>exact akT hop wr fx he
 case range t x=>exact ak9 hop wr fx he hfree
 case next it isString=>
  simp only[az] at he;obtain⟨xv,hx,he⟩:=he;exact ak6 hop wr fx hx he (hch it isString xv hop hx)
 case entry it=>exact akS hop wr fx he
 case extract x i=>exact akU hop wr fx he
 case call c=>exact akQ hop wr fx he hfree
 all_goals cases he
def getD_set(tmps:Array Value)(d t:Nat)(x:Value)(hd:d<tmps.size):(tmps.setIfInBounds d x).getD t undef=if t=d then x else tmps.getD t undef:=by
 simp only[ng,AG];by_cases e:d=t;subst e;simp[hd];simp[e,Ne.symm e]
def cy.put{G:Gh}{h':aZ bf}{B:Nat->Nat}{fr:Fr}{a:Act}{w:World}{v:ae}{loc':Loc}(fx:cy G h B fr a.tmps w)(hp:di fr dst v loc'=some fr')(hl:pO G' h' B' loc' w')(hv:LV G' loc' B' v x)(hold: ∀u y,LV G fr.loc B u y->LV G' loc' B' u y):cy G' h' B' fr' (a.put dst x).tmps w':=by
 unfold di at hp;cases dst with
 |none=>
  injection hp with hp;subst hp
  exact⟨fx.size,fun t=>hold _ _ (fx.env t),hl⟩
 |some d=>
  replace hp:=bm hp;obtain⟨hd,hp⟩:=hp;injection hp with hp;subst hp
  have hd:=oQ hd;refine⟨by simp[Act.put,fx.size],fun t=>?_,hl⟩;show LV G' loc' B' (aj (fr.env.set d (some v)) t) ((a.tmps.setIfInBounds d x).getD t undef);rw[getD_set _ _ _ _ (by rw[fx.size];exact hd)];unfold aj;rw[aZ.get_set];by_cases e:t=d;rw[iP e,iP e];exact hv;rw[iN e,iN e];exact hold _ _ (fx.env t)
def cy.wanted{G:Gh}{B:Nat->Nat}{fr:Fr}{a:Act}{w:World}(fx:cy G h B fr a.tmps w)(ops:Array Oper)(o:Oper):Region.wanted o (yielded ops a.tmps)=eD ops fr.env o:=by
 unfold Region.wanted eD;cases hg:o.guard with
 |none=>rfl
 |some g=>
  obtain⟨j,want⟩:=g;simp only[yielded];cases hd:(ops[j]?).bind (·.dst) with
  |none=>simp
  |some d=>
   simp only[bn];have hl:=fx.env d;have hget: ∀b,a.tmps[d]? =some (.bool b)↔a.tmps.getD d undef= .bool b:=by
    intro b;simp only[ng];cases hx:a.tmps[d]? with
    |none=>simp[undef]
    |some x=>simp
   cases hn:aj fr.env d with
   |bool b=>
    rw[hn] at hl;have hl:VR G (.bool b) (a.tmps.getD d undef):=hl;have:a.tmps[d]? =some (.bool b):=by
     rw[hget];generalize a.tmps.getD d undef=x at hl;cases hl;rfl
    simp[this]
   |Ge t g off=>
    rw[hn] at hl;obtain⟨_,⟨ad,had⟩,_⟩:=hl;cases hx:a.tmps[d]? with
    |none=>simp
    |some x=>
     have:x= .pointer (some ad):=by rw[<-had];simp[ng,hx]
     subst this;simp
   |_=>
    rw[hn] at hl;have hl:VR G _ (a.tmps.getD d undef):=hl;cases hx:a.tmps[d]? with
    |none=>simp
    |some x=>
     have e:a.tmps.getD d undef=x:=by simp[ng,hx]
     rw[e] at hl;cases hl<;>simp
end
variable{j:Nat}{D:Nat->Prop}
section
variable{α:Type}
open Classical in
noncomputable def mix(X:Nat->α)(D:Nat->Prop):Nat->α
 |0=>X 0
 |k+1=>if D k/\X (k+1)≠X k then X (k+1) else mix X D k
def Lf{X:Nat->α}{D:Nat->Prop}{j:Nat}: ∀ {n:Nat},j<=n->(∀k,j<=k->k<n->D k->X (k+1)=X k)->mix X D n=mix X D j
 |0,h,_=>by have:j=0:=by omega
            subst this;rfl
 |n+1,h,hk=>by
  by_cases e:j=n+1;rw[e];rw[mix,iN (fun x=>x.2 (hk n (by omega) (by omega) x.1))];exact Lf (by omega) fun k h1 h2=>hk k h1 (by omega)
def Lh{X:Nat->α}{D:Nat->Prop}: ∀ {j:Nat},(∀i,i<j->X (i+1)≠X i->D i)->mix X D j=X j
 |0,_=>rfl
 |j+1,h=>by
  rw[mix];split;rfl;rename_i hn;rw[Lh fun i hi=>h i (by omega)];by_cases e:X (j+1)=X j;exact e.symm;exact absurd ⟨h j (by omega) e,e⟩ hn
def SY{X:Nat->α}(hj:j<=n)(hb: ∀i,i<j->X (i+1)≠X i->D i)(ha: ∀k,j<=k->k<n->D k->X (k+1)=X k):mix X D n=X j:=
 (Lf hj ha).trans (Lh hb)
def Cb{X:Nat->α}{D D':Nat->Prop}: ∀ {n:Nat},(∀k,k<n->X (k+1)≠X k->(D k↔D' k))->mix X D n=mix X D' n
 |0,_=>rfl
 |n+1,h=>by
  rw[mix,mix,Cb fun k hk=>h k (by omega)];by_cases e:X (n+1)=X n;simp[e]
  have:=h n (by omega) e;by_cases d:D n;rw[iP ⟨d,e⟩,iP ⟨this.1 d,e⟩];rw[iN fun x=>d x.1,iN fun x=>d (this.2 x.1)]
def zV{X:Nat->α}(h:X (j+1)=X j):mix X (fun k=>D k\/k=j) n=mix X D n:=
 Cb fun _k _ hk=>⟨fun x=>x.elim id fun e=>absurd (e▸h) hk,.inl⟩
def ajH{X:Nat->α}(hj:j<n)(hb: ∀i,i<j->X (i+1)≠X i->D i)(ha: ∀k,j<k->k<n->D k->X (k+1)=X k):
 mix X (fun k=>D k\/k=j) n=X (j+1):=
 SY (j:=j+1) (by omega) (fun i hi hne=>by
  by_cases e:i=j;exact .inr e;exact .inl (hb i (by omega) hne)) fun k h1 h2 hd=>ha k (by omega) h2 (hd.resolve_right (by omega))
def Lg{X:Nat->α}(h: ∀k,k<n->D k):mix X D n=X n:=Lh fun i hi _=>h i hi
def Li{X:Nat->α}(h: ∀k,k<n-> ¬D k):mix X D n=X 0:=
 (Lf (cV n) fun k _ hk hd=>absurd hd (h k hk))
end
inductive oM (ops:Array Oper):Nat->Nat->Prop
 |one {j:Nat} {o:Oper} {e:Edge}:ops[j]? =some o->e∈o.after->Region.binds .any e=true->oM ops e.on j
 |more {i j:Nat} {o:Oper} {e:Edge}:ops[j]? =some o->e∈o.after->Region.binds .any e=true->oM ops i e.on->oM ops i j
variable{ops:Array Oper}{i:Nat}
def oM.closed(hD: ∀j o,D j->ops[j]? =some o-> ∀e∈o.after,Region.binds .any e=true->D e.on)(h:oM ops i j):D j->D i:=by
 induction h with
 |one ho he hb=>exact fun hd=>hD _ _ hd ho _ he hb
 |more ho he hb _ ih=>exact fun hd=>ih (hD _ _ hd ho _ he hb)
def oM.ready(hD: ∀j o,D j->ops[j]? =some o-> ∀e∈o.after,Region.binds .any e=true->D e.on)(hj: ∀o,ops[j]? =some o-> ∀e∈o.after,Region.binds .any e=true->D e.on)(h:oM ops i j):D i:=by
 cases h with
 |one ho he hb=>exact hj _ ho _ he hb
 |more ho he hb hd=>exact hd.closed hD (hj _ ho _ he hb)
variable{k:Nat}
def aoX{s m:Nat}(h:(s ||| 2 ^ k ||| m).testBit i=true):s.testBit i=true\/i=k\/m.testBit i=true:=by
 simp only[Nat.testBit_or,sU,Nat.testBit_two_pow,dE] at h;rcases h with(h|h)|h
 exact .inl h;exact .inr (.inl h.symm);exact .inr (.inr h)
def X7{b:Nat}(hb:(Region.before ops)[j]? =some b)(hi:b.testBit i=true):oM ops i j:=by
 have inner: ∀(acc:Array Nat) (j:Nat) (o:Oper),ops[j]? =some o->(∀k b,acc[k]? =some b-> ∀i,b.testBit i=true->oM ops i k)->
  ∀(l:List Edge) (s:Nat),(∀e∈l,e∈o.after)->(∀i,s.testBit i=true->oM ops i j)->
  ∀i,(l.foldl (fun s e=>if Region.binds .any e then s ||| 2 ^ e.on ||| acc.getD e.on 0 else s) s).testBit i=true->oM ops i j:=by
  intro acc j o ho hacc l
  induction l with
  |nil=>intro s _ hs i hi;exact hs i hi
  |cons e l ih=>
   intro s hl hs i hi;refine ih _ (fun e he=>hl e (by simp[he])) ?_ i hi;intro i hi;simp only at hi;split at hi;rename_i hbe;rcases aoX hi with h|h|h
   exact hs i h;subst h;exact .one ho (hl e (by simp)) hbe;refine .more ho (hl e (by simp)) hbe ?_;cases ha:acc[e.on]? with
   |none=>simp[ng,ha] at h
   |some b=>simp[ng,ha] at h;exact hacc _ b ha i h
   exact hs i hi
 have outer: ∀(l:List Oper) (acc:Array Nat),(∀k o,l[k]? =some o->ops[acc.size+k]? =some o)->(∀k b,acc[k]? =some b-> ∀i,b.testBit i=true->oM ops i k)->
  ∀k b,(l.foldl (fun acc o=>acc.push (o.after.foldl (fun s e=>if Region.binds .any e then s ||| 2 ^ e.on ||| acc.getD e.on 0 else s) 0)) acc)[k]? =some b->
   ∀i,b.testBit i=true->oM ops i k:=by
  intro l
  induction l with
  |nil=>intro acc _ hacc;exact hacc
  |cons o l ih=>
   intro acc hl hacc;refine ih _ (fun k o' hk=>?_) ?_
   have:=hl (k+1) o' (by simpa using hk);rw[Array.size_push];rw[show acc.size+1+k=acc.size+(k+1) by omega];exact this;intro k b hk i hi;rw[Array.getElem?_push] at hk;split at hk;rename_i hks;subst hks;injection hk with hk
   subst hk;rw[<-Array.foldl_toList] at hi;exact inner acc acc.size o (by simpa using hl 0 o (by simp)) hacc o.after.toList 0 (fun e he=>by simpa using he) (fun i hi=>by simp at hi) i hi;exact hacc k b hk i hi
 unfold Region.before at hb;rw[<-Array.foldl_toList] at hb;exact outer ops.toList #[] (fun k o hk=>by simpa using hk) (fun k b hk=>by simp at hk) j b hb i hi
variable{c:Call}{f:FuncId}{parts:List (Nat×Operand)}{d:Nat}{ch kmax:Nat->Nat}{o:Oper}{hint:Tmp->Nat}{t:TypeId}{Q:bF}
section
variable{e e2:aI}
def I5{x:Operand}(h:ev e x=ev e2 x):evc e x=evc e2 x:=by simp[evc,h]
def zt: ∀ {l:List Operand},(∀x∈l,ev e x=ev e2 x)->evcs e l=evcs e2 l
 | [],_=>rfl
 |x::l,h=>by
  simp only[evcs];rw[I5 (h x (by simp)),zt fun y hy=>h y (by simp[hy])]
def Jb(place:Nat->Option (Nat×Nat)): ∀ {l:List (Nat×Operand)} (cs:List ae),(∀p∈l,ev e p.2=ev e2 p.2)->cS place e cs l=cS place e2 cs l
 | [],_,_=>rfl
 |(i,x)::l,cs,h=>by
  simp only[cS];rw[I5 (h (i,x) (by simp))];have ih:=fun cs=>Jb place cs fun p hp=>h p (vH _ hp);simp only[ih]
def Lq{x:Option Operand}(h: ∀y,x=some y->ev e y=ev e2 y):iM e x d=iM e2 x d:=by
 cases x with
 |none=>rfl
 |some y=>simp[iM,h y rfl]
def YD(h: ∀p∈parts,ev e p.2=ev e2 p.2):eV P t parts e=eV P t parts e2:=by
 simp only[eV,Jb _ _ h]
def YE{mu:Bool}(h: ∀p∈parts,ev e p.2=ev e2 p.2):
 cx P t n parts mu e s=cx P t n parts mu e2 s:=by
 simp only[cx,Jb _ _ h]
def anK{x:ae}{lo hi mx:Option Operand}(h1: ∀y,lo=some y->ev e y=ev e2 y)(h2: ∀y,hi=some y->ev e y=ev e2 y)(h3: ∀y,mx=some y->ev e y=ev e2 y):ib P mk t x lo hi mx e s=ib P mk t x lo hi mx e2 s:=by
 simp only[ib,Lq h1,Lq h2,Lq h3]
def NQ{op:Op}{n2:Nat}{loc:Loc}(h: ∀x∈op.operands,ev e x=ev e2 x):
 lI P mk ch kmax hint dst op ⟨e,n,loc⟩ s=lI P mk ch kmax hint dst op ⟨e2,n2,loc⟩ s:=by
 cases op<;>simp only[Op.operands] at h<;>simp only[lI,Gy,GA,Aa,Ab,Gz,Cj,GD,GF,z8,GC,GG,GB,tJ,qu,mE]
 case build t ps=>rw[YD fun p hp=>h p.2 (by simpa using⟨p.1,Array.mem_toList_iff.1 hp⟩)]
 case buildSlice t k ps=>rw[YE fun p hp=>h p.2 (by simpa using⟨p.1,Array.mem_toList_iff.1 hp⟩)]
 case makeFunc fn a b=>simp only[si,zt (l:=a.toList) fun x hx=>h x (by simp_all),zt (l:=b.toList) fun x hx=>h x (by simp_all)]
 case makeMap t r=>
  cases r with
  |none=>simp[oh]
  |some x=>simp[oh,h x (by simp)]
 case slice t x lo hi mx=>
  rw[I5 (h x (by simp))];simp only[anK (lo:=lo) (hi:=hi) (mx:=mx) (fun y hy=>h y (by simp[hy])) (fun y hy=>h y (by simp[hy])) (fun y hy=>h y (by simp[hy]))]
 case call c=>
  cases hc:c.callee with
  |builtin b=>simp only[zt (l:=c.args.toList) fun x hx=>h x (by simp[Call.operands,hc];simpa using hx)]
  |value f=>rfl
  |invoke a b=>rfl
 case pick c a b=>simp only[wJ,h c (by simp),h a (by simp),h b (by simp)]
 all_goals first
  |rfl
  |(simp only[evc];simp_all;done)
  |(simp_all;done)
def Oc(h: ∀x∈c.operands,ev e x=ev e2 x):callee e c=callee e2 c:=by
 unfold callee;cases hc:c.callee with
 |builtin b=>rfl
 |invoke a b=>rfl
 |value f=>simp only[h f (by simp[Call.operands,hc]),zt (l:=c.args.toList) fun x hx=>h x (by simp[Call.operands,hc];exact .inr (by simpa using hx))]
def P9(h: ∀x∈c.operands,ev e x=ev e2 x):n9 e c=n9 e2 c:=by
 unfold n9;cases hc:c.callee with
 |builtin b=>rfl
 |invoke a b=>rfl
 |value f=>simp only[h f (by simp[Call.operands,hc])]
def Wa(h: ∀x∈c.operands,ev e x=ev e2 x):yieldee e c=yieldee e2 c:=by
 unfold yieldee;cases hc:c.callee with
 |builtin b=>rfl
 |invoke a b=>rfl
 |value f=>simp only[h f (by simp[Call.operands,hc]),zt (l:=c.args.toList) fun x hx=>h x (by simp[Call.operands,hc];exact .inr (by simpa using hx))]
def alh{r:nR}{n2:Nat}{loc:Loc}(h: ∀x∈o.op.operands,ev e x=ev e2 x):
 fw Q r f o mk ⟨e,n,loc⟩ s=fw Q r f o mk ⟨e2,n2,loc⟩ s:=by
 unfold fw;split;rename_i c hc;rw[hc] at h;cases hb:c.callee with
 |builtin b=>
  have:=NQ (P:=Q.P) (mk:=mk) (ch:=Q.ch) (kmax:=Q.kmax) (hint:=Q.hint f) (dst:=o.dst) (op:=.call c) (n:=n) (n2:=n2) (loc:=loc) (s:=s) h;simpa only[lI] using this
 |value g=>simp only[nm,Oc h,rq,Wa h,P9 h]
 |invoke a b=>simp only[nm,Oc h,rq,Wa h,P9 h]
 exact NQ h
end
def zZ(a b:Nat):bk a b=decide (a<b):=by
 show br (a+1) b=_;rw[qU];rfl
def lG(l l2:Loc)(t:Nat):Prop:=l.gen t=l2.gen t/\ ∀g,l.get t g=l2.get t g
def lG.refl(l:Loc)(t:Nat):lG l l t:=⟨rfl,fun _=>rfl⟩
variable{l l2:Loc}
def lG.symm{t:Nat}(h:lG l l2 t):lG l2 l t:=⟨h.1.symm,fun g=>(h.2 g).symm⟩
def lG.set_same(t g:Nat)(cs:List ae):lG (l.set t g cs) (l2.set t g cs) t:=by
 constructor;rw[Loc.gen_set,Loc.gen_set,iP rfl,iP rfl];intro k;rw[Loc.get_set,Loc.get_set,iP rfl,iP rfl]
variable{u:Nat}
def lG.set_other{t:Nat}(h:u≠t)(g:Nat)(cs:List ae):lG (l.set t g cs) l u:=by
 constructor;rw[Loc.gen_set,iN h];intro k;rw[Loc.get_set,iN h]
def qi(c:Nat)(F:dj)(m:aW):aW:=
 match F with
 | .all=>m
 | .obj n=>(0,n)::(n+1,c)::m
 |_=>(0,c)::m
variable{c:Nat}{m:aW}{F:dj}
def Jm(h:dC (qi c F m) k=false):dC m k=false/\(F= .all\/F= .obj k\/c<=k):=by
 unfold qi at h;split at h;exact⟨h,.inl rfl⟩;rename_i n;simp only[dC,kj,HD] at h;obtain⟨h1,h2,h3⟩:=h;refine⟨h3,.inr ?_⟩;simp only[qU,zZ,decide_eq_false_iff_not] at h1 h2;by_cases e:n=k;exact .inl (by rw[e]);exact .inr (by omega);simp only[dC,kj,HD] at h;obtain⟨h1,h3⟩:=h;simp only[qU,zZ,decide_eq_false_iff_not] at h1;exact⟨h3,.inr (.inr (by omega))⟩
def Jn(h:dC m k=true):dC (qi c F m) k=true:=by
 cases e:dC (qi c F m) k with
 |true=>rfl
 |false=>rw[(Jm e).1] at h;cases h
def Jo{o:bf}(h:s.get m n=some o):s.get (qi c (.obj n) m) n=some o:=by
 obtain⟨h1,h2⟩:=qO h;have:dC (qi c (.obj n) m) n=false:=by
  simp only[qi,dC,h1,Bool.or_false,kj,HD,qU,zZ,decide_eq_false_iff_not];omega
 simp[St.get,this,h2]
def bK(c:Nat)(F:dj)(store:Bool)(x:aW->Loc->Option (ae×Loc×St)):Prop:=
 ∀m loc v loc' s',x m loc=some (v,loc',s')-> ∀loc2,(∀t,F= .loc t->lG loc loc2 t)->
  ∃loc2',x (qi c F m) loc2=some (v,loc2',s')/\(∀t,F= .loc t->lG loc' loc2' t)/\(∀t,F≠ .loc t->lG loc' loc t/\lG loc2' loc2 t)/\(store=false->loc'=loc)
variable{st:Bool}
def bK.plain{g:aW->Option (ae×St)}(hF: ∀t,F≠ .loc t)(hg: ∀m r,g m=some r->g (qi c F m)=some r):bK c F st (fun m l=>gH (g m) l):=by
 intro m loc v loc' s' h loc2 _;simp only[gH,az] at h;obtain⟨r,h1,h⟩:=h;simp only[aP,bj] at h;obtain⟨rfl,rfl,rfl⟩:=h;exact⟨loc2,by simp[gH,hg m r h1],fun t ht=>absurd ht (hF t),fun t _=>⟨.refl _ _,.refl _ _⟩,fun _=>rfl⟩
def bK.value{g:aW->Option ae}(hF: ∀t,F≠ .loc t)(hg: ∀m r,g m=some r->g (qi c F m)=some r):bK c F st (fun m l=>fC (g m) l s):=by
 intro m loc v loc' s' h loc2 _;obtain⟨h1,rfl,rfl⟩:=kO h;exact⟨loc2,by simp[fC,hg m v h1],fun t ht=>absurd ht (hF t),fun t _=>⟨.refl _ _,.refl _ _⟩,fun _=>rfl⟩
def bK.none:bK c F st (fun _ _=>.none):=by intro m loc v loc' s' h;cases h
def bK.bind(y:Option α){k:α->aW->Loc->Option (ae×Loc×St)}(hk: ∀a,y=some a->bK c F st (k a)):bK c F st (fun m l=>y.bind fun a=>k a m l):=by
 cases y with
 |none=>intro m loc v loc' s' h;cases h
 |some a=>exact hk a rfl
def bK.gen{g:Loc->Option ae}(hg: ∀l l2 r,(∀t,F= .loc t->lG l l2 t)->g l=some r->g l2=some r):bK c F st (fun _ l=>fC (g l) l s):=by
 intro m loc v loc' s' h loc2 h2;obtain⟨h1,rfl,rfl⟩:=kO h;exact⟨loc2,by simp[fC,hg loc' loc2 v h2 h1],fun t ht=>h2 t ht,fun t _=>⟨.refl _ _,.refl _ _⟩,fun _=>rfl⟩
def bK.box{cs:List ae}(hst:st=true):bK c (Bu hint dst) st (fun _ l=>qK (oZ hint dst) dst cs l s):=by
 intro m loc v loc' s' h loc2 h2;unfold qK at h ⊢;cases dst with
 |none=>
  simp only[oZ] at h ⊢;simp only[show aJ 0 1=false from rfl,cF,aP,bj] at h ⊢;obtain⟨rfl,rfl,rfl⟩:=h;exact⟨loc2,by simp,fun t ht=>by simp[Bu] at ht,fun t _=>⟨.refl _ _,.refl _ _⟩,fun _=>rfl⟩
 |some t=>
  simp only[oZ,Bu] at h h2 ⊢;cases e:aJ (hint t) 1 with
  |false=>
   simp only[e,cF,aP,bj] at h h2 ⊢;obtain⟨rfl,rfl,rfl⟩:=h;exact⟨loc2,⟨rfl,rfl,rfl⟩,fun t ht=>(by cases ht),fun t _=>⟨.refl _ _,.refl _ _⟩,fun _=>rfl⟩
  |true=>
   simp only[e,cT,bn,aP,bj] at h h2 ⊢;obtain⟨rfl,rfl,rfl⟩:=h;have h2:=h2 t rfl;refine⟨loc2.set t (loc.gen t+1) cs,by simp[h2.1],?_,?_,by simp[hst]⟩;intro u hu;injection hu with hu;subst hu;exact .set_same _ _ _
   intro u hu;have hu:u≠t:=fun e=>hu (by rw[e]);exact⟨.set_other hu _ _,.set_other hu _ _⟩
section
variable{P:Program}{ch:Nat->Nat}{kmax:Nat->Nat}{hint:Tmp->Nat}{dst:Option Tmp}{e:aI}{n c:Nat}{s:St}
def ab4(t:TypeId)(a:Operand):bK c (rY e a) false (fun m l=>Aa P m t a ⟨e,n,l⟩ s):=by
 unfold Aa rY;refine bK.bind (ev e a) fun u hu=>?_;simp only[hu];cases u<;>try (exact bK.none)
 case ptr k off=>
  refine bK.value (g:=fun m=>lR P m t (.ptr k off) [] s) (by simp) fun m r hr=>?_;simp only[lR,az] at hr ⊢;obtain⟨ob,hob,hr⟩:=hr;exact⟨ob,Jo hob,hr⟩
 case Ge k g off=>
  refine bK.gen (g:=fun l=>lR P [] t (.Ge k g off) l s) fun l l2 r hl hr=>?_;simp only[lR] at hr ⊢;rw[<-(hl k rfl).2];exact hr
 case ro cs=>exact bK.value (g:=fun m=>lR P m t (.ro cs) [] s) (by simp) fun m r hr=>hr
def ab7(t:TypeId)(a x:Operand):bK c (rY e a) true (fun m l=>Ab P m t a x ⟨e,n,l⟩ s):=by
 unfold Ab rY;refine bK.bind (ev e a) fun u hu=>bK.bind (evc e x) fun v _=>?_;simp only[hu,nL];cases hs:dZ P t with
 |none=>exact bK.none
 |some k=>
  simp only[bn];cases hc:aJ v.cells.length k&&bk 0 k with
  |false=>exact bK.none
  |true=>
   simp only[cT];cases u<;>try (exact bK.none)
   case ptr j off=>
    intro m loc v' loc' s' h loc2 _;simp only[az] at h ⊢;obtain⟨r,⟨ob,hob,h1⟩,h2⟩:=h;cases ob<;>simp only[az] at h1<;>try (cases h1;done)
    rename_i cs;obtain⟨cs',hcs,h1⟩:=h1;injection h1 with h1;subst h1
    simp only[aP,bj] at h2;obtain⟨rfl,rfl,rfl⟩:=h2;exact⟨loc2,⟨(loc2,_),⟨_,Jo hob,by simp only[hcs,bn];rfl⟩,rfl⟩,fun t ht=>(by cases ht),fun t _=>⟨.refl _ _,.refl _ _⟩,fun _=>rfl⟩
   case Ge j g off=>
    intro m loc v' loc' s' h loc2 hl;simp only[az] at h ⊢;obtain⟨r,⟨cs,hcs,cs',hw,h1⟩,h2⟩:=h;injection h1 with h1;subst h1
    simp only[aP,bj] at h2;obtain⟨rfl,rfl,rfl⟩:=h2;refine⟨loc2.set j g cs',⟨(_,s),⟨cs,by rw[<-(hl j rfl).2];exact hcs,cs',hw,rfl⟩,rfl⟩,?_,?_,by simp⟩;intro u hu;injection hu with hu;subst hu;exact .set_same _ _ _
    intro u hu;have hu:u≠j:=fun e=>hu (by rw[e]);exact⟨.set_other hu _ _,.set_other hu _ _⟩
def ab5(x:Operand):bK c (oY e x) false (fun _ l=>qu x (wE l) ⟨e,n,l⟩ s):=by
 unfold qu oY;refine bK.bind (ev e x) fun u hu=>?_;simp only[hu];refine bK.gen (g:=fun l=>wE l u) fun l l2 r hl hr=>?_;cases u
 case Ge=>
  simp only[wE] at hr ⊢;rw[<-(hl _ rfl).1];exact hr
 case func fn _ _=>cases fn<;>exact hr
 all_goals exact hr
def ab2(t:TypeId)(x:Operand)(f:Nat):bK c (oY e x) false (fun _ l=>qu x (fun x=>eY P l t x f) ⟨e,n,l⟩ s):=by
 unfold qu oY;refine bK.bind (ev e x) fun u hu=>?_;simp only[hu];refine bK.gen (g:=fun l=>eY P l t u f) fun l l2 r hl hr=>?_;cases u<;>try exact hr
 simp only[eY] at hr ⊢;rw[<-(hl _ rfl).1];exact hr
def ab3(t:TypeId)(x i:Operand):bK c (oY e x) false (fun _ l=>z8 P t x i ⟨e,n,l⟩ s):=by
 unfold z8 oY;refine bK.bind (ev e x) fun u hu=>?_;simp only[hu];refine bK.bind (ev e i) fun j _=>?_;refine bK.gen (g:=fun l=>hJ P l t u j) fun l l2 r hl hr=>?_;cases u<;>try exact hr
 simp only[hJ] at hr ⊢;rw[<-(hl _ rfl).1];exact hr
def anL{m2:aW}{x:ae}{lo hi mx:Option Operand}{r:ae}(hx: ∀k off,x= .ptr k off-> ∀o,s.get m k=some o->s.get m2 k=some o)(h:ib P m t x lo hi mx e s=some r):
 ib P m2 t x lo hi mx e s=some r:=by
 simp only[ib,az] at h ⊢;obtain⟨d,hd,h⟩:=h;refine⟨d,hd,?_⟩;split at h;exact h;exact h;simp only[az] at h ⊢;obtain⟨k,hk,h⟩:=h;refine⟨k,hk,?_⟩;split at h;simp only[az] at h ⊢;obtain⟨p,hp,q,hq,ob,hob,h⟩:=h;exact⟨p,hp,q,hq,ob,hx _ _ rfl _ hob,h⟩;cases h;cases h
def ab6(t:TypeId)(x:Operand)(lo hi mx:Option Operand):bK c (bZ hint dst e (.slice t x lo hi mx)) false (fun m l=>mE x (fun x=>ib P m t x lo hi mx e s) ⟨e,n,l⟩ s):=by
 unfold mE;refine bK.bind (evc e x) fun u hu=>?_;have hu:ev e x=some u:=by
  simp only[evc,az] at hu;obtain⟨y,hy,hu⟩:=hu;rw[hy,(bm hu).2]
 simp only[bZ,hu];refine bK.value (g:=fun m=>ib P m t u lo hi mx e s) ?_ fun m r hr=>?_;intro t;split<;>simp;refine anL (fun k off he o ho=>?_) hr;subst he;exact Jo ho
def bK.state{g:aW->Option St}(hF: ∀t,F≠ .loc t)(hg: ∀m r,g m=some r->g (qi c F m)=some r):bK c F st (fun m l=>nK (g m) l):=by
 intro m loc v loc' s' h loc2 _;simp only[nK,az] at h;obtain⟨r,h1,h⟩:=h;simp only[aP,bj] at h;obtain⟨rfl,rfl,rfl⟩:=h;exact⟨loc2,by simp[nK,hg m r h1],fun t ht=>absurd ht (hF t),fun t _=>⟨.refl _ _,.refl _ _⟩,fun _=>rfl⟩
def pW{g:aW->Option α}(m:aW)(r:α)(h:g m=some r):g (qi c .all m)=some r:=h
def Pg(cl:Call):bK c (bZ hint dst e (.call cl)) false (fun m l=>tJ P m hint dst cl ⟨e,n,l⟩ s):=by
 obtain⟨callee,args,ats⟩:=cl;unfold tJ;cases callee with
 |value f=>exact bK.none
 |invoke a b=>exact bK.none
 |builtin b=>
  refine bK.bind (evcs e args.toList) fun vs hvs=>?_;cases b
  case min=>exact bK.plain (g:=fun m=>mp P m .min _ _ vs s) (by simp[bZ]) fun m r hr=>by cases vs<;>exact hr
  case max=>exact bK.plain (g:=fun m=>mp P m .max _ _ vs s) (by simp[bZ]) fun m r hr=>by cases vs<;>exact hr
  case len=>
   refine bK.plain (g:=fun m=>mp P m .len _ _ vs s) ?_ fun m r hr=>?_;intro t;simp only[bZ];split;split<;>simp;simp;simp only[mp] at hr ⊢;split at hr<;>try first|(cases hr;done)|(exfalso;rename_i he _;cases he;done)|(exfalso;rename_i he;cases he;done)
   simp only[az] at hr ⊢;obtain⟨v,hv,hr⟩:=hr;refine⟨v,?_,hr⟩;obtain⟨args⟩:=args;simp only at hvs;cases args with
   |nil=>simp[evcs] at hvs
   |cons a0 l=>
    simp only[evcs,az] at hvs;obtain⟨u,hu,l',_,hvs⟩:=hvs;injection hvs with hvs
    injection hvs with hv1 hv2
    subst hv1;have hu:ev e a0=some u:=by
     simp only[evc,az] at hu;obtain⟨y,hy,hu⟩:=hu;rw[hy,(bm hu).2]
    simp only[gD,bZ,HJ,List.getElem?_cons_zero,hu] at hv ⊢;generalize P.underlying _=ud at hv ⊢;cases ud with
    |none=>exact hv
    |some d=>
     simp only[bn] at hv ⊢;cases u<;>cases d<;>exact hv
  all_goals exact bK.plain (g:=fun m=>mp P m _ _ _ vs s) (by simp[bZ]) pW
def ab1(op:Op):bK c (bZ hint dst e op) (isStore op) (fun m l=>lI P m ch kmax hint dst op ⟨e,n,l⟩ s):=by
 cases op<;>simp only[lI]
 case load t a=>exact ab4 t a
 case store t a x=>exact ab7 t a x
 case nilCheck x=>exact ab5 x
 case fieldAddr t x f=>exact ab2 t x f
 case indexAddr t x i=>exact ab3 t x i
 case slice t x lo hi mx=>exact ab6 t x lo hi mx
 case call cl=>exact Pg cl
 case alloc t=>exact bK.bind (ek P t) fun z _=>bK.box (cs:=z.cells) rfl
 case box t x=>exact bK.bind (evc e x) fun z _=>bK.box (cs:=z.cells) rfl
 case move x=>exact bK.value (g:=fun _=>ev e x) (by simp[bZ]) fun _ _ h=>h
 case assign x=>exact bK.value (g:=fun _=>ev e x) (by simp[bZ]) fun _ _ h=>h
 case pick a b d=>exact bK.value (g:=fun _=>wJ e a b d) (by simp[bZ]) fun _ _ h=>h
 case build t ps=>exact bK.value (g:=fun _=>eV P t ps.toList e) (by simp[bZ]) fun _ _ h=>h
 case buildSlice t k ps=>exact bK.plain (g:=fun _=>cx P t k ps.toList _ e s) (by simp[bZ]) fun _ _ h=>h
 case binOp o t x y yt=>exact bK.bind (evc e x) fun u _=>bK.bind (evc e y) fun v _=>bK.value (g:=fun _=>d8 P o t u v) (by simp[bZ]) fun _ _ h=>h
 case unOp o t x=>exact bK.bind (evc e x) fun u _=>bK.value (g:=fun _=>AB o u) (by simp[bZ]) fun _ _ h=>h
 case convert a b x=>exact bK.bind (evc e x) fun u _=>bK.value (g:=fun _=>Ds P a b u) (by simp[bZ]) fun _ _ h=>h
 case makeFunc f a b=>exact bK.value (g:=fun _=>si e f a b) (by simp[bZ]) fun _ _ h=>h
 case makeMap t r=>exact bK.plain (g:=fun _=>oh P t e r s) (by simp[bZ]) fun _ _ h=>h
 case makeSlice t a b=>exact bK.bind (ev e a) fun u _=>bK.bind (ev e b) fun v _=>bK.plain (g:=fun _=>qR P t u v _ s) (by simp[bZ]) fun _ _ h=>h
 case field t x f=>exact bK.bind (evc e x) fun u _=>bK.value (g:=fun _=>Dx P t u f) (by simp[bZ]) fun _ _ h=>h
 case index t x i=>exact bK.bind (evc e x) fun u _=>bK.bind (ev e i) fun v _=>bK.value (g:=fun _=>tz P t u v) (by simp[bZ]) fun _ _ h=>h
 case extract x i=>exact bK.bind (ev e x) fun u _=>bK.value (g:=fun _=>dU i u) (by simp[bZ]) fun _ _ h=>h
 case lookup t x i ok=>exact bK.bind (evc e x) fun u _=>bK.bind (evc e i) fun v _=>bK.value (g:=fun m=>mU P m t u v ok s) (by simp[bZ]) pW
 case mapEntry t x i=>exact bK.bind (evc e x) fun u _=>bK.bind (evc e i) fun v _=>bK.plain (g:=fun m=>x9 P m t u v s) (by simp[bZ]) pW
 case range t x=>exact bK.bind (evc e x) fun u _=>bK.plain (g:=fun m=>m7 P m t u s) (by simp[bZ]) pW
 case next x b=>exact bK.bind (evc e x) fun u _=>bK.plain (g:=fun m=>lV m ch kmax u b s) (by simp[bZ]) pW
 case entry x=>exact bK.bind (evc e x) fun u _=>bK.value (g:=fun m=>rT m u s) (by simp[bZ]) pW
 case mapUpdate t a b d=>exact bK.bind (evc e a) fun u _=>bK.bind (evc e b) fun v _=>bK.bind (evc e d) fun x _=>bK.state (g:=fun m=>nM P m t u v x s) (by simp[bZ]) pW
 case insert t a b d=>exact bK.bind (evc e a) fun u _=>bK.bind (evc e b) fun v _=>bK.bind (evc e d) fun x _=>bK.state (g:=fun m=>nM P m t u v x s) (by simp[bZ]) pW
 case entryStore t a b d=>exact bK.bind (evc e a) fun u _=>bK.bind (evc e b) fun v _=>bK.bind (evc e d) fun x _=>bK.state (g:=fun m=>zn m u v x s) (by simp[bZ]) pW
 all_goals exact bK.none
def Js{r:nR}:bK c (bZ (Q.hint f) o.dst e o.op) (isStore o.op) (fun m l=>fw Q r f o m ⟨e,n,l⟩ s):=by
 unfold fw;cases ho:o.op<;>simp only<;>try exact ab1 _
 rename_i cl;cases hc:cl.callee with
 |builtin b=>exact Pg cl
 |value g=>
  obtain⟨callee,args,ats⟩:=cl;simp only at hc;subst hc;simp only;generalize hy:n9 e _=y;cases y with
  |true=>
   simp only[cT];refine bK.bind (Ag.yieldee e _) fun g _=>?_;exact bK.plain (g:=fun m=>nc r g.1 g.2 m s) (by simp[bZ]) pW
  |false=>
   simp only[cF];refine bK.bind (Ag.callee e _) fun g _=>?_;exact bK.plain (g:=fun m=>r.call g.1 g.2 m s) (by simp[bZ]) pW
 |invoke a b=>
  obtain⟨callee,args,ats⟩:=cl;simp only at hc;subst hc;simp only;generalize hy:n9 e _=y;cases y with
  |true=>
   simp only[cT];refine bK.bind (Ag.yieldee e _) fun g _=>?_;exact bK.plain (g:=fun m=>nc r g.1 g.2 m s) (by simp[bZ]) pW
  |false=>
   simp only[cF];refine bK.bind (Ag.callee e _) fun g _=>?_;exact bK.plain (g:=fun m=>r.call g.1 g.2 m s) (by simp[bZ]) pW
end
def CZ(bi:Nat)(r:dr)(foot:dj)(loud:Bool)(m:aW):Prop:=
 bi.testBit r.i=true\/(((loud||r.loud)&&foot.meets r.foot)=false/\ ∀n,r.c0<=n->n<r.c1->dC m n=true)
def SF{bi:Nat}{mk:aW}: ∀ {rs:List dr} {r:dr},r∈rs->bi.testBit r.i=false-> ∀n,r.c0<=n->n<r.c1->dC (iz bi rs mk) n=true
 | [],_,h,_,_,_,_=>by cases h
 |q::rs,r,h,hb,n,h0,h1=>by
  unfold iz;rcases List.mem_cons.1 h with rfl|h
  have:aJ r.c0 r.c1=false:=by
   cases e:aJ r.c0 r.c1 with
   |false=>rfl
   |true=>have:=eU e;omega
  simp only[hb,this,Bool.or_self,cF,dC,qU,zZ,sU,bA,dE];exact .inl ⟨h0,h1⟩;have ih:=SF (mk:=mk) h hb n h0 h1;cases bi.testBit q.i||aJ q.c0 q.c1
  simp only[cF,dC,ih,Bool.or_true];simpa using ih
def abO{foot:dj}{loud:Bool}(h:fits bi foot loud rs=true){r:dr}(hr:r∈rs):CZ bi r foot loud (iz bi rs mk):=by
 have:=fY.1 h r hr;cases hb:bi.testBit r.i with
 |true=>exact .inl hb
 |false=>
  refine .inr ⟨?_,SF hr hb⟩;simp only[hb,jd] at this;cases e:(loud||r.loud)&&foot.meets r.foot with
  |false=>rfl
  |true=>rw[e] at this;cases this
section
variable(Q:bF)(f:FuncId)(all:Array Oper)(mk:aW)(F:Nat->Fr)(S:Nat->St)(M:Nat->aW)(lv:Nat->Nat)(Lo:Nat->Bool)
def C9(k:Nat)(o:Oper):Prop:=
 (eD all (F k).env o=true/\ ∃v loc' s1,fw Q (cd Q (lv k)) f o (M k) (F k) ⟨(S k).heap,(S k).al,(S k).al,(S k).ci⟩=some (v,loc',s1)/\s1.ci=(S k).ci/\
  di (F k) o.dst v loc'=some (F (k+1))/\S (k+1)=(S k).Gt s1/\Lo k=(bk s1.ge (S k).al||isStore o.op))\/
 (eD all (F k).env o=false/\di (F k) o.dst fX (F k).loc=some (F (k+1))/\S (k+1)=S k)
structure A0 (i:Nat) (rs:List dr) (bs:List Nat) (l:List Oper):Prop where
 step: ∀k o,l[k]? =some o->C9 Q f all F S M lv Lo (i+k) o
 more: ∀k o,l[k]? =some o-> ∀n,dC mk n=true->dC (M (i+k)) n=true
 old: ∀k o,l[k]? =some o->eD all (F (i+k)).env o=true-> ∀r∈rs,CZ ((bs[k]?).getD 0) r (bZ (Q.hint f) o.dst (F (i+k)).env o.op) (Lo (i+k)) (M (i+k))
 pair: ∀k k' o o',k'<k->l[k]? =some o->l[k']? =some o'->eD all (F (i+k)).env o=true->eD all (F (i+k')).env o'=true->
  CZ ((bs[k]?).getD 0) ⟨i+k',(S (i+k')).al,(S (i+k'+1)).al,bZ (Q.hint f) o'.dst (F (i+k')).env o'.op,Lo (i+k')⟩ (bZ (Q.hint f) o.dst (F (i+k)).env o.op) (Lo (i+k)) (M (i+k))
end
def Py(bs:List Nat):(bs[0]?).getD 0=bs.headD 0:=by cases bs<;>rfl
def Ht(bs:List Nat)(k:Nat):bs.tail[k]? =bs[k+1]? :=by cases bs<;>simp
def tu(i:Nat)(a:α)(F:Nat->α): ∃F':Nat->α,F' i=a/\ ∀k,F' (i+1+k)=F (i+1+k):=
 ⟨fun k=>if k=i then a else F k,by simp,fun k=>by simp only;rw[iN (by omega)]⟩
variable{Lo:Nat->Bool}{F:Nat->Fr}{lv:Nat->Nat}{S:Nat->St}{M:Nat->aW}
def A0.cons{all:Array Oper}{F':Nat->Fr}{S':Nat->St}{M':Nat->aW}{lv':Nat->Nat}{Lo':Nat->Bool}{rs':List dr}{bs:List Nat}{l:List Oper}(t:A0 Q f all mk F S M lv Lo (i+1) rs' bs.tail l)(hF: ∀k,F' (i+1+k)=F (i+1+k))(hS: ∀k,S' (i+1+k)=S (i+1+k))(hM: ∀k,M' (i+1+k)=M (i+1+k))(hlv: ∀k,lv' (i+1+k)=lv (i+1+k))(hLo: ∀k,Lo' (i+1+k)=Lo (i+1+k))(hst:C9 Q f all F' S' M' lv' Lo' i o)(hmk: ∀n,dC mk n=true->dC (M' i) n=true)(hold:eD all (F' i).env o=true-> ∀r∈rs,CZ (bs.headD 0) r (bZ (Q.hint f) o.dst (F' i).env o.op) (Lo' i) (M' i))(hrs: ∀r∈rs,r∈rs')(hr:eD all (F' i).env o=true->⟨i,(S' i).al,(S' (i+1)).al,bZ (Q.hint f) o.dst (F' i).env o.op,Lo' i⟩∈rs'):A0 Q f all mk F' S' M' lv' Lo' i rs bs (o::l) where
 step k p hk:=by
  cases k with
  |zero=>simp at hk;subst hk;exact hst
  |succ k=>
   have:=t.step k p (by simpa using hk);unfold C9 at this ⊢;rw[show i+(k+1)=i+1+k by omega,show i+1+k+1=i+1+(k+1) by omega,hF,hF,hS,hS,hM,hlv,hLo];exact this
 more k p hk n hn:=by
  cases k with
  |zero=>exact hmk n hn
  |succ k=>rw[show i+(k+1)=i+1+k by omega,hM];exact t.more k p (by simpa using hk) n hn
 old k p hk hw r hr:=by
  cases k with
  |zero=>simp at hk;subst hk;rw[Py];exact hold hw r hr
  |succ k=>
   rw[show i+(k+1)=i+1+k by omega] at hw ⊢;rw[hF] at hw ⊢;rw[hM,hLo,<-Ht];exact t.old k p (by simpa using hk) hw r (hrs r hr)
 pair k k' p p' hlt hk hk' hw hw':=by
  cases k with
  |zero=>omega
  |succ k=>
   rw[show i+(k+1)=i+1+k by omega] at hw ⊢;rw[hF] at hw ⊢;rw[hM,hLo,<-Ht];cases k' with
   |zero=>
    simp at hk';subst hk';exact t.old k p (by simpa using hk) hw _ (hr hw')
   |succ k'=>
    rw[show i+(k'+1)=i+1+k' by omega] at hw' ⊢;rw[hF] at hw' ⊢;rw[hLo,show i+1+k'+1=i+1+(k'+1) by omega,hS,hS];exact t.pair k k' p p' (by omega) (by simpa using hk) (by simpa using hk') hw hw'
def IT{Q:bF}{f:FuncId}{all:Array Oper}{mk:aW}: ∀ {l:List Oper} {n:Nat} {bs:List Nat} {rs:List dr} {i:Nat} {fr fr':Fr} {s s':St},
 (cd Q n).draw f all bs mk rs i l fr s=some (fr',s')->
 ∃F S M lv Lo,F i=fr/\S i=s/\F (i+l.length)=fr'/\S (i+l.length)=s'/\(∀k o,l[k]? =some o->lv (i+k)<n)/\A0 Q f all mk F S M lv Lo i rs bs l
 |l,0,bs,rs,i,fr,fr',s,s',h=>by cases h
 | [],n+1,bs,rs,i,fr,fr',s,s',h=>by
   have h:some (fr,s)=some (fr',s'):=h;simp only[aP,bj] at h;obtain⟨rfl,rfl⟩:=h;exact⟨fun _=>fr,fun _=>s,fun _=>mk,fun _=>0,fun _=>false,rfl,rfl,rfl,rfl,by simp,⟨by simp,by simp,by simp,by simp⟩⟩
 |o::l,n+1,bs,rs,i,fr,fr',s,s',h=>by
  have h:ns Q (cd Q n) f all bs mk rs i (o::l) fr s=some (fr',s'):=h;simp only[ns] at h;cases hw:eD all fr.env o with
  |true=>
   simp only[hw,cT,az] at h;obtain⟨⟨v,loc',s1⟩,h1,h⟩:=h;obtain⟨hc,h⟩:=bm h;simp only[az] at h;obtain⟨fr1,hf,h⟩:=h;simp only[bA] at hc;obtain⟨hfit,hci⟩:=hc;have hci:=eU hci;obtain⟨F,S,M,lv,Lo,e1,e2,e3,e4,hlv,t⟩:=IT h;obtain⟨F',F0,F1⟩:=tu i fr F;obtain⟨S',S0,S1⟩:=tu i s S;obtain⟨M',M0,M1⟩:=tu i (iz (bs.headD 0) rs mk) M;obtain⟨lv',lv0,lv1⟩:=tu i n lv;obtain⟨Lo',Lo0,Lo1⟩:=tu i (bk s1.ge s.al||isStore o.op) Lo;have eF:F' (i+1)=fr1:=(F1 0).trans e1;have eS:S' (i+1)=s.Gt s1:=(S1 0).trans e2;refine⟨F',S',M',lv',Lo',F0,S0,?_,?_,?_,t.cons F1 S1 M1 lv1 Lo1 ?_ ?_ ?_ ?_ ?_⟩;rw[cP,show i+(l.length+1)=i+1+l.length by omega,F1];exact e3;rw[cP,show i+(l.length+1)=i+1+l.length by omega,S1];exact e4;intro k p hk;cases k with
   |zero=>rw[qE,lv0];omega
   |succ k=>
    rw[show i+(k+1)=i+1+k by omega,lv1]
    have:=hlv k p (by simpa using hk);omega
   refine .inl ⟨by rw[F0];exact hw,v,loc',s1,?_,?_,?_,?_,?_⟩;rw[F0,S0,M0,lv0];exact h1;rw[S0];exact hci.symm;rw[F0,eF];exact hf;rw[S0,eS];rw[S0,Lo0];intro m hm;rw[M0];exact Pz hm;intro _ r hr;rw[F0,Lo0,M0];exact abO hfit hr;intro r hr;exact vH _ hr;intro _;rw[S0,eS,F0,Lo0];exact List.mem_cons_self
  |false=>
   simp only[hw,cF,az] at h;obtain⟨fr1,hf,h⟩:=h;obtain⟨F,S,M,lv,Lo,e1,e2,e3,e4,hlv,t⟩:=IT h;obtain⟨F',F0,F1⟩:=tu i fr F;obtain⟨S',S0,S1⟩:=tu i s S;obtain⟨M',M0,M1⟩:=tu i mk M;obtain⟨lv',lv0,lv1⟩:=tu i n lv;obtain⟨Lo',Lo0,Lo1⟩:=tu i false Lo;have eF:F' (i+1)=fr1:=(F1 0).trans e1;have eS:S' (i+1)=s:=(S1 0).trans e2;refine⟨F',S',M',lv',Lo',F0,S0,?_,?_,?_,t.cons F1 S1 M1 lv1 Lo1 ?_ ?_ ?_ ?_ ?_⟩;rw[cP,show i+(l.length+1)=i+1+l.length by omega,F1];exact e3;rw[cP,show i+(l.length+1)=i+1+l.length by omega,S1];exact e4;intro k p hk;cases k with
   |zero=>rw[qE,lv0];omega
   |succ k=>
    rw[show i+(k+1)=i+1+k by omega,lv1]
    have:=hlv k p (by simpa using hk);omega
   exact .inr ⟨by rw[F0];exact hw,by rw[F0,eF];exact hf,by rw[S0,eS]⟩;intro m hm;rw[M0];exact hm;intro h' r hr;rw[F0,hw] at h';cases h';intro r hr;exact hr;intro h';rw[F0,hw] at h';cases h'
def NS{ops:Array Oper}: ∀ {l:List Oper} {bs:List Nat} {b:Nat},mO ops b l bs=true-> ∀i j x y,i<j->l[i]? =some x->l[j]? =some y->((bs[j]?).getD 0).testBit (b+i)=true\/Bj ops x y=true
 | [],_,_,_,i,j,x,y,_,hx,_=>by simp at hx
 |o::l,bs,b,h,i,j,x,y,hlt,hx,hy=>by
  simp only[mO,bA] at h;obtain⟨_,h1,h2⟩:=h;cases j with
  |zero=>omega
  |succ j=>
   rw[<-Ht];cases i with
   |succ i=>
    have:=NS h2 i j x y (by omega) (by simpa using hx) (by simpa using hy);rw[show b+1+i=b+(i+1) by omega] at this;exact this
   |zero=>
    simp at hx;subst hx;have hin: ∀ {l:List Oper} {bs:List Nat},Dh ops o b l bs=true-> ∀(j:Nat) y,l[j]? =some y->((bs[j]?).getD 0).testBit b=true\/Bj ops o y=true:=by
     intro l
     induction l with
     |nil=>intro bs _ j y hy;simp at hy
     |cons z l ih=>
      intro bs h j y hy;simp only[Dh,bA,sU] at h;cases j with
      |zero=>simp at hy;subst hy;rw[Py];exact h.1
      |succ j=>rw[<-Ht];exact ih h.2 j y (by simpa using hy)
    exact hin h1 j y (by simpa using hy)
def NR{ops:Array Oper}: ∀ {l:List Oper} {bs:List Nat} {b:Nat},mO ops b l bs=true-> ∀i x,l[i]? =some x-> ∀e∈x.after,Region.binds .any e=true->e.on<b+i
 | [],_,_,_,i,x,hx,_,_,_=>by simp at hx
 |o::l,bs,b,h,i,x,hx,e,he,hb=>by
  simp only[mO,bA] at h;obtain⟨h0,_,h2⟩:=h;cases i with
  |zero=>
   simp at hx;subst hx
   have:=fY.1 h0 e (Array.mem_toList_iff.2 he);simp only[hb,Bool.not_true,jd] at this;exact oQ this
  |succ i=>
   have:=NR h2 i x (by simpa using hx) e he hb;omega
structure aY (Q:bF) (f:FuncId) (all:Array Oper) (mk:aW) (F:Nat->Fr) (S:Nat->St) (M:Nat->aW) (lv:Nat->Nat) (Lo:Nat->Bool):Prop where
 tr:A0 Q f all mk F S M lv Lo 0 [] (Region.before all).toList all.toList
 ap:mO all 0 all.toList (Region.before all).toList=true
 fresh: ∀n,(S 0).al<=n->(S 0).heap.get n=none
variable{H:Nat->Option bf}
section
variable{Q:bF}{f:FuncId}{all:Array Oper}{mk:aW}{F:Nat->Fr}{S:Nat->St}{M:Nat->aW}{lv:Nat->Nat}{Lo:Nat->Bool}
noncomputable def aY.foot(Q:bF)(f:FuncId)(F:Nat->Fr)(k:Nat)(o:Oper):dj:=bZ (Q.hint f) o.dst (F k).env o.op
noncomputable def aY.fm(Q:bF)(f:FuncId)(F:Nat->Fr)(S:Nat->St)(M:Nat->aW)(k:Nat)(o:Oper):aW:=qi (S k).al (aY.foot Q f F k o) (M k)
def aY.step(t:aY Q f all mk F S M lv Lo)(hk:all[k]? =some o):C9 Q f all F S M lv Lo k o:=by
 have:=t.tr.step k o (by simpa using hk);rwa [gl] at this
def aY.done(t:aY Q f all mk F S M lv Lo)(hk:all[k]? =some o)(hw:eD all (F k).env o=true):
 ∃v loc' s1,fw Q (cd Q (lv k)) f o (M k) (F k) ⟨(S k).heap,(S k).al,(S k).al,(S k).ci⟩=some (v,loc',s1)/\s1.ci=(S k).ci/\
  di (F k) o.dst v loc'=some (F (k+1))/\S (k+1)=(S k).Gt s1/\Lo k=(bk s1.ge (S k).al||isStore o.op)/\
  fL (aY.fm Q f F S M k o) ⟨(S k).heap,(S k).al,(S k).al,(S k).ci⟩ s1:=by
 rcases t.step hk with⟨_,v,loc',s1,h1,h2,h3,h4,h5⟩|⟨h,_⟩
 refine⟨v,loc',s1,h1,h2,h3,h4,h5,?_⟩;obtain⟨loc2',h6,_⟩:=Js (c:=(S k).al) (e:=(F k).env) (n:=(F k).size) (M k) (F k).loc v loc' s1 h1 (F k).loc (fun _ _=>.refl _ _);have hl:=BX (Q:=Q) (lS Q (lv k)) f o (aY.fm Q f F S M k o) (F k);exact(hl Q.ch _ v loc2' s1 h6).1;rw[hw] at h;cases h
def aY.next_le(t:aY Q f all mk F S M lv Lo)(hk:all[k]? =some o):(S k).al<=(S (k+1)).al:=by
 cases hw:eD all (F k).env o with
 |true=>
  obtain⟨v,loc',s1,_,_,_,h4,_,g⟩:=t.done hk hw;rw[h4];exact g.al
 |false=>
  rcases t.step hk with⟨h,_⟩|⟨_,_,h⟩
  rw[hw] at h;cases h;rw[h];exact aU _
def aY.mono(t:aY Q f all mk F S M lv Lo): ∀ {j:Nat},i<=j->j<=all.size->(S i).al<=(S j).al
 |0,h,_=>by have:i=0:=by omega
            subst this;exact aU _
 |j+1,h,hj=>by
  by_cases e:i=j+1;rw[e];exact aU _;exact fh (t.mono (by omega) (by omega)) (t.next_le (oD (by omega)))
def aY.none_above(t:aY Q f all mk F S M lv Lo): ∀ {k:Nat},k<=all.size-> ∀n,(S k).al<=n->(S k).heap.get n=none
 |0,_,n,h=>t.fresh n h
 |k+1,hk,n,h=>by
  have ho:all[k]? =some all[k]:=oD (by omega);have hle:=t.next_le ho;have ih:=t.none_above (k:=k) (by omega) n (by omega);cases hw:eD all (F k).env all[k] with
  |true=>
   obtain⟨v,loc',s1,_,_,_,h4,_,g⟩:=t.done ho hw;rw[h4] at h ⊢;refine(g.frame n ?_).trans ih;rintro(⟨_,h'⟩|h');exact h' ih;exact absurd h (by have:=h'.2;show¬s1.al<=n;omega)
  |false=>
   rcases t.step ho with⟨h',_⟩|⟨_,_,h'⟩
   rw[hw] at h';cases h';rw[h'];exact ih
def aY.Th(Q:bF)(f:FuncId)(all:Array Oper)(F:Nat->Fr)(S:Nat->St)(M:Nat->aW)(k n:Nat):Prop:=
 ∃o,all[k]? =some o/\eD all (F k).env o=true/\mM (aY.fm Q f F S M k o) (S k) (S (k+1)) n
open Classical in
noncomputable def aY.X(Q:bF)(f:FuncId)(all:Array Oper)(F:Nat->Fr)(S:Nat->St)(M:Nat->aW)(H:Nat->Option bf)(n:Nat):Nat->Option bf
 |0=>H n
 |k+1=>if aY.Th Q f all F S M k n then(S (k+1)).heap.get n else aY.X Q f all F S M H n k
def aY.X_change(h:aY.X Q f all F S M H n (k+1)≠aY.X Q f all F S M H n k):aY.Th Q f all F S M k n:=by
 by_cases e:aY.Th Q f all F S M k n;exact e;exact absurd (by rw[aY.X,iN e]) h
def aY.X_sees(t:aY Q f all mk F S M lv Lo)(h0: ∀n o,dC mk n=false->(S 0).heap.get n=some o->H n=some o):
 ∀ {k:Nat},k<=all.size-> ∀n o,dC mk n=false->(S k).heap.get n=some o->aY.X Q f all F S M H n k=some o
 |0,_,n,o,hn,h=>h0 n o hn h
 |k+1,hk,n,o,hn,h=>by
  have ho:all[k]? =some all[k]:=oD (by omega);rw[aY.X];split;exact h;rename_i hT;refine t.X_sees h0 (by omega) n o hn ?_;cases hw:eD all (F k).env all[k] with
  |true=>
   obtain⟨v,loc',s1,_,_,_,h4,_,g⟩:=t.done ho hw;rw[h4] at h;refine(g.frame n fun t'=>hT ⟨_,ho,hw,?_⟩).symm.trans h;rw[h4];exact t'
  |false=>
   rcases t.step ho with⟨h',_⟩|⟨_,_,h'⟩
   rw[hw] at h';cases h';rw[h'] at h;exact h
end
def rH(all:Array Oper)(i j:Nat):Prop:=(((Region.before all).toList[j]?).getD 0).testBit i=true
def rH.dep{all:Array Oper}(h:rH all i j):oM all i j:=by
 unfold rH at h;cases hb:(Region.before all)[j]? with
 |none=>simp[hb] at h
 |some b=>simp[hb] at h;exact X7 hb h
section
variable{Q:bF}{f:FuncId}{all:Array Oper}{mk:aW}{F:Nat->Fr}{S:Nat->St}{M:Nat->aW}{lv:Nat->Nat}{Lo:Nat->Bool}
def aY.compat(t:aY Q f all mk F S M lv Lo){oi oj:Oper}(hij:i<j)(hi:all[i]? =some oi)(hj:all[j]? =some oj)(wi:eD all (F i).env oi=true)(wj:eD all (F j).env oj=true)(hn: ¬rH all i j):((Lo j||Lo i)&&(aY.foot Q f F j oj).meets (aY.foot Q f F i oi))=false/\ ∀n,(S i).al<=n->n<(S (i+1)).al->dC (M j) n=true:=by
 have:=t.tr.pair j i oj oi hij (by simpa using hj) (by simpa using hi) (by rw[gl];exact wj) (by rw[gl];exact wi);simp only[gl] at this;exact this.resolve_left hn
def aY.lt_size(h:all[i]? =some o):i<all.size:=(Array.getElem?_eq_some_iff.1 h).1
def aY.loud(t:aY Q f all mk F S M lv Lo)(h0: ∀n o,dC mk n=false->(S 0).heap.get n=some o->H n=some o)(hi:all[i]? =some o)(w:eD all (F i).env o=true)(hc:aY.X Q f all F S M H n (i+1)≠aY.X Q f all F S M H n i)(hv:dC (aY.fm Q f F S M i o) n=false)(hp:(S i).heap.get n≠none):Lo i=true:=by
 have hT:=aY.X_change hc;have hlt:n<(S i).al:=by
  rcases ix n (S i).al with h|h
  exact h;exact absurd (t.none_above (vI (aY.lt_size hi)) n h) hp
 obtain⟨v,loc',s1,_,_,_,h4,h5,g⟩:=t.done hi w;have hm:dC mk n=false:=by
  cases e:dC mk n with
  |false=>rfl
  |true=>
   have:=t.tr.more i o (by simpa using hi) n e;rw[gl] at this;rw[aY.fm,Jn this] at hv;cases hv
 cases ho:(S i).heap.get n with
 |none=>exact absurd ho hp
 |some ob=>
  have hX:=t.X_sees h0 (vI (aY.lt_size hi)) n ob hm ho;rw[aY.X,iP hT,hX,<-ho,h4] at hc
  have:=g.noted n hlt hc;rw[h5];have:bk s1.ge (S i).al=true:=by rw[zZ];exact dQ (by omega)
  rw[this];rfl
def ai2{F1 F2:dj}(h1:F1= .all\/F1= .obj n)(h2:F2= .all\/F2= .obj n):F1.meets F2=true:=by
 rcases h1 with rfl|rfl<;>rcases h2 with rfl|rfl<;>simp[dj.meets]
def aY.heap_apart(t:aY Q f all mk F S M lv Lo)(h0: ∀n o,dC mk n=false->(S 0).heap.get n=some o->H n=some o)(hij:i<j)(hj:j<all.size)(hn: ¬rH all i j):
 (aY.Th Q f all F S M j n->aY.X Q f all F S M H n (i+1)=aY.X Q f all F S M H n i)/\
 (aY.Th Q f all F S M i n->aY.X Q f all F S M H n (j+1)=aY.X Q f all F S M H n j):=by
 have key:aY.Th Q f all F S M i n->aY.Th Q f all F S M j n->
  (aY.X Q f all F S M H n (i+1)≠aY.X Q f all F S M H n i\/aY.X Q f all F S M H n (j+1)≠aY.X Q f all F S M H n j)->False:=by
  rintro⟨oi,hi,wi,Ti⟩ ⟨oj,hj',wj,Tj⟩ hch;obtain⟨c1,c2⟩:=t.compat hij hi hj' wi wj hn;have hle:(S (i+1)).al<=(S j).al:=t.mono (by omega) (by omega);have hle':=t.next_le hi;have hnj:dC (aY.fm Q f F S M j oj) n=false/\(S j).heap.get n≠none:=by
   rcases Tj with h|h
   exact h;exfalso;rcases Ti with⟨_,hp⟩|h'
   exact hp (t.none_above (by omega) n (by omega));omega
  have hmj:=Jm hnj.1;have hlt:n<(S j).al:=by
   rcases ix n (S j).al with h|h
   exact h;exact absurd (t.none_above (by omega) n h) hnj.2
  have hni:dC (aY.fm Q f F S M i oi) n=false/\(S i).heap.get n≠none:=by
   rcases Ti with h|h
   exact h;exfalso
   have:=c2 n h.1 h.2;rw[hmj.1] at this;cases this
  have hmi:=Jm hni.1;have hlti:n<(S i).al:=by
   rcases ix n (S i).al with h|h
   exact h;exact absurd (t.none_above (by omega) n h) hni.2
  have hm:(aY.foot Q f F j oj).meets (aY.foot Q f F i oi)=true:=
   ai2 (hmj.2.imp id fun h=>h.resolve_right (by omega)) (hmi.2.imp id fun h=>h.resolve_right (by omega))
  rw[hm,Bool.and_true] at c1;rcases hch with h|h
  rw[t.loud h0 hi wi h hni.1 hni.2] at c1;simp at c1;rw[t.loud h0 hj' wj h hnj.1 hnj.2] at c1;simp at c1
 constructor;intro hT;apply l9;intro hne;exact key (aY.X_change hne) hT (.inl hne);intro hT;apply l9;intro hne;exact key hT (aY.X_change hne) (.inr hne)
end
variable{fr:Fr}{v:ae}
def sN(h:di fr dst v l=some fr'):
 fr'.size=fr.size/\fr'.loc=l/\(∀d,dst=some d->d<fr.size/\aj fr'.env d=v)/\ ∀t,dst≠some t->aj fr'.env t=aj fr.env t:=by
 unfold di at h;cases dst with
 |none=>
  injection h with h;subst h
  exact⟨rfl,rfl,by simp,fun _ _=>rfl⟩
 |some d=>
  obtain⟨hd,h⟩:=bm h;injection h with h;subst h
  refine⟨rfl,rfl,?_,?_⟩;intro d' hd';injection hd' with hd';subst hd'
  exact⟨oQ hd,by simp[aj,LP]⟩;intro t ht;have:t≠d:=fun e=>ht (by rw[e]);simp[aj,aZ.get_set,this]
def Z2{x y:Oper}(h:Bj ops x y=true):(∀d,x.dst=some d->d ∉ x8 ops y/\y.dst≠some d)/\ ∀d,y.dst=some d->d ∉ x8 ops x:=by
 simp only[Bj,bA] at h;have hmem: ∀(d:Nat) (l:List Nat),l.any (aJ d)=false->d ∉ l:=by
  intro d l hl hd;rw[List.any_eq_false] at hl;exact hl d hd (by simp)
 obtain⟨h1,h2⟩:=h;refine⟨fun d hd=>?_,fun d hd=>?_⟩;rw[hd] at h1;simp only[bA,qC] at h1;refine⟨hmem d _ h1.1,fun e=>?_⟩;have h1:=h1.2;rw[e] at h1;simp at h1;rw[hd] at h2;simp only[qC] at h2;exact hmem d _ h2
section
variable{Q:bF}{f:FuncId}{all:Array Oper}{mk:aW}{F:Nat->Fr}{S:Nat->St}{M:Nat->aW}{lv:Nat->Nat}{Lo:Nat->Bool}
def aY.Te(all:Array Oper)(k t:Nat):Prop:= ∃o,all[k]? =some o/\(t∈x8 all o\/o.dst=some t)
def aY.put(t:aY Q f all mk F S M lv Lo)(hk:all[k]? =some o): ∃v l,di (F k) o.dst v l=some (F (k+1)):=by
 rcases t.step hk with⟨_,v,loc',s1,_,_,h3,_⟩|⟨_,h,_⟩
 exact⟨_,_,h3⟩;exact⟨_,_,h⟩
def aY.env_change(t:aY Q f all mk F S M lv Lo)(hk:all[k]? =some o)(h:aj (F (k+1)).env d≠aj (F k).env d):o.dst=some d:=by
 obtain⟨v,l,hp⟩:=t.put hk;by_cases e:o.dst=some d;exact e;exact absurd ((sN hp).2.2.2 d e) h
def aY.size_eq(t:aY Q f all mk F S M lv Lo): ∀ {k:Nat},k<=all.size->(F k).size=(F 0).size
 |0,_=>rfl
 |k+1,h=>by
  obtain⟨v,l,hp⟩:=t.put (oD (show k<all.size by omega));rw[(sN hp).1];exact t.size_eq (by omega)
def aY.env_apart(t:aY Q f all mk F S M lv Lo)(hij:i<j)(hj:j<all.size)(hn: ¬rH all i j):
 (aY.Te all j d->aj (F (i+1)).env d=aj (F i).env d)/\(aY.Te all i d->aj (F (j+1)).env d=aj (F j).env d):=by
 have hi':all[i]? =some all[i]:=oD (by omega);have hj':all[j]? =some all[j]:=oD hj
 have:=NS t.ap i j all[i] all[j] hij (by simp) (by simp);rw[gl] at this;obtain⟨h1,h2⟩:=Z2 (this.resolve_left hn);constructor;rintro⟨o,ho,hT⟩;rw[hj'] at ho;injection ho with ho;subst ho
 apply l9;intro hne;obtain⟨h3,h4⟩:=h1 d (t.env_change hi' hne);exact hT.elim h3 h4;rintro⟨o,ho,hT⟩;rw[hi'] at ho;injection ho with ho;subst ho
 apply l9;intro hne;have h3:=t.env_change hj' hne;exact hT.elim (h2 d h3) fun h4=>(h1 d h4).2 h3
def aY.L(F:Nat->Fr)(t k:Nat):Nat×(Nat->Option (List ae)):=((F k).loc.gen t,fun g=>(F k).loc.get t g)
def aY.L_eq{F:Nat->Fr}{t k':Nat}:aY.L F t k=aY.L F t k'↔lG (F k).loc (F k').loc t:=by
 unfold aY.L lG;rw[bj];exact⟨fun h=>⟨h.1,fun g=>congrFun h.2 g⟩,fun h=>⟨h.1,funext h.2⟩⟩
def aY.Tl(Q:bF)(f:FuncId)(all:Array Oper)(F:Nat->Fr)(k u:Nat):Prop:= ∃o,all[k]? =some o/\eD all (F k).env o=true/\aY.foot Q f F k o= .loc u
def aY.loc_change(t:aY Q f all mk F S M lv Lo)(hk:k<all.size)(h:aY.L F u (k+1)≠aY.L F u k):aY.Tl Q f all F k u/\Lo k=true:=by
 have hk':all[k]? =some all[k]:=oD hk;rcases t.step hk' with⟨w,v,loc',s1,h1,_,h3,_,h5⟩|⟨_,hp,_⟩
 have hl:=(sN h3).2.1;obtain⟨loc2',_,_,h7,h8⟩:=Js (c:=(S k).al) (e:=(F k).env) (n:=(F k).size) (M k) (F k).loc v loc' s1 h1 (F k).loc (fun _ _=>.refl _ _);constructor;apply l9;intro hT;apply h;rw[aY.L_eq,hl];exact(h7 u fun e=>hT ⟨_,hk',w,e⟩).1;rw[h5];cases e:isStore all[k].op with
 |true=>simp
 |false=>
  exfalso;apply h;rw[aY.L_eq,hl,h8 e];exact .refl _ _
 exfalso;apply h;rw[aY.L_eq,(sN hp).2.1];exact .refl _ _
def aY.loc_apart(t:aY Q f all mk F S M lv Lo)(hij:i<j)(hj:j<all.size)(hn: ¬rH all i j):
 (aY.Tl Q f all F j u->aY.L F u (i+1)=aY.L F u i)/\(aY.Tl Q f all F i u->aY.L F u (j+1)=aY.L F u j):=by
 have key:aY.Tl Q f all F i u->aY.Tl Q f all F j u->(Lo i=true\/Lo j=true)->False:=by
  rintro⟨oi,hi,wi,fi⟩ ⟨oj,hj',wj,fj⟩ hl;obtain⟨c1,_⟩:=t.compat hij hi hj' wi wj hn;rw[fi,fj] at c1;rcases hl with h|h<;>rw[h] at c1<;>simp[dj.meets] at c1
 constructor;intro hT;apply l9;intro hne;obtain⟨h1,h2⟩:=t.loc_change (by omega) hne;exact key h1 hT (.inl h2);intro hT;apply l9;intro hne;obtain⟨h1,h2⟩:=t.loc_change hj hne;exact key hT h1 (.inr h2)
end
section
variable{Q:bF}{f:FuncId}{all:Array Oper}{mk:aW}{F:Nat->Fr}{S:Nat->St}{M:Nat->aW}{lv:Nat->Nat}{Lo:Nat->Bool}
structure kA (Q:bF) (f:FuncId) (all:Array Oper) (F:Nat->Fr) (S:Nat->St) (M:Nat->aW) (H:Nat->Option bf) (D:Nat->Prop) (fr:Fr) (h:Nat->Option bf):Prop where
 env: ∀t,aj fr.env t=mix (fun k=>aj (F k).env t) D all.size
 size:fr.size=(F 0).size
 loc: ∀u,(fr.loc.gen u,fun g=>fr.loc.get u g)=mix (aY.L F u) D all.size
 heap: ∀n,h n=mix (aY.X Q f all F S M H n) D all.size
def HP(all:Array Oper)(D:Nat->Prop):Prop:= ∀j o,D j->all[j]? =some o-> ∀e∈o.after,Region.binds .any e=true->D e.on
structure mi (all:Array Oper) (D:Nat->Prop) (j:Nat) (o:Oper):Prop where
 closed:HP all D
 at_:all[j]? =some o
 new: ¬D j
 preds: ∀e∈o.after,Region.binds .any e=true->D e.on
def mi.ord{D:Nat->Prop}{j:Nat}{o:Oper}(x:mi all D j o)(h:rH all i j):D i:=
 h.dep.ready x.closed fun o' ho e he hb=>by
  rw[x.at_] at ho;injection ho with ho;subst ho
  exact x.preds e he hb
def mi.notOrd{D:Nat->Prop}{j:Nat}{o:Oper}(x:mi all D j o)(hk:D k): ¬rH all j k:=fun h=>x.new (h.dep.closed x.closed hk)
def mi.both{X:Nat->α}{D:Nat->Prop}{j:Nat}{o:Oper}(x:mi all D j o)(hb: ∀i,i<j-> ¬rH all i j->X (i+1)=X i)(ha: ∀k,j<k->k<all.size-> ¬rH all j k->X (k+1)=X k):
 mix X D all.size=X j/\mix X (fun k=>D k\/k=j) all.size=X (j+1):=by
 have hj:=aY.lt_size x.at_;have hb': ∀i,i<j->X (i+1)≠X i->D i:=fun i hi hne=>by
  apply l9;intro hd;exact hne (hb i hi fun h=>hd (x.ord h))
 have ha': ∀k,j<k->k<all.size->D k->X (k+1)=X k:=fun k h1 h2 hd=>ha k h1 h2 (x.notOrd hd);refine⟨SY (by omega) hb' fun k h1 h2 hd=>?_,ajH hj hb' ha'⟩;by_cases e:k=j;exact absurd (e▸hd) x.new;exact ha' k (by omega) h2 hd
def mi.env(t:aY Q f all mk F S M lv Lo){D:Nat->Prop}{j:Nat}{o:Oper}(x:mi all D j o)(hT:aY.Te all j d):
 mix (fun k=>aj (F k).env d) D all.size=aj (F j).env d/\mix (fun k=>aj (F k).env d) (fun k=>D k\/k=j) all.size=aj (F (j+1)).env d:=
 x.both (X:=fun k=>aj (F k).env d) (fun _i hi hn=>(t.env_apart hi (aY.lt_size x.at_) hn).1 hT) fun _k h1 h2 hn=>(t.env_apart h1 h2 hn).2 hT
def mi.loc(t:aY Q f all mk F S M lv Lo){D:Nat->Prop}{j:Nat}{o:Oper}(x:mi all D j o)(hT:aY.Tl Q f all F j u):
 mix (aY.L F u) D all.size=aY.L F u j/\mix (aY.L F u) (fun k=>D k\/k=j) all.size=aY.L F u (j+1):=
 x.both (fun _i hi hn=>(t.loc_apart hi (aY.lt_size x.at_) hn).1 hT) fun _k h1 h2 hn=>(t.loc_apart h1 h2 hn).2 hT
def mi.heap(t:aY Q f all mk F S M lv Lo){H:Nat->Option bf}(h0: ∀n o,dC mk n=false->(S 0).heap.get n=some o->H n=some o){D:Nat->Prop}{j:Nat}{o:Oper}(x:mi all D j o)(hT:aY.Th Q f all F S M j n):
 mix (aY.X Q f all F S M H n) D all.size=aY.X Q f all F S M H n j/\mix (aY.X Q f all F S M H n) (fun k=>D k\/k=j) all.size=aY.X Q f all F S M H n (j+1):=
 x.both (fun _i hi hn=>(t.heap_apart h0 hi (aY.lt_size x.at_) hn).1 hT) fun _k h1 h2 hn=>(t.heap_apart h0 h1 h2 hn).2 hT
variable{H:Nat->Option bf}{D:Nat->Prop}{fr:Fr}{h:Nat->Option bf}{j:Nat}{o:Oper}
def kA.ev(t:aY Q f all mk F S M lv Lo)(c:kA Q f all F S M H D fr h)(x:mi all D j o): ∀y∈o.op.operands,Ag.ev fr.env y=Ag.ev (F j).env y:=by
 intro y hy;cases y with
 |tmp d=>
  simp only[Ag.ev];rw[c.env d,(x.env t ⟨o,x.at_,.inl ?_⟩).1];unfold x8;refine List.mem_append_left _ (List.mem_filterMap.2 ⟨.tmp d,by simpa using hy,rfl⟩)
 |_=>rfl
def kA.wanted(t:aY Q f all mk F S M lv Lo)(c:kA Q f all F S M H D fr h)(x:mi all D j o):eD all fr.env o=eD all (F j).env o:=by
 unfold eD;cases hg:o.guard with
 |none=>rfl
 |some g=>
  obtain⟨g,want⟩:=g;simp only;cases hd:(all[g]?).bind (·.dst) with
  |none=>rfl
  |some d=>
   simp only;rw[c.env d,(x.env t ⟨o,x.at_,.inl ?_⟩).1];unfold x8;refine List.mem_append_right _ ?_;simp[hg,hd]
end
def Ud(h: ∀d,dst=some d->d<fr.size): ∃fr',di fr dst v l=some fr':=by
 unfold di;cases hd:dst with
 |none=>exact⟨_,rfl⟩
 |some d=>
  have:bk d fr.size=true:=by rw[zZ];exact dQ (h d hd)
  simp only[this,cT];exact⟨_,rfl⟩
section
variable{Q:bF}{f:FuncId}{all:Array Oper}{mk:aW}{F:Nat->Fr}{S:Nat->St}{M:Nat->aW}{lv:Nat->Nat}{Lo:Nat->Bool}
variable{H:Nat->Option bf}{D:Nat->Prop}{fr:Fr}{h:aZ bf}{j:Nat}{o:Oper}
def aY.from_(S:Nat->St)(j:Nat)(h:aZ bf):St:=⟨h,(S j).al,(S j).al,(S j).ci⟩
def kA.sees(t:aY Q f all mk F S M lv Lo)(h0: ∀n o,dC mk n=false->(S 0).heap.get n=some o->H n=some o)(c:kA Q f all F S M H D fr h.get)(x:mi all D j o)(hw:eD all (F j).env o=true):iG (aY.fm Q f F S M j o) (aY.from_ S j (S j).heap) (aY.from_ S j h) where
 al:=rfl
 ge:=rfl
 ci:=rfl
 get n ob hn hg:=by
  have hg:(S j).heap.get n=some ob:=hg;show h.get n=some ob;have hT:aY.Th Q f all F S M j n:=⟨o,x.at_,hw,.inl ⟨hn,by rw[hg];simp⟩⟩;rw[c.heap n,(x.heap t h0 hT).1];refine t.X_sees h0 (vI (aY.lt_size x.at_)) n ob ?_ hg;cases e:dC mk n with
  |false=>rfl
  |true=>
   have:=t.tr.more j o (by simpa using x.at_) n e;rw[gl] at this;rw[aY.fm,Jn this] at hn;cases hn
def kA.run(t:aY Q f all mk F S M lv Lo)(h0: ∀n o,dC mk n=false->(S 0).heap.get n=some o->H n=some o)(c:kA Q f all F S M H D fr h.get)(x:mi all D j o)(hw:eD all (F j).env o=true):
 ∃v loc' s1 fr',fw Q (cd Q (lv j)) f o (aY.fm Q f F S M j o) fr (aY.from_ S j (S j).heap)=some (v,loc',s1)/\s1.ci=(S j).ci/\s1.al=(S (j+1)).al/\di fr o.dst v loc'=some fr'/\
  ∀s2',gg (aY.fm Q f F S M j o) (aY.from_ S j (S j).heap) s1 (aY.from_ S j h) s2'->kA Q f all F S M H (fun k=>D k\/k=j) fr' s2'.heap.get:=by
 obtain⟨v,loc1,s1,h1,h2,h3,h4,h5,g⟩:=t.done x.at_ hw;obtain⟨loc2,e1,e2,e3,e4⟩:=Js (c:=(S j).al) (e:=(F j).env) (n:=(F j).size) (M j) (F j).loc v loc1 s1 h1 fr.loc (fun u hu=>by
  have hT:aY.Tl Q f all F j u:=⟨o,x.at_,hw,hu⟩;have h6:=(c.loc u).trans (x.loc t hT).1;unfold aY.L at h6;rw[bj] at h6;exact⟨h6.1.symm,fun g=>(congrFun h6.2 g).symm⟩)
 have e1:fw Q (cd Q (lv j)) f o (aY.fm Q f F S M j o) ⟨(F j).env,(F j).size,fr.loc⟩ (aY.from_ S j (S j).heap)=some (v,loc2,s1):=e1;rw[alh (e2:=fr.env) (n2:=fr.size) (fun y hy=>(c.ev t x y hy).symm)] at e1;have hsz:fr.size=(F j).size:=c.size.trans (t.size_eq (vI (aY.lt_size x.at_))).symm;obtain⟨p1,p2,p3,p4⟩:=sN h3;have hp: ∃fr',di fr o.dst v loc2=some fr':=Ud fun d hd=>by rw[hsz];exact(p3 d hd).1
 obtain⟨fr',hp⟩:=hp;obtain⟨q1,q2,q3,q4⟩:=sN hp;refine⟨v,loc2,s1,fr',e1,h2,by rw[h4];rfl,hp,fun s2' same=>⟨fun d=>?_,q1.trans c.size,fun u=>?_,fun n=>?_⟩⟩;by_cases hd:o.dst=some d;rw[(q3 d hd).2,(x.env t ⟨o,x.at_,.inr hd⟩).2,(p3 d hd).2];rw[q4 d hd,c.env d];exact(zV (X:=fun k=>aj (F k).env d) (p4 d hd)).symm;rw[q2];by_cases hu:aY.foot Q f F j o= .loc u;rw[(x.loc t ⟨o,x.at_,hw,hu⟩).2]
 have:=e2 u hu;unfold aY.L;rw[p2,this.1];rw[bj];exact⟨rfl,funext fun g=>(this.2 g).symm⟩;obtain⟨a1,a2⟩:=e3 u hu;rw[zV (X:=aY.L F u) (aY.L_eq.2 (by rw[p2];exact a1)),<-c.loc u,bj];exact⟨a2.1,funext a2.2⟩;have hiff:aY.Th Q f all F S M j n↔mM (aY.fm Q f F S M j o) (aY.from_ S j (S j).heap) s1 n:=by
  constructor;rintro⟨o',ho',_,hT⟩;rw[x.at_] at ho';injection ho' with ho';subst ho'
  rw[h4] at hT;exact hT;intro hT;refine⟨o,x.at_,hw,?_⟩;rw[h4];exact hT
 by_cases hT:aY.Th Q f all F S M j n;rw[(x.heap t h0 hT).2,aY.X,iP hT,h4];exact same.inside n (hiff.1 hT);rw[zV (X:=aY.X Q f all F S M H n) (by rw[aY.X,iN hT]),<-c.heap n];exact same.outside n (fun e=>hT (hiff.2 e))
def kA.skip(t:aY Q f all mk F S M lv Lo)(c:kA Q f all F S M H D fr h.get)(x:mi all D j o)(hw:eD all (F j).env o=false):
 ∃fr',di fr o.dst fX fr.loc=some fr'/\kA Q f all F S M H (fun k=>D k\/k=j) fr' h.get:=by
 rcases t.step x.at_ with⟨h',_⟩|⟨_,h3,_⟩
 rw[hw] at h';cases h';have hsz:fr.size=(F j).size:=c.size.trans (t.size_eq (vI (aY.lt_size x.at_))).symm;obtain⟨p1,p2,p3,p4⟩:=sN h3;have hp: ∃fr',di fr o.dst fX fr.loc=some fr':=Ud fun d hd=>by rw[hsz];exact(p3 d hd).1
 obtain⟨fr',hp⟩:=hp;obtain⟨q1,q2,q3,q4⟩:=sN hp;refine⟨fr',hp,⟨fun d=>?_,q1.trans c.size,fun u=>?_,fun n=>?_⟩⟩;by_cases hd:o.dst=some d;rw[(q3 d hd).2,(x.env t ⟨o,x.at_,.inr hd⟩).2,(p3 d hd).2];rw[q4 d hd,c.env d];exact(zV (X:=fun k=>aj (F k).env d) (p4 d hd)).symm;rw[q2,zV (X:=aY.L F u) (aY.L_eq.2 (by rw[p2];exact .refl _ _)),<-c.loc u];rw[zV (X:=aY.X Q f all F S M H n) ?_,<-c.heap n];rw[aY.X,iN];rintro⟨o',ho',hw',_⟩;rw[x.at_] at ho';injection ho' with ho';subst ho'
 rw[hw] at hw';cases hw'
def kA.start{s2:aZ bf}(hD: ∀k, ¬D k):kA Q f all F S M s2.get D (F 0) s2.get where
 env d:=(Li (X:=fun k=>aj (F k).env d) fun k _=>hD k).symm
 size:=rfl
 loc u:=by rw[Li (X:=aY.L F u) fun k _=>hD k];rfl
 heap n:=by rw[Li (X:=aY.X Q f all F S M s2.get n) fun k _=>hD k];rfl
def kA.fin(c:kA Q f all F S M H D fr h.get)(hD: ∀k,k<all.size->D k):
 fr.size=(F 0).size/\(∀d,aj fr.env d=aj (F all.size).env d)/\(∀u,lG fr.loc (F all.size).loc u)/\ ∀n,h.get n=aY.X Q f all F S M H n all.size:=by
 refine⟨c.size,fun d=>?_,fun u=>?_,fun n=>?_⟩;rw[c.env d];exact Lg (X:=fun k=>aj (F k).env d) hD
 have:=c.loc u;rw[Lg hD] at this;unfold aY.L at this;rw[bj] at this;exact⟨this.1,congrFun this.2⟩;rw[c.heap n];exact Lg hD
end
def mr:Option Nat->Fence
 |none=>Fence.wide
 |some l=>Fence.wide.inRound l
def xI(ro:Option Nat)(f:FuncId):(mr ro).fn f:=by cases ro<;>exact trivial
def abp(ro:Option Nat):(mr ro).depth=none:=by cases ro<;>rfl
def abr(ro:Option Nat):(mr ro).round=ro:=by cases ro<;>rfl
def abq(ro:Option Nat)(l:Nat):(mr ro).inRound l=mr (some l):=by cases ro<;>rfl
def I7(ro:Option Nat)(n:Nat):(mr ro).depth.isSome=true->1<=n:=by rw[abp];intro h;cases h
variable{args:Array Value}{w:World}
def OX{ro:Option Nat}{R:Ending->World->Prop}:CallsIn (mr ro) 0 P f args w R↔Calls P f args w R:=by
 cases ro with
 |none=>exact callsIn_wide
 |some l=>exact callsIn_wide (n:=0)
def pM:Obj->Prop
 | .loop _=>True
 | .deferred _=>True
 |_=>False
def pM.warm{o:Obj}(h:pM o):Obj.warm o:=by cases o<;>first|exact trivial|exact h.elim
variable{a:Addr}{tmps:Array Value}{B:Nat->Nat}
section
variable{G:Gh}{h:aZ bf}{w:World}{b:Nat}{o ob:Obj}
def Ir(hb:w.heap[b]? =some o)(ha:pM o){C:Array Value}{e:TypeId}{z:Nat×Nat}:w.heap[b]? ≠some (.cells C e z):=by
 rw[hb];intro h;injection h with h;subst h;exact ha.elim
def XR(hb:w.heap[b]? =some o)(ha:pM o)(i:Nat):w.cell? ⟨b,i,none⟩=none:=by
 cases o<;>first
  |exact ha.elim
  |simp[World.cell?,hb]
def WR.aside_ro(x:WR G h w)(hb:w.heap[b]? =some o)(ha:pM o)(i:Nat):G.ro b i=none:=by
 cases e:G.ro b i with
 |none=>rfl
 |some v=>
  obtain⟨_,y,hy,_⟩:=x.ro b i v e;rw[XR hb ha] at hy;cases hy
def WR.aside(x:WR G h w)(hb:w.heap[b]? =some o)(ha:pM o)(hno: ¬d7 G h b):WR G h (dx w b ob) where
 obj n o' hn:=by
  obtain⟨a,h1,h2,h3⟩:=x.obj n o' hn;refine⟨a,h1,h2,h3.of_block ?_⟩;rw[jb w b _ ob (fQ hb),iN];intro e;exact hno ⟨n,a,by rw[hn];simp,h1,e⟩
 sep:=x.sep
 ro c i v hv:=by
  have hc:c≠b:=fun e=>by subst e;rw[x.aside_ro hb ha] at hv;cases hv
  obtain⟨h1,y,h2,h3⟩:=x.ro c i v hv;refine⟨h1,y,?_,h3⟩;rw[<-h2];simp[World.cell?,jb w b _ ob (fQ hb),hc]
 apart:=x.apart
 dim c d hd:=by
  have hc:c≠b:=fun e=>by
   subst e;obtain⟨C,e,h1,_⟩:=x.dim c d hd;exact Ir hb ha h1
  rw[jb w b _ ob (fQ hb),iN hc];exact x.dim c d hd
 below n a ha':=by rw[Ak];exact x.below n a ha'
def pO.aside{loc:Loc}(x:pO G h B loc w)(hb:w.heap[b]? =some o)(ha:pM o):pO G h B loc (dx w b ob) where
 cells t cs ht:=by
  obtain⟨C,e,h1,h2⟩:=x.cells t cs ht;refine⟨C,e,?_,h2⟩;rw[jb w b _ ob (fQ hb),iN];exact h1;intro e';rw[e'] at h1;exact Ir hb ha h1
 free:=x.free
 ro:=x.ro
 inj:=x.inj
def cy.aside(x:cy G h B fr tmps w)(hb:w.heap[b]? =some o)(ha:pM o):cy G h B fr tmps (dx w b ob):=
 ⟨x.size,x.env,x.locs.aside hb ha⟩
def cy.not_LB(x:cy G h B fr tmps w)(hb:w.heap[b]? =some o)(ha:pM o): ¬LB B fr.loc b:=by
 rintro⟨t,cs,h1,rfl⟩;obtain⟨C,e,h2,_⟩:=x.locs.cells t cs h1;exact Ir hb ha h2
def WR.not_deferred(x:WR G h w){d:Option (List Deferred)}(hb:w.heap[b]? =some (.deferred d)): ¬d7 G h b:=by
 rintro⟨n,a,h1,h2,rfl⟩;cases e:h.get n with
 |none=>exact h1 e
 |some o=>
  obtain⟨a',h3,_,h4⟩:=x.obj n o e;rw[h2] at h3;injection h3 with h3;subst h3
  cases o with
  |cells cs=>obtain⟨C,e,h5,_⟩:=h4;rw[hb] at h5;cases h5
  |tok=>obtain⟨C,e,h5⟩:=h4;rw[hb] at h5;cases h5
  |map es c=>obtain⟨ES,h5,_⟩:=h4;rw[hb] at h5;cases h5
  |iter m a b c=>obtain⟨_,m',h5,_⟩:=h4;rw[hb] at h5;cases h5
  |loop _ _ _ _ _ _ _=>obtain⟨r,h5,_⟩:=h4;rw[hb] at h5;cases h5
def WR.back(x:WR G h w){lo:bf}(ha:G.at_ n=some a)(hs:a.spot=none)(hno: ¬d7 G h a.block)(hr:qH G w a lo)(hro: ∀i,G.ro a.block i=none):WR G (h.set n (some lo)) w:=by
 refine⟨?_,?_,x.ro,?_,x.dim,x.below⟩;intro m o' hm;rw[aZ.get_set] at hm;by_cases e:m=n;rw[iP e] at hm;injection hm with hm;subst hm;subst e
 exact⟨a,ha,hs,hr⟩;rw[iN e] at hm;exact x.obj m o' hm;intro m k c d hm hk hc hd he;rw[aZ.get_set] at hm hk;by_cases e1:m=n<;>by_cases e2:k=n;rw[e1,e2];rw[e1,ha] at hc;rw[iN e2] at hk;injection hc with hc;subst hc
 exact absurd ⟨k,d,hk,hd,he.symm⟩ hno;rw[e2,ha] at hd;rw[iN e1] at hm;injection hd with hd;subst hd
 exact absurd ⟨m,c,hm,hc,he⟩ hno;rw[iN e1] at hm;rw[iN e2] at hk;exact x.sep m k c d hm hk hc hd he;intro m ob b i v hm hb hv;rw[aZ.get_set] at hm;by_cases e:m=n;subst e;rw[ha] at hb;injection hb with hb;subst hb
 rw[hro] at hv;cases hv;rw[iN e] at hm;exact x.apart m ob b i v hm hb hv
def alt{lo:bf}(ha:G.at_ n=some a)(h':d7 G (h.set n (some lo)) c):c=a.block\/d7 G h c:=by
 obtain⟨m,d,h1,h2,h3⟩:=h';rw[aZ.get_set] at h1;by_cases e:m=n;subst e;rw[ha] at h2;injection h2 with h2;subst h2;exact .inl h3.symm
 rw[iN e] at h1;exact .inr ⟨m,d,h1,h2,h3⟩
variable{G0:Gh}{h0:aZ bf}{w0:World}{lo hi:Nat}{L:Nat->Prop}
def iV.aside(x:iV G0 h0 w0 G h w lo hi L)(hb:w.heap[b]? =some o)(ha:pM o)(ha':pM ob)(hk:b<w0.heap.size->d7 G0 h0 b):iV G0 h0 w0 G h (dx w b ob) lo hi L where
 le:=x.le
 size:=by rw[Ak];exact x.size
 keep c hc ho hl:=by
  rw[jb w b c ob (fQ hb),iN];exact x.keep c hc ho hl;intro e;subst e;exact ho (hk hc)
 owns:=x.owns
 names:=x.names
 cells:=x.cells
 quiet:=x.quiet.trans (Cr w hb ha.warm ha'.warm)
def iV.toExt(x:iV G0 h0 w0 G h w lo hi L)(hL: ∀b, ¬L b):cM G0 h0 w0 G h w lo hi:=
 ⟨x.le,x.size,fun b hb ho=>x.keep b hb ho (hL b),x.owns,x.names,x.cells,x.quiet⟩
def cM.aside(x:cM G0 h0 w0 G h w lo hi)(hb:w.heap[b]? =some o)(ha:pM o)(ha':pM ob)(hk:b<w0.heap.size->d7 G0 h0 b):cM G0 h0 w0 G h (dx w b ob) lo hi:=
 (iV.aside (x.toL fun _=>False) hb ha ha' hk).toExt fun _ h=>h
end
def uZ(r:Nat):Deferred:= {target:=.collected r,args:= #[] }
structure un (lo:Nat) (w:World) (rs:List Nat):Prop where
 nodup:rs.Nodup
 at_: ∀r∈rs,lo<=r/\w.heap[r]? =some (.deferred (some []))
def un.nil(lo:Nat)(w:World):un lo w []:=⟨.nil,fun _ h=>by cases h⟩
def LX(w:World)(b:Nat)(o:Obj):w.putObj b o=dx w b o:=rfl
def UU{G:Gh}: ∀ {ps:List Tmp} {args:List ae} {xs:List Value} {env env':aI} {size:Nat} {tmps:Array Value},CD ps args env=some env'->bP G args xs->
 (∀t∈ps,t<size)->tmps.size=size->(∀t,VR G (aj env t) (tmps.getD t undef))->
 xs.length=ps.length/\((ps.zip xs).foldl (fun tmps (t,a)=>tmps.setIfInBounds t a) tmps).size=size/\ ∀t,VR G (aj env' t) (((ps.zip xs).foldl (fun tmps (t,a)=>tmps.setIfInBounds t a) tmps).getD t undef)
 | [],[],xs,env,env',size,tmps,he,hv,hp,hs,ht=>by
   cases hv;simp only[CD,aP] at he;subst he;exact⟨rfl,hs,ht⟩
 | [],_::_,_,_,_,_,_,he,_,_,_,_=>by cases he
 |_::_,[],_,_,_,_,_,he,_,_,_,_=>by cases he
 |p::ps,v::args,xs,env,env',size,tmps,he,hv,hp,hs,ht=>by
  cases hv with
  |cons a b=>
   rename_i x xs;have hpl:p<tmps.size:=by rw[hs];exact hp p (by simp)
   have:=UU (tmps:=tmps.setIfInBounds p x) (ps:=ps) he b (fun t h=>hp t (by simp[h])) (by simpa using hs) (fun t=>by
    rw[Ag.getD_set _ _ _ _ hpl];unfold aj;rw[aZ.get_set];by_cases e:t=p;rw[iP e,iP e];exact a;rw[iN e,iN e];exact ht t)
   exact⟨by simp[this.1],this.2⟩
def kU(k:Nat)(ch ch':Nat->Nat):Prop:= ∀i,i<k->ch' i=ch i
def kU.refl(k:Nat)(ch:Nat->Nat):kU k ch ch:=fun _ _=>rfl
def kU.trans{k':Nat}{ch' ch'':Nat->Nat}(h:kU k ch ch')(h':kU k' ch' ch'')(hk:k<=k'):kU k ch ch'':=fun i hi=>(h' i (gX hi hk)).trans (h i hi)
def lF(Q:bF)(ch:Nat->Nat):Prop:= ∀i,ch i<Q.kmax i
def C3(s:St):Prop:= ∀n,s.al<=n->s.heap.get n=none
def C3.goes(h:C3 s)(g:fL mk s s'):C3 s':=fun n hn=>by
 have h0:=h n (fh g.al hn);rw[g.frame n ?_];exact h0;rintro(⟨_,h'⟩|h');exact h' h0;omega
def mh(P:Program)(f:FuncId)(args:Array Value)(w:World)(R:Value->World->Prop):Prop:=
 (∃y w',(callFunc f args).run P w= .ok (.value y) w'/\R y w')\/
 ((callFunc f args).run P w= .ok (.enter f args) w/\Calls P f args w (fun e w'=> ∃y,e= .returned y/\R y w'))
def mh.mono{R R':Value->World->Prop}(h:mh P f args w R)(hr: ∀y w',R y w'->R' y w'):mh P f args w R':=by
 rcases h with⟨y,w',h1,h2⟩|⟨h1,h2⟩
 exact .inl ⟨y,w',h1,hr y w' h2⟩;exact .inr ⟨h1,h2.mono fun e w' ⟨y,he,h3⟩=>⟨y,he,hr y w' h3⟩⟩
def WH(Q:bF):Prop:=
 ∀f sp,Q.specH f=some sp-> ∀args v (G:Gh) (h:aZ bf) (w:World) (xs:List Value),WR G h w->bP G args xs->kP h.get (sp args)=some v->
  mh Q.P f ⟨xs⟩ w fun y w'=> ∃G',WR G' h w'/\cM G h w G' h w' 0 0/\VR G' v y
def WJ(Q:bF):Prop:=
 ∀f sp,Q.specW f=some sp-> ∀args (G:Gh) (h:aZ bf) (w:World) (xs:List Value),WR G h w->bP G args xs->
  (sp args=some none->mh Q.P f ⟨xs⟩ w fun y w'=> ∃G',WR G' h w'/\cM G h w G' h w' 0 0/\VR G' (.tup []) y)/\
  ∀n g cs cs',sp args=some (some (n,g))->h.get n=some (.cells cs)->kP h.get (g cs)=some (.agg cs')->
   mh Q.P f ⟨xs⟩ w fun y w'=> ∃G',WR G' (h.set n (some (.cells cs'))) w'/\cM G h w G' (h.set n (some (.cells cs'))) w' 0 0/\VR G' (.tup []) y
def WI(Q:bF):Prop:=
 ∀f sp,Q.spec f=some sp-> ∀args v,sp args=some v-> ∀(G:Gh) (h:aZ bf) (w:World) (xs:List Value),WR G h w->bP G args xs->
  mh Q.P f ⟨xs⟩ w fun y w'=> ∃G',WR G' h w'/\cM G h w G' h w' 0 0/\VR G' v y
structure mj (mk:aW) (A:Nat->Prop) (G:Gh) (s s2:St) (w:World):Prop where
 fresh:C3 s
 sees:iG mk s s2
 wr:WR G s2.heap w
 free: ∀m,s.al<=m->A m->G.at_ m=none
structure CW (Q:bF) (n:Nat) (f:FuncId) (args:List ae) (mk:aW) (ch:Nat->Nat) (G:Gh) (s s2:St) (w:World) (y:Value) (w':World)
 (ch':Nat->Nat) (v:ae) (s' s2':St) (G':Gh):Prop where
 agree:kU s.ci ch ch'
 inb:lF Q ch'
 eval:(cd (Q.at ch') n).call f args mk s=some (v,s')
 same:gg mk s s' s2 s2'
 wr:WR G' s2'.heap w'
 ext:cM G s2.heap w G' s2'.heap w' s.al s'.al
 val:VR G' v y
def vJ(Q:bF)(n:Nat):Prop:=
 ∀(f:FuncId) (args:List ae) (mk:aW) (s s2:St) (G:Gh) (w:World) (xs:List Value) (ch:Nat->Nat) (A:Nat->Prop),
  mj mk A G s s2 w->bP G args xs->lF Q ch->
  (∀ch',kU s.ci ch ch'->lF Q ch'-> ∃v s',(cd (Q.at ch') n).call f args mk s=some (v,s')/\ ∀m,s.al<=m->m<s'.al->A m)->
  mh Q.P f ⟨xs⟩ w fun y w'=> ∃ch' v s' s2' G',CW Q n f args mk ch G s s2 w y w' ch' v s' s2' G'
section
variable{G G' G'':Gh}{h h' h'':aZ bf}{w w' w'':World}{lo mid hi:Nat}{L L':Nat->Prop}
def iV.trans(x:iV G h w G' h' w' lo mid L)(y:iV G' h' w' G'' h'' w'' mid hi L')(hL: ∀b,L' b->L b\/w.heap.size<=b)(l1:lo<=mid)(l2:mid<=hi):
 iV G h w G'' h'' w'' lo hi L where
 le:=x.le.trans y.le
 size:=fh x.size y.size
 keep b hb ho hl:=(y.keep b (gX hb x.size) (fun o=>ho (x.owns b hb o)) (fun l=>(hL b l).elim hl (fun h=>by omega))).trans (x.keep b hb ho hl)
 owns b hb o:=x.owns b hb (y.owns b (gX hb x.size) o)
 names n a h h0:=by
  cases e:G'.at_ n with
  |none=>have:=y.names n a h e;omega
  |some b=>have:=x.names n b e h0;omega
 cells b o v hb h h0:=by
  cases e:G'.ro b o with
  |none=>exact x.owns b hb (y.cells b o v (gX hb x.size) h e)
  |some u=>exact x.cells b o u hb e h0
 quiet:=x.quiet.trans y.quiet
def iV.widen{lo' hi':Nat}(x:iV G h w G' h' w' lo hi L)(h1:lo'<=lo)(h2:hi<=hi'):iV G h w G' h' w' lo' hi' L:=
 ⟨x.le,x.size,x.keep,x.owns,fun n a e e0=>by have:=x.names n a e e0;omega,x.cells,x.quiet⟩
end
def OI{G'':Gh}{h' h'':aZ bf}{w'':World}{d d' d'':List Deferred}{lo l1 l2:Nat}(wr:WR G' h' w')(fx:cy G' h' B' fr' tmps w')(x: ∃rs,d'=rs.map uZ++d/\un lo w' rs)(hlo:lo<=w'.heap.size)(ex:iV G' h' w' G'' h'' w'' l1 l2 (LB B' fr'.loc))(y: ∃rs,d''=rs.map uZ++d'/\un w'.heap.size w'' rs):
 ∃rs,d''=rs.map uZ++d/\un lo w'' rs:=by
 obtain⟨rx,x1,x2⟩:=x;obtain⟨ry,y1,y2⟩:=y;have keep: ∀r∈rx,w''.heap[r]? =some (.deferred (some [])):=fun r hr=>by
  have h1:=(x2.at_ r hr).2;exact(ex.keep r (fQ h1) (wr.not_deferred h1) (fx.not_LB h1 trivial)).trans h1
 refine⟨ry++rx,by rw[y1,x1];simp,⟨?_,?_⟩⟩;rw[List.nodup_append];refine⟨y2.nodup,x2.nodup,fun r hr q hq e=>?_⟩;subst e;have h1:=(y2.at_ r hr).1;have h2:=fQ (x2.at_ r hq).2;omega;intro r hr;rcases List.mem_append.1 hr with hr|hr
 exact⟨fh hlo (y2.at_ r hr).1,(y2.at_ r hr).2⟩;exact⟨(x2.at_ r hr).1,keep r hr⟩
structure oL (mk:aW) (fr:Fr) (G:Gh) (B:Nat->Nat) (s s2:St) (a:Act) (w:World) (fr':Fr) (G':Gh) (B':Nat->Nat) (s' s2':St) (a':Act) (w':World):Prop where
 goes:fL mk s s'
 same:gg mk s s' s2 s2'
 wr:WR G' s2'.heap w'
 ext:iV G s2.heap w G' s2'.heap w' s.al s'.al (LB B fr.loc)
 fx:cy G' s2'.heap B' fr' a'.tmps w'
 boxes: ∀b,LB B' fr'.loc b->LB B fr.loc b\/w.heap.size<=b
 defers: ∃rs,a'.defers=rs.map uZ++a.defers/\un w.heap.size w' rs
section
variable{mk:aW}{A:Nat->Prop}{fr fr' fr'':Fr}{G G' G'':Gh}{B B' B'':Nat->Nat}{s s' s'' s2 s2' s2'':St}{a a' a'':Act}{w w' w'':World}
def oL.refl(p:mj mk A G s s2 w)(fx:cy G s2.heap B fr a.tmps w):oL mk fr G B s s2 a w fr G B s s2 a w where
 goes:=.refl _ _
 same:=.refl p.sees
 wr:=p.wr
 ext:=cM.refl.toL _
 fx:=fx
 boxes _ h:=.inl h
 defers:=⟨[],rfl,.nil _ _⟩
def oL.trans(x:oL mk fr G B s s2 a w fr' G' B' s' s2' a' w')(y:oL mk fr' G' B' s' s2' a' w' fr'' G'' B'' s'' s2'' a'' w''):
 oL mk fr G B s s2 a w fr'' G'' B'' s'' s2'' a'' w'' where
 goes:=x.goes.trans y.goes
 same:=.trans x.goes y.goes x.same y.same
 wr:=y.wr
 ext:=x.ext.trans y.ext x.boxes x.goes.al y.goes.al
 fx:=y.fx
 boxes b h:=by
  rcases y.boxes b h with h|h
  exact x.boxes b h;exact .inr (fh x.ext.size h)
 defers:=OI x.wr x.fx x.defers x.ext.size y.ext y.defers
def mj.after(p:mj mk A G s s2 w)(x:oL mk fr G B s s2 a w fr' G' B' s' s2' a' w'):mj mk A G' s' s2' w' where
 fresh:=p.fresh.goes x.goes
 sees:=x.same.sees p.sees x.goes
 wr:=x.wr
 free m hm hA:=by
  cases e:G'.at_ m with
  |none=>rfl
  |some ad=>
   have h0:=p.free m (fh x.goes.al hm) hA
   have:=x.ext.names m ad e h0;omega
def Ij(a:Act)(d:Option Tmp)(v:Value):(a.put d v).defers=a.defers:=by
 cases d<;>rfl
end
variable{a:Act}{fr1:Fr}{G:Gh}
section
variable{α β:Type}
def rJ(Q:bF)(A:Nat->Prop)(ch:Nat->Nat)(s:St)(E:(Nat->Nat)->Option (α×Fr×St)):Prop:=
 ∀ch',kU s.ci ch ch'->lF Q ch'-> ∃x fr' s',E ch'=some (x,fr',s')/\ ∀m,s.al<=m->m<s'.al->A m
def td(Q:bF)(mk:aW)(ch:Nat->Nat)(fr:Fr)(G:Gh)(B:Nat->Nat)(s s2:St)(a:Act)(w:World)(E:(Nat->Nat)->Option (α×Fr×St))(x:α)(a':Act)(w':World):Prop:=
 ∃ch' fr' s' s2' G' B',kU s.ci ch ch'/\lF Q ch'/\E ch'=some (x,fr',s')/\oL mk fr G B s s2 a w fr' G' B' s' s2' a' w'
def HY(E:(Nat->Nat)->Option (α×Fr×St)):Prop:= ∀ch x fr' s',E ch=some (x,fr',s')-> ∀ch',kU s'.ci ch ch'->E ch'=some (x,fr',s')
variable{Q:bF}{A:Nat->Prop}{ch ch1:Nat->Nat}{s s1:St}{E1:(Nat->Nat)->Option (α×Fr×St)}{E2:α->Fr->St->(Nat->Nat)->Option (β×Fr×St)}
def rJ.first(hs:rJ Q A ch s (fun c=>(E1 c).bind fun r=>E2 r.1 r.2.1 r.2.2 c))(g: ∀x fr' s' c y fr'' s'',E2 x fr' s' c=some (y,fr'',s'')->s'.al<=s''.al):rJ Q A ch s E1:=by
 intro ch' h1 h2;obtain⟨x,fr',s',h3,h4⟩:=hs ch' h1 h2;simp only[az] at h3;obtain⟨⟨x1,fr1,s1⟩,h5,h6⟩:=h3;exact⟨x1,fr1,s1,h5,fun m hm hm'=>h4 m hm (gX hm' (g _ _ _ _ _ _ _ h6))⟩
def rJ.second(hs:rJ Q A ch s (fun c=>(E1 c).bind fun r=>E2 r.1 r.2.1 r.2.2 c))(ho:HY E1){x:α}(hag:kU s.ci ch ch1)(e1:E1 ch1=some (x,fr1,s1))(hci:s.ci<=s1.ci)(hnx:s.al<=s1.al):
 rJ Q A ch1 s1 (E2 x fr1 s1):=by
 intro ch' h1 h2;obtain⟨y,fr',s',h3,h4⟩:=hs ch' (hag.trans h1 hci) h2
 have:=ho ch1 x fr1 s1 e1 ch' h1;simp only[this,bn] at h3;exact⟨y,fr',s',h3,fun m hm=>h4 m (fh hnx hm)⟩
def td.second{G1:Gh}{B1:Nat->Nat}{s21:St}{a1 a':Act}{w1:World}{x:α}{y:β}(ho:HY E1)(hag:kU s.ci ch ch1)(e1:E1 ch1=some (x,fr1,s1))(af:oL mk fr G B s s2 a w fr1 G1 B1 s1 s21 a1 w1)(p:td Q mk ch1 fr1 G1 B1 s1 s21 a1 w1 (E2 x fr1 s1) y a' w'):
 td Q mk ch fr G B s s2 a w (fun c=>(E1 c).bind fun r=>E2 r.1 r.2.1 r.2.2 c) y a' w':=by
 obtain⟨ch',fr',s',s2',G',B',h1,h2,h3,h4⟩:=p;refine⟨ch',fr',s',s2',G',B',hag.trans h1 af.goes.ci,h2,?_,af.trans h4⟩;simp only[ho ch1 x fr1 s1 e1 ch' h1,bn];exact h3
end
def Ex.to:Ex->Exit
 | .normal=>.normal
 | .exit id=>.exit id
 | .ret=>.ret
noncomputable def lh(Q:bF)(n:Nat)(f:FuncId)(c:Code)(mk:aW)(fr:Fr)(s:St)(ch:Nat->Nat):Option (Ex×Fr×St):=(cd (Q.at ch) n).code f c mk fr s
def vO(ro:Option Nat)(G:Gh)(h:aZ bf)(w:World):Prop:= ∀l,ro=some l->(∃r:Loop,w.heap[l]? =some (.loop r))/\ ¬d7 G h l
def vO.none:vO .none G h w:=fun _ h=>by cases h
def vO.after{ro:Option Nat}{a':Act}(h:vO ro G s2.heap w)(fx:cy G s2.heap B fr a.tmps w)(x:oL mk fr G B s s2 a w fr' G' B' s' s2' a' w'):vO ro G' s2'.heap w':=fun l hl=>by
 obtain⟨⟨r,h1⟩,h2⟩:=h l hl;have h3:=fQ h1;exact⟨⟨r,(x.ext.keep l h3 h2 (fx.not_LB h1 trivial)).trans h1⟩,fun o=>h2 (x.ext.owns l h3 o)⟩
def rG(Q:bF)(n:Nat):Prop:=
 ∀(ro:Option Nat) (f:FuncId) (c:Code) (mk:aW) (fr:Fr) (ch:Nat->Nat) (A:Nat->Prop) (G:Gh) (B:Nat->Nat) (s s2:St) (a:Act) (w:World),(ro≠none->eJ c=true)->vO ro G s2.heap w->
  mj mk A G s s2 w->cy G s2.heap B fr a.tmps w->lF Q ch->rJ Q A ch s (lh Q n f c mk fr s)->
  ∀K:Exit->Act->World->Prop,(∀x a' w',td Q mk ch fr G B s s2 a w (lh Q n f c mk fr s) x a' w'->K x.to a' w')->
   c.wpIn (mr ro) 0 Q.P K a w/\ ∀b,c= .loop b->Code.roundsIn (mr ro) 0 Q.P b K n a w
def IM(Q:bF)(n:Nat)(f:FuncId)(c:Code)(mk:aW)(fr:Fr)(s:St):HY (lh Q n f c mk fr s):=
 fun ch x fr' s' h ch' hag=>(sh Q n).code f c mk fr ch s x fr' s' h ch' hag
def OE{c:Code}{x:Ex}(h:lh Q n f c mk fr s ch=some (x,fr',s')):fL mk s s':=
 ((lS Q n).code f c mk fr ch s x fr' s' h).1
structure NC (Q:bF) (n:Nat) (m:Nat) (args:List ae) (mk:aW) (ch:Nat->Nat) (G:Gh) (s s2:St) (w:World) (y:Value) (w':World)
 (ch':Nat->Nat) (v:ae) (s' s2':St) (G':Gh):Prop where
 agree:kU s.ci ch ch'
 inb:lF Q ch'
 eval:nc (cd (Q.at ch') n) m args mk s=some (v,s')
 same:gg mk s s' s2 s2'
 wr:WR G' s2'.heap w'
 ext:cM G s2.heap w G' s2'.heap w' s.al s'.al
 val:VR G' v y
variable{xs:List Value}{args:List ae}{A:Nat->Prop}
def amX(hcs:rG Q n)(ro:Option Nat){m:Nat}(p:mj mk A G s s2 w)(hv:bP G args xs)(hi:lF Q ch){ad:Addr}(hm:G.at_ m=some ad)(hs: ∀ch',kU s.ci ch ch'->lF Q ch'-> ∃v s',nc (cd (Q.at ch') n) m args mk s=some (v,s')/\ ∀q,s.al<=q->q<s'.al->A q):
 ∃rec:Loop,w.heap[ad.block]? =some (.loop rec)/\xs.length=rec.params.size/\
  RoundIn (mr ro) 0 Q.P ad.block rec.fn ((rec.params.zip ⟨xs⟩).foldl (fun tmps (t,a)=>tmps.setIfInBounds t a) rec.tmps) rec.assign rec.body w
   (fun e w'=> ∃y,e= .returned y/\ ∃ch' v s' s2' G',NC Q n m args mk ch G s s2 w y w' ch' v s' s2' G'):=by
 obtain⟨v0,s0,h0,_⟩:=hs ch (.refl _ _) hi;simp only[nc,az] at h0;obtain⟨o,ho,⟨u,o',s3⟩,hin,_⟩:=h0;unfold yI at hin;split at hin
 case h_2=>cases hin
 rename_i f env size ps a b;obtain⟨hps,hin⟩:=bm hin;simp only[az] at hin;obtain⟨env',henv,_⟩:=hin;have ho2:=(qO (p.sees.look ho)).2;obtain⟨ad',hm',hsp,rec,hrec,hL⟩:=p.wr.obj m _ ho2;rw[hm] at hm';injection hm' with hm';subst hm'
 have g1:=fL.put ho (mk:=mk) none;have y1:iG mk (s.put m none) (s2.put m none):=(gg.put p.sees ho none).sees p.sees g1;have wr1:WR G (s2.put m none).heap w:=p.wr.killed m;have hno: ¬d7 G (s2.put m none).heap ad.block:=Gs p.wr (by rw[ho2];simp) hm;have howned:d7 G s2.heap ad.block:=⟨m,ad,by rw[ho2];simp,hm,rfl⟩;have hl:=fQ hrec;have p1:mj mk A G (s.put m none) (s2.put m none) w:=⟨p.fresh.goes g1,y1,wr1,p.free⟩;have hps': ∀t∈ps,t<size:=fun t ht=>oQ (fY.1 hps t ht);obtain⟨hlen,hsz,henvR⟩:=UU henv hv hps' hL.size hL.env;have hfold:(rec.params.zip ⟨xs⟩).foldl (fun tmps (t,a)=>tmps.setIfInBounds t a) rec.tmps=(ps.zip xs).foldl (fun tmps (t,a)=>tmps.setIfInBounds t a) rec.tmps:=by
  rw[<-hL.params];have:rec.params.zip (⟨xs⟩:Array Value)=(⟨rec.params.toList.zip xs⟩:Array (Tmp×Value)):=by apply nf;simp
  rw[this];simp
 have hparams:rec.params.size=ps.length:=by rw[<-hL.params];simp
 have hnil: ∀t,Loc.get [] t (Loc.gen [] t)=none:=fun t=>rfl;have fx1:cy G (s2.put m none).heap (fun _=>0) ⟨env',size,[]⟩ ((ps.zip xs).foldl (fun tmps (t,a)=>tmps.setIfInBounds t a) rec.tmps) w:=
  ⟨hsz,fun t=>LV.of_VR (henvR t),⟨(fun t cs h=>by cases h),(fun t cs h=>by cases h),(fun t cs h=>by cases h),(fun t u cs ds h=>by cases h)⟩⟩
 have hev: ∀c,nc (cd (Q.at c) n) m args mk s=((lh Q n f a mk ⟨env',size,[]⟩ (s.put m none) c).bind (wX (cd (Q.at c) n) f env size ps a b mk)).bind fun x=>some (x.1,x.2.2.put m (some x.2.1)):=by
  intro c;simp only[nc,ho,bn,yI,hps,cT,henv];rfl
 refine⟨rec,hrec,by rw[hlen,hparams],?_⟩;rw[hfold,hL.assign,hL.body];refine roundIn_of_wpIn (xI ro _) ?_;rw[abq];refine(hcs (some ad.block) f a mk ⟨env',size,[]⟩ ch A G (fun _=>0) (s.put m none) (s2.put m none) ⟨_,[]⟩ w (fun _=>hL.flatA) (fun l hl=>by injection hl with hl;subst hl;exact⟨⟨rec,hrec⟩,hno⟩) p1 fx1 hi ?_ _ ?_).1;intro c h1 h2;obtain⟨v,s',h3,h4⟩:=hs c h1 h2;rw[hev] at h3;simp only[az,aP,bj] at h3;obtain⟨⟨u,o',s5⟩,⟨⟨x,fr',s4⟩,h5,h6⟩,_,rfl⟩:=h3;refine⟨x,fr',s4,h5,fun q hq hq'=>h4 q hq (gX hq' ?_)⟩;cases x with
 |exit i=>cases h6
 |ret=>cases h6
 |normal=>
  simp only[wX,az] at h6;obtain⟨⟨x2,fr2,s6⟩,h7,h8⟩:=h6;have e6:s6=s5:=by cases x2<;>(simp only[yH,aP,bj] at h8;exact h8.2.2)
  subst e6;exact(OE (Q:=Q) (n:=n) (ch:=c) h7).al
 rintro x a1 w1 ⟨c1,fr1,s3,s23,G1,B1,ag1,in1,e1,af1⟩;obtain⟨v,s',h3,h4⟩:=hs c1 ag1 in1;have h3':=h3;rw[hev,e1] at h3;simp only[bn,az,aP,bj] at h3;obtain⟨⟨u,o',s5⟩,h6,_,rfl⟩:=h3;have hnL: ¬LB (fun _=>0) ([]:Loc) ad.block:=fun⟨t,cs,h,_⟩=>by cases h
 have keep1:w1.heap[ad.block]? =some (.loop rec):=(af1.ext.keep _ hl hno hnL).trans hrec;have hno1: ¬d7 G1 s23.heap ad.block:=fun o=>hno (af1.ext.owns _ hl o);cases x with
 |exit i=>cases h6
 |ret=>cases h6
 |normal=>
  refine⟨_,run_beginRound keep1 hL.state,?_⟩;rw[LX];have p1':=p1.after af1;have p2:mj mk A G1 s3 s23 (dx w1 ad.block (.loop {rec with state:=.busy })):=⟨p1'.fresh,p1'.sees,p1'.wr.aside keep1 trivial hno1,p1'.free⟩;have fx2:cy G1 s23.heap B1 fr1 a1.tmps (dx w1 ad.block (.loop {rec with state:=.busy })):=af1.fx.aside keep1 trivial;have hl1:=fQ keep1;have hb1:(dx w1 ad.block (.loop {rec with state:=.busy })).heap[ad.block]? =some (.loop {rec with state:=.busy }):=by rw[jb _ _ _ _ hl1,iP rfl]
  refine(hcs (some ad.block) f b mk fr1 c1 A G1 B1 s3 s23 a1 _ (fun _=>hL.flatB) (fun l hl=>by injection hl with hl;subst hl;exact⟨⟨_,hb1⟩,hno1⟩) p2 fx2 in1 ?_ _ ?_).1;intro c h1 h2;obtain⟨v,s',h7,h8⟩:=hs c (ag1.trans h1 af1.goes.ci) h2;rw[hev,IM Q n f a mk _ _ c1 _ _ _ e1 c h1] at h7;simp only[bn,az,aP,bj,wX] at h7;obtain⟨⟨u,o',s6⟩,⟨⟨x2,fr2,s7⟩,h9,h10⟩,_,rfl⟩:=h7;refine⟨x2,fr2,s7,h9,fun q hq hq'=>h8 q (fh af1.goes.al hq) ?_⟩;have e6:s7=s6:=by cases x2<;>(simp only[yH,aP,bj] at h10;exact h10.2.2)
  subst e6;exact hq';rintro x2 a2 w3 ⟨c2,fr2,s6,s26,G2,B2,ag2,in2,e2,af2⟩;have keep2:w3.heap[ad.block]? =some (.loop {rec with state:=.busy }):=(af2.ext.keep _ (by rw[Ak];exact hl1) hno1 (fx2.not_LB hb1 trivial)).trans hb1;have hno2: ¬d7 G2 s26.heap ad.block:=fun o=>hno1 (af2.ext.owns _ (by rw[Ak];exact hl1) o);have hm2:G2.at_ m=some ad:=af2.ext.le.at_ _ _ (af1.ext.le.at_ _ _ hm);have fin: ∀(jump:Option Code) (pe:Option Ex),jump=pe.map Ex.code->yH f env size ps a b (x2,fr2,s6)=some (.bool jump.isNone,.loop f env size ps a b pe,s6)->
   ∃v w',(Instr.endRound ad.block jump).run Q.P w3= .ok v w'/\ ∃y,Ending.returned v= .returned y/\ ∃ch' v s' s2' G',NC Q n m args mk ch G s s2 w y w' ch' v s' s2' G':=by
   intro jump pe hj hy2;refine⟨_,_,run_endRound jump keep2,_,rfl,c2,.bool jump.isNone,s6.put m (some (.loop f env size ps a b pe)),s26.put m (some (.loop f env size ps a b pe)),G2,?_⟩;rw[LX];have hext:iV G s2.heap w G2 s26.heap w3 s.al s6.al (fun _=>False):=by
    have x0:cM G s2.heap w G (s2.put m none).heap w s.al s.al:=cM.killed;have x1:iV G s2.heap w G1 s23.heap (dx w1 ad.block (.loop {rec with state:=.busy })) s.al s3.al (fun _=>False):=
     ((x0.toL fun _=>False).trans af1.ext (fun b h=>by obtain⟨t,cs,h,_⟩:=h;cases h) (aU _) af1.goes.al).aside keep1 trivial trivial (fun _=>howned)
    exact x1.trans af2.ext (fun b h=>by
     rcases af1.boxes b h with h|h
     obtain⟨t,cs,h,_⟩:=h;cases h;exact .inr h) af1.goes.al af2.goes.al
   refine⟨ag1.trans ag2 af1.goes.ci,in2,?_,(gg.trans af1.goes af2.goes af1.same af2.same).hide p.sees ho _,?_,?_,.bool _⟩;rw[hev,IM Q n f a mk _ _ c1 _ _ _ e1 c2 ag2];have e2:(cd (Q.at c2) n).code f b mk fr1 s3=some (x2,fr2,s6):=e2;simp only[bn,wX,e2,hy2];refine(af2.wr.aside keep2 trivial hno2).back hm2 hsp hno2 ⟨_,by rw[jb _ _ _ _ (fQ keep2),iP rfl],?_⟩ (af2.wr.aside_ro keep2 trivial);refine⟨?_,hj,hL.size,fun t=>(hL.env t).mono (af1.ext.le.trans af2.ext.le),hL.params,hL.assign,hL.body,hL.flatA,hL.flatB⟩;cases pe<;>(subst hj;rfl);have x2:=(hext.toExt fun _ h=>h).aside (ob:=.loop { {rec with state:=.busy } with state:=if jump.isNone then .ready else .done,pending:=jump }) keep2 trivial trivial (fun _=>howned);exact⟨x2.le,x2.size,x2.keep,fun c hc o=>by
    rcases alt hm2 o with rfl|o
    exact howned;exact x2.owns c hc o,x2.names,x2.cells,x2.quiet⟩
  cases x2 with
  |normal=>exact fin none none rfl rfl
  |exit id=>exact fin (some (.exit id)) (some (.exit id)) rfl rfl
  |ret=>exact fin (some .ret) (some .ret) rfl rfl
structure HX (Q:bF) (n:Nat) (f:FuncId) (o:Oper) (mk:aW) (fr:Fr) (ch:Nat->Nat) (G:Gh) (B:Nat->Nat) (s s2:St) (w:World) (x:Value) (w':World)
 (ch':Nat->Nat) (v:ae) (loc':Loc) (s' s2':St) (G':Gh) (B':Nat->Nat):Prop where
 agree:kU s.ci ch ch'
 inb:lF Q ch'
 eval:fw (Q.at ch') (cd (Q.at ch') n) f o mk fr s=some (v,loc',s')
 same:gg mk s s' s2 s2'
 wr:WR G' s2'.heap w'
 ext:iV G s2.heap w G' s2'.heap w' s.al s'.al (LB B fr.loc)
 locs:pO G' s2'.heap B' loc' w'
 val:LV G' loc' B' v x
 old: ∀u y,LV G fr.loc B u y->LV G' loc' B' u y
 boxes: ∀b,LB B' loc' b->LB B fr.loc b\/w.heap.size<=b
def aj5{it:ae}{b:Bool}{r:ae×St}(h:lV mk ch kmax it b s=some r)(h2:2<=jI mk it s):jI mk it s<=kmax s.ci:=by
 unfold lV at h;split at h;rename_i n;simp only[az] at h;obtain⟨ob,hob,h⟩:=h;split at h;simp[jI,hob] at h2;rename_i m since seen stepped;cases b;simp only[cF,az] at h;obtain⟨ob2,hob2,h⟩:=h;split at h;rename_i es clock;have hc:jI mk (.ptr n 0) s=(cX seen es).length:=by simp[jI,hob,hob2]
 rw[hc] at h2 ⊢;rcases gh h with⟨_,h⟩|⟨_,h⟩
 cases h;generalize cX seen es=l at h h2;unfold pg at h;split at h;simp at h2;obtain⟨_,h⟩:=bm h;split at h;simp at h2;obtain⟨h,_⟩:=bm h;exact ju h;cases h;cases h;cases h;cases h
def TL(hc:vJ Q n)(hcs:rG Q n)(ro:Option Nat)(p:mj mk A G s s2 w)(fx:cy G s2.heap B fr a.tmps w)(hi:lF Q ch)(he: ∀ch',kU s.ci ch ch'->lF Q ch'-> ∃v loc' s',fw (Q.at ch') (cd (Q.at ch') n) f o mk fr s=some (v,loc',s')/\ ∀m,s.al<=m->m<s'.al->A m)(K:Act->World->Prop)(E:Exit->Act->World->Prop)(hK: ∀x w' ch' v loc' s' s2' G' B',HX Q n f o mk fr ch G B s s2 w x w' ch' v loc' s' s2' G' B'->K (a.put o.dst x) w'):o.wpIn (mr ro) 0 Q.P a w K E:=by
 have hloc:bI mk (fun ch s=>fw (Q.at ch) (cd (Q.at ch) n) f o mk fr s):=BX (Q:=Q) (lS Q n) f o mk fr;have plain:(∀c,o.op≠ .defer c)->(∀ch' s,fw (Q.at ch') (cd (Q.at ch') n) f o mk fr s=lI Q.P mk ch' Q.kmax (Q.hint f) o.dst o.op fr s)->o.wpIn (mr ro) 0 Q.P a w K E:=by
  intro hnd hop;have hch: ∃ch',kU s.ci ch ch'/\lF Q ch'/\ ∀x b xv,o.op= .next x b->evc fr.env x=some xv->2<=jI mk xv s2->
   ch' s2.ci % jI mk xv s2=(w.tape w.drawn (.mapNext (jI mk xv s2))) % jI mk xv s2:=by
   by_cases hn: ∃x b xv,o.op= .next x b/\evc fr.env x=some xv/\2<=jI mk xv s2
   obtain⟨x,b,xv,hx1,hx2,hx3⟩:=hn;obtain⟨v,loc',s',h1,_⟩:=he ch (.refl _ _) hi;obtain⟨s2',h3,_⟩:=(hloc ch s v loc' s' h1).2 ch s2 (fun _ _=>rfl) p.sees;have hle:jI mk xv s2<=Q.kmax s.ci:=by
    have h3:fw (Q.at ch) (cd (Q.at ch) n) f o mk fr s2=some (v,loc',s2'):=h3;rw[hop,hx1] at h3;simp only[lI,hx2,bn,gH,az] at h3;obtain⟨r,hr,_⟩:=h3;rw[<-p.sees.ci];exact aj5 hr hx3
   refine⟨fun i=>if i=s.ci then(w.tape w.drawn (.mapNext (jI mk xv s2))) % jI mk xv s2 else ch i,?_,?_,?_⟩;intro i hi';simp only;rw[iN (by omega)];intro i;simp only;split;rename_i e;subst e;exact gX (Nat.mod_lt _ (by omega)) hle;exact hi i;intro x' b' xv' hx1' hx2' _;rw[hx1] at hx1';injection hx1' with e1 e2
   subst e1;rw[hx2] at hx2';injection hx2' with e3
   subst e3;simp only;rw[iP p.sees.ci,Nat.mod_mod];exact⟨ch,.refl _ _,hi,fun x b xv h1 h2 h3=>absurd ⟨x,b,xv,h1,h2,h3⟩ hn⟩
  obtain⟨ch',hag,hin,hch⟩:=hch;obtain⟨v,loc',s',h1,h2⟩:=he ch' hag hin;obtain⟨g,hl⟩:=hloc ch' s v loc' s' h1;obtain⟨s2',h3,h4⟩:=hl ch' s2 (fun _ _=>rfl) p.sees;have h3':lI Q.P mk ch' Q.kmax (Q.hint f) o.dst o.op fr s2=some (v,loc',s2'):=by rw[<-hop];exact h3
  have hpost:=XH p.wr fx h3' (fun m hm1 hm2=>p.free m (by rw[<-p.sees.al];exact hm1) (h2 m (by rw[<-p.sees.al];exact hm1) (by rw[<-h4.al];exact hm2))) hch;obtain⟨nx,x,w',G',B',r1,r2,r3,r4,r5,r6,r7,r8⟩:=hpost;have r4':iV G s2.heap w G' s2'.heap w' s.al s'.al (LB B fr.loc):=by rw[<-p.sees.al,<-h4.al];exact r4
  have hk:=hK x w' ch' v loc' s' s2' G' B' ⟨hag,hin,h1,h4,r3,r4',r5,r6,r7,r8⟩;refine⟨fun _ _=>xI ro _,?_⟩;rw[Oper.semAt_eq _ _ _ hnd,r1];rcases r2 with rfl|⟨rfl,rfl⟩<;>exact hk
 cases hop:o.op
 case call c=>
  cases hcl:c.callee with
  |builtin b=>exact plain (fun c h=>by rw[hop] at h;cases h) fun ch' s=>by simp only[fw,hop,hcl,lI];rfl
  |invoke x y=>
   obtain⟨v,loc',s',h1,_⟩:=he ch (.refl _ _) hi;simp[fw,hop,hcl,nm,callee,n9] at h1
  |value g=>
   have hnd: ∀c,o.op≠ .defer c:=fun c h=>by rw[hop] at h;cases h
   cases hyld:n9 fr.env c with
   |true=>
    have heval: ∀ch' s,fw (Q.at ch') (cd (Q.at ch') n) f o mk fr s=rq (cd (Q.at ch') n) c mk fr s:=fun ch' s=>by simp only[fw,hop,hcl,hyld,cT]
    obtain⟨v0,loc0,s0,h0,_⟩:=he ch (.refl _ _) hi;rw[heval] at h0;simp only[rq,az] at h0;obtain⟨⟨m,args⟩,hyee,_⟩:=h0;have hyee':=hyee;simp only[yieldee,hcl,az] at hyee;obtain⟨gv,hg,hyee⟩:=hyee;have hgl:=fx.ev hg;cases gv<;>try (cases hyee;done)
    rename_i m';simp only[az,aP,bj] at hyee;obtain⟨as,has,rfl,rfl⟩:=hyee;have hgl:VR G (.yld m') (a.eval g):=hgl;generalize hgx:a.eval g=gx at hgl;cases hgl with
    |yld hm=>
     rename_i ad;have hargs:=(fx.evcs has).1;obtain⟨rec,q1,q2,q3⟩:=amX hcs ro p hargs hi hm (fun ch' ha hb=>by
      obtain⟨v,loc',s',h1,h2⟩:=he ch' ha hb;rw[heval] at h1;simp only[rq,hyee',bn,az,aP,bj] at h1;obtain⟨⟨v1,s1⟩,h3,rfl,rfl,rfl⟩:=h1;exact⟨v1,s1,h3,h2⟩)
     have hrun:(execOp a.eval o).run Q.P w= .ok (.round ad.block rec.fn ((rec.params.zip ⟨c.args.toList.map a.eval⟩).foldl (fun tmps (t,a)=>tmps.setIfInBounds t a) rec.tmps) rec.assign rec.body) w:=by
      have hsz:(⟨c.args.toList.map a.eval⟩:Array Value).size=rec.params.size:=by rw[<-q2];rfl
      have:=run_yield (P:=Q.P) (args:=⟨c.args.toList.map a.eval⟩) q1 hsz;have e:(#[]:Array Value)++c.args.map a.eval=⟨c.args.toList.map a.eval⟩:=by apply nf;simp
      simp only[execOp,hop,resolve,hcl,hgx,Deferred.ofValue,Sem.run_bind,Sem.run_pure,iU,invoke,e];exact this
     refine⟨fun _ _=>xI ro _,?_⟩;rw[Oper.semAt_eq _ _ _ hnd,hrun];refine⟨I7 ro 0,q3.mono ?_⟩;rintro e w' ⟨y,rfl,ch',v,s',s2',G',c1⟩;refine hK y w' ch' v fr.loc s' s2' G' B ⟨c1.agree,c1.inb,?_,c1.same,c1.wr,c1.ext.toL _,fx.locs.ext c1.ext,LV.of_VR c1.val,fun _ _ h=>h.mono c1.ext.le,fun _ h=>.inl h⟩;rw[heval];simp only[rq,hyee',bn,c1.eval]
   |false=>
   have heval: ∀ch' s,fw (Q.at ch') (cd (Q.at ch') n) f o mk fr s=nm (cd (Q.at ch') n) c mk fr s:=fun ch' s=>by simp only[fw,hop,hcl,hyld,cF]
   obtain⟨v0,loc0,s0,h0,_⟩:=he ch (.refl _ _) hi;rw[heval] at h0;simp only[nm,az] at h0;obtain⟨⟨fn,args⟩,hcallee,_⟩:=h0;have hcallee':=hcallee;simp only[callee,hcl,az] at hcallee;obtain⟨gv,hg,hcallee⟩:=hcallee;have hgl:=fx.ev hg;cases gv<;>try (cases hcallee;done)
   rename_i fn' first captured
   cases fn'<;>try (cases hcallee;done)
   rename_i fid;simp only[az] at hcallee;obtain⟨as,has,hcallee⟩:=hcallee;simp only[aP,bj] at hcallee;obtain⟨rfl,rfl⟩:=hcallee;have hgl:VR G (.func (.func fid) first captured) (a.eval g):=hgl;generalize hgx:a.eval g=gx at hgl;cases hgl with
   |func hf hcap=>
    rename_i fs cs;have hargs:=(fx.evcs has).1;have hall:bP G (first++(as++captured)) (fs++(c.args.toList.map a.eval++cs)):=hf.append (hargs.append hcap);have hrun:(execOp a.eval o).run Q.P w=(callFunc fid ⟨fs++(c.args.toList.map a.eval++cs)⟩).run Q.P w:=by
     have:(((⟨fs⟩:Array Value)++c.args.map a.eval)++(⟨cs⟩:Array Value))=⟨fs++(c.args.toList.map a.eval++cs)⟩:=by
      apply nf;simp
     simp only[execOp,hop,resolve,hcl,hgx,Deferred.ofValue,Sem.run_bind,Sem.run_pure,iU,invoke,this]
    have hcs':=hc fid (first++(as++captured)) mk s s2 G w _ ch A p hall hi (fun ch' ha hb=>by
     obtain⟨v,loc',s',h1,h2⟩:=he ch' ha hb;rw[heval] at h1;simp only[nm,hcallee',bn,az] at h1;obtain⟨⟨v1,s1⟩,h3,h1⟩:=h1;simp only[aP,bj] at h1;obtain⟨rfl,rfl,rfl⟩:=h1;exact⟨v1,s1,h3,h2⟩)
    have fin: ∀y w',(∃ch' v s' s2' G',CW Q n fid (first++(as++captured)) mk ch G s s2 w y w' ch' v s' s2' G')->K (a.put o.dst y) w':=by
     rintro y w' ⟨ch',v,s',s2',G',c⟩;refine hK y w' ch' v fr.loc s' s2' G' B ⟨c.agree,c.inb,?_,c.same,c.wr,c.ext.toL _,fx.locs.ext c.ext,LV.of_VR c.val,fun _ _ h=>h.mono c.ext.le,fun _ h=>.inl h⟩;rw[heval];simp only[nm,hcallee',bn,c.eval]
    refine⟨fun _ _=>xI ro _,?_⟩;rw[Oper.semAt_eq _ _ _ hnd,hrun];rcases hcs' with⟨y,w',h1,h2⟩|⟨h1,h2⟩
    rw[h1];exact fin y w' h2;rw[h1];refine⟨I7 ro 0,OX.2 (h2.mono ?_)⟩;rintro e w' ⟨y,rfl,h3⟩;exact fin y w' h3
 case defer c=>
  obtain⟨v,loc',s',h1,_⟩:=he ch (.refl _ _) hi;simp only[fw,hop,lI] at h1;cases h1
 all_goals exact plain (fun c h=>by rw[hop] at h;cases h) fun ch' s=>by simp only[fw,hop];rfl
section
variable{mk:aW}{A:Nat->Prop}{fr fr' fr'':Fr}{G G' G'':Gh}{B B' B'':Nat->Nat}{s s' s'' s2 s2' s2'':St}{a a' a'':Act}{w w' w'':World}
def HX.after{ch':Nat->Nat}{loc':Loc}(fx:cy G s2.heap B fr a.tmps w)(q:HX Q n f o mk fr ch G B s s2 w x w' ch' v loc' s' s2' G' B')(hp:di fr o.dst v loc'=some fr'):
 oL mk fr G B s s2 a w fr' G' B' s' s2' (a.put o.dst x) w' where
 goes:=(BX (Q:=Q) (lS Q n) f o mk fr ch' s v loc' s' q.eval).1
 same:=q.same
 wr:=q.wr
 ext:=q.ext
 fx:=fx.put hp q.locs q.val q.old
 boxes b h:=q.boxes b (by rw[(sN hp).2.1] at h;exact h)
 defers:=⟨[],Ij _ _ _,.nil _ _⟩
def MC(G:Gh):VR G fX undef:=.tup .nil
def oL.skip(p:mj mk A G s s2 w)(fx:cy G s2.heap B fr a.tmps w)(hp:di fr dst fX fr.loc=some fr'):
 oL mk fr G B s s2 a w fr' G B s s2 (a.put dst undef) w where
 goes:=.refl _ _
 same:=.refl p.sees
 wr:=p.wr
 ext:=cM.refl.toL _
 fx:=fx.put hp fx.locs (LV.of_VR (MC G)) fun _ _ h=>h
 boxes b h:=.inl (by rw[(sN hp).2.1] at h;exact h)
 defers:=⟨[],Ij _ _ _,.nil _ _⟩
end
noncomputable def tK(Q:bF)(n:Nat)(f:FuncId)(all:Array Oper)(mk:aW)(l:List Oper)(fr:Fr)(s:St)(ch:Nat->Nat):Option (Ex×Fr×St):=
 ((cd (Q.at ch) n).ops f all mk l fr s).bind fun x=>some (.normal,x.1,x.2)
def C7(Q:bF)(n:Nat):Prop:=
 ∀(ro:Option Nat) (f:FuncId) (all:Array Oper) (mk:aW) (l:List Oper) (i:Nat) (fr:Fr) (ch:Nat->Nat) (A:Nat->Prop) (G:Gh) (B:Nat->Nat) (s s2:St) (a:Act) (w:World),
  mj mk A G s s2 w->cy G s2.heap B fr a.tmps w->lF Q ch->(∀k o,l[k]? =some o->all[i+k]? =some o)->rJ Q A ch s (tK Q n f all mk l fr s)->
  ∀K:Exit->Act->World->Prop,(∀a' w',td Q mk ch fr G B s s2 a w (tK Q n f all mk l fr s) .normal a' w'->K .normal a' w')->wpOpsIn (mr ro) 0 Q.P all K (List.range' i l.length) a w
def ali{all:Array Oper}{l:List Oper}{x:Ex}(h:tK Q n f all mk l fr s ch=some (x,fr',s')):fL mk s s':=by
 simp only[tK,az,aP,bj] at h;obtain⟨⟨fr1,s1⟩,h1,_,_,rfl⟩:=h;exact((lS Q n).ops f all mk l fr ch s fr1 s1 h1).1
def alj(hc:vJ Q n)(hcs:rG Q n)(hn:C7 Q n):C7 Q (n+1):=by
 intro ro f all mk l i fr ch A G B s s2 a w p fx hi hl hs K hK;cases l with
 |nil=>
  simp only[List.length_nil,List.range'_zero,wpOpsIn];exact hK a w ⟨ch,fr,s,s2,G,B,.refl _ _,hi,rfl,.refl p fx⟩
 |cons o rest=>
  have ho:all[i]? =some o:=hl 0 o rfl;have hl': ∀k o,rest[k]? =some o->all[i+1+k]? =some o:=fun k o' hk=>by
   have:=hl (k+1) o' (by simpa using hk);rwa [show i+1+k=i+(k+1) by omega]
  simp only[cP,List.range'_succ,wpOpsIn,ho,fx.wanted];cases hw:eD all fr.env o with
  |false=>
   simp only[ua,if_false];have hev: ∀c,tK Q (n+1) f all mk (o::rest) fr s c=((di fr o.dst fX fr.loc).bind fun fr'=>tK Q n f all mk rest fr' s c):=by
    intro c;show((mF (Q.at c) (cd (Q.at c) n) f all mk (o::rest) fr s).bind _)=_;simp only[mF,hw,cF,tK];cases di fr o.dst fX fr.loc<;>rfl
   obtain⟨x0,fr0,s0,h0,_⟩:=hs ch (.refl _ _) hi;rw[hev] at h0;simp only[az] at h0;obtain⟨fr1,hp,_⟩:=h0;have af:=oL.skip p fx (a:=a) hp;refine⟨fun _ _=>xI ro _,?_⟩;refine hn ro f all mk rest (i+1) fr1 ch A G B s s2 _ w p af.fx hi hl' ?_ K ?_;intro c h1 h2
   have:=hs c h1 h2;rw[hev,hp] at this;exact this;intro a' w' ⟨c,fr',s',s2',G',B',h1,h2,h3,h4⟩;refine hK a' w' ⟨c,fr',s',s2',G',B',h1,h2,?_,af.trans h4⟩;rw[hev,hp];exact h3
  |true=>
   simp only[if_true];have hev: ∀c,tK Q (n+1) f all mk (o::rest) fr s c=((fw (Q.at c) (cd (Q.at c) n) f o mk fr s).bind fun x=>(di fr o.dst x.1 x.2.1).bind fun fr'=>tK Q n f all mk rest fr' x.2.2 c):=by
    intro c;show((mF (Q.at c) (cd (Q.at c) n) f all mk (o::rest) fr s).bind _)=_;simp only[mF,hw,cT,tK];cases fw (Q.at c) (cd (Q.at c) n) f o mk fr s with
    |none=>rfl
    |some x=>
     simp only[bn];cases di fr o.dst x.1 x.2.1<;>rfl
   refine TL (f:=f) (fr:=fr) hc hcs ro p fx hi ?_ _ K ?_;intro c h1 h2;obtain⟨x0,fr0,s0,h0,hA⟩:=hs c h1 h2;rw[hev] at h0;simp only[az] at h0;obtain⟨⟨v,loc',s1⟩,h3,fr1,_,h5⟩:=h0;exact⟨v,loc',s1,h3,fun m hm hm'=>hA m hm (gX hm' (ali h5).al)⟩;intro x w' c1 v loc' s1 s21 G1 B1 q;obtain⟨x0,fr0,s0,h0,_⟩:=hs c1 q.agree q.inb;rw[hev,q.eval] at h0;simp only[bn,az] at h0;obtain⟨fr1,hp,_⟩:=h0;have af:=q.after fx hp;have hown: ∀c,kU s1.ci c1 c->fw (Q.at c) (cd (Q.at c) n) f o mk fr s=some (v,loc',s1):=fun c hag=>
    A9 (Q:=Q) (lS Q n) (sh Q n) f o mk fr c1 s v loc' s1 q.eval c hag
   refine hn ro f all mk rest (i+1) fr1 c1 A G1 B1 s1 s21 _ w' (p.after af) af.fx q.inb hl' ?_ K ?_;intro c h1 h2;obtain⟨y,fr',s',h3,h4⟩:=hs c (q.agree.trans h1 af.goes.ci) h2;rw[hev,hown c h1] at h3;simp only[bn,hp] at h3;exact⟨y,fr',s',h3,fun m hm=>h4 m (fh af.goes.al hm)⟩;intro a' w'' ⟨c,fr',s',s2',G',B',h1,h2,h3,h4⟩;refine hK a' w'' ⟨c,fr',s',s2',G',B',q.agree.trans h1 af.goes.ci,h2,?_,af.trans h4⟩;rw[hev,hown c h1];simp only[bn,hp];exact h3
def LB.congr(h: ∀u,lG l l2 u){b:Nat}:LB B l b->LB B l2 b:=by
 rintro⟨t,cs,h1,h2⟩;refine⟨t,cs,?_,h2⟩;rw[<-(h t).1,<-(h t).2];exact h1
def cy.congr{fr2:Fr}(x:cy G h B fr tmps w)(hs:fr2.size=fr.size)(he: ∀d,aj fr2.env d=aj fr.env d)(hl: ∀u,lG fr.loc fr2.loc u):cy G h B fr2 tmps w where
 size:=x.size.trans hs.symm
 env t:=by
  have:=x.env t;rw[he t];revert this;generalize aj fr.env t=v;generalize tmps.getD t undef=y;intro hv;cases v<;>first
   |exact hv
   |(obtain⟨h1,h2,h3⟩:=hv
     exact⟨by rw[<-(hl _).1];exact h1,h2,fun e=>h3 (by rw[(hl _).1];exact e)⟩)
 locs:=by
  have hg: ∀t cs,fr2.loc.get t (fr2.loc.gen t)=some cs->fr.loc.get t (fr.loc.gen t)=some cs:=fun t cs h=>by
   rw[(hl t).1,(hl t).2];exact h
  exact⟨fun t cs h=>x.locs.cells t cs (hg t cs h),fun t cs h=>x.locs.free t cs (hg t cs h),fun t cs h=>x.locs.ro t cs (hg t cs h),
   fun t u cs ds h h'=>x.locs.inj t u cs ds (hg t cs h) (hg u ds h')⟩
section
variable{Q:bF}{f:FuncId}{all:Array Oper}{mk:aW}{F:Nat->Fr}{S:Nat->St}{M:Nat->aW}{lv:Nat->Nat}{Lo:Nat->Bool}
def aY.untouched(t:aY Q f all mk F S M lv Lo)(hk:k<all.size)(h: ¬aY.Th Q f all F S M k n):(S (k+1)).heap.get n=(S k).heap.get n:=by
 have ho:all[k]? =some all[k]:=oD hk;cases hw:eD all (F k).env all[k] with
 |true=>
  obtain⟨v,loc',s1,_,_,_,h4,_,g⟩:=t.done ho hw;rw[h4];refine g.frame n fun t'=>h ⟨_,ho,hw,?_⟩;rw[h4];exact t'
 |false=>
  rcases t.step ho with⟨h',_⟩|⟨_,_,h'⟩
  rw[hw] at h';cases h';rw[h']
def aY.X_from(t:aY Q f all mk F S M lv Lo)(h:aY.X Q f all F S M H n k=(S k).heap.get n): ∀ {j:Nat},k<=j->j<=all.size->aY.X Q f all F S M H n j=(S j).heap.get n
 |0,h1,_=>by have:k=0:=by omega
             subst this;exact h
 |j+1,h1,h2=>by
  by_cases e:k=j+1;subst e;exact h;have ih:=t.X_from h (j:=j) (by omega) (by omega);rw[aY.X];split;rfl;rename_i hT;rw[ih,t.untouched (by omega) hT]
def aY.Th_touch(t:aY Q f all mk F S M lv Lo): ∀ {k:Nat},k<=all.size->dC mk n=false->(S k).heap.get n≠none->mM mk (S 0) (S k) n
 |0,_,hn,h=>.inl ⟨hn,h⟩
 |k+1,hk,hn,h=>by
  have hle:=t.next_le (oD (show k<all.size by omega));by_cases hT:aY.Th Q f all F S M k n;obtain⟨o,ho,hw,ht⟩:=hT;rcases ht with⟨_,h2⟩|h2
  exact(t.Th_touch (k:=k) (by omega) hn h2).imp id fun h=>⟨h.1,by omega⟩;exact .inr ⟨fh (t.mono (cV k) (by omega)) h2.1,h2.2⟩;rw[t.untouched (by omega) hT] at h;exact(t.Th_touch (k:=k) (by omega) hn h).imp id fun h=>⟨h.1,by omega⟩
def aY.hid(t:aY Q f all mk F S M lv Lo)(ho:all[k]? =some o)(h:dC (aY.fm Q f F S M k o) n=false):dC mk n=false:=by
 cases e:dC mk n with
 |false=>rfl
 |true=>
  have:=t.tr.more k o (by simpa using ho) n e;rw[gl] at this;rw[aY.fm,Jn this] at h;cases h
def aY.same(t:aY Q f all mk F S M lv Lo){s2:aZ bf}(h0: ∀n o,dC mk n=false->(S 0).heap.get n=some o->s2.get n=some o)(n:Nat):
 (mM mk (S 0) (S all.size) n->aY.X Q f all F S M s2.get n all.size=(S all.size).heap.get n)/\(¬mM mk (S 0) (S all.size) n->aY.X Q f all F S M s2.get n all.size=s2.get n):=by
 constructor;rintro(⟨h1,h2⟩|⟨h1,h2⟩);refine t.X_from (k:=0) ?_ (cV _) (aU _);cases e:(S 0).heap.get n with
 |none=>exact absurd e h2
 |some o=>exact h0 n o h1 e
 have: ∃k,k<all.size/\(S k).al<=n/\n<(S (k+1)).al:=by
  have key: ∀j,j<=all.size->n<(S j).al-> ∃k,k<all.size/\(S k).al<=n/\n<(S (k+1)).al:=by
   intro j
   induction j with
   |zero=>intro _ h;omega
   |succ j ih=>
    intro hj h;rcases ix n (S j).al with h'|h'
    exact ih (by omega) h';exact⟨j,by omega,h',h⟩
  exact key _ (aU _) h2
 obtain⟨k,hk,h3,h4⟩:=this;have ho:all[k]? =some all[k]:=oD hk;have hw:eD all (F k).env all[k]=true:=by
  cases hw:eD all (F k).env all[k] with
  |true=>rfl
  |false=>
   rcases t.step ho with⟨h',_⟩|⟨_,_,h'⟩
   rw[hw] at h';cases h';rw[h'] at h4;omega
 refine t.X_from (k:=k+1) ?_ (by omega) (aU _);rw[aY.X,iP ⟨_,ho,hw,.inr ⟨h3,h4⟩⟩];intro hn;have key: ∀j,j<=all.size->aY.X Q f all F S M s2.get n j=s2.get n:=by
  intro j
  induction j with
  |zero=>intro _;rfl
  |succ j ih=>
   intro hj;rw[aY.X,iN];exact ih (by omega);rintro⟨o,ho,hw,ht⟩;have hm:=t.mono (show j+1<=all.size by omega) (aU _);rcases ht with⟨h1,h2⟩|⟨h1,h2⟩
   have hmj:=t.mono (show j<=all.size by omega) (aU _);exact hn ((t.Th_touch (show j<=all.size by omega) (t.hid ho h1) h2).imp id fun h=>⟨h.1,by omega⟩);exact hn (.inr ⟨fh (t.mono (cV j) (by omega)) h1,by omega⟩)
 exact key _ (aU _)
end
noncomputable def IR(Q:bF)(n:Nat)(f:FuncId)(all:Array Oper)(mk:aW)(fr:Fr)(s:St)(ch:Nat->Nat):Option (Ex×Fr×St):=
 ((cd (Q.at ch) n).draw f all (Region.before all).toList mk [] 0 all.toList fr s).bind fun x=>some (.normal,x.1,x.2)
structure M6 (Q:bF) (f:FuncId) (all:Array Oper) (F:Nat->Fr) (S:Nat->St) (M:Nat->aW) (B:Nat->Nat) (G:Gh) (s2:St) (a:Act) (w:World) (listed:Array Bool) (a':Act) (w':World)
 (fr':Fr) (h:aZ bf) (G':Gh) (B':Nat->Nat):Prop where
 size:listed.size=all.size
 closed:HP all (fun k=>listed.getD k false=true)
 cur:kA Q f all F S M s2.heap.get (fun k=>listed.getD k false=true) fr' h.get
 wr:WR G' h w'
 ext:iV G s2.heap w G' h w' (S 0).al (S all.size).al (LB B (F 0).loc)
 fx:cy G' h B' fr' a'.tmps w'
 boxes: ∀b,LB B' fr'.loc b->LB B (F 0).loc b\/w.heap.size<=b
 defers: ∃rs,a'.defers=rs.map uZ++a.defers/\un w.heap.size w' rs
 free: ∀k,k<all.size->listed.getD k false=false-> ∀m,(S k).al<=m->m<(S (k+1)).al->G'.at_ m=none
def kA.congr{all:Array Oper}{D':Nat->Prop}{h:Nat->Option bf}(c:kA Q f all F S M H D fr h)(hD: ∀k,k<all.size->(D k↔D' k)):kA Q f all F S M H D' fr h where
 env t:=(c.env t).trans (Cb (X:=fun k=>aj (F k).env t) fun k hk _=>hD k hk)
 size:=c.size
 loc u:=(c.loc u).trans (Cb (X:=aY.L F u) fun k hk _=>hD k hk)
 heap n:=(c.heap n).trans (Cb (X:=aY.X Q f all F S M H n) fun k hk _=>hD k hk)
def DI{listed:Array Bool}(hi:i<listed.size)(k:Nat):(listed.setIfInBounds i true).getD k false=true↔(listed.getD k false=true\/k=i):=by
 simp only[ng,AG];by_cases e:i=k;subst e;simp[hi];simp[e,Ne.symm e]
def tY(listed:Array Bool):Nat:=listed.toList.countP (fun b=> !b)
def ao9{listed:Array Bool}(h:listed.getD i true=false):tY (listed.setIfInBounds i true)+1=tY listed:=by
 obtain⟨l⟩:=listed;simp only[tY,List.setIfInBounds_toArray,ng,HJ] at*
 induction l generalizing i with
 |nil=>simp at h
 |cons b l ih=>
  cases i with
  |zero=>
   simp at h;subst h;simp
  |succ i=>
   have:=ih (i:=i) (by simpa using h);simp only[List.set_cons_succ,List.countP_cons];omega
def ao8{listed:Array Bool}(h:tY listed=0)(k:Nat)(hk:k<listed.size):listed.getD k false=true:=by
 obtain⟨l⟩:=listed;simp only[tY,List.countP_eq_zero] at h;simp only[yS] at hk
 have:=h l[k] (List.getElem_mem hk);simp only[ng,HJ,gL hk,fq];simpa using this
def Z0{all:Array Oper}(t:aY (Q.at ch) f all mk F S M lv Lo)(ro:Option Nat)(hc: ∀k,k<all.size->vJ Q (lv k)/\rG Q (lv k))(hi:lF Q ch)(h0: ∀n o,dC mk n=false->(S 0).heap.get n=some o->s2.heap.get n=some o)(K:Exit->Act->World->Prop)(hK: ∀listed a' w' fr' h G' B',(∀k,k<all.size->listed.getD k false=true)->M6 (Q.at ch) f all F S M B G s2 a w listed a' w' fr' h G' B'->K .normal a' w'):
 ∀(fuel:Nat) (listed:Array Bool) (a':Act) (w':World) (fr':Fr) (h:aZ bf) (G':Gh) (B':Nat->Nat),tY listed=fuel->
  M6 (Q.at ch) f all F S M B G s2 a w listed a' w' fr' h G' B'->wpAnyIn (mr ro) 0 Q.P .any all K fuel listed a' w':=by
 intro fuel
 induction fuel with
 |zero=>
  intro listed a' w' fr' h G' B' hu m;have hall: ∀k,k<all.size->listed.getD k false=true:=fun k hk=>ao8 hu k (by rw[m.size];exact hk);refine⟨?_,hK listed a' w' fr' h G' B' hall m⟩;rw[List.eq_nil_iff_forall_not_mem];intro i hi;rw[mem_ready] at hi;obtain⟨h1,o,h2,_⟩:=hi;have hlt:=aY.lt_size h2
  have:=hall i hlt;simp only[ng] at h1 this;rw[oD (by rw[m.size];exact hlt)] at h1 this;simp at h1 this;rw[h1] at this;cases this
 |succ fuel ih=>
  intro listed a' w' fr' h G' B' hu m;refine⟨fun hr=>?_,fun i hi'=>?_⟩
  ·
   exfalso;have key: ∀k,k<all.size->listed.getD k false=true:=by
    intro k
    induction k using Nat.strongRecOn with
    |_ k ihk=>
     intro hk;have ho:all[k]? =some all[k]:=oD hk;have hnot:k ∉ Region.ready .any all listed:=by rw[hr];simp
     rw[mem_ready] at hnot;have hkl:k<listed.size:=by rw[m.size];exact hk
     cases e:listed.getD k false with
     |true=>rfl
     |false=>
      exfalso;apply hnot;refine⟨?_,all[k],ho,fun ed hed hb=>?_⟩;simp only[ng,oD hkl,fq] at e ⊢;exact e;have hlt:=NR t.ap k all[k] (by simp) ed hed hb;rw[gl] at hlt;exact ihk ed.on hlt (by omega)
   have hz:tY listed=0:=by
    obtain⟨l⟩:=listed;simp only[tY,List.countP_eq_zero];intro b hb;obtain⟨k,hk,rfl⟩:=List.getElem_of_mem hb;have hs:=m.size;simp only[yS] at hs
    have:=key k (by omega);simp only[ng,HJ,gL hk,fq] at this;simp[this]
   omega
  rw[mem_ready] at hi';obtain⟨h1,o,ho,h2⟩:=hi';have hlt:=aY.lt_size ho;have hil:i<listed.size:=by rw[m.size];exact hlt
  have hnd: ¬listed.getD i false=true:=by
   simp only[ng,oD hil,fq] at h1 ⊢;rw[h1];simp
  have hnd':listed.getD i false=false:=by simpa using hnd
  have x:mi all (fun k=>listed.getD k false=true) i o:=⟨m.closed,ho,hnd,h2⟩;have hu':tY (listed.setIfInBounds i true)=fuel:=by have:=ao9 h1;omega
  have hsz':(listed.setIfInBounds i true).size=all.size:=by rw[Array.size_setIfInBounds];exact m.size
  have hcl':HP all (fun k=>(listed.setIfInBounds i true).getD k false=true):=by
   intro j oj hj hoj e he hb;rw[DI hil] at hj ⊢;rcases hj with hj|rfl
   exact .inl (m.closed j oj hj hoj e he hb);rw[ho] at hoj;injection hoj with hoj;subst hoj
   exact .inl (h2 e he hb)
  have hfr': ∀ {G1:Gh} {h1':aZ bf} {w1:World} {L:Nat->Prop},iV G' h w' G1 h1' w1 (S i).al (S (i+1)).al L->
   ∀k,k<all.size->(listed.setIfInBounds i true).getD k false=false-> ∀q,(S k).al<=q->q<(S (k+1)).al->G1.at_ q=none:=by
   intro G1 h1' w1 L ex k hk hkd q hq1 hq2;have hk2: ¬(listed.getD k false=true\/k=i):=fun h=>by
    rw[<-DI hil] at h;rw[hkd] at h;cases h
   have hkf:listed.getD k false=false:=by
    cases e:listed.getD k false with
    |false=>rfl
    |true=>exact absurd (.inl e) hk2
   have h0':=m.free k hk hkf q hq1 hq2;cases e:G1.at_ q with
   |none=>rfl
   |some ad=>
    obtain⟨e1,e2⟩:=ex.names q ad e h0';rcases Nat.lt_trichotomy k i with h|h|h
    have:=t.mono (show k+1<=i by omega) (by omega);omega;exact absurd (.inr h) hk2
    have:=t.mono (show i+1<=k by omega) (by omega);omega
  unfold wpOpIn;simp only[ho];rw[m.fx.wanted,m.cur.wanted t x];cases hw:eD all (F i).env o with
  |false=>
   simp only[ua,if_false];obtain⟨fr1,hp,hcur⟩:=m.cur.skip t x hw;refine⟨fun _ _=>xI ro _,?_⟩;refine ih _ _ _ fr1 h G' B' hu' ⟨hsz',hcl',hcur.congr fun k _=>(DI hil k).symm,m.wr,m.ext,m.fx.put hp m.fx.locs (LV.of_VR (MC G')) fun _ _ h=>h,?_,?_,?_⟩;intro b hb;rw[(sN hp).2.1] at hb;exact m.boxes b hb;rw[Ij];exact m.defers;exact hfr' (L:=fun _=>False) (cM.refl.toL _)
  |true=>
   simp only[if_true];obtain⟨v,loc1,s1,fr1,e1,e2,e3,hp,hcur⟩:=m.cur.run t h0 x hw;have hsees:=m.cur.sees t h0 x hw;have hpre:mj (aY.fm (Q.at ch) f F S M i o) (fun q=>q<(S (i+1)).al) G' (aY.from_ S i (S i).heap) (aY.from_ S i h) w':=
    ⟨fun n hn=>t.none_above (vI hlt) n hn,hsees,m.wr,fun q hq1 hq2=>m.free i hlt hnd' q hq1 hq2⟩
   refine TL (hc i hlt).1 (hc i hlt).2 ro hpre m.fx hi (f:=f) (fr:=fr') ?_ _ K ?_;intro c hag _
   have:=A9 (Q:=Q) (lS Q (lv i)) (sh Q (lv i)) f o (aY.fm (Q.at ch) f F S M i o) fr' ch (aY.from_ S i (S i).heap) v loc1 s1 e1 c (fun j hj=>hag j (by rw[e2] at hj;exact hj));exact⟨v,loc1,s1,this,fun q _ hq=>by rw[e3] at hq;exact hq⟩;intro y w1 c v' loc' s1' s21 G1 B1 q
   have:=A9 (Q:=Q) (lS Q (lv i)) (sh Q (lv i)) f o (aY.fm (Q.at ch) f F S M i o) fr' ch (aY.from_ S i (S i).heap) v loc1 s1 e1 c (fun j hj=>q.agree j (by rw[e2] at hj;exact hj));have hq:=q.eval;have this:fw (Q.at c) (cd (Q.at c) (lv i)) f o (aY.fm (Q.at ch) f F S M i o) fr' (aY.from_ S i (S i).heap)=some (v,loc1,s1):=this;rw[this] at hq;simp only[aP,bj] at hq;obtain⟨rfl,rfl,rfl⟩:=hq;have hc1:=hcur s21 q.same;have af:=q.after m.fx hp;have ex:iV G' h w' G1 s21.heap w1 (S i).al (S (i+1)).al (LB B' fr'.loc):=by
    have:=q.ext;rw[e3] at this;exact this
   refine ih _ _ _ fr1 s21.heap G1 B1 hu' ⟨hsz',hcl',hc1.congr fun k _=>(DI hil k).symm,q.wr,?_,af.fx,?_,OI m.wr m.fx m.defers m.ext.size ex af.defers,hfr' ex⟩;have x1:=m.ext;have x2:=ex.widen (lo':=(S 0).al) (hi':=(S all.size).al) (t.mono (cV i) (vI hlt)) (t.mono (show i+1<=all.size by omega) (aU _));exact⟨x1.le.trans x2.le,fh x1.size x2.size,
    fun b hb ho hl=>(x2.keep b (gX hb x1.size) (fun o=>ho (x1.owns b hb o)) (fun l=>(m.boxes b l).elim hl (fun h=>by omega))).trans (x1.keep b hb ho hl),
    fun b hb o=>x1.owns b hb (x2.owns b (gX hb x1.size) o),
    fun n ad h h0=>by
     cases e:G'.at_ n with
     |none=>exact x2.names n ad h e
     |some b=>exact x1.names n b e h0,
    fun b o v hb h h0=>by
     cases e:G'.ro b o with
     |none=>exact x1.owns b hb (x2.cells b o v (gX hb x1.size) h e)
     |some u=>exact x1.cells b o u hb e h0,
    x1.quiet.trans x2.quiet⟩
   intro b hb;rcases af.boxes b hb with h'|h'
   exact m.boxes b h';exact .inr (fh m.ext.size h')
def Z1(hm:Q.P.follows .mixedOrders=true)(ro:Option Nat)(hc: ∀k,k<n->vJ Q k/\rG Q k){all:Array Oper}{id:Nat}(p:mj mk A G s s2 w)(fx:cy G s2.heap B fr a.tmps w)(hi:lF Q ch)(hap:mO all 0 all.toList (Region.before all).toList=true)(hs:rJ Q A ch s (IR Q n f all mk fr s))(K:Exit->Act->World->Prop)(hK: ∀a' w',td Q mk ch fr G B s s2 a w (IR Q n f all mk fr s) .normal a' w'->K .normal a' w'):(Code.region id all true).wpIn (mr ro) 0 Q.P K a w:=by
 obtain⟨x0,fr1,s1,h0,hA⟩:=hs ch (.refl _ _) hi;have h0':=h0;simp only[IR,az,aP,bj] at h0;obtain⟨⟨fr2,s2'⟩,hd,hx,hf,hs'⟩:=h0;subst hx;dsimp only at hf hs';subst hf;subst hs';obtain⟨F,S,M,lv,Lo,eF,eS,eF',eS',hlv,tr⟩:=IT hd;rw[gl,wY] at eF' eS';have t:aY (Q.at ch) f all mk F S M lv Lo:=⟨tr,hap,by rw[eS];exact p.fresh⟩;have hsee: ∀n o,dC mk n=false->(S 0).heap.get n=some o->s2.heap.get n=some o:=by rw[eS];exact p.sees.get
 have hgo:=((lS Q n).draw f all _ mk [] 0 all.toList fr ch s fr2 s2' hd).1;refine wpIn_region_any hm ?_;refine Z0 (G:=G) (B:=B) (s2:=s2) (a:=a) (w:=w) t ro (fun k hk=>hc _ ?_) hi hsee K ?_ all.size _ a _ (F 0) s2.heap G B ?_ ?_
 have:=hlv k all[k] (by simp);rwa [gl] at this;intro listed a' w' fr' h G' B' hall m;obtain⟨c1,c2,c3,c4⟩:=m.cur.fin hall;refine hK a' w' ⟨ch,fr2,s2',⟨h,s2'.al,s2'.ge,s2'.ci⟩,G',B',.refl _ _,hi,h0',hgo,⟨rfl,rfl,rfl,?_,?_⟩,m.wr,?_,?_,?_,m.defers⟩;intro n hn;show h.get n=_;rw[c4,<-eS'];exact(t.same hsee n).1 (by rw[eS,eS'];exact hn);intro n hn;show h.get n=_;rw[c4];exact(t.same hsee n).2 (by rw[eS,eS'];exact hn)
 have:=m.ext;rw[eS,eS',eF] at this;exact this;refine m.fx.congr ?_ ?_ ?_;rw[<-eF',c1];exact t.size_eq (aU _);intro d;rw[<-eF',c2];intro u;rw[<-eF'];exact c3 u;intro b hb;rw[<-eF];refine m.boxes b (LB.congr (fun u=>?_) hb);rw[<-eF'];exact(c3 u).symm;simp[tY,List.countP_replicate];refine⟨by simp,?_,?_,p.wr.of_heap rfl,(cM.of_heap (w:=w) (w':= {w with drawn:=w.drawn+1 }) rfl ⟨rfl,rfl,rfl,jf _⟩).toL _,?_,fun b h=>.inl h,⟨[],rfl,.nil _ _⟩,?_⟩;intro j o hj;simp[ng,MU] at hj;split at hj<;>simp at hj;refine kA.start fun k hk=>?_;simp[ng,MU] at hk;split at hk<;>simp at hk;rw[eF];exact⟨fx.size,fx.env,⟨fx.locs.cells,fx.locs.free,fx.locs.ro,fx.locs.inj⟩⟩;intro k hk _ q h1 h2;have l1:=t.mono (cV k) (vI hk);have l2:=t.mono (show k+1<=all.size by omega) (aU _);rw[eS] at l1;rw[eS'] at l2;exact p.free q (by omega) (hA q (by omega) (by omega))
structure Al (Q:bF):Prop where
 mixed:Q.P.follows .mixedOrders=true
 spec:WI Q
 specH:WH Q
 specW:WJ Q:=by intro f sp h;cases h
 names: ∀(f:Nat) (fn:Func),Q.P.funcs[f]? =some fn->(fn.name== "runtime.NumGoroutine")=false
section
variable{Q:bF}{n:Nat}
noncomputable def Hg(Q:bF)(n:Nat)(f:FuncId)(y:Code)(mk:aW)(x:Ex)(fr:Fr)(s:St)(c:Nat->Nat):Option (Ex×Fr×St):=pw (cd (Q.at c) n) f y mk (x,fr,s)
def US(hn:rG Q n)(ro:Option Nat){x y:Code}(hf:ro≠none->eJ x=true)(hra:vO ro G s2.heap w)(p:mj mk A G s s2 w)(fx:cy G s2.heap B fr a.tmps w)(hi:lF Q ch)(hs:rJ Q A ch s (fun c=>(lh Q n f x mk fr s c).bind fun r=>Hg Q n f y mk r.1 r.2.1 r.2.2 c))(K:Exit->Act->World->Prop)(KY:Act->World->Prop)(hK: ∀e a' w',td Q mk ch fr G B s s2 a w (fun c=>(lh Q n f x mk fr s c).bind fun r=>Hg Q n f y mk r.1 r.2.1 r.2.2 c) e a' w'->K e.to a' w')(hY: ∀a1 w1 ch1 fr1 s1 s21 G1 B1,vO ro G1 s21.heap w1->mj mk A G1 s1 s21 w1->cy G1 s21.heap B1 fr1 a1.tmps w1->lF Q ch1->rJ Q A ch1 s1 (lh Q n f y mk fr1 s1)->
  (∀e a' w',td Q mk ch1 fr1 G1 B1 s1 s21 a1 w1 (lh Q n f y mk fr1 s1) e a' w'->K e.to a' w')->KY a1 w1):x.wpIn (mr ro) 0 Q.P (Exit.then KY K) a w:=by
 have hown:=IM Q n f x mk fr s;refine(hn ro f x mk fr ch A G B s s2 a w hf hra p fx hi (hs.first ?_) _ ?_).1;intro e fr' s' c e2 fr'' s'' h;unfold Hg at h;cases e with
 |normal=>exact(OE (n:=n) h).al
 |exit id=>simp only[pw,aP,bj] at h;obtain⟨_,_,rfl⟩:=h;exact aU _
 |ret=>simp only[pw,aP,bj] at h;obtain⟨_,_,rfl⟩:=h;exact aU _
 rintro e a1 w1 ⟨c1,fr1,s1,s21,G1,B1,h1,h2,h3,h4⟩;cases e with
 |normal=>
  refine hY a1 w1 c1 fr1 s1 s21 G1 B1 (hra.after fx h4) (p.after h4) h4.fx h2 ?_ ?_;exact hs.second hown h1 h3 h4.goes.ci h4.goes.al;intro e a' w' pp;exact hK e a' w' (td.second (E2:=fun x fr s c=>Hg Q n f y mk x fr s c) hown h1 h3 h4 pp)
 |exit id=>
  refine hK (.exit id) a1 w1 ⟨c1,fr1,s1,s21,G1,B1,h1,h2,?_,h4⟩;simp only[h3,bn];rfl
 |ret=>
  refine hK .ret a1 w1 ⟨c1,fr1,s1,s21,G1,B1,h1,h2,?_,h4⟩;simp only[h3,bn];rfl
def ZN(hgd:Al Q)(hn:rG Q n)(ho:C7 Q n)(hcall:vJ Q n)(hc: ∀k,k<n->vJ Q k/\rG Q k):rG Q (n+1):=by
 intro ro f c mk fr ch A G B s s2 a w hfl hra p fx hi hs K hK;cases c with
 |skip=>exact⟨wpIn_skip (hK .normal a w ⟨ch,fr,s,s2,G,B,.refl _ _,hi,rfl,.refl p fx⟩),by simp⟩
 |label l=>exact⟨wpIn_label (hK .normal a w ⟨ch,fr,s,s2,G,B,.refl _ _,hi,rfl,.refl p fx⟩),by simp⟩
 |ret=>exact⟨wpIn_ret (hK .ret a w ⟨ch,fr,s,s2,G,B,.refl _ _,hi,rfl,.refl p fx⟩),by simp⟩
 |exit id=>exact⟨wpIn_exit (hK (.exit id) a w ⟨ch,fr,s,s2,G,B,.refl _ _,hi,rfl,.refl p fx⟩),by simp⟩
 |seq x y=>
  have hfl:ro≠none->eJ x=true/\eJ y=true:=fun h=>by simpa[eJ] using hfl h
  refine⟨wpIn_seq (US hn ro (fun h=>(hfl h).1) hra p fx hi hs K _ hK ?_),by simp⟩;intro a1 w1 ch1 fr1 s1 s21 G1 B1 ra1 p1 fx1 hi1 hs1 hK1;exact(hn ro f y mk fr1 ch1 A G1 B1 s1 s21 a1 w1 (fun h=>(hfl h).2) ra1 p1 fx1 hi1 hs1 K hK1).1
 |cond x y z=>
  refine⟨?_,by simp⟩;obtain⟨e0,fr0,s0,h0,_⟩:=hs ch (.refl _ _) hi;have h0:(ev fr.env x).bind (zi (cd (Q.at ch) n) f y z mk fr s)=some (e0,fr0,s0):=h0;simp only[az] at h0;obtain⟨v,hv,h0⟩:=h0;have hl:=fx.ev hv;cases v<;>try (cases h0;done)
  rename_i b;have hl:VR G (.bool b) (a.eval x):=hl;have hx:a.eval x= .bool b:=by
   generalize a.eval x=u at hl;cases hl;rfl
  have hev: ∀c,lh Q (n+1) f (.cond x y z) mk fr s c=lh Q n f (if b then y else z) mk fr s c:=by
   intro c;show(ev fr.env x).bind (zi (cd (Q.at c) n) f y z mk fr s)=_;rw[hv];cases b<;>rfl
  have hfl:ro≠none->eJ (if b then y else z)=true:=fun h=>by
   have:eJ y=true/\eJ z=true:=by simpa[eJ] using hfl h
   cases b;exact this.2;exact this.1
  refine wpIn_cond hx (hn ro f _ mk fr ch A G B s s2 a w hfl hra p fx hi ?_ K ?_).1;intro c h1 h2;have:=hs c h1 h2;rw[hev] at this;exact this;rintro e a' w' ⟨c,fr',s',s2',G',B',h1,h2,h3,h4⟩;exact hK e a' w' ⟨c,fr',s',s2',G',B',h1,h2,by rw[hev];exact h3,h4⟩
 |block id b=>
  refine⟨wpIn_block ?_,by simp⟩;have hev: ∀c,lh Q (n+1) f (.block id b) mk fr s c=(lh Q n f b mk fr s c).bind fun x=>some (qa id x):=fun _=>rfl;refine(hn ro f b mk fr ch A G B s s2 a w (fun h=>by simpa[eJ] using hfl h) hra p fx hi ?_ _ ?_).1;intro c h1 h2;obtain⟨e,fr',s',h3,h4⟩:=hs c h1 h2;rw[hev] at h3;simp only[az] at h3;obtain⟨⟨e1,fr1,s1⟩,h5,h6⟩:=h3;refine⟨e1,fr1,s1,h5,?_⟩;have:s1=s':=by
   cases e1<;>simp only[qa,aP,bj] at h6;exact h6.2.2;rename_i i;cases hb:aJ i id<;>rw[hb] at h6<;>simp at h6<;>exact h6.2.2;exact h6.2.2
  subst this;exact h4;rintro e a' w' ⟨c,fr',s',s2',G',B',h1,h2,h3,h4⟩;have hpost: ∀e',qa id (e,fr',s')=(e',fr',s')->K e'.to a' w':=fun e' he=>
   hK e' a' w' ⟨c,fr',s',s2',G',B',h1,h2,by rw[hev,h3,bn,he],h4⟩
  cases e with
  |normal=>exact hpost .normal rfl
  |ret=>exact hpost .ret rfl
  |exit i=>
   show(if i=id then K .normal a' w' else K (.exit i) a' w');by_cases e:i=id;rw[iP e];refine hpost .normal ?_;subst e;simp[qa];rw[iN e];refine hpost (.exit i) ?_;have:aJ i id=false:=by
    cases h:aJ i id with
    |false=>rfl
    |true=>exact absurd (eU h) e
   simp[qa,this]
 |scope b=>
  have hro:ro=none:=by
   cases ro with
   |none=>rfl
   |some l=>exact absurd (hfl (by simp)) (by simp[eJ])
  subst hro;refine⟨(wpIn_wide (n:=0)).2 (wp_scope_straight ((wpIn_wide (n:=0)).1 ?_)),by simp⟩;refine(hn none f b mk fr ch A G B s s2 a w (fun h=>absurd rfl h) .none p fx hi hs _ ?_).1;intro e a' w' h
  have:=hK e a' w' h;cases e<;>exact this
 |loop b=>
  have hfb:ro≠none->eJ b=true:=fun h=>by simpa[eJ] using hfl h
  have hrounds:Code.roundsIn (mr ro) 0 Q.P b K (n+1) a w:=by
   rw[roundsIn_succ];refine US (y:=.loop b) hn ro hfb hra p fx hi hs K _ hK ?_;intro a1 w1 ch1 fr1 s1 s21 G1 B1 ra1 p1 fx1 hi1 hs1 hK1;exact(hn ro f (.loop b) mk fr1 ch1 A G1 B1 s1 s21 a1 w1 hfl ra1 p1 fx1 hi1 hs1 K hK1).2 b rfl
  refine⟨wpIn_loop_rounds _ hrounds,?_⟩;intro b' hb;injection hb with hb;subst hb;exact hrounds
 |region id ops draw=>
  refine⟨?_,by simp⟩;cases draw with
  |false=>
   refine wpIn_region ?_
   have:=ho ro f ops mk ops.toList 0 fr ch A G B s s2 a w p fx hi (fun k o hk=>by rw[gl];simpa using hk) hs K (fun a' w' h=>hK .normal a' w' h);rw[wY,<-List.range_eq_range'] at this;exact this
  |true=>
   have hev: ∀c,lh Q (n+1) f (.region id ops true) mk fr s c=(bif mO ops 0 ops.toList (Region.before ops).toList then(cd (Q.at c) n).draw f ops (Region.before ops).toList mk [] 0 ops.toList fr s else none).bind fun x=>some (.normal,x.1,x.2):=fun _=>rfl;cases hap:mO ops 0 ops.toList (Region.before ops).toList with
   |false=>
    obtain⟨e0,fr0,s0,h0,_⟩:=hs ch (.refl _ _) hi;rw[hev,hap] at h0;cases h0
   |true=>
    simp only[hap,cT] at hev;refine Z1 hgd.mixed ro hc p fx hi hap ?_ K ?_ (n:=n) (f:=f);intro c h1 h2;have:=hs c h1 h2;rw[hev] at this;exact this;rintro a' w' ⟨c,fr',s',s2',G',B',h1,h2,h3,h4⟩;exact hK .normal a' w' ⟨c,fr',s',s2',G',B',h1,h2,by rw[hev];exact h3,h4⟩
 |rangeFunc g ps ca cb=>
  refine⟨?_,by simp⟩;obtain⟨e0,fr0,s0,h0,hA0⟩:=hs ch (.refl _ _) hi;have hev0: ∀c,lh Q (n+1) f (.rangeFunc g ps ca cb) mk fr s c=(ev fr.env g).bind (vn (Q.at c) (cd (Q.at c) n) f ps.toList ca cb mk fr s):=fun _=>rfl;rw[hev0] at h0;simp only[az] at h0;obtain⟨gv,hg,h0⟩:=h0;unfold vn at h0;split at h0
  case h_2=>cases h0
  rename_i h first captured
  obtain⟨hb,h0⟩:=bm h0;have hb':=hb;simp only[bA] at hb;obtain⟨hbody,hnoref,hfa,hfb⟩:=hb;have hgl:=fx.ev hg;have hgl:VR G (.func (.func h) first captured) (a.eval g):=hgl;generalize hgx:a.eval g=gx at hgl;cases hgl with
  |func hfst hcap=>
  rename_i fs cs;have hev: ∀c,lh Q (n+1) f (.rangeFunc g ps ca cb) mk fr s c=((cd (Q.at c) n).call h (first++(.yld s.al::captured)) mk (s.new (.loop f fr.env fr.size ps.toList ca cb none))).bind fun x=>yw mk s.al fr x.2:=by
   intro c;have hb':(n7 (Q.at c).P h&&(fr.env.all u9&&(eJ ca&&eJ cb)))=true:=hb';rw[hev0,hg];simp only[bn,vn,hb',cT]
  have hend: ∀c x fr' s',lh Q (n+1) f (.rangeFunc g ps ca cb) mk fr s c=some (x,fr',s')-> ∃v s1 o,(cd (Q.at c) n).call h (first++(.yld s.al::captured)) mk (s.new (.loop f fr.env fr.size ps.toList ca cb none))=some (v,s1)/\
   s1.get mk s.al=some o/\(∃f' env' size' ps' a' b' pe,o= .loop f' env' size' ps' a' b' pe/\x=yo pe)/\fr'=fr/\s'=s1.put s.al none:=by
   intro c x fr' s' h1;rw[hev] at h1;simp only[az] at h1;obtain⟨⟨v,s1⟩,h2,h3⟩:=h1;simp only[yw,az] at h3;obtain⟨o,h4,h5⟩:=h3;cases o with
   |loop f' env' size' ps' a' b' pe=>
    simp only[aP,bj] at h5;obtain⟨rfl,rfl,rfl⟩:=h5;exact⟨v,s1,_,h2,h4,⟨f',env',size',ps',a',b',pe,rfl,rfl⟩,rfl,rfl⟩
   |cells _=>cases h5
   |tok=>cases h5
   |map _ _=>cases h5
   |iter _ _ _ _=>cases h5
  have hnx: ∀c v s1,(cd (Q.at c) n).call h (first++(.yld s.al::captured)) mk (s.new (.loop f fr.env fr.size ps.toList ca cb none))=some (v,s1)->s.al+1<=s1.al:=fun c v s1 h1=>
   ((lS Q n).call h _ mk c _ v s1 h1).1.al
  obtain⟨e1,fr1,s1,h1,hA1⟩:=hs ch (.refl _ _) hi;have hAn:A s.al:=by
   obtain⟨v,s1',o,q1,_,_,_,q5⟩:=hend _ _ _ _ h1;refine hA1 _ (aU _) ?_
   have:=hnx _ _ _ q1;rw[q5];exact this
  have hfree:G.at_ s.al=none:=p.free _ (aU _) hAn;refine wpIn_rangeFunc ?_;intro fn _;obtain⟨rec,L,ds,w1,r1,hrec,wrB,x1,hL0,hLs,hl1,hd1,hno1⟩: ∃(rec:Loop) (L:Nat) (ds:List Nat) (w1:World),(Instr.enterLoop fn a.tmps ps ca cb (mr ro).round).run Q.P w= .ok (L,ds.map uZ) w1/\
   (rec.state= .ready/\rec.pending=none/\rec.tmps=a.tmps/\rec.params=ps/\rec.assign=ca/\rec.body=cb)/\WR G s2.heap w1/\cM G s2.heap w G s2.heap w1 s.al s.al/\w.heap.size<=L/\L<w1.heap.size/\w1.heap[L]? =some (.loop rec)/\un w.heap.size w1 ds/\ ¬d7 G s2.heap L:=by
   cases ro with
   |none=>
    refine⟨{state:=.ready,pending:=none,fn,tmps:=a.tmps,params:=ps,assign:=ca,body:=cb,defers:=w.heap.size },w.heap.size+1,[w.heap.size],_,run_enterLoop_outer fn a.tmps ps ca cb,⟨rfl,rfl,rfl,rfl,rfl,rfl⟩,?_⟩;obtain⟨wrA,xA⟩:=p.wr.fresh (.deferred (some [])) trivial;obtain⟨wrB,xB⟩:=wrA.fresh (.loop {state:=.ready,pending:=none,fn,tmps:=a.tmps,params:=ps,assign:=ca,body:=cb,defers:=w.heap.size }) trivial;have hsA:(w.alloc (.deferred (some []))).heap.size=w.heap.size+1:=by simp
    generalize hw1:(w.alloc (.deferred (some []))).alloc (.loop {state:=.ready,pending:=none,fn,tmps:=a.tmps,params:=ps,assign:=ca,body:=cb,defers:=w.heap.size })=w1 at*;have hs1:w1.heap.size=w.heap.size+2:=by rw[<-hw1];simp
    refine⟨wrB,(xA s.al s.al).trans (xB s.al s.al) (aU _) (aU _),jf _,by omega,by rw[<-hw1,nX,iP hsA.symm],?_,fun o=>by have:=p.wr.owned_lt o;omega⟩;have hd1:w1.heap[w.heap.size]? =some (.deferred (some [])):=by rw[<-hw1,nX,iN (by omega),nX,iP rfl]
    exact⟨by simp,fun r hr=>by
     simp only[List.mem_singleton] at hr;subst hr;exact⟨aU _,hd1⟩⟩
   |some l0=>
    obtain⟨⟨r0,h0⟩,_⟩:=hra l0 rfl;refine⟨{state:=.ready,pending:=none,fn,tmps:=a.tmps,params:=ps,assign:=ca,body:=cb,defers:=r0.defers },w.heap.size,[],w.alloc (.loop {state:=.ready,pending:=none,fn,tmps:=a.tmps,params:=ps,assign:=ca,body:=cb,defers:=r0.defers }),?_,⟨rfl,rfl,rfl,rfl,rfl,rfl⟩,?_⟩;rw[abr];unfold Instr.enterLoop;simp only[Sem.run_bind,run_getLoop h0,run_newObj_alloc,Result.andThen,Sem.run_pure];rfl;obtain⟨wrB,xB⟩:=p.wr.fresh (.loop {state:=.ready,pending:=none,fn,tmps:=a.tmps,params:=ps,assign:=ca,body:=cb,defers:=r0.defers }) trivial;refine⟨wrB,xB s.al s.al,aU _,by simp,by rw[nX,iP rfl],.nil _ _,fun o=>by have:=p.wr.owned_lt o;omega⟩
  have hLR:AW G rec fr.env fr.size ps.toList ca cb none:=by
   obtain⟨k1,k2,k3,k4,k5,k6⟩:=hrec;refine⟨k1,k2,by rw[k3];exact fx.size,fun t=>?_,by rw[k4],k5,k6,hfa,hfb⟩;rw[k3]
   have:=fx.env t;have hnr:u9 (aj fr.env t)=true:=by
    unfold aj;cases hgt:fr.env.get t with
    |none=>rfl
    |some v=>exact aZ.all_get hnoref hgt
   cases hv:aj fr.env t<;>rw[hv] at this hnr<;>first|exact this|cases hnr
  have wr2:=wrB.named (n:=s.al) (a:=⟨L,0,none⟩) (o:=.loop f fr.env fr.size ps.toList ca cb none) hfree hLs rfl hno1 ⟨rec,hl1,hLR⟩ (fun i v hv=>by
   rw[wrB.aside_ro hl1 trivial] at hv;cases hv)
  have hle:=G.name_le (⟨L,0,none⟩:Addr) hfree;have hat:(G.name s.al ⟨L,0,none⟩).at_ s.al=some ⟨L,0,none⟩:=by simp[Gh.name]
  have wr2:WR (G.name s.al ⟨L,0,none⟩) (s2.new (.loop f fr.env fr.size ps.toList ca cb none)).heap w1:=by
   show WR _ (s2.heap.set s2.al _) _;rw[p.sees.al];exact wr2
  have g0:=fL.new mk s (.loop f fr.env fr.size ps.toList ca cb none);have sm0:=gg.new p.sees (.loop f fr.env fr.size ps.toList ca cb none);have p2:mj mk A (G.name s.al ⟨L,0,none⟩) (s.new (.loop f fr.env fr.size ps.toList ca cb none)) (s2.new (.loop f fr.env fr.size ps.toList ca cb none)) w1:=
   ⟨p.fresh.goes g0,sm0.sees p.sees g0,wr2,fun q hq hAq=>by
    have hq:s.al+1<=q:=hq;show(if q=s.al then _ else G.at_ q)=none;rw[iN (by omega)];exact p.free q (by omega) hAq⟩
  have hargs:bP (G.name s.al ⟨L,0,none⟩) (first++(.yld s.al::captured)) (fs++(.func (.yield L) #[] #[]::cs)):=
   (hfst.mono hle).append (.cons (.yld hat) (hcap.mono hle))
  have hcl:=hcall h _ mk _ _ _ w1 _ ch A p2 hargs hi (fun ch' ha hb=>by
   obtain⟨x,fr',s',q1,q2⟩:=hs ch' ha hb;obtain⟨v,s1',o,q3,_,_,_,q5⟩:=hend _ _ _ _ q1;refine⟨v,s1',q3,fun q hq hq'=>q2 q ?_ ?_⟩;have hq:s.al+1<=q:=hq;omega;rw[q5];exact hq')
  have hent:(callFunc h ⟨fs++(.func (.yield L) #[] #[]::cs)⟩).run Q.P w1= .ok (.enter h ⟨fs++(.func (.yield L) #[] #[]::cs)⟩) w1:=by
   unfold n7 at hbody;cases hfn:(Q.at ch).P.funcs[h]? with
   |none=>rw[hfn] at hbody;cases hbody
   |some fnn=>
    rw[hfn] at hbody;have hfn:Q.P.funcs[h]? =some fnn:=hfn;have hbody:fnn.body.isSome=true:=hbody;cases hbb:fnn.body with
    |none=>rw[hbb] at hbody;cases hbody
    |some bb=>
     have hnm:=hgd.names h fnn hfn;have hnm': ¬fnn.name= "runtime.NumGoroutine" :=by simpa using hnm
     simp[callFunc,go_sem,hfn,hbb,hnm']
  have hcalls:Calls Q.P h ⟨fs++(.func (.yield L) #[] #[]::cs)⟩ w1 (fun e w'=> ∃y,e= .returned y/\ ∃ch' v s' s2' G',CW Q n h (first++(.yld s.al::captured)) mk ch (G.name s.al ⟨L,0,none⟩) (s.new (.loop f fr.env fr.size ps.toList ca cb none)) (s2.new (.loop f fr.env fr.size ps.toList ca cb none)) w1 y w' ch' v s' s2' G'):=by
   rcases hcl with⟨y,w',h1,_⟩|⟨_,h2⟩
   rw[hent] at h1;cases h1;exact h2
  have eargs:(⟨fs⟩:Array Value)++ #[.func (.yield L) #[] #[]]++(⟨cs⟩:Array Value)=⟨fs++(.func (.yield L) #[] #[]::cs)⟩:=by
   apply nf;simp
  refine⟨L,ds.map uZ,w1, {target:=.fn (.func h) ⟨cs⟩,args:=⟨fs⟩++ #[.func (.yield L) #[] #[]] },w1,h,⟨fs++(.func (.yield L) #[] #[]::cs)⟩,w1,r1,?_,fun f' _=>xI ro f',?_,I7 ro 0,?_⟩;simp[resolve,Act.eval,Deferred.ofValue] at hgx ⊢;simp[hgx];simp only[invoke,eargs];exact hent;refine OX.2 (hcalls.mono ?_);rintro e w3 ⟨y,rfl,ch',v,s',s2',G',c⟩;have hags:kU s.ci ch ch':=c.agree;obtain⟨xx,frx,sx,hx,hAx⟩:=hs ch' hags c.inb;obtain⟨v',s1',o,q3,q4,⟨f',env',size',ps',a',b',pe,rfl,rfl⟩,efr,rfl⟩:=hend _ _ _ _ hx;replace efr:=efr.symm;subst efr;have hce:=c.eval;rw[q3] at hce;simp only[aP,bj] at hce;obtain⟨rfl,rfl⟩:=hce;have gC:=((lS Q n).call h _ mk ch' _ v' s1' q3).1;have y2:=c.same.sees (sm0.sees p.sees g0) gC;have q4':=y2.look q4;have hat':G'.at_ s.al=some ⟨L,0,none⟩:=c.ext.le.at_ _ _ hat;obtain⟨ad,ha1,_,rec',hr1,hLR'⟩:=c.wr.obj s.al _ (qO q4').2;rw[hat'] at ha1;injection ha1 with ha1;subst ha1
  have hr1:w3.heap[L]? =some (.loop rec'):=hr1;have hst:rec'.state≠ .busy:=by rw[hLR'.state];cases pe<;>simp
  have hkill: ¬d7 G' (s2'.put s.al none).heap L:=Gs c.wr (by rw[(qO q4').2];simp) hat';have hwr4:WR G' (s2'.put s.al none).heap (dx w3 L (.loop {rec' with state:=.exhausted })):=(c.wr.killed s.al).aside hr1 trivial hkill;have hdk: ∀r∈ds,w3.heap[r]? =some (.deferred (some [])):=fun r hr=>by
   have:=(hd1.at_ r hr).2;exact(c.ext.keep _ (fQ this) (wr2.not_deferred this)).trans this
  have hxt:iV G s2.heap w G' (s2'.put s.al none).heap (dx w3 L (.loop {rec' with state:=.exhausted })) s.al s1'.al (LB B fr.loc):=by
   have hC:=c.ext;refine iV.aside (o:=.loop rec') ?_ hr1 trivial trivial (fun h=>by omega);refine⟨hle.trans hC.le,fh x1.size hC.size,?_,?_,?_,?_,x1.quiet.trans hC.quiet⟩;intro b hb ho _;refine(hC.keep b (by omega) ?_).trans (x1.keep b hb ho);rintro⟨m,ad,t1,t2,t3⟩;have t1:(s2.heap.set s2.al _).get m≠none:=t1;rw[aZ.get_set,p.sees.al] at t1;have t2:(if m=s.al then some ⟨L,0,none⟩ else G.at_ m)=some ad:=t2;by_cases e:m=s.al;rw[iP e] at t2;injection t2 with t2;subst t2
   have t3:L=b:=t3;omega;rw[iN e] at t1 t2;exact ho ⟨m,ad,t1,t2,t3⟩;intro b hb ho;have ho:=hC.owns b (by omega) (wI ho);obtain⟨m,ad,t1,t2,t3⟩:=ho;have t1:(s2.heap.set s2.al _).get m≠none:=t1;rw[aZ.get_set,p.sees.al] at t1;have t2:(if m=s.al then some ⟨L,0,none⟩ else G.at_ m)=some ad:=t2;by_cases e:m=s.al;rw[iP e] at t2;injection t2 with t2;subst t2
   have t3:L=b:=t3;omega;rw[iN e] at t1 t2;exact⟨m,ad,t1,t2,t3⟩;intro m ad hm h0;by_cases e:m=s.al;subst e;exact⟨aU _,gX (fK _) gC.al⟩;have h0':(G.name s.al ⟨L,0,none⟩).at_ m=none:=by
    show(if m=s.al then _ else G.at_ m)=none;rw[iN e];exact h0
   have:=hC.names m ad hm h0';have hq:s.al+1<=m:=this.1;exact⟨by omega,this.2⟩;intro b o v hb hv h0;have ho:=hC.cells b o v (by omega) hv h0;obtain⟨m,ad,t1,t2,t3⟩:=ho;have t1:(s2.heap.set s2.al _).get m≠none:=t1;rw[aZ.get_set,p.sees.al] at t1;have t2:(if m=s.al then some ⟨L,0,none⟩ else G.at_ m)=some ad:=t2;by_cases e:m=s.al;rw[iP e] at t2;injection t2 with t2;subst t2
   have t3:L=b:=t3;omega;rw[iN e] at t1 t2;exact⟨m,ad,t1,t2,t3⟩
  have hfx4:cy G' (s2'.put s.al none).heap B fr a.tmps (dx w3 L (.loop {rec' with state:=.exhausted })):=by
   have e1:pO (G.name s.al ⟨L,0,none⟩) (s2.new (.loop f fr.env fr.size ps.toList ca cb none)).heap B fr.loc w1:=by
    have:=fx.locs.ext x1;refine⟨fun t cs ht=>?_,fun t cs ht ho=>?_,this.ro,this.inj⟩;obtain⟨C,e,u1,u2⟩:=this.cells t cs ht;exact⟨C,e,u1,fun i v hi=>let⟨v1,z,v2,v3⟩:=u2 i v hi;⟨v1,z,v2,v3.mono hle⟩⟩;obtain⟨m,ad,t1,t2,t3⟩:=ho;have t1:(s2.heap.set s2.al _).get m≠none:=t1;rw[aZ.get_set,p.sees.al] at t1;have t2:(if m=s.al then some ⟨L,0,none⟩ else G.at_ m)=some ad:=t2;by_cases e:m=s.al;rw[iP e] at t2;injection t2 with t2;subst t2
    obtain⟨C,ty,u1,_⟩:=fx.locs.cells t cs ht;have t3:L=B t:=t3
    have:=fQ u1;omega;rw[iN e] at t1 t2;exact fx.locs.free t cs ht ⟨m,ad,t1,t2,t3⟩
   have e2:=e1.ext c.ext;have e3:pO G' (s2'.put s.al none).heap B fr.loc w3:=⟨e2.cells,fun t cs ht ho=>e2.free t cs ht (wI ho),e2.ro,e2.inj⟩;exact⟨fx.size,fun t=>(fx.env t).mono (hle.trans c.ext.le),e3.aside hr1 trivial⟩
  have gP:=fL.put q4 (mk:=mk) none;have hpost:td Q mk ch fr G B s s2 a w (lh Q (n+1) f (.rangeFunc g ps ca cb) mk fr s) (yo pe) {a with defers:=ds.map uZ++a.defers } (dx w3 L (.loop {rec' with state:=.exhausted })):=by
   refine⟨ch',fr,s1'.put s.al none,s2'.put s.al none,G',B,hags,c.inb,hx,⟨(g0.trans gC).trans gP,(sm0.trans g0 gC c.same).trans (g0.trans gC) gP (.put y2 q4 none),hwr4,hxt,hfx4,fun b h=>.inl h,ds,rfl,hd1.nodup,?_⟩⟩;intro r hr;refine⟨(hd1.at_ r hr).1,?_⟩
   have:=hdk r hr;rw[jb _ _ _ _ (fQ hr1),iN (fun e=>by
    subst e;rw[this] at hr1;cases hr1)]
   exact this
  refine⟨_,_,run_endLoop hr1 hst,?_⟩
  have:=hK _ _ _ hpost;rw[LX];rw[hLR'.pending] at this ⊢;cases pe with
  |none=>exact this
  |some x=>
   cases x with
   |normal=>exact wpIn_skip this
   |exit id=>exact wpIn_exit this
   |ret=>exact wpIn_ret this
 |_=>
  obtain⟨e0,fr0,s0,h0,_⟩:=hs ch (.refl _ _) hi;cases h0
end
section
variable{P:Program}{mk:aW}{G:Gh}{B:Nat->Nat}{fr:Fr}{s:St}{tmps:Array Value}{w:World}
def aih{u:ae}(wr:WR G s.heap w)(fl:pO G s.heap B fr.loc w)(hl:LV G fr.loc B u x)(he:lR P mk t u fr.loc s=some v):
 ∃ad y,x= .pointer (some ad)/\(loadVar t ad).run P w= .ok y w/\VR G v y:=by
 unfold lR at he;split at he;rename_i t' g off;simp only[az] at he;obtain⟨cs,hcs,he⟩:=he;obtain⟨h1,_,h2⟩:=hl;have hg:=Si hcs;replace h2:=h2 hg;subst hg;obtain⟨C,e,hb,hc⟩:=fl.cells t' cs hcs;obtain⟨y,hy,hv,ht⟩:=Ao (w:=w) (b:=B t') (base:=0) he (fun i u hi=>by
  obtain⟨hs,z,hz,hr⟩:=hc i u hi;exact⟨hs,z,by rw[qc hb];simpa using hz,hr⟩)
 simp only[gl] at hy;exact⟨_,y,h2,hy,hv⟩;rename_i n off;simp only[az] at he;obtain⟨ob,hob,he⟩:=he;split at he;rename_i cs;have hl:VR G _ _:=hl;cases hl;rename_i ad hn;obtain⟨ad',hn',hsp,C,e,hb,_,hc⟩:=wr.obj n _ (iZ hob);rw[hn] at hn';injection hn' with hn';subst hn'
 obtain⟨y,hy,hv,ht⟩:=Ao (w:=w) (b:=ad.block) (base:=ad.off) he (fun i u hi=>by
  obtain⟨hs,z,hz,hr⟩:=hc i u hi;exact⟨hs,z,by rw[qc hb];exact hz,hr⟩)
 exact⟨_,y,rfl,hy,hv⟩;cases he;rename_i cs;have hl:VR G _ _:=hl;cases hl;rename_i b base hro;obtain⟨y,hy,hv,ht⟩:=Ao (w:=w) (b:=b) (base:=base) he (fun i u hi=>wr.ro _ _ _ (hro i u hi));simp only[qE] at hy;exact⟨_,y,rfl,hy,hv⟩;cases he
def G4(tmps:Array Value):ResultVar->Sem Value
 | .tmp t=>pure (tmps.getD t undef)
 | .cell a t=>do loadVar t (<-asAddr (tmps.getD a undef))
def Uw{Q:bF}(wr:WR G s.heap w)(fx:cy G s.heap B fr tmps w): ∀ {l:List ResultVar} {vs:List ae},bW Q mk fr s l=some vs->
 ∃ys,(l.mapM (G4 tmps)).run Q.P w= .ok ys w/\bP G vs ys
 | [],_,h=>by
   simp only[bW,aP] at h;subst h;exact⟨[],by simp[Sem.run_pure],.nil⟩
 |r::l,_,h=>by
  simp only[bW,az] at h;obtain⟨v,hv,vs,hvs,h⟩:=h;obtain⟨hcl,h⟩:=bm h;injection h with h;subst h
  obtain⟨ys,h1,h2⟩:=Uw wr fx hvs;have: ∃y,(G4 tmps r).run Q.P w= .ok y w/\VR G v y:=by
   cases r with
   |tmp t=>
    have hx:=cy.evc (a:=⟨tmps,[]⟩) fx hv;exact⟨_,rfl,hx.1⟩
   |cell a t=>
    obtain⟨ad,y,e1,e2,e3⟩:=aih wr fx.locs (fx.env a) hv;exact⟨y,by simp[G4,e1,asAddr,e2],e3⟩
  obtain⟨y,h3,h4⟩:=this;refine⟨y::ys,?_,.cons h4 h2⟩;rw[List.mapM_cons];simp[h3,h1]
def amN(wr:WR G s.heap w)(fx:cy G s.heap B fr tmps w){fn:Func}{vs:List ae}(h:bW Q mk fr s fn.results.toList=some vs):
 ∃y,(results fn tmps).run Q.P w= .ok y w/\VR G (gG vs) y:=by
 obtain⟨ys,h1,h2⟩:=Uw wr fx h;have hr:results fn tmps=(do let vs<-fn.results.mapM (G4 tmps);pure (if h:vs.size=1 then vs[0] else .tuple vs)):=by
  unfold results;congr 1
 rw[hr,Array.mapM_eq_mapM_toList];simp only[Sem.run_bind,Sem.run_map,h1,iU,Sem.run_pure];cases h2 with
 |nil=>exact⟨.tuple ⟨[]⟩,by simp,.tup .nil⟩
 |cons a b=>
  rename_i v y vs' ys';cases b with
  |nil=>exact⟨y,by simp,a⟩
  |cons c d=>exact⟨.tuple ⟨_⟩,by simp,.tup (.cons a (.cons c d))⟩
end
def Tr: ∀(l:List ae) (n t:Nat),(bt n l).get t=if t<n then none else l[t-n]?
 | [],n,t=>by
   simp only[bt];have:(aZ.nil:aI).get t=none:=rfl;rw[this];simp
 |v::l,n,t=>by
  rw[bt,aZ.get_set,Tr l (n+1) t];by_cases e:t=n;subst e;simp;rw[iN e];by_cases h:t<n;simp[h,Nat.lt_succ_of_lt h];rw[iN h,iN (by omega),show t-n=(t-(n+1))+1 by omega];simp
def Z9(hv:bP G args xs)(nt:Nat):
 cy G h (fun _=>0) ⟨bt 0 args,bif br args.length nt then nt else args.length,[]⟩ ((⟨xs⟩:Array Value)++Array.replicate (nt-(⟨xs⟩:Array Value).size) undef) w where
 size:=by
  have:=hv.length;simp only[Array.size_append,yS,Array.size_replicate,qU];by_cases e:args.length<=nt;simp[e];omega;simp[e];omega
 env t:=by
  have hlen:=hv.length;simp only[aj,Tr,Nat.not_lt_zero,if_false,Nat.sub_zero];cases e:args[t]? with
  |some v=>
   obtain⟨x,hx,hr⟩:=hv.get e;have hlt:t<xs.length:=by
    rcases ix t xs.length with h|h
    exact h;rw[List.getElem?_eq_none h] at hx;cases hx
   have:((⟨xs⟩:Array Value)++Array.replicate (nt-(⟨xs⟩:Array Value).size) undef).getD t undef=x:=by
    rw[ng,Array.getElem?_append_left (by simpa using hlt)];simp[hx]
   rw[this];exact LV.of_VR hr
  |none=>
   have hge:xs.length<=t:=by rw[<-hlen];exact List.getElem?_eq_none_iff.1 e
   have:((⟨xs⟩:Array Value)++Array.replicate (nt-(⟨xs⟩:Array Value).size) undef).getD t undef=undef:=by
    rw[ng,Array.getElem?_append_right (by simpa using hge),MU];split<;>rfl
   rw[this];exact LV.of_VR (MC G)
 locs:=⟨fun t cs h=>by simp[Loc.get] at h,fun t cs h=>by simp[Loc.get] at h,fun t cs h=>by simp[Loc.get] at h,fun t u cs ds h=>by simp[Loc.get] at h⟩
def R3{Q:bF}{fn:Func}{R:Ending->World->Prop}{G0 G:Gh}{h0:aZ bf}{w0:World}{B:Nat->Nat}{fr:Fr}{tmps:Array Value}{lo hi:Nat}{mk:aW}{s:St}{vs:List ae}(hres:bW Q mk fr s fn.results.toList=some vs)(hR: ∀y w',WR G s.heap w'->cM G0 h0 w0 G s.heap w' lo hi->VR G (gG vs) y->R (.returned y) w'):
 ∀(rs:List Nat) (w:World),WR G s.heap w->cy G s.heap B fr tmps w->cM G0 h0 w0 G s.heap w lo hi->un w0.heap.size w rs->LeavesInM Fence.wide 0 Q.P fn tmps R (rs.map uZ++[]) .returning w
 | [],w,wr,fx,ex,_=>by
   obtain⟨y,r1,r2⟩:=amN (Q:=Q) wr fx hres;exact⟨y,r1,hR y w wr ex r2⟩
 |r::rs,w,wr,fx,ex,m=>by
  obtain⟨h1,h2⟩:=m.at_ r (by simp);have hnd:=List.nodup_cons.1 m.nodup;refine⟨by simp,.inl ⟨r,dx w r (.deferred none),rfl,run_takeDeferred h2,?_⟩⟩;refine R3 hres hR rs _ (wr.aside h2 trivial (wr.not_deferred h2)) (fx.aside h2 trivial) (ex.aside h2 trivial trivial fun h=>by omega) ⟨hnd.2,fun q hq=>?_⟩;obtain⟨q1,q2⟩:=m.at_ q (by simp[hq]);refine⟨q1,?_⟩;rw[jb _ _ _ _ (fQ h2),iN];exact q2;intro e;subst e;exact hnd.1 hq
def YJ(hg:Al Q)(hn:rG Q n):vJ Q (n+1):=by
 intro f args mk s s2 G w xs ch A p hv hi hs;have hev: ∀c,(cd (Q.at c) (n+1)).call f args mk s=kE (Q.at c) (cd (Q.at c) n) f args mk s:=fun _=>rfl;cases hsp:Q.spec f with
 |some sp=>
  have hev': ∀c,(cd (Q.at c) (n+1)).call f args mk s=(sp args).bind fun v=>some (v,s):=by
   intro c;have:(Q.at c).spec f=some sp:=hsp;rw[hev,kE,this]
  obtain⟨v,s',h0,_⟩:=hs ch (.refl _ _) hi;rw[hev'] at h0;simp only[az,aP,bj] at h0;obtain⟨v',h1,rfl,rfl⟩:=h0;refine(hg.spec f sp hsp args v' h1 G s2.heap w xs p.wr hv).mono ?_;rintro y w' ⟨G',h2,h3,h4⟩;refine⟨ch,v',s,s2,G',.refl _ _,hi,by rw[hev',h1];rfl,.refl p.sees,h2,?_,h4⟩;exact⟨h3.le,h3.size,h3.keep,h3.owns,fun m a e e0=>by have:=h3.names m a e e0;omega,h3.cells,h3.quiet⟩
 |none=>
 cases hsh:Q.specH f with
 |some sp=>
  have hev': ∀c,(cd (Q.at c) (n+1)).call f args mk s=(kP (s.get mk) (sp args)).bind fun v=>some (v,s):=by
   intro c;have h1:(Q.at c).spec f=none:=hsp;have h2:(Q.at c).specH f=some sp:=hsh;rw[hev,kE,h1];simp only[h2]
  obtain⟨v,s',h0,_⟩:=hs ch (.refl _ _) hi;rw[hev'] at h0;simp only[az,aP,bj] at h0;obtain⟨v',h1,rfl,rfl⟩:=h0;have h1':kP s2.heap.get (sp args)=some v':=by
   have:=Cw p.sees (sp args) v' h1;generalize sp args=x at this;clear h1 hev'
   induction x with
   |ret _=>exact this
   |ask m k ih=>
    simp only[kP,az] at this ⊢;obtain⟨o,q1,q2⟩:=this;exact⟨o,(qO q1).2,ih o q2⟩
  refine(hg.specH f sp hsh args v' G s2.heap w xs p.wr hv h1').mono ?_;rintro y w' ⟨G',h2,h3,h4⟩;refine⟨ch,v',s,s2,G',.refl _ _,hi,by rw[hev',h1];rfl,.refl p.sees,h2,?_,h4⟩;exact⟨h3.le,h3.size,h3.keep,h3.owns,fun m a e e0=>by have:=h3.names m a e e0;omega,h3.cells,h3.quiet⟩
 |none=>
 cases hsw:Q.specW f with
 |some sp=>
  have hev': ∀c,(cd (Q.at c) (n+1)).call f args mk s=(sp args).bind (tL mk s):=by
   intro c;have h1:(Q.at c).spec f=none:=hsp;have h2:(Q.at c).specH f=none:=hsh;have h3:(Q.at c).specW f=some sp:=hsw;rw[hev,kE,h1];simp only[h2,h3]
  obtain⟨v,s',h0,_⟩:=hs ch (.refl _ _) hi;have h00:=h0;rw[hev'] at h0;simp only[az] at h0;obtain⟨q,h1,h3⟩:=h0;cases q with
  |none=>
   simp only[tL,aP,bj] at h3;obtain⟨rfl,rfl⟩:=h3;refine((hg.specW f sp hsw args G s2.heap w xs p.wr hv).1 h1).mono ?_;rintro y w' ⟨G',k2,k3,k4⟩;refine⟨ch,_,_,s2,G',.refl _ _,hi,h00,.refl p.sees,k2,?_,k4⟩;exact⟨k3.le,k3.size,k3.keep,k3.owns,fun m a e e0=>by have:=k3.names m a e e0;omega,k3.cells,k3.quiet⟩
  |some q=>
   simp only[tL,az] at h3;obtain⟨o,h2,h3⟩:=h3;cases o<;>simp only[An,az,reduceCtorEq] at h3;obtain⟨u,h4,h3⟩:=h3;cases u<;>simp only[A1,aP,bj,reduceCtorEq] at h3;rename_i cs cs';obtain⟨rfl,rfl⟩:=h3;have h5:=(qO (p.sees.look h2)).2;have h4:kP s2.heap.get (q.2 cs)=some (.agg cs'):=by
    have:=Cw p.sees (q.2 cs) _ h4;generalize q.2 cs=x at this;clear h4
    induction x with
    |ret _=>exact this
    |ask m k ih=>
     simp only[kP,az] at this ⊢;obtain⟨o,q1,q2⟩:=this;exact⟨o,(qO q1).2,ih o q2⟩
   refine((hg.specW f sp hsw args G s2.heap w xs p.wr hv).2 q.1 q.2 _ cs' h1 h5 h4).mono ?_;rintro y w' ⟨G',k2,k3,k4⟩;refine⟨ch,_,_,s2.put q.1 (some (.cells cs')),G',.refl _ _,hi,h00,.put p.sees h2 _,k2,?_,k4⟩;exact⟨k3.le,k3.size,k3.keep,k3.owns,fun m a e e0=>by have:=k3.names m a e e0;omega,k3.cells,k3.quiet⟩
 |none=>
  have hev': ∀c,(cd (Q.at c) (n+1)).call f args mk s=(Q.P.funcs[f]?).bind fun fn=>fn.body.bind fun b=>
   (lh Q n f b mk ⟨bt 0 args,bif br args.length fn.ntmps then fn.ntmps else args.length,[]⟩ s c).bind (qg (Q.at c) fn mk):=by
   intro c;have h1:(Q.at c).spec f=none:=hsp;have h2:(Q.at c).specH f=none:=hsh;have h3:(Q.at c).specW f=none:=hsw;rw[hev,kE,h1];simp only[h2,h3];rfl
  obtain⟨v0,s0,h0,_⟩:=hs ch (.refl _ _) hi;rw[hev'] at h0;simp only[az] at h0;obtain⟨fn,hf,b,hb,_⟩:=h0;have hev2: ∀c,(cd (Q.at c) (n+1)).call f args mk s=(lh Q n f b mk ⟨bt 0 args,bif br args.length fn.ntmps then fn.ntmps else args.length,[]⟩ s c).bind (qg (Q.at c) fn mk):=by
   intro c;rw[hev',hf];simp only[bn,hb]
  right;have hnm:=hg.names f fn hf;refine⟨?_,?_⟩;have hnm': ¬fn.name= "runtime.NumGoroutine" :=by simpa using hnm
  simp[callFunc,go_sem,hf,hb,hnm'];refine(callsIn_wide (n:=0)).1 (callsIn_of_wp_marks hf hb trivial ?_);have fx:=Z9 (G:=G) (h:=s2.heap) (w:=w) hv fn.ntmps;refine(hn none f b mk _ ch A G (fun _=>0) s s2 _ w (fun h=>absurd rfl h) .none p fx hi ?_ _ ?_).1;intro c h1 h2;obtain⟨v,s',h3,h4⟩:=hs c h1 h2;rw[hev2] at h3;simp only[az] at h3;obtain⟨⟨x,fr',s1⟩,h5,h6⟩:=h3;refine⟨x,fr',s1,h5,?_⟩;have:s1=s':=by
   cases x<;>simp only[qg,az,aP,bj] at h6;obtain⟨_,_,_,e⟩:=h6;exact e;cases h6;obtain⟨_,_,_,e⟩:=h6;exact e
  subst this;exact h4;rintro x a' w' ⟨c,fr',s',s2',G',B',h1,h2,h3,h4⟩;obtain⟨v,s1,h5,_⟩:=hs c h1 h2;have h5':=h5;rw[hev2,h3] at h5;simp only[bn] at h5;have hend: ∀vs,bW (Q.at c) mk fr' s' fn.results.toList=some vs->v=gG vs->s1=s'->
   LeavesInM Fence.wide 0 Q.P fn a'.tmps (fun e w'=> ∃y',e= .returned y'/\ ∃ch' v s' s2' G',CW Q (n+1) f args mk ch G s s2 w y' w' ch' v s' s2' G') a'.defers .returning w':=by
   intro vs hvs e1 e2;have hvs2:bW (Q.at c) mk fr' s2' fn.results.toList=some vs:=
    Sl (Q:=Q.at c) mk fr' fn.results.toList s' s2' vs hvs (fun m o hm=>(h4.same.sees p.sees h4.goes).look hm)
   obtain⟨rs,d1,d2⟩:=h4.defers;rw[d1];have hx0:cM G s2.heap w G' s2'.heap w' s.al s'.al:=h4.ext.toExt fun b ⟨t,cs,e,_⟩=>by simp[Loc.get] at e
   refine R3 (Q:=Q.at c) hvs2 ?_ rs w' h4.wr h4.fx hx0 d2;intro y w'' u1 u2 u3;refine⟨y,rfl,c,v,s1,s2',G',h1,h2,h5',by rw[e2];exact h4.same,u1,?_,by rw[e1];exact u3⟩;rw[e2];exact u2
  cases x with
  |exit id=>cases h5
  |normal=>
   simp only[qg,az,aP,bj] at h5;obtain⟨vs,hvs,e1,e2⟩:=h5;exact hend vs hvs e1.symm e2.symm
  |ret=>
   simp only[qg,az,aP,bj] at h5;obtain⟨vs,hvs,e1,e2⟩:=h5;exact hend vs hvs e1.symm e2.symm
def XG(hg:Al Q)(n:Nat):vJ Q n/\C7 Q n/\rG Q n:=by
 induction n using Nat.strongRecOn with
 |_ n ih=>
  cases n with
  |zero=>
   refine⟨?_,?_,?_⟩;intro f args mk s s2 G w xs ch A p hv hi hs;obtain⟨v,s',h,_⟩:=hs ch (.refl _ _) hi;cases h;intro ro f all mk l i fr ch A G B s s2 a w p fx hi hl hs K hK;obtain⟨x,fr',s',h,_⟩:=hs ch (.refl _ _) hi;cases h;intro ro f c mk fr ch A G B s s2 a w hfl hra p fx hi hs K hK;obtain⟨x,fr',s',h,_⟩:=hs ch (.refl _ _) hi;cases h
  |succ n=>
   obtain⟨h1,h2,h3⟩:=ih n (by omega);exact⟨YJ hg h3,alj h1 h3 h2,ZN hg h3 h2 h1 fun k hk=>⟨(ih k (by omega)).1,(ih k (by omega)).2.2⟩⟩
