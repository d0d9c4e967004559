/- Regions that draw their order. -/
import Derived.Test.YtbfmdojdemckbaaGreatAg5
namespace Go.Ag
open _root_.Array renaming getD_eq_getD_getElem?→kT,getElem?_eq_getElem→l7
open _root_.Bool renaming and_eq_false_iff→AZ,and_eq_true→cU,false_or→jz,not_eq_true'→ug,or_eq_false_iff→ra,or_eq_true→sP
open _root_.Classical renaming byContradiction→kV
open _root_.List renaming length_cons→aK,mem_cons_of_mem→uk
open _root_.Nat renaming beq→aY,blt→bP,le_of_lt→sW,le_refl→bv,lt_or_ge→gY,zero_add→aM
open _root_.Option renaming bind_eq_some_iff→aF,bind_some→ak
open _root_.Option.some renaming injEq→a7
open _root_.Prod.mk renaming injEq→bK
section
variable {α:Type}
open Classical in
noncomputable def mix (X:Nat→α) (D:Nat→Prop):Nat→α
 |0=>X 0
 |k+1=>if D k∧X (k+1)≠X k then X (k+1) else mix X D k
theorem EG {X:Nat→α} {D:Nat→Prop} {j:Nat}: ∀ {n:Nat},j≤n→(∀k,j≤k→k<n→D k→X (k+1)=X k)→mix X D n=mix X D j
 |0,h,_=>by have:j=0:=by omega
            subst this;rfl
 |n+1,h,hk=>by
  by_cases e:j=n+1
  ·rw [e]
  ·rw [mix,if_neg (fun x=>x.2 (hk n (by omega) (by omega) x.1))]
   exact EG (by omega) fun k h1 h2=>hk k h1 (by omega)
theorem EJ {X:Nat→α} {D:Nat→Prop}: ∀ {j:Nat},(∀i,i<j→X (i+1)≠X i→D i)→mix X D j=X j
 |0,_=>rfl
 |j+1,h=>by
  rw [mix]
  split
  ·rfl
  ·rename_i hn
   rw [EJ fun i hi=>h i (by omega)]
   by_cases e:X (j+1)=X j
   ·exact e.symm
   ·exact absurd ⟨h j (by omega) e,e⟩ hn
theorem Rx {X:Nat→α} {D:Nat→Prop} {j n:Nat} (hj:j≤n) (hb: ∀i,i<j→X (i+1)≠X i→D i) (ha: ∀k,j≤k→k<n→D k→X (k+1)=X k):mix X D n=X j:=
 (EG hj ha).trans (EJ hb)
theorem xC {X:Nat→α} {D D':Nat→Prop}: ∀ {n:Nat},(∀k,k<n→X (k+1)≠X k→(D k↔D' k))→mix X D n=mix X D' n
 |0,_=>rfl
 |n+1,h=>by
  rw [mix,mix,xC fun k hk=>h k (by omega)]
  by_cases e:X (n+1)=X n
  ·simp [e]
  ·have:=h n (by omega) e
   by_cases d:D n
   ·rw [if_pos ⟨d,e⟩,if_pos ⟨this.1 d,e⟩]
   ·rw [if_neg fun x=>d x.1,if_neg fun x=>d (this.2 x.1)]
theorem tJ {X:Nat→α} {D:Nat→Prop} {j n:Nat} (h:X (j+1)=X j):mix X (fun k=>D k∨k=j) n=mix X D n:=
 xC fun _k _ hk=>⟨fun x=>x.elim id fun e=>absurd (e▸h) hk,.inl⟩
theorem aio {X:Nat→α} {D:Nat→Prop} {j n:Nat} (hj:j<n) (hb: ∀i,i<j→X (i+1)≠X i→D i) (ha: ∀k,j<k→k<n→D k→X (k+1)=X k):
 mix X (fun k=>D k∨k=j) n=X (j+1):=
 Rx (j:=j+1) (by omega) (fun i hi hne=>by
  by_cases e:i=j
  ·exact .inr e
  ·exact .inl (hb i (by omega) hne)) fun k h1 h2 hd=>ha k (by omega) h2 (hd.resolve_right (by omega))
theorem EH {X:Nat→α} {D:Nat→Prop} {n:Nat} (h: ∀k,k<n→D k):mix X D n=X n:=EJ fun i hi _=>h i hi
theorem EK {X:Nat→α} {D:Nat→Prop} {n:Nat} (h: ∀k,k<n→ ¬D k):mix X D n=X 0:=
 (EG (Nat.zero_le n) fun k _ hk hd=>absurd hd (h k hk))
end
inductive mc (ops:Array Oper):Nat→Nat→Prop
 |one {j:Nat} {o:Oper} {e:Edge}:ops[j]? =some o→e∈o.after→Region.binds .any e=true→mc ops e.on j
 |more {i j:Nat} {o:Oper} {e:Edge}:ops[j]? =some o→e∈o.after→Region.binds .any e=true→mc ops i e.on→mc ops i j
theorem mc.closed {ops:Array Oper} {D:Nat→Prop} (hD: ∀j o,D j→ops[j]? =some o→ ∀e∈o.after,Region.binds .any e=true→D e.on) {i j:Nat} (h:mc ops i j):D j→D i:=by
 induction h with
 |one ho he hb=>exact fun hd=>hD _ _ hd ho _ he hb
 |more ho he hb _ ih=>exact fun hd=>ih (hD _ _ hd ho _ he hb)
theorem mc.ready {ops:Array Oper} {D:Nat→Prop} (hD: ∀j o,D j→ops[j]? =some o→ ∀e∈o.after,Region.binds .any e=true→D e.on) {i j:Nat}
 (hj: ∀o,ops[j]? =some o→ ∀e∈o.after,Region.binds .any e=true→D e.on) (h:mc ops i j):D i:=by
 cases h with
 |one ho he hb=>exact hj _ ho _ he hb
 |more ho he hb hd=>exact hd.closed hD (hj _ ho _ he hb)
theorem alv {s m i k:Nat} (h:(s ||| 2 ^ k ||| m).testBit i=true):s.testBit i=true∨i=k∨m.testBit i=true:=by
 simp only [Nat.testBit_or,sP,Nat.testBit_two_pow,decide_eq_true_eq] at h
 rcases h with(h|h)|h
 ·exact .inl h
 ·exact .inr (.inl h.symm)
 ·exact .inr (.inr h)
theorem UV {ops:Array Oper} {i j b:Nat} (hb:(Region.before ops)[j]? =some b) (hi:b.testBit i=true):mc ops i j:=by
 have inner: ∀(acc:Array Nat) (j:Nat) (o:Oper),ops[j]? =some o→(∀k b,acc[k]? =some b→ ∀i,b.testBit i=true→mc ops i k)→
  ∀(l:List Edge) (s:Nat),(∀e∈l,e∈o.after)→(∀i,s.testBit i=true→mc ops i j)→
  ∀i,(l.foldl (fun s e=>if Region.binds .any e then s ||| 2 ^ e.on ||| acc.getD e.on 0 else s) s).testBit i=true→mc ops i j:=by
  intro acc j o ho hacc l
  induction l with
  |nil=>intro s _ hs i hi;exact hs i hi
  |cons e l ih=>
   intro s hl hs i hi
   refine ih _ (fun e he=>hl e (by simp [he])) ?_ i hi
   intro i hi
   simp only at hi
   split at hi
   ·rename_i hbe
    rcases alv hi with h|h|h
    ·exact hs i h
    ·subst h;exact .one ho (hl e (by simp)) hbe
    ·refine .more ho (hl e (by simp)) hbe ?_
     cases ha:acc[e.on]? with
     |none=>simp [kT,ha] at h
     |some b=>simp [kT,ha] at h;exact hacc _ b ha i h
   ·exact hs i hi
 have outer: ∀(l:List Oper) (acc:Array Nat),(∀k o,l[k]? =some o→ops[acc.size+k]? =some o)→(∀k b,acc[k]? =some b→ ∀i,b.testBit i=true→mc ops i k)→
  ∀k b,(l.foldl (fun acc o=>acc.push (o.after.foldl (fun s e=>if Region.binds .any e then s ||| 2 ^ e.on ||| acc.getD e.on 0 else s) 0)) acc)[k]? =some b→
   ∀i,b.testBit i=true→mc ops i k:=by
  intro l
  induction l with
  |nil=>intro acc _ hacc;exact hacc
  |cons o l ih=>
   intro acc hl hacc
   refine ih _ (fun k o' hk=>?_) ?_
   ·have:=hl (k+1) o' (by simpa using hk)
    rw [Array.size_push]
    rw [show acc.size+1+k=acc.size+(k+1) by omega]
    exact this
   ·intro k b hk i hi
    rw [Array.getElem?_push] at hk
    split at hk
    ·rename_i hks
     subst hks
     injection hk with hk
     subst hk
     rw [←Array.foldl_toList] at hi
     exact inner acc acc.size o (by simpa using hl 0 o (by simp)) hacc o.after.toList 0 (fun e he=>by simpa using he) (fun i hi=>by simp at hi) i hi
    ·exact hacc k b hk i hi
 unfold Region.before at hb
 rw [←Array.foldl_toList] at hb
 exact outer ops.toList #[] (fun k o hk=>by simpa using hk) (fun k b hk=>by simp at hk) j b hb i hi
section
variable {e e2:bc}
theorem B4 {x:Operand} (h:ev e x=ev e2 x):evc e x=evc e2 x:=by simp [evc,h]
theorem uR: ∀ {l:List Operand},(∀x∈l,ev e x=ev e2 x)→evcs e l=evcs e2 l
 | [],_=>rfl
 |x::l,h=>by
  simp only [evcs]
  rw [B4 (h x (by simp)),uR fun y hy=>h y (by simp [hy])]
theorem Cg (place:Nat→Option (Nat×Nat)): ∀ {l:List (Nat×Operand)} (cs:List ai),(∀p∈l,ev e p.2=ev e2 p.2)→dL place e cs l=dL place e2 cs l
 | [],_,_=>rfl
 |(i,x)::l,cs,h=>by
  simp only [dL]
  rw [B4 (h (i,x) (by simp))]
  have ih:=fun cs=>Cg place cs fun p hp=>h p (uk _ hp)
  simp only [ih]
theorem EU {x:Option Operand} {d:Nat} (h: ∀y,x=some y→ev e y=ev e2 y):jv e x d=jv e2 x d:=by
 cases x with
 |none=>rfl
 |some y=>simp [jv,h y rfl]
theorem Vd {P:Program} {t:TypeId} {parts:List (Nat×Operand)} (h: ∀p∈parts,ev e p.2=ev e2 p.2):fY P t parts e=fY P t parts e2:=by
 simp only [fY,Cg _ _ h]
theorem Ve {P:Program} {t:TypeId} {n:Nat} {parts:List (Nat×Operand)} {mu:Bool} {s:St} (h: ∀p∈parts,ev e p.2=ev e2 p.2):
 dR P t n parts mu e s=dR P t n parts mu e2 s:=by
 simp only [dR,Cg _ _ h]
theorem akK {P:Program} {mk:bj} {t:TypeId} {x:ai} {lo hi mx:Option Operand} {s:St} (h1: ∀y,lo=some y→ev e y=ev e2 y) (h2: ∀y,hi=some y→ev e y=ev e2 y)
 (h3: ∀y,mx=some y→ev e y=ev e2 y):jH P mk t x lo hi mx e s=jH P mk t x lo hi mx e2 s:=by
 simp only [jH,EU h1,EU h2,EU h3]
theorem Gv {P:Program} {mk:bj} {ch:Nat→Nat} {kmax:Nat→Nat} {hint:Tmp→Nat} {dst:Option Tmp} {op:Op} {n n2:Nat} {loc:Loc} {s:St} (h: ∀x∈op.operands,ev e x=ev e2 x):
 jV P mk ch kmax hint dst op ⟨e,n,loc⟩ s=jV P mk ch kmax hint dst op ⟨e2,n2,loc⟩ s:=by
 cases op<;>simp only [Op.operands] at h<;>simp only [jV,z7,Aa,vC,vD,z8,xH,Ad,Ae,vB,Ac,Af,Ab,pY,nq,ky]
 case build t ps=>rw [Vd fun p hp=>h p.2 (by simpa using⟨p.1,Array.mem_toList_iff.1 hp⟩)]
 case buildSlice t k ps=>rw [Ve fun p hp=>h p.2 (by simpa using⟨p.1,Array.mem_toList_iff.1 hp⟩)]
 case makeFunc fn a b=>simp only [oe,uR (l:=a.toList) fun x hx=>h x (by simp_all),uR (l:=b.toList) fun x hx=>h x (by simp_all)]
 case makeMap t r=>
  cases r with
  |none=>simp [lX]
  |some x=>simp [lX,h x (by simp)]
 case slice t x lo hi mx=>
  rw [B4 (h x (by simp))]
  simp only [akK (lo:=lo) (hi:=hi) (mx:=mx) (fun y hy=>h y (by simp [hy])) (fun y hy=>h y (by simp [hy])) (fun y hy=>h y (by simp [hy]))]
 case call c=>
  cases hc:c.callee with
  |builtin b=>simp only [uR (l:=c.args.toList) fun x hx=>h x (by simp [Call.operands,hc];simpa using hx)]
  |value f=>rfl
  |invoke a b=>rfl
 case pick c a b=>simp only [sl,h c (by simp),h a (by simp),h b (by simp)]
 all_goals first
  |rfl
  |(simp only [evc];simp_all;done)
  |(simp_all;done)
theorem GL {c:Call} (h: ∀x∈c.operands,ev e x=ev e2 x):callee e c=callee e2 c:=by
 unfold callee
 cases hc:c.callee with
 |builtin b=>rfl
 |invoke a b=>rfl
 |value f=>simp only [h f (by simp [Call.operands,hc]),uR (l:=c.args.toList) fun x hx=>h x (by simp [Call.operands,hc];exact .inr (by simpa using hx))]
theorem Ip {c:Call} (h: ∀x∈c.operands,ev e x=ev e2 x):lS e c=lS e2 c:=by
 unfold lS
 cases hc:c.callee with
 |builtin b=>rfl
 |invoke a b=>rfl
 |value f=>simp only [h f (by simp [Call.operands,hc])]
theorem TF {c:Call} (h: ∀x∈c.operands,ev e x=ev e2 x):yieldee e c=yieldee e2 c:=by
 unfold yieldee
 cases hc:c.callee with
 |builtin b=>rfl
 |invoke a b=>rfl
 |value f=>simp only [h f (by simp [Call.operands,hc]),uR (l:=c.args.toList) fun x hx=>h x (by simp [Call.operands,hc];exact .inr (by simpa using hx))]
theorem ajk {Q:ck} {r:kX} {f:FuncId} {o:Oper} {mk:bj} {n n2:Nat} {loc:Loc} {s:St} (h: ∀x∈o.op.operands,ev e x=ev e2 x):
 fp Q r f o mk ⟨e,n,loc⟩ s=fp Q r f o mk ⟨e2,n2,loc⟩ s:=by
 unfold fp
 split
 ·rename_i c hc
  rw [hc] at h
  cases hb:c.callee with
  |builtin b=>
   have:=Gv (P:=Q.P) (mk:=mk) (ch:=Q.ch) (kmax:=Q.kmax) (hint:=Q.hint f) (dst:=o.dst) (op:=.call c) (n:=n) (n2:=n2) (loc:=loc) (s:=s) h
   simpa only [jV] using this
  |value g=>simp only [lf,GL h,oG,TF h,Ip h]
  |invoke a b=>simp only [lf,GL h,oG,TF h,Ip h]
 ·exact Gv h
end
theorem vv (a b:Nat):bP a b=decide (a<b):=by
 show Nat.ble (a+1) b=_
 rw [ol];rfl
def ji (l l2:Loc) (t:Nat):Prop:=l.gen t=l2.gen t∧ ∀g,l.get t g=l2.get t g
theorem ji.refl (l:Loc) (t:Nat):ji l l t:=⟨rfl,fun _=>rfl⟩
theorem ji.symm {l l2:Loc} {t:Nat} (h:ji l l2 t):ji l2 l t:=⟨h.1.symm,fun g=>(h.2 g).symm⟩
theorem ji.trans {l l2 l3:Loc} {t:Nat} (h:ji l l2 t) (h':ji l2 l3 t):ji l l3 t:=⟨h.1.trans h'.1,fun g=>(h.2 g).trans (h'.2 g)⟩
theorem ji.set_same {l l2:Loc} (t g:Nat) (cs:List ai):ji (l.set t g cs) (l2.set t g cs) t:=by
 constructor
 ·rw [Loc.gen_set,Loc.gen_set,if_pos rfl,if_pos rfl]
 ·intro k;rw [Loc.get_set,Loc.get_set,if_pos rfl,if_pos rfl]
theorem ji.set_other {l:Loc} {t u:Nat} (h:u≠t) (g:Nat) (cs:List ai):ji (l.set t g cs) l u:=by
 constructor
 ·rw [Loc.gen_set,if_neg h]
 ·intro k;rw [Loc.get_set,if_neg h]
def nk (c:Nat) (F:fM) (m:bj):bj:=
 match F with
 | .all=>m
 | .obj n=>(0,n)::(n+1,c)::m
 |_=>(0,c)::m
theorem Cr {c:Nat} {F:fM} {m:bj} {k:Nat} (h:dF (nk c F m) k=false):dF m k=false∧(F= .all∨F= .obj k∨c≤k):=by
 unfold nk at h
 split at h
 ·exact⟨h,.inl rfl⟩
 ·rename_i n
  simp only [dF,ra,AZ] at h
  obtain⟨h1,h2,h3⟩:=h
  refine⟨h3,.inr ?_⟩
  simp only [ol,vv,decide_eq_false_iff_not] at h1 h2
  by_cases e:n=k
  ·exact .inl (by rw [e])
  ·exact .inr (by omega)
 ·simp only [dF,ra,AZ] at h
  obtain⟨h1,h3⟩:=h
  simp only [ol,vv,decide_eq_false_iff_not] at h1
  exact⟨h3,.inr (.inr (by omega))⟩
theorem Cs {c:Nat} {F:fM} {m:bj} {k:Nat} (h:dF m k=true):dF (nk c F m) k=true:=by
 cases e:dF (nk c F m) k with
 |true=>rfl
 |false=>rw [(Cr e).1] at h;cases h
theorem Ct {c n:Nat} {m:bj} {s:St} {o:bE} (h:s.get m n=some o):s.get (nk c (.obj n) m) n=some o:=by
 obtain⟨h1,h2⟩:=oX h
 have:dF (nk c (.obj n) m) n=false:=by
  simp only [nk,dF,h1,Bool.or_false,ra,AZ,ol,vv,decide_eq_false_iff_not]
  omega
 simp [St.get,this,h2]
def cj (c:Nat) (F:fM) (store:Bool) (x:bj→Loc→Option (ai×Loc×St)):Prop:=
 ∀m loc v loc' s',x m loc=some (v,loc',s')→ ∀loc2,(∀t,F= .loc t→ji loc loc2 t)→
  ∃loc2',x (nk c F m) loc2=some (v,loc2',s')∧(∀t,F= .loc t→ji loc' loc2' t)∧(∀t,F≠ .loc t→ji loc' loc t∧ji loc2' loc2 t)∧(store=false→loc'=loc)
theorem cj.plain {c:Nat} {F:fM} {st:Bool} {g:bj→Option (ai×St)} (hF: ∀t,F≠ .loc t) (hg: ∀m r,g m=some r→g (nk c F m)=some r):cj c F st (fun m l=>gR (g m) l):=by
 intro m loc v loc' s' h loc2 _
 simp only [gR,aF] at h
 obtain⟨r,h1,h⟩:=h
 simp only [a7,bK] at h
 obtain⟨rfl,rfl,rfl⟩:=h
 exact⟨loc2,by simp [gR,hg m r h1],fun t ht=>absurd ht (hF t),fun t _=>⟨.refl _ _,.refl _ _⟩,fun _=>rfl⟩
theorem cj.value {c:Nat} {F:fM} {st:Bool} {g:bj→Option ai} {s:St} (hF: ∀t,F≠ .loc t) (hg: ∀m r,g m=some r→g (nk c F m)=some r):cj c F st (fun m l=>fJ (g m) l s):=by
 intro m loc v loc' s' h loc2 _
 obtain⟨h1,rfl,rfl⟩:=jG h
 exact⟨loc2,by simp [fJ,hg m v h1],fun t ht=>absurd ht (hF t),fun t _=>⟨.refl _ _,.refl _ _⟩,fun _=>rfl⟩
theorem cj.none {c:Nat} {F:fM} {st:Bool}:cj c F st (fun _ _=>.none):=by intro m loc v loc' s' h;cases h
theorem cj.bind {α:Type} {c:Nat} {F:fM} {st:Bool} (y:Option α) {k:α→bj→Loc→Option (ai×Loc×St)} (hk: ∀a,y=some a→cj c F st (k a)):cj c F st (fun m l=>y.bind fun a=>k a m l):=by
 cases y with
 |none=>intro m loc v loc' s' h;cases h
 |some a=>exact hk a rfl
theorem cj.gen {c:Nat} {F:fM} {st:Bool} {g:Loc→Option ai} {s:St} (hg: ∀l l2 r,(∀t,F= .loc t→ji l l2 t)→g l=some r→g l2=some r):cj c F st (fun _ l=>fJ (g l) l s):=by
 intro m loc v loc' s' h loc2 h2
 obtain⟨h1,rfl,rfl⟩:=jG h
 exact⟨loc2,by simp [fJ,hg loc' loc2 v h2 h1],fun t ht=>h2 t ht,fun t _=>⟨.refl _ _,.refl _ _⟩,fun _=>rfl⟩
theorem cj.box {c:Nat} {st:Bool} {hint:Tmp→Nat} {dst:Option Tmp} {cs:List ai} {s:St} (hst:st=true):cj c (wV hint dst) st (fun _ l=>n7 (mn hint dst) dst cs l s):=by
 intro m loc v loc' s' h loc2 h2
 unfold n7 at h ⊢
 cases dst with
 |none=>
  simp only [mn] at h ⊢
  simp only [show aY 0 1=false from rfl,cF,a7,bK] at h ⊢
  obtain⟨rfl,rfl,rfl⟩:=h
  exact⟨loc2,by simp,fun t ht=>by simp [wV] at ht,fun t _=>⟨.refl _ _,.refl _ _⟩,fun _=>rfl⟩
 |some t=>
  simp only [mn,wV] at h h2 ⊢
  cases e:aY (hint t) 1 with
  |false=>
   simp only [e,cF,a7,bK] at h h2 ⊢
   obtain⟨rfl,rfl,rfl⟩:=h
   exact⟨loc2,⟨rfl,rfl,rfl⟩,fun t ht=>(by cases ht),fun t _=>⟨.refl _ _,.refl _ _⟩,fun _=>rfl⟩
  |true=>
   simp only [e,cT,ak,a7,bK] at h h2 ⊢
   obtain⟨rfl,rfl,rfl⟩:=h
   have h2:=h2 t rfl
   refine⟨loc2.set t (loc.gen t+1) cs,by simp [h2.1],?_,?_,by simp [hst]⟩
   ·intro u hu;injection hu with hu;subst hu;exact .set_same _ _ _
   ·intro u hu
    have hu:u≠t:=fun e=>hu (by rw [e])
    exact⟨.set_other hu _ _,.set_other hu _ _⟩
section
variable {P:Program} {ch:Nat→Nat} {kmax:Nat→Nat} {hint:Tmp→Nat} {dst:Option Tmp} {e:bc} {n c:Nat} {s:St}
theorem XA (t:TypeId) (a:Operand):cj c (rN e a) false (fun m l=>vC P m t a ⟨e,n,l⟩ s):=by
 unfold vC rN
 refine cj.bind (ev e a) fun u hu=>?_
 simp only [hu]
 cases u<;>try (exact cj.none)
 case ptr k off=>
  refine cj.value (g:=fun m=>kK P m t (.ptr k off) [] s) (by simp) fun m r hr=>?_
  simp only [kK,aF] at hr ⊢
  obtain⟨ob,hob,hr⟩:=hr
  exact⟨ob,Ct hob,hr⟩
 case lref k g off=>
  refine cj.gen (g:=fun l=>kK P [] t (.lref k g off) l s) fun l l2 r hl hr=>?_
  simp only [kK] at hr ⊢
  rw [←(hl k rfl).2];exact hr
 case ro cs=>exact cj.value (g:=fun m=>kK P m t (.ro cs) [] s) (by simp) fun m r hr=>hr
theorem XD (t:TypeId) (a x:Operand):cj c (rN e a) true (fun m l=>vD P m t a x ⟨e,n,l⟩ s):=by
 unfold vD rN
 refine cj.bind (ev e a) fun u hu=>cj.bind (evc e x) fun v _=>?_
 simp only [hu,pq]
 cases hs:eX P t with
 |none=>exact cj.none
 |some k=>
  simp only [ak]
  cases hc:aY v.cells.length k&&bP 0 k with
  |false=>exact cj.none
  |true=>
   simp only [cT]
   cases u<;>try (exact cj.none)
   case ptr j off=>
    intro m loc v' loc' s' h loc2 _
    simp only [aF] at h ⊢
    obtain⟨r,⟨ob,hob,h1⟩,h2⟩:=h
    cases ob<;>simp only [aF] at h1<;>try (cases h1;done)
    rename_i cs
    obtain⟨cs',hcs,h1⟩:=h1
    injection h1 with h1;subst h1
    simp only [a7,bK] at h2
    obtain⟨rfl,rfl,rfl⟩:=h2
    exact⟨loc2,⟨(loc2,_),⟨_,Ct hob,by simp only [hcs,ak];rfl⟩,rfl⟩,fun t ht=>(by cases ht),fun t _=>⟨.refl _ _,.refl _ _⟩,fun _=>rfl⟩
   case lref j g off=>
    intro m loc v' loc' s' h loc2 hl
    simp only [aF] at h ⊢
    obtain⟨r,⟨cs,hcs,cs',hw,h1⟩,h2⟩:=h
    injection h1 with h1;subst h1
    simp only [a7,bK] at h2
    obtain⟨rfl,rfl,rfl⟩:=h2
    refine⟨loc2.set j g cs',⟨(_,s),⟨cs,by rw [←(hl j rfl).2];exact hcs,cs',hw,rfl⟩,rfl⟩,?_,?_,by simp⟩
    ·intro u hu;injection hu with hu;subst hu;exact .set_same _ _ _
    ·intro u hu
     have hu:u≠j:=fun e=>hu (by rw [e])
     exact⟨.set_other hu _ _,.set_other hu _ _⟩
theorem XB (x:Operand):cj c (oW e x) false (fun _ l=>nq x (si l) ⟨e,n,l⟩ s):=by
 unfold nq oW
 refine cj.bind (ev e x) fun u hu=>?_
 simp only [hu]
 refine cj.gen (g:=fun l=>si l u) fun l l2 r hl hr=>?_
 cases u
 case lref=>
  simp only [si] at hr ⊢
  rw [←(hl _ rfl).1];exact hr
 case func fn _ _=>cases fn<;>exact hr
 all_goals exact hr
theorem Xy (t:TypeId) (x:Operand) (f:Nat):cj c (oW e x) false (fun _ l=>nq x (fun x=>fE P l t x f) ⟨e,n,l⟩ s):=by
 unfold nq oW
 refine cj.bind (ev e x) fun u hu=>?_
 simp only [hu]
 refine cj.gen (g:=fun l=>fE P l t u f) fun l l2 r hl hr=>?_
 cases u<;>try exact hr
 simp only [fE] at hr ⊢
 rw [←(hl _ rfl).1];exact hr
theorem Xz (t:TypeId) (x i:Operand):cj c (oW e x) false (fun _ l=>vB P t x i ⟨e,n,l⟩ s):=by
 unfold vB oW
 refine cj.bind (ev e x) fun u hu=>?_
 simp only [hu]
 refine cj.bind (ev e i) fun j _=>?_
 refine cj.gen (g:=fun l=>iq P l t u j) fun l l2 r hl hr=>?_
 cases u<;>try exact hr
 simp only [iq] at hr ⊢
 rw [←(hl _ rfl).1];exact hr
theorem akL {m m2:bj} {t:TypeId} {x:ai} {lo hi mx:Option Operand} {r:ai} (hx: ∀k off,x= .ptr k off→ ∀o,s.get m k=some o→s.get m2 k=some o) (h:jH P m t x lo hi mx e s=some r):
 jH P m2 t x lo hi mx e s=some r:=by
 simp only [jH,aF] at h ⊢
 obtain⟨d,hd,h⟩:=h
 refine⟨d,hd,?_⟩
 split at h
 ·exact h
 ·exact h
 ·simp only [aF] at h ⊢
  obtain⟨k,hk,h⟩:=h
  refine⟨k,hk,?_⟩
  split at h
  ·simp only [aF] at h ⊢
   obtain⟨p,hp,q,hq,ob,hob,h⟩:=h
   exact⟨p,hp,q,hq,ob,hx _ _ rfl _ hob,h⟩
  ·cases h
 ·cases h
theorem XC (t:TypeId) (x:Operand) (lo hi mx:Option Operand):cj c (dr hint dst e (.slice t x lo hi mx)) false (fun m l=>ky x (fun x=>jH P m t x lo hi mx e s) ⟨e,n,l⟩ s):=by
 unfold ky
 refine cj.bind (evc e x) fun u hu=>?_
 have hu:ev e x=some u:=by
  simp only [evc,aF] at hu
  obtain⟨y,hy,hu⟩:=hu
  rw [hy,(bW hu).2]
 simp only [dr,hu]
 refine cj.value (g:=fun m=>jH P m t u lo hi mx e s) ?_ fun m r hr=>?_
 ·intro t;split<;>simp
 ·refine akL (fun k off he o ho=>?_) hr
  subst he
  exact Ct ho
theorem cj.state {F:fM} {st:Bool} {g:bj→Option St} (hF: ∀t,F≠ .loc t) (hg: ∀m r,g m=some r→g (nk c F m)=some r):cj c F st (fun m l=>lr (g m) l):=by
 intro m loc v loc' s' h loc2 _
 simp only [lr,aF] at h
 obtain⟨r,h1,h⟩:=h
 simp only [a7,bK] at h
 obtain⟨rfl,rfl,rfl⟩:=h
 exact⟨loc2,by simp [lr,hg m r h1],fun t ht=>absurd ht (hF t),fun t _=>⟨.refl _ _,.refl _ _⟩,fun _=>rfl⟩
theorem m9 {α:Type} {g:bj→Option α} (m:bj) (r:α) (h:g m=some r):g (nk c .all m)=some r:=h
theorem HN (cl:Call):cj c (dr hint dst e (.call cl)) false (fun m l=>pY P m hint dst cl ⟨e,n,l⟩ s):=by
 obtain⟨callee,args,ats⟩:=cl
 unfold pY
 cases callee with
 |value f=>exact cj.none
 |invoke a b=>exact cj.none
 |builtin b=>
  refine cj.bind (evcs e args.toList) fun vs hvs=>?_
  cases b
  case min=>exact cj.plain (g:=fun m=>ld P m .min _ _ vs s) (by simp [dr]) fun m r hr=>by cases vs<;>exact hr
  case max=>exact cj.plain (g:=fun m=>ld P m .max _ _ vs s) (by simp [dr]) fun m r hr=>by cases vs<;>exact hr
  case len=>
   refine cj.plain (g:=fun m=>ld P m .len _ _ vs s) ?_ fun m r hr=>?_
   ·intro t;simp only [dr];split
    ·split<;>simp
    ·simp
   ·simp only [ld] at hr ⊢
    split at hr<;>try first|(cases hr;done)|(exfalso;rename_i he _;cases he;done)|(exfalso;rename_i he;cases he;done)
    simp only [aF] at hr ⊢
    obtain⟨v,hv,hr⟩:=hr
    refine⟨v,?_,hr⟩
    obtain⟨args⟩:=args
    simp only at hvs
    cases args with
    |nil=>simp [evcs] at hvs
    |cons a0 l=>
     simp only [evcs,aF] at hvs
     obtain⟨u,hu,l',_,hvs⟩:=hvs
     injection hvs with hvs
     injection hvs with hv1 hv2
     subst hv1
     have hu:ev e a0=some u:=by
      simp only [evc,aF] at hu
      obtain⟨y,hy,hu⟩:=hu
      rw [hy,(bW hu).2]
     simp only [gG,dr,List.getElem?_toArray,List.getElem?_cons_zero,hu] at hv ⊢
     generalize P.underlying _=ud at hv ⊢
     cases ud with
     |none=>exact hv
     |some d=>
      simp only [ak] at hv ⊢
      cases u<;>cases d<;>exact hv
  all_goals exact cj.plain (g:=fun m=>ld P m _ _ _ vs s) (by simp [dr]) m9
theorem Xx (op:Op):cj c (dr hint dst e op) (isStore op) (fun m l=>jV P m ch kmax hint dst op ⟨e,n,l⟩ s):=by
 cases op<;>simp only [jV]
 case load t a=>exact XA t a
 case store t a x=>exact XD t a x
 case nilCheck x=>exact XB x
 case fieldAddr t x f=>exact Xy t x f
 case indexAddr t x i=>exact Xz t x i
 case slice t x lo hi mx=>exact XC t x lo hi mx
 case call cl=>exact HN cl
 case alloc t=>exact cj.bind (eK P t) fun z _=>cj.box (cs:=z.cells) rfl
 case box t x=>exact cj.bind (evc e x) fun z _=>cj.box (cs:=z.cells) rfl
 case move x=>exact cj.value (g:=fun _=>ev e x) (by simp [dr]) fun _ _ h=>h
 case assign x=>exact cj.value (g:=fun _=>ev e x) (by simp [dr]) fun _ _ h=>h
 case pick a b d=>exact cj.value (g:=fun _=>sl e a b d) (by simp [dr]) fun _ _ h=>h
 case build t ps=>exact cj.value (g:=fun _=>fY P t ps.toList e) (by simp [dr]) fun _ _ h=>h
 case buildSlice t k ps=>exact cj.plain (g:=fun _=>dR P t k ps.toList _ e s) (by simp [dr]) fun _ _ h=>h
 case binOp o t x y yt=>exact cj.bind (evc e x) fun u _=>cj.bind (evc e y) fun v _=>cj.value (g:=fun _=>fR P o t u v) (by simp [dr]) fun _ _ h=>h
 case unOp o t x=>exact cj.bind (evc e x) fun u _=>cj.value (g:=fun _=>wd o u) (by simp [dr]) fun _ _ h=>h
 case convert a b x=>exact cj.bind (evc e x) fun u _=>cj.value (g:=fun _=>yD P a b u) (by simp [dr]) fun _ _ h=>h
 case makeFunc f a b=>exact cj.value (g:=fun _=>oe e f a b) (by simp [dr]) fun _ _ h=>h
 case makeMap t r=>exact cj.plain (g:=fun _=>lX P t e r s) (by simp [dr]) fun _ _ h=>h
 case makeSlice t a b=>exact cj.bind (ev e a) fun u _=>cj.bind (ev e b) fun v _=>cj.plain (g:=fun _=>sf P t u v _ s) (by simp [dr]) fun _ _ h=>h
 case field t x f=>exact cj.bind (evc e x) fun u _=>cj.value (g:=fun _=>yK P t u f) (by simp [dr]) fun _ _ h=>h
 case index t x i=>exact cj.bind (evc e x) fun u _=>cj.bind (ev e i) fun v _=>cj.value (g:=fun _=>pR P t u v) (by simp [dr]) fun _ _ h=>h
 case extract x i=>exact cj.bind (ev e x) fun u _=>cj.value (g:=fun _=>gu i u) (by simp [dr]) fun _ _ h=>h
 case lookup t x i ok=>exact cj.bind (evc e x) fun u _=>cj.bind (evc e i) fun v _=>cj.value (g:=fun m=>lk P m t u v ok s) (by simp [dr]) m9
 case mapEntry t x i=>exact cj.bind (evc e x) fun u _=>cj.bind (evc e i) fun v _=>cj.plain (g:=fun m=>tH P m t u v s) (by simp [dr]) m9
 case range t x=>exact cj.bind (evc e x) fun u _=>cj.plain (g:=fun m=>kO P m t u s) (by simp [dr]) m9
 case next x b=>exact cj.bind (evc e x) fun u _=>cj.plain (g:=fun m=>j5 m ch kmax u b s) (by simp [dr]) m9
 case entry x=>exact cj.bind (evc e x) fun u _=>cj.value (g:=fun m=>oS m u s) (by simp [dr]) m9
 case mapUpdate t a b d=>exact cj.bind (evc e a) fun u _=>cj.bind (evc e b) fun v _=>cj.bind (evc e d) fun x _=>cj.state (g:=fun m=>lB P m t u v x s) (by simp [dr]) m9
 case insert t a b d=>exact cj.bind (evc e a) fun u _=>cj.bind (evc e b) fun v _=>cj.bind (evc e d) fun x _=>cj.state (g:=fun m=>lB P m t u v x s) (by simp [dr]) m9
 case entryStore t a b d=>exact cj.bind (evc e a) fun u _=>cj.bind (evc e b) fun v _=>cj.bind (evc e d) fun x _=>cj.state (g:=fun m=>uL m u v x s) (by simp [dr]) m9
 all_goals exact cj.none
theorem Cx {Q:ck} {r:kX} {f:FuncId} {o:Oper}:cj c (dr (Q.hint f) o.dst e o.op) (isStore o.op) (fun m l=>fp Q r f o m ⟨e,n,l⟩ s):=by
 unfold fp
 cases ho:o.op<;>simp only<;>try exact Xx _
 rename_i cl
 cases hc:cl.callee with
 |builtin b=>exact HN cl
 |value g=>
  obtain⟨callee,args,ats⟩:=cl
  simp only at hc;subst hc
  simp only
  generalize hy:lS e _=y
  cases y with
  |true=>
   simp only [cT]
   refine cj.bind (Ag.yieldee e _) fun g _=>?_
   exact cj.plain (g:=fun m=>kR r g.1 g.2 m s) (by simp [dr]) m9
  |false=>
   simp only [cF]
   refine cj.bind (Ag.callee e _) fun g _=>?_
   exact cj.plain (g:=fun m=>r.call g.1 g.2 m s) (by simp [dr]) m9
 |invoke a b=>
  obtain⟨callee,args,ats⟩:=cl
  simp only at hc;subst hc
  simp only
  generalize hy:lS e _=y
  cases y with
  |true=>
   simp only [cT]
   refine cj.bind (Ag.yieldee e _) fun g _=>?_
   exact cj.plain (g:=fun m=>kR r g.1 g.2 m s) (by simp [dr]) m9
  |false=>
   simp only [cF]
   refine cj.bind (Ag.callee e _) fun g _=>?_
   exact cj.plain (g:=fun m=>r.call g.1 g.2 m s) (by simp [dr]) m9
end
def yh (bi:Nat) (r:dQ) (foot:fM) (loud:Bool) (m:bj):Prop:=
 bi.testBit r.i=true∨(((loud||r.loud)&&foot.meets r.foot)=false∧ ∀n,r.c0≤n→n<r.c1→dF m n=true)
theorem Rl {bi:Nat} {mk:bj}: ∀ {rs:List dQ} {r:dQ},r∈rs→bi.testBit r.i=false→ ∀n,r.c0≤n→n<r.c1→dF (iU bi rs mk) n=true
 | [],_,h,_,_,_,_=>by cases h
 |q::rs,r,h,hb,n,h0,h1=>by
  unfold iU
  rcases List.mem_cons.1 h with rfl|h
  ·have:aY r.c0 r.c1=false:=by
    cases e:aY r.c0 r.c1 with
    |false=>rfl
    |true=>have:=eU e;omega
   simp only [hb,this,Bool.or_self,cF,dF,ol,vv,sP,cU,decide_eq_true_eq]
   exact .inl ⟨h0,h1⟩
  ·have ih:=Rl (mk:=mk) h hb n h0 h1
   cases bi.testBit q.i||aY q.c0 q.c1
   ·simp only [cF,dF,ih,Bool.or_true]
   ·simpa using ih
theorem Xn {bi:Nat} {foot:fM} {loud:Bool} {rs:List dQ} {mk:bj} (h:fits bi foot loud rs=true) {r:dQ} (hr:r∈rs):yh bi r foot loud (iU bi rs mk):=by
 have:=List.all_eq_true.1 h r hr
 cases hb:bi.testBit r.i with
 |true=>exact .inl hb
 |false=>
  refine .inr ⟨?_,Rl hr hb⟩
  simp only [hb,jz] at this
  cases e:(loud||r.loud)&&foot.meets r.foot with
  |false=>rfl
  |true=>rw [e] at this;cases this
section
variable (Q:ck) (f:FuncId) (all:Array Oper) (mk:bj) (F:Nat→Fr) (S:Nat→St) (M:Nat→bj) (lv:Nat→Nat) (Lo:Nat→Bool)
def yp (k:Nat) (o:Oper):Prop:=
 (eJ all (F k).env o=true∧ ∃v loc' s1,fp Q (cG Q (lv k)) f o (M k) (F k) ⟨(S k).heap,(S k).next,(S k).next,(S k).ci⟩=some (v,loc',s1)∧s1.ci=(S k).ci∧
  d7 (F k) o.dst v loc'=some (F (k+1))∧S (k+1)=(S k).least s1∧Lo k=(bP s1.minw (S k).next||isStore o.op))∨
 (eJ all (F k).env o=false∧d7 (F k) o.dst gX (F k).loc=some (F (k+1))∧S (k+1)=S k)
structure wB (i:Nat) (rs:List dQ) (bs:List Nat) (l:List Oper):Prop where
 step: ∀k o,l[k]? =some o→yp Q f all F S M lv Lo (i+k) o
 more: ∀k o,l[k]? =some o→ ∀n,dF mk n=true→dF (M (i+k)) n=true
 old: ∀k o,l[k]? =some o→eJ all (F (i+k)).env o=true→ ∀r∈rs,yh ((bs[k]?).getD 0) r (dr (Q.hint f) o.dst (F (i+k)).env o.op) (Lo (i+k)) (M (i+k))
 pair: ∀k k' o o',k'<k→l[k]? =some o→l[k']? =some o'→eJ all (F (i+k)).env o=true→eJ all (F (i+k')).env o'=true→
  yh ((bs[k]?).getD 0) ⟨i+k',(S (i+k')).next,(S (i+k'+1)).next,dr (Q.hint f) o'.dst (F (i+k')).env o'.op,Lo (i+k')⟩ (dr (Q.hint f) o.dst (F (i+k)).env o.op) (Lo (i+k)) (M (i+k))
end
theorem HY (bs:List Nat):(bs[0]?).getD 0=bs.headD 0:=by cases bs<;>rfl
theorem AM (bs:List Nat) (k:Nat):bs.tail[k]? =bs[k+1]? :=by cases bs<;>simp
theorem pO {α:Type} (i:Nat) (a:α) (F:Nat→α): ∃F':Nat→α,F' i=a∧ ∀k,F' (i+1+k)=F (i+1+k):=
 ⟨fun k=>if k=i then a else F k,by simp,fun k=>by simp only;rw [if_neg (by omega)]⟩
theorem wB.cons {Q:ck} {f:FuncId} {all:Array Oper} {mk:bj} {F F':Nat→Fr} {S S':Nat→St} {M M':Nat→bj} {lv lv':Nat→Nat} {Lo Lo':Nat→Bool} {i:Nat} {rs rs':List dQ} {bs:List Nat} {o:Oper} {l:List Oper}
 (t:wB Q f all mk F S M lv Lo (i+1) rs' bs.tail l) (hF: ∀k,F' (i+1+k)=F (i+1+k)) (hS: ∀k,S' (i+1+k)=S (i+1+k)) (hM: ∀k,M' (i+1+k)=M (i+1+k))
 (hlv: ∀k,lv' (i+1+k)=lv (i+1+k)) (hLo: ∀k,Lo' (i+1+k)=Lo (i+1+k)) (hst:yp Q f all F' S' M' lv' Lo' i o) (hmk: ∀n,dF mk n=true→dF (M' i) n=true)
 (hold:eJ all (F' i).env o=true→ ∀r∈rs,yh (bs.headD 0) r (dr (Q.hint f) o.dst (F' i).env o.op) (Lo' i) (M' i)) (hrs: ∀r∈rs,r∈rs')
 (hr:eJ all (F' i).env o=true→⟨i,(S' i).next,(S' (i+1)).next,dr (Q.hint f) o.dst (F' i).env o.op,Lo' i⟩∈rs'):wB Q f all mk F' S' M' lv' Lo' i rs bs (o::l) where
 step k p hk:=by
  cases k with
  |zero=>simp at hk;subst hk;exact hst
  |succ k=>
   have:=t.step k p (by simpa using hk)
   unfold yp at this ⊢
   rw [show i+(k+1)=i+1+k by omega,show i+1+k+1=i+1+(k+1) by omega,hF,hF,hS,hS,hM,hlv,hLo]
   exact this
 more k p hk n hn:=by
  cases k with
  |zero=>exact hmk n hn
  |succ k=>rw [show i+(k+1)=i+1+k by omega,hM];exact t.more k p (by simpa using hk) n hn
 old k p hk hw r hr:=by
  cases k with
  |zero=>simp at hk;subst hk;rw [HY];exact hold hw r hr
  |succ k=>
   rw [show i+(k+1)=i+1+k by omega] at hw ⊢
   rw [hF] at hw ⊢
   rw [hM,hLo,←AM]
   exact t.old k p (by simpa using hk) hw r (hrs r hr)
 pair k k' p p' hlt hk hk' hw hw':=by
  cases k with
  |zero=>omega
  |succ k=>
   rw [show i+(k+1)=i+1+k by omega] at hw ⊢
   rw [hF] at hw ⊢
   rw [hM,hLo,←AM]
   cases k' with
   |zero=>
    simp at hk';subst hk'
    exact t.old k p (by simpa using hk) hw _ (hr hw')
   |succ k'=>
    rw [show i+(k'+1)=i+1+k' by omega] at hw' ⊢
    rw [hF] at hw' ⊢
    rw [hLo,show i+1+k'+1=i+1+(k'+1) by omega,hS,hS]
    exact t.pair k k' p p' (by omega) (by simpa using hk) (by simpa using hk') hw hw'
theorem BS {Q:ck} {f:FuncId} {all:Array Oper} {mk:bj}: ∀ {l:List Oper} {n:Nat} {bs:List Nat} {rs:List dQ} {i:Nat} {fr fr':Fr} {s s':St},
 (cG Q n).draw f all bs mk rs i l fr s=some (fr',s')→
 ∃F S M lv Lo,F i=fr∧S i=s∧F (i+l.length)=fr'∧S (i+l.length)=s'∧(∀k o,l[k]? =some o→lv (i+k)<n)∧wB Q f all mk F S M lv Lo i rs bs l
 |l,0,bs,rs,i,fr,fr',s,s',h=>by cases h
 | [],n+1,bs,rs,i,fr,fr',s,s',h=>by
   have h:some (fr,s)=some (fr',s'):=h
   simp only [a7,bK] at h
   obtain⟨rfl,rfl⟩:=h
   exact⟨fun _=>fr,fun _=>s,fun _=>mk,fun _=>0,fun _=>false,rfl,rfl,rfl,rfl,by simp,⟨by simp,by simp,by simp,by simp⟩⟩
 |o::l,n+1,bs,rs,i,fr,fr',s,s',h=>by
  have h:lh Q (cG Q n) f all bs mk rs i (o::l) fr s=some (fr',s'):=h
  simp only [lh] at h
  cases hw:eJ all fr.env o with
  |true=>
   simp only [hw,cT,aF] at h
   obtain⟨⟨v,loc',s1⟩,h1,h⟩:=h
   obtain⟨hc,h⟩:=bW h
   simp only [aF] at h
   obtain⟨fr1,hf,h⟩:=h
   simp only [cU] at hc
   obtain⟨hfit,hci⟩:=hc
   have hci:=eU hci
   obtain⟨F,S,M,lv,Lo,e1,e2,e3,e4,hlv,t⟩:=BS h
   obtain⟨F',F0,F1⟩:=pO i fr F
   obtain⟨S',S0,S1⟩:=pO i s S
   obtain⟨M',M0,M1⟩:=pO i (iU (bs.headD 0) rs mk) M
   obtain⟨lv',lv0,lv1⟩:=pO i n lv
   obtain⟨Lo',Lo0,Lo1⟩:=pO i (bP s1.minw s.next||isStore o.op) Lo
   have eF:F' (i+1)=fr1:=(F1 0).trans e1
   have eS:S' (i+1)=s.least s1:=(S1 0).trans e2
   refine⟨F',S',M',lv',Lo',F0,S0,?_,?_,?_,t.cons F1 S1 M1 lv1 Lo1 ?_ ?_ ?_ ?_ ?_⟩
   ·rw [aK,show i+(l.length+1)=i+1+l.length by omega,F1];exact e3
   ·rw [aK,show i+(l.length+1)=i+1+l.length by omega,S1];exact e4
   ·intro k p hk
    cases k with
    |zero=>rw [Nat.add_zero,lv0];omega
    |succ k=>
     rw [show i+(k+1)=i+1+k by omega,lv1]
     have:=hlv k p (by simpa using hk)
     omega
   ·refine .inl ⟨by rw [F0];exact hw,v,loc',s1,?_,?_,?_,?_,?_⟩
    ·rw [F0,S0,M0,lv0];exact h1
    ·rw [S0];exact hci.symm
    ·rw [F0,eF];exact hf
    ·rw [S0,eS]
    ·rw [S0,Lo0]
   ·intro m hm;rw [M0];exact HZ hm
   ·intro _ r hr
    rw [F0,Lo0,M0]
    exact Xn hfit hr
   ·intro r hr;exact uk _ hr
   ·intro _
    rw [S0,eS,F0,Lo0]
    exact List.mem_cons_self
  |false=>
   simp only [hw,cF,aF] at h
   obtain⟨fr1,hf,h⟩:=h
   obtain⟨F,S,M,lv,Lo,e1,e2,e3,e4,hlv,t⟩:=BS h
   obtain⟨F',F0,F1⟩:=pO i fr F
   obtain⟨S',S0,S1⟩:=pO i s S
   obtain⟨M',M0,M1⟩:=pO i mk M
   obtain⟨lv',lv0,lv1⟩:=pO i n lv
   obtain⟨Lo',Lo0,Lo1⟩:=pO i false Lo
   have eF:F' (i+1)=fr1:=(F1 0).trans e1
   have eS:S' (i+1)=s:=(S1 0).trans e2
   refine⟨F',S',M',lv',Lo',F0,S0,?_,?_,?_,t.cons F1 S1 M1 lv1 Lo1 ?_ ?_ ?_ ?_ ?_⟩
   ·rw [aK,show i+(l.length+1)=i+1+l.length by omega,F1];exact e3
   ·rw [aK,show i+(l.length+1)=i+1+l.length by omega,S1];exact e4
   ·intro k p hk
    cases k with
    |zero=>rw [Nat.add_zero,lv0];omega
    |succ k=>
     rw [show i+(k+1)=i+1+k by omega,lv1]
     have:=hlv k p (by simpa using hk)
     omega
   ·exact .inr ⟨by rw [F0];exact hw,by rw [F0,eF];exact hf,by rw [S0,eS]⟩
   ·intro m hm;rw [M0];exact hm
   ·intro h' r hr
    rw [F0,hw] at h';cases h'
   ·intro r hr;exact hr
   ·intro h';rw [F0,hw] at h';cases h'
theorem Gx {ops:Array Oper}: ∀ {l:List Oper} {bs:List Nat} {b:Nat},kE ops b l bs=true→ ∀i j x y,i<j→l[i]? =some x→l[j]? =some y→((bs[j]?).getD 0).testBit (b+i)=true∨wN ops x y=true
 | [],_,_,_,i,j,x,y,_,hx,_=>by simp at hx
 |o::l,bs,b,h,i,j,x,y,hlt,hx,hy=>by
  simp only [kE,cU] at h
  obtain⟨_,h1,h2⟩:=h
  cases j with
  |zero=>omega
  |succ j=>
   rw [←AM]
   cases i with
   |succ i=>
    have:=Gx h2 i j x y (by omega) (by simpa using hx) (by simpa using hy)
    rw [show b+1+i=b+(i+1) by omega] at this
    exact this
   |zero=>
    simp at hx;subst hx
    have hin: ∀ {l:List Oper} {bs:List Nat},yy ops o b l bs=true→ ∀(j:Nat) y,l[j]? =some y→((bs[j]?).getD 0).testBit b=true∨wN ops o y=true:=by
     intro l
     induction l with
     |nil=>intro bs _ j y hy;simp at hy
     |cons z l ih=>
      intro bs h j y hy
      simp only [yy,cU,sP] at h
      cases j with
      |zero=>simp at hy;subst hy;rw [HY];exact h.1
      |succ j=>rw [←AM];exact ih h.2 j y (by simpa using hy)
    exact hin h1 j y (by simpa using hy)
theorem Gw {ops:Array Oper}: ∀ {l:List Oper} {bs:List Nat} {b:Nat},kE ops b l bs=true→ ∀i x,l[i]? =some x→ ∀e∈x.after,Region.binds .any e=true→e.on<b+i
 | [],_,_,_,i,x,hx,_,_,_=>by simp at hx
 |o::l,bs,b,h,i,x,hx,e,he,hb=>by
  simp only [kE,cU] at h
  obtain⟨h0,_,h2⟩:=h
  cases i with
  |zero=>
   simp at hx;subst hx
   have:=List.all_eq_true.1 h0 e (Array.mem_toList_iff.2 he)
   simp only [hb,Bool.not_true,jz] at this
   exact mi this
  |succ i=>
   have:=Gw h2 i x (by simpa using hx) e he hb
   omega
structure bk (Q:ck) (f:FuncId) (all:Array Oper) (mk:bj) (F:Nat→Fr) (S:Nat→St) (M:Nat→bj) (lv:Nat→Nat) (Lo:Nat→Bool):Prop where
 tr:wB Q f all mk F S M lv Lo 0 [] (Region.before all).toList all.toList
 ap:kE all 0 all.toList (Region.before all).toList=true
 fresh: ∀n,(S 0).next≤n→(S 0).heap.get n=none
section
variable {Q:ck} {f:FuncId} {all:Array Oper} {mk:bj} {F:Nat→Fr} {S:Nat→St} {M:Nat→bj} {lv:Nat→Nat} {Lo:Nat→Bool}
noncomputable def bk.foot (Q:ck) (f:FuncId) (F:Nat→Fr) (k:Nat) (o:Oper):fM:=dr (Q.hint f) o.dst (F k).env o.op
noncomputable def bk.fm (Q:ck) (f:FuncId) (F:Nat→Fr) (S:Nat→St) (M:Nat→bj) (k:Nat) (o:Oper):bj:=nk (S k).next (bk.foot Q f F k o) (M k)
theorem bk.step (t:bk Q f all mk F S M lv Lo) {k:Nat} {o:Oper} (hk:all[k]? =some o):yp Q f all F S M lv Lo k o:=by
 have:=t.tr.step k o (by simpa using hk)
 rwa [aM] at this
theorem bk.done (t:bk Q f all mk F S M lv Lo) {k:Nat} {o:Oper} (hk:all[k]? =some o) (hw:eJ all (F k).env o=true):
 ∃v loc' s1,fp Q (cG Q (lv k)) f o (M k) (F k) ⟨(S k).heap,(S k).next,(S k).next,(S k).ci⟩=some (v,loc',s1)∧s1.ci=(S k).ci∧
  d7 (F k) o.dst v loc'=some (F (k+1))∧S (k+1)=(S k).least s1∧Lo k=(bP s1.minw (S k).next||isStore o.op)∧
  fN (bk.fm Q f F S M k o) ⟨(S k).heap,(S k).next,(S k).next,(S k).ci⟩ s1:=by
 rcases t.step hk with⟨_,v,loc',s1,h1,h2,h3,h4,h5⟩|⟨h,_⟩
 ·refine⟨v,loc',s1,h1,h2,h3,h4,h5,?_⟩
  obtain⟨loc2',h6,_⟩:=Cx (c:=(S k).next) (e:=(F k).env) (n:=(F k).size) (M k) (F k).loc v loc' s1 h1 (F k).loc (fun _ _=>.refl _ _)
  have hl:=xq (Q:=Q) (j1 Q (lv k)) f o (bk.fm Q f F S M k o) (F k)
  exact(hl Q.ch _ v loc2' s1 h6).1
 ·rw [hw] at h;cases h
theorem bk.next_le (t:bk Q f all mk F S M lv Lo) {k:Nat} {o:Oper} (hk:all[k]? =some o):(S k).next≤(S (k+1)).next:=by
 cases hw:eJ all (F k).env o with
 |true=>
  obtain⟨v,loc',s1,_,_,_,h4,_,g⟩:=t.done hk hw
  rw [h4];exact g.next
 |false=>
  rcases t.step hk with⟨h,_⟩|⟨_,_,h⟩
  ·rw [hw] at h;cases h
  ·rw [h];exact bv _
theorem bk.mono (t:bk Q f all mk F S M lv Lo) {i:Nat}: ∀ {j:Nat},i≤j→j≤all.size→(S i).next≤(S j).next
 |0,h,_=>by have:i=0:=by omega
            subst this;exact bv _
 |j+1,h,hj=>by
  by_cases e:i=j+1
  ·rw [e];exact bv _
  ·exact Nat.le_trans (t.mono (by omega) (by omega)) (t.next_le (l7 (by omega)))
theorem bk.none_above (t:bk Q f all mk F S M lv Lo): ∀ {k:Nat},k≤all.size→ ∀n,(S k).next≤n→(S k).heap.get n=none
 |0,_,n,h=>t.fresh n h
 |k+1,hk,n,h=>by
  have ho:all[k]? =some all[k]:=l7 (by omega)
  have hle:=t.next_le ho
  have ih:=t.none_above (k:=k) (by omega) n (by omega)
  cases hw:eJ all (F k).env all[k] with
  |true=>
   obtain⟨v,loc',s1,_,_,_,h4,_,g⟩:=t.done ho hw
   rw [h4] at h ⊢
   refine(g.frame n ?_).trans ih
   rintro(⟨_,h'⟩|h')
   ·exact h' ih
   ·exact absurd h (by have:=h'.2;show¬s1.next≤n;omega)
  |false=>
   rcases t.step ho with⟨h',_⟩|⟨_,_,h'⟩
   ·rw [hw] at h';cases h'
   ·rw [h'];exact ih
def bk.Th (Q:ck) (f:FuncId) (all:Array Oper) (F:Nat→Fr) (S:Nat→St) (M:Nat→bj) (k n:Nat):Prop:=
 ∃o,all[k]? =some o∧eJ all (F k).env o=true∧kD (bk.fm Q f F S M k o) (S k) (S (k+1)) n
open Classical in
noncomputable def bk.X (Q:ck) (f:FuncId) (all:Array Oper) (F:Nat→Fr) (S:Nat→St) (M:Nat→bj) (H:Nat→Option bE) (n:Nat):Nat→Option bE
 |0=>H n
 |k+1=>if bk.Th Q f all F S M k n then(S (k+1)).heap.get n else bk.X Q f all F S M H n k
theorem bk.X_change {H:Nat→Option bE} {n k:Nat} (h:bk.X Q f all F S M H n (k+1)≠bk.X Q f all F S M H n k):bk.Th Q f all F S M k n:=by
 by_cases e:bk.Th Q f all F S M k n
 ·exact e
 ·exact absurd (by rw [bk.X,if_neg e]) h
theorem bk.X_sees (t:bk Q f all mk F S M lv Lo) {H:Nat→Option bE} (h0: ∀n o,dF mk n=false→(S 0).heap.get n=some o→H n=some o):
 ∀ {k:Nat},k≤all.size→ ∀n o,dF mk n=false→(S k).heap.get n=some o→bk.X Q f all F S M H n k=some o
 |0,_,n,o,hn,h=>h0 n o hn h
 |k+1,hk,n,o,hn,h=>by
  have ho:all[k]? =some all[k]:=l7 (by omega)
  rw [bk.X]
  split
  ·exact h
  ·rename_i hT
   refine t.X_sees h0 (by omega) n o hn ?_
   cases hw:eJ all (F k).env all[k] with
   |true=>
    obtain⟨v,loc',s1,_,_,_,h4,_,g⟩:=t.done ho hw
    rw [h4] at h
    refine(g.frame n fun t'=>hT ⟨_,ho,hw,?_⟩).symm.trans h
    rw [h4];exact t'
   |false=>
    rcases t.step ho with⟨h',_⟩|⟨_,_,h'⟩
    ·rw [hw] at h';cases h'
    ·rw [h'] at h;exact h
end
def oN (all:Array Oper) (i j:Nat):Prop:=(((Region.before all).toList[j]?).getD 0).testBit i=true
theorem oN.dep {all:Array Oper} {i j:Nat} (h:oN all i j):mc all i j:=by
 unfold oN at h
 cases hb:(Region.before all)[j]? with
 |none=>simp [hb] at h
 |some b=>simp [hb] at h;exact UV hb h
section
variable {Q:ck} {f:FuncId} {all:Array Oper} {mk:bj} {F:Nat→Fr} {S:Nat→St} {M:Nat→bj} {lv:Nat→Nat} {Lo:Nat→Bool}
theorem bk.compat (t:bk Q f all mk F S M lv Lo) {i j:Nat} {oi oj:Oper} (hij:i<j) (hi:all[i]? =some oi) (hj:all[j]? =some oj) (wi:eJ all (F i).env oi=true) (wj:eJ all (F j).env oj=true)
 (hn: ¬oN all i j):((Lo j||Lo i)&&(bk.foot Q f F j oj).meets (bk.foot Q f F i oi))=false∧ ∀n,(S i).next≤n→n<(S (i+1)).next→dF (M j) n=true:=by
 have:=t.tr.pair j i oj oi hij (by simpa using hj) (by simpa using hi) (by rw [aM];exact wj) (by rw [aM];exact wi)
 simp only [aM] at this
 exact this.resolve_left hn
theorem bk.lt_size {i:Nat} {o:Oper} (h:all[i]? =some o):i<all.size:=(Array.getElem?_eq_some_iff.1 h).1
theorem bk.loud (t:bk Q f all mk F S M lv Lo) {H:Nat→Option bE} (h0: ∀n o,dF mk n=false→(S 0).heap.get n=some o→H n=some o) {i n:Nat} {o:Oper} (hi:all[i]? =some o)
 (w:eJ all (F i).env o=true) (hc:bk.X Q f all F S M H n (i+1)≠bk.X Q f all F S M H n i) (hv:dF (bk.fm Q f F S M i o) n=false) (hp:(S i).heap.get n≠none):Lo i=true:=by
 have hT:=bk.X_change hc
 have hlt:n<(S i).next:=by
  rcases gY n (S i).next with h|h
  ·exact h
  ·exact absurd (t.none_above (sW (bk.lt_size hi)) n h) hp
 obtain⟨v,loc',s1,_,_,_,h4,h5,g⟩:=t.done hi w
 have hm:dF mk n=false:=by
  cases e:dF mk n with
  |false=>rfl
  |true=>
   have:=t.tr.more i o (by simpa using hi) n e
   rw [aM] at this
   rw [bk.fm,Cs this] at hv;cases hv
 cases ho:(S i).heap.get n with
 |none=>exact absurd ho hp
 |some ob=>
  have hX:=t.X_sees h0 (sW (bk.lt_size hi)) n ob hm ho
  rw [bk.X,if_pos hT,hX,←ho,h4] at hc
  have:=g.noted n hlt hc
  rw [h5]
  have:bP s1.minw (S i).next=true:=by rw [vv];exact decide_eq_true (by omega)
  rw [this];rfl
theorem ah9 {F1 F2:fM} {n:Nat} (h1:F1= .all∨F1= .obj n) (h2:F2= .all∨F2= .obj n):F1.meets F2=true:=by
 rcases h1 with rfl|rfl<;>rcases h2 with rfl|rfl<;>simp [fM.meets]
theorem bk.heap_apart (t:bk Q f all mk F S M lv Lo) {H:Nat→Option bE} (h0: ∀n o,dF mk n=false→(S 0).heap.get n=some o→H n=some o) {i j n:Nat} (hij:i<j) (hj:j<all.size) (hn: ¬oN all i j):
 (bk.Th Q f all F S M j n→bk.X Q f all F S M H n (i+1)=bk.X Q f all F S M H n i)∧
 (bk.Th Q f all F S M i n→bk.X Q f all F S M H n (j+1)=bk.X Q f all F S M H n j):=by
 have key:bk.Th Q f all F S M i n→bk.Th Q f all F S M j n→
  (bk.X Q f all F S M H n (i+1)≠bk.X Q f all F S M H n i∨bk.X Q f all F S M H n (j+1)≠bk.X Q f all F S M H n j)→False:=by
  rintro⟨oi,hi,wi,Ti⟩ ⟨oj,hj',wj,Tj⟩ hch
  obtain⟨c1,c2⟩:=t.compat hij hi hj' wi wj hn
  have hle:(S (i+1)).next≤(S j).next:=t.mono (by omega) (by omega)
  have hle':=t.next_le hi
  have hnj:dF (bk.fm Q f F S M j oj) n=false∧(S j).heap.get n≠none:=by
   rcases Tj with h|h
   ·exact h
   ·exfalso
    rcases Ti with⟨_,hp⟩|h'
    ·exact hp (t.none_above (by omega) n (by omega))
    ·omega
  have hmj:=Cr hnj.1
  have hlt:n<(S j).next:=by
   rcases gY n (S j).next with h|h
   ·exact h
   ·exact absurd (t.none_above (by omega) n h) hnj.2
  have hni:dF (bk.fm Q f F S M i oi) n=false∧(S i).heap.get n≠none:=by
   rcases Ti with h|h
   ·exact h
   ·exfalso
    have:=c2 n h.1 h.2
    rw [hmj.1] at this;cases this
  have hmi:=Cr hni.1
  have hlti:n<(S i).next:=by
   rcases gY n (S i).next with h|h
   ·exact h
   ·exact absurd (t.none_above (by omega) n h) hni.2
  have hm:(bk.foot Q f F j oj).meets (bk.foot Q f F i oi)=true:=
   ah9 (hmj.2.imp id fun h=>h.resolve_right (by omega)) (hmi.2.imp id fun h=>h.resolve_right (by omega))
  rw [hm,Bool.and_true] at c1
  rcases hch with h|h
  ·rw [t.loud h0 hi wi h hni.1 hni.2] at c1;simp at c1
  ·rw [t.loud h0 hj' wj h hnj.1 hnj.2] at c1;simp at c1
 constructor
 ·intro hT
  apply kV
  intro hne
  exact key (bk.X_change hne) hT (.inl hne)
 ·intro hT
  apply kV
  intro hne
  exact key hT (bk.X_change hne) (.inr hne)
end
theorem pn {fr fr':Fr} {dst:Option Tmp} {v:ai} {l:Loc} (h:d7 fr dst v l=some fr'):
 fr'.size=fr.size∧fr'.loc=l∧(∀d,dst=some d→d<fr.size∧aq fr'.env d=v)∧ ∀t,dst≠some t→aq fr'.env t=aq fr.env t:=by
 unfold d7 at h
 cases dst with
 |none=>
  injection h with h;subst h
  exact⟨rfl,rfl,by simp,fun _ _=>rfl⟩
 |some d=>
  obtain⟨hd,h⟩:=bW h
  injection h with h;subst h
  refine⟨rfl,rfl,?_,?_⟩
  ·intro d' hd';injection hd' with hd';subst hd'
   exact⟨mi hd,by simp [aq,E6]⟩
  ·intro t ht
   have:t≠d:=fun e=>ht (by rw [e])
   simp [aq,bq.get_set,this]
theorem Wa {ops:Array Oper} {x y:Oper} (h:wN ops x y=true):(∀d,x.dst=some d→d ∉ tG ops y∧y.dst≠some d)∧ ∀d,y.dst=some d→d ∉ tG ops x:=by
 simp only [wN,cU] at h
 have hmem: ∀(d:Nat) (l:List Nat),l.any (aY d)=false→d ∉ l:=by
  intro d l hl hd
  rw [List.any_eq_false] at hl
  exact hl d hd (by simp)
 obtain⟨h1,h2⟩:=h
 refine⟨fun d hd=>?_,fun d hd=>?_⟩
 ·rw [hd] at h1
  simp only [cU,ug] at h1
  refine⟨hmem d _ h1.1,fun e=>?_⟩
  have h1:=h1.2
  rw [e] at h1
  simp at h1
 ·rw [hd] at h2
  simp only [ug] at h2
  exact hmem d _ h2
section
variable {Q:ck} {f:FuncId} {all:Array Oper} {mk:bj} {F:Nat→Fr} {S:Nat→St} {M:Nat→bj} {lv:Nat→Nat} {Lo:Nat→Bool}
def bk.Te (all:Array Oper) (k t:Nat):Prop:= ∃o,all[k]? =some o∧(t∈tG all o∨o.dst=some t)
theorem bk.put (t:bk Q f all mk F S M lv Lo) {k:Nat} {o:Oper} (hk:all[k]? =some o): ∃v l,d7 (F k) o.dst v l=some (F (k+1)):=by
 rcases t.step hk with⟨_,v,loc',s1,_,_,h3,_⟩|⟨_,h,_⟩
 ·exact⟨_,_,h3⟩
 ·exact⟨_,_,h⟩
theorem bk.env_change (t:bk Q f all mk F S M lv Lo) {k d:Nat} {o:Oper} (hk:all[k]? =some o) (h:aq (F (k+1)).env d≠aq (F k).env d):o.dst=some d:=by
 obtain⟨v,l,hp⟩:=t.put hk
 by_cases e:o.dst=some d
 ·exact e
 ·exact absurd ((pn hp).2.2.2 d e) h
theorem bk.size_eq (t:bk Q f all mk F S M lv Lo): ∀ {k:Nat},k≤all.size→(F k).size=(F 0).size
 |0,_=>rfl
 |k+1,h=>by
  obtain⟨v,l,hp⟩:=t.put (l7 (show k<all.size by omega))
  rw [(pn hp).1];exact t.size_eq (by omega)
theorem bk.env_apart (t:bk Q f all mk F S M lv Lo) {i j d:Nat} (hij:i<j) (hj:j<all.size) (hn: ¬oN all i j):
 (bk.Te all j d→aq (F (i+1)).env d=aq (F i).env d)∧(bk.Te all i d→aq (F (j+1)).env d=aq (F j).env d):=by
 have hi':all[i]? =some all[i]:=l7 (by omega)
 have hj':all[j]? =some all[j]:=l7 hj
 have:=Gx t.ap i j all[i] all[j] hij (by simp) (by simp)
 rw [aM] at this
 obtain⟨h1,h2⟩:=Wa (this.resolve_left hn)
 constructor
 ·rintro⟨o,ho,hT⟩
  rw [hj'] at ho;injection ho with ho;subst ho
  apply kV
  intro hne
  obtain⟨h3,h4⟩:=h1 d (t.env_change hi' hne)
  exact hT.elim h3 h4
 ·rintro⟨o,ho,hT⟩
  rw [hi'] at ho;injection ho with ho;subst ho
  apply kV
  intro hne
  have h3:=t.env_change hj' hne
  exact hT.elim (h2 d h3) fun h4=>(h1 d h4).2 h3
def bk.L (F:Nat→Fr) (t k:Nat):Nat×(Nat→Option (List ai)):=((F k).loc.gen t,fun g=>(F k).loc.get t g)
theorem bk.L_eq {F:Nat→Fr} {t k k':Nat}:bk.L F t k=bk.L F t k'↔ji (F k).loc (F k').loc t:=by
 unfold bk.L ji
 rw [bK]
 exact⟨fun h=>⟨h.1,fun g=>congrFun h.2 g⟩,fun h=>⟨h.1,funext h.2⟩⟩
def bk.Tl (Q:ck) (f:FuncId) (all:Array Oper) (F:Nat→Fr) (k u:Nat):Prop:= ∃o,all[k]? =some o∧eJ all (F k).env o=true∧bk.foot Q f F k o= .loc u
theorem bk.loc_change (t:bk Q f all mk F S M lv Lo) {k u:Nat} (hk:k<all.size) (h:bk.L F u (k+1)≠bk.L F u k):bk.Tl Q f all F k u∧Lo k=true:=by
 have hk':all[k]? =some all[k]:=l7 hk
 rcases t.step hk' with⟨w,v,loc',s1,h1,_,h3,_,h5⟩|⟨_,hp,_⟩
 ·have hl:=(pn h3).2.1
  obtain⟨loc2',_,_,h7,h8⟩:=Cx (c:=(S k).next) (e:=(F k).env) (n:=(F k).size) (M k) (F k).loc v loc' s1 h1 (F k).loc (fun _ _=>.refl _ _)
  constructor
  ·apply kV
   intro hT
   apply h
   rw [bk.L_eq,hl]
   exact(h7 u fun e=>hT ⟨_,hk',w,e⟩).1
  ·rw [h5]
   cases e:isStore all[k].op with
   |true=>simp
   |false=>
    exfalso;apply h
    rw [bk.L_eq,hl,h8 e];exact .refl _ _
 ·exfalso;apply h
  rw [bk.L_eq,(pn hp).2.1];exact .refl _ _
theorem bk.loc_apart (t:bk Q f all mk F S M lv Lo) {i j u:Nat} (hij:i<j) (hj:j<all.size) (hn: ¬oN all i j):
 (bk.Tl Q f all F j u→bk.L F u (i+1)=bk.L F u i)∧(bk.Tl Q f all F i u→bk.L F u (j+1)=bk.L F u j):=by
 have key:bk.Tl Q f all F i u→bk.Tl Q f all F j u→(Lo i=true∨Lo j=true)→False:=by
  rintro⟨oi,hi,wi,fi⟩ ⟨oj,hj',wj,fj⟩ hl
  obtain⟨c1,_⟩:=t.compat hij hi hj' wi wj hn
  rw [fi,fj] at c1
  rcases hl with h|h<;>rw [h] at c1<;>simp [fM.meets] at c1
 constructor
 ·intro hT
  apply kV
  intro hne
  obtain⟨h1,h2⟩:=t.loc_change (by omega) hne
  exact key h1 hT (.inl h2)
 ·intro hT
  apply kV
  intro hne
  obtain⟨h1,h2⟩:=t.loc_change hj hne
  exact key hT h1 (.inr h2)
end
section
variable {Q:ck} {f:FuncId} {all:Array Oper} {mk:bj} {F:Nat→Fr} {S:Nat→St} {M:Nat→bj} {lv:Nat→Nat} {Lo:Nat→Bool}
structure jA (Q:ck) (f:FuncId) (all:Array Oper) (F:Nat→Fr) (S:Nat→St) (M:Nat→bj) (H:Nat→Option bE) (D:Nat→Prop) (fr:Fr) (h:Nat→Option bE):Prop where
 env: ∀t,aq fr.env t=mix (fun k=>aq (F k).env t) D all.size
 size:fr.size=(F 0).size
 loc: ∀u,(fr.loc.gen u,fun g=>fr.loc.get u g)=mix (bk.L F u) D all.size
 heap: ∀n,h n=mix (bk.X Q f all F S M H n) D all.size
def A7 (all:Array Oper) (D:Nat→Prop):Prop:= ∀j o,D j→all[j]? =some o→ ∀e∈o.after,Region.binds .any e=true→D e.on
structure jU (all:Array Oper) (D:Nat→Prop) (j:Nat) (o:Oper):Prop where
 closed:A7 all D
 at_:all[j]? =some o
 new: ¬D j
 preds: ∀e∈o.after,Region.binds .any e=true→D e.on
theorem jU.ord {D:Nat→Prop} {j:Nat} {o:Oper} (x:jU all D j o) {i:Nat} (h:oN all i j):D i:=
 h.dep.ready x.closed fun o' ho e he hb=>by
  rw [x.at_] at ho;injection ho with ho;subst ho
  exact x.preds e he hb
theorem jU.notOrd {D:Nat→Prop} {j:Nat} {o:Oper} (x:jU all D j o) {k:Nat} (hk:D k): ¬oN all j k:=fun h=>x.new (h.dep.closed x.closed hk)
theorem jU.both {α:Type} {X:Nat→α} {D:Nat→Prop} {j:Nat} {o:Oper} (x:jU all D j o)
 (hb: ∀i,i<j→ ¬oN all i j→X (i+1)=X i) (ha: ∀k,j<k→k<all.size→ ¬oN all j k→X (k+1)=X k):
 mix X D all.size=X j∧mix X (fun k=>D k∨k=j) all.size=X (j+1):=by
 have hj:=bk.lt_size x.at_
 have hb': ∀i,i<j→X (i+1)≠X i→D i:=fun i hi hne=>by
  apply kV
  intro hd
  exact hne (hb i hi fun h=>hd (x.ord h))
 have ha': ∀k,j<k→k<all.size→D k→X (k+1)=X k:=fun k h1 h2 hd=>ha k h1 h2 (x.notOrd hd)
 refine⟨Rx (by omega) hb' fun k h1 h2 hd=>?_,aio hj hb' ha'⟩
 by_cases e:k=j
 ·exact absurd (e▸hd) x.new
 ·exact ha' k (by omega) h2 hd
theorem jU.env (t:bk Q f all mk F S M lv Lo) {D:Nat→Prop} {j d:Nat} {o:Oper} (x:jU all D j o) (hT:bk.Te all j d):
 mix (fun k=>aq (F k).env d) D all.size=aq (F j).env d∧mix (fun k=>aq (F k).env d) (fun k=>D k∨k=j) all.size=aq (F (j+1)).env d:=
 x.both (X:=fun k=>aq (F k).env d) (fun _i hi hn=>(t.env_apart hi (bk.lt_size x.at_) hn).1 hT) fun _k h1 h2 hn=>(t.env_apart h1 h2 hn).2 hT
theorem jU.loc (t:bk Q f all mk F S M lv Lo) {D:Nat→Prop} {j u:Nat} {o:Oper} (x:jU all D j o) (hT:bk.Tl Q f all F j u):
 mix (bk.L F u) D all.size=bk.L F u j∧mix (bk.L F u) (fun k=>D k∨k=j) all.size=bk.L F u (j+1):=
 x.both (fun _i hi hn=>(t.loc_apart hi (bk.lt_size x.at_) hn).1 hT) fun _k h1 h2 hn=>(t.loc_apart h1 h2 hn).2 hT
theorem jU.heap (t:bk Q f all mk F S M lv Lo) {H:Nat→Option bE} (h0: ∀n o,dF mk n=false→(S 0).heap.get n=some o→H n=some o) {D:Nat→Prop} {j n:Nat} {o:Oper} (x:jU all D j o)
 (hT:bk.Th Q f all F S M j n):
 mix (bk.X Q f all F S M H n) D all.size=bk.X Q f all F S M H n j∧mix (bk.X Q f all F S M H n) (fun k=>D k∨k=j) all.size=bk.X Q f all F S M H n (j+1):=
 x.both (fun _i hi hn=>(t.heap_apart h0 hi (bk.lt_size x.at_) hn).1 hT) fun _k h1 h2 hn=>(t.heap_apart h0 h1 h2 hn).2 hT
theorem jU.keep {α:Type} {X:Nat→α} {D:Nat→Prop} {j n:Nat} (h:X (j+1)=X j):mix X (fun k=>D k∨k=j) n=mix X D n:=tJ h
variable {H:Nat→Option bE} {D:Nat→Prop} {fr:Fr} {h:Nat→Option bE} {j:Nat} {o:Oper}
theorem jA.ev (t:bk Q f all mk F S M lv Lo) (c:jA Q f all F S M H D fr h) (x:jU all D j o): ∀y∈o.op.operands,Ag.ev fr.env y=Ag.ev (F j).env y:=by
 intro y hy
 cases y with
 |tmp d=>
  simp only [Ag.ev]
  rw [c.env d,(x.env t ⟨o,x.at_,.inl ?_⟩).1]
  unfold tG
  refine List.mem_append_left _ (List.mem_filterMap.2 ⟨.tmp d,by simpa using hy,rfl⟩)
 |_=>rfl
theorem jA.wanted (t:bk Q f all mk F S M lv Lo) (c:jA Q f all F S M H D fr h) (x:jU all D j o):eJ all fr.env o=eJ all (F j).env o:=by
 unfold eJ
 cases hg:o.guard with
 |none=>rfl
 |some g=>
  obtain⟨g,want⟩:=g
  simp only
  cases hd:(all[g]?).bind (·.dst) with
  |none=>rfl
  |some d=>
   simp only
   rw [c.env d,(x.env t ⟨o,x.at_,.inl ?_⟩).1]
   unfold tG
   refine List.mem_append_right _ ?_
   simp [hg,hd]
end
theorem R7 {fr:Fr} {dst:Option Tmp} {v:ai} {l:Loc} (h: ∀d,dst=some d→d<fr.size): ∃fr',d7 fr dst v l=some fr':=by
 unfold d7
 cases hd:dst with
 |none=>exact⟨_,rfl⟩
 |some d=>
  have:bP d fr.size=true:=by rw [vv];exact decide_eq_true (h d hd)
  simp only [this,cT]
  exact⟨_,rfl⟩
section
variable {Q:ck} {f:FuncId} {all:Array Oper} {mk:bj} {F:Nat→Fr} {S:Nat→St} {M:Nat→bj} {lv:Nat→Nat} {Lo:Nat→Bool}
variable {H:Nat→Option bE} {D:Nat→Prop} {fr:Fr} {h:bq bE} {j:Nat} {o:Oper}
def bk.from_ (S:Nat→St) (j:Nat) (h:bq bE):St:=⟨h,(S j).next,(S j).next,(S j).ci⟩
theorem jA.sees (t:bk Q f all mk F S M lv Lo) (h0: ∀n o,dF mk n=false→(S 0).heap.get n=some o→H n=some o) (c:jA Q f all F S M H D fr h.get) (x:jU all D j o)
 (hw:eJ all (F j).env o=true):ip (bk.fm Q f F S M j o) (bk.from_ S j (S j).heap) (bk.from_ S j h) where
 next:=rfl
 minw:=rfl
 ci:=rfl
 get n ob hn hg:=by
  have hg:(S j).heap.get n=some ob:=hg
  show h.get n=some ob
  have hT:bk.Th Q f all F S M j n:=⟨o,x.at_,hw,.inl ⟨hn,by rw [hg];simp⟩⟩
  rw [c.heap n,(x.heap t h0 hT).1]
  refine t.X_sees h0 (sW (bk.lt_size x.at_)) n ob ?_ hg
  cases e:dF mk n with
  |false=>rfl
  |true=>
   have:=t.tr.more j o (by simpa using x.at_) n e
   rw [aM] at this
   rw [bk.fm,Cs this] at hn;cases hn
theorem jA.run (t:bk Q f all mk F S M lv Lo) (h0: ∀n o,dF mk n=false→(S 0).heap.get n=some o→H n=some o) (c:jA Q f all F S M H D fr h.get) (x:jU all D j o)
 (hw:eJ all (F j).env o=true):
 ∃v loc' s1 fr',fp Q (cG Q (lv j)) f o (bk.fm Q f F S M j o) fr (bk.from_ S j (S j).heap)=some (v,loc',s1)∧s1.ci=(S j).ci∧s1.next=(S (j+1)).next∧d7 fr o.dst v loc'=some fr'∧
  ∀s2',gq (bk.fm Q f F S M j o) (bk.from_ S j (S j).heap) s1 (bk.from_ S j h) s2'→jA Q f all F S M H (fun k=>D k∨k=j) fr' s2'.heap.get:=by
 obtain⟨v,loc1,s1,h1,h2,h3,h4,h5,g⟩:=t.done x.at_ hw
 obtain⟨loc2,e1,e2,e3,e4⟩:=Cx (c:=(S j).next) (e:=(F j).env) (n:=(F j).size) (M j) (F j).loc v loc1 s1 h1 fr.loc (fun u hu=>by
  have hT:bk.Tl Q f all F j u:=⟨o,x.at_,hw,hu⟩
  have h6:=(c.loc u).trans (x.loc t hT).1
  unfold bk.L at h6
  rw [bK] at h6
  exact⟨h6.1.symm,fun g=>(congrFun h6.2 g).symm⟩)
 have e1:fp Q (cG Q (lv j)) f o (bk.fm Q f F S M j o) ⟨(F j).env,(F j).size,fr.loc⟩ (bk.from_ S j (S j).heap)=some (v,loc2,s1):=e1
 rw [ajk (e2:=fr.env) (n2:=fr.size) (fun y hy=>(c.ev t x y hy).symm)] at e1
 have hsz:fr.size=(F j).size:=c.size.trans (t.size_eq (sW (bk.lt_size x.at_))).symm
 obtain⟨p1,p2,p3,p4⟩:=pn h3
 have hp: ∃fr',d7 fr o.dst v loc2=some fr':=R7 fun d hd=>by rw [hsz];exact(p3 d hd).1
 obtain⟨fr',hp⟩:=hp
 obtain⟨q1,q2,q3,q4⟩:=pn hp
 refine⟨v,loc2,s1,fr',e1,h2,by rw [h4];rfl,hp,fun s2' same=>⟨fun d=>?_,q1.trans c.size,fun u=>?_,fun n=>?_⟩⟩
 ·by_cases hd:o.dst=some d
  ·rw [(q3 d hd).2,(x.env t ⟨o,x.at_,.inr hd⟩).2,(p3 d hd).2]
  ·rw [q4 d hd,c.env d]
   exact(tJ (X:=fun k=>aq (F k).env d) (p4 d hd)).symm
 ·rw [q2]
  by_cases hu:bk.foot Q f F j o= .loc u
  ·rw [(x.loc t ⟨o,x.at_,hw,hu⟩).2]
   have:=e2 u hu
   unfold bk.L
   rw [p2,this.1]
   rw [bK]
   exact⟨rfl,funext fun g=>(this.2 g).symm⟩
  ·obtain⟨a1,a2⟩:=e3 u hu
   rw [tJ (X:=bk.L F u) (bk.L_eq.2 (by rw [p2];exact a1)),←c.loc u,bK]
   exact⟨a2.1,funext a2.2⟩
 ·have hiff:bk.Th Q f all F S M j n↔kD (bk.fm Q f F S M j o) (bk.from_ S j (S j).heap) s1 n:=by
   constructor
   ·rintro⟨o',ho',_,hT⟩
    rw [x.at_] at ho';injection ho' with ho';subst ho'
    rw [h4] at hT;exact hT
   ·intro hT
    refine⟨o,x.at_,hw,?_⟩
    rw [h4];exact hT
  by_cases hT:bk.Th Q f all F S M j n
  ·rw [(x.heap t h0 hT).2,bk.X,if_pos hT,h4]
   exact same.inside n (hiff.1 hT)
  ·rw [tJ (X:=bk.X Q f all F S M H n) (by rw [bk.X,if_neg hT]),←c.heap n]
   exact same.outside n (fun e=>hT (hiff.2 e))
theorem jA.skip (t:bk Q f all mk F S M lv Lo) (c:jA Q f all F S M H D fr h.get) (x:jU all D j o) (hw:eJ all (F j).env o=false):
 ∃fr',d7 fr o.dst gX fr.loc=some fr'∧jA Q f all F S M H (fun k=>D k∨k=j) fr' h.get:=by
 rcases t.step x.at_ with⟨h',_⟩|⟨_,h3,_⟩
 ·rw [hw] at h';cases h'
 have hsz:fr.size=(F j).size:=c.size.trans (t.size_eq (sW (bk.lt_size x.at_))).symm
 obtain⟨p1,p2,p3,p4⟩:=pn h3
 have hp: ∃fr',d7 fr o.dst gX fr.loc=some fr':=R7 fun d hd=>by rw [hsz];exact(p3 d hd).1
 obtain⟨fr',hp⟩:=hp
 obtain⟨q1,q2,q3,q4⟩:=pn hp
 refine⟨fr',hp,⟨fun d=>?_,q1.trans c.size,fun u=>?_,fun n=>?_⟩⟩
 ·by_cases hd:o.dst=some d
  ·rw [(q3 d hd).2,(x.env t ⟨o,x.at_,.inr hd⟩).2,(p3 d hd).2]
  ·rw [q4 d hd,c.env d]
   exact(tJ (X:=fun k=>aq (F k).env d) (p4 d hd)).symm
 ·rw [q2,tJ (X:=bk.L F u) (bk.L_eq.2 (by rw [p2];exact .refl _ _)),←c.loc u]
 ·rw [tJ (X:=bk.X Q f all F S M H n) ?_,←c.heap n]
  rw [bk.X,if_neg]
  rintro⟨o',ho',hw',_⟩
  rw [x.at_] at ho';injection ho' with ho';subst ho'
  rw [hw] at hw';cases hw'
theorem jA.start {s2:bq bE} (hD: ∀k, ¬D k):jA Q f all F S M s2.get D (F 0) s2.get where
 env d:=(EK (X:=fun k=>aq (F k).env d) fun k _=>hD k).symm
 size:=rfl
 loc u:=by rw [EK (X:=bk.L F u) fun k _=>hD k];rfl
 heap n:=by rw [EK (X:=bk.X Q f all F S M s2.get n) fun k _=>hD k];rfl
theorem jA.fin (c:jA Q f all F S M H D fr h.get) (hD: ∀k,k<all.size→D k):
 fr.size=(F 0).size∧(∀d,aq fr.env d=aq (F all.size).env d)∧(∀u,ji fr.loc (F all.size).loc u)∧ ∀n,h.get n=bk.X Q f all F S M H n all.size:=by
 refine⟨c.size,fun d=>?_,fun u=>?_,fun n=>?_⟩
 ·rw [c.env d];exact EH (X:=fun k=>aq (F k).env d) hD
 ·have:=c.loc u
  rw [EH hD] at this
  unfold bk.L at this
  rw [bK] at this
  exact⟨this.1,congrFun this.2⟩
 ·rw [c.heap n];exact EH hD
end
end Go.Ag
