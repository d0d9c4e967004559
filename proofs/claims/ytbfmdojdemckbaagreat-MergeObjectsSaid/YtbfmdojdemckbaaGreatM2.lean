/- merger.need; sorted names. -/
import Derived.Test.YtbfmdojdemckbaaGreatM1
namespace Go.Proofs.YtbfmdojdemckbaaGreat
open _root_.Classical renaming byContradiction→kV
open _root_.List renaming cons_append→cq,drop→aR,head?_cons→bN,length_append→dn,length_cons→aK,length_map→ep,length_nil→aQ,nil_append→bT,take→bA
open _root_.Nat renaming le_refl→bv,le_succ_of_le→j8,lt_irrefl→fL,lt_succ_of_lt→mS,reduceAdd→bt,reduceBEq→ae,reduceLT→ar,reduceLeDiff→bR,zero_add→aM
open _root_.Option renaming bind_some→ak,getD_some→nM
open Go.Ag
def iM (b o t:List Obj) (k:ax):Option Obj:=match aX k b with
 |some q=>some q
 |none=>jt (aX k o) (aX k t)
def fv (b o t:List Obj) (k:ax):Option Obj:=match fW b o t k with
 |some q=>some q
 |none=>iM b o t k
inductive Reach (b o t:List Obj):ax→Prop
 |of {k id:ax} {q:Obj}:fW b o t k=some q→id∈q.refs→fW b o t id=none→(iM b o t id).isSome=true→Reach b o t id
 |step {k id:ax} {q:Obj}:Reach b o t k→iM b o t k=some q→id∈q.refs→fW b o t id=none→(iM b o t id).isSome=true→Reach b o t id
theorem Reach.no {b o t:List Obj} {k:ax} (h:Reach b o t k):fW b o t k=none∧(iM b o t k).isSome=true:=by
 cases h with
 |of _ _ h1 h2=>exact⟨h1,h2⟩
 |step _ _ _ h1 h2=>exact⟨h1,h2⟩
def iz (b o t:List Obj) (k:ax):Prop:=(fW b o t k).isSome=true∨Reach b o t k
theorem iz.next {b o t:List Obj} {k id:ax} {q:Obj} (h:iz b o t k) (hq:fv b o t k=some q) (hid:id∈q.refs) (h1:fW b o t id=none) (h2:(iM b o t id).isSome=true):Reach b o t id:=by
 rcases h with h|h
 ·obtain⟨q',hq'⟩:=Option.isSome_iff_exists.1 h
  simp only [fv,hq'] at hq
  injection hq with hq;subst hq
  exact .of hq' hid h1 h2
 ·have hn:=h.no.1
  simp only [fv,hn] at hq
  exact .step h hq hid h1 h2
def dW (b o t:List Obj):List ax:=b.map (·.id)++(o.map (·.id)++t.map (·.id))
theorem EX {b o t:List Obj} {k:ax} (h:(iM b o t k).isSome=true):k∈dW b o t:=by
 unfold iM at h
 unfold dW
 cases hb:aX k b with
 |some q=>exact List.mem_append.2 (.inl (vz.1 (by rw [hb];simp)))
 |none=>
  rw [hb] at h
  cases ho:aX k o with
  |some q=>exact List.mem_append.2 (.inr (List.mem_append.2 (.inl (vz.1 (by rw [ho];simp)))))
  |none=>
   cases ht:aX k t with
   |some q=>exact List.mem_append.2 (.inr (List.mem_append.2 (.inr (vz.1 (by rw [ht];simp)))))
   |none=>rw [ho,ht] at h;cases h
def pU (b o t:List Obj) (U:List (ax×ai)):Nat:=((dW b o t).filter fun k=>(look k U).isNone).length
theorem ah8 {b o t:List Obj} {U U':List (ax×ai)} (h: ∀j,(look j U).isSome=true→(look j U').isSome=true):pU b o t U'≤pU b o t U:=by
 unfold pU
 rw [←List.countP_eq_length_filter,←List.countP_eq_length_filter]
 refine List.countP_mono_left fun j _ hj=>?_
 cases hu:look j U with
 |none=>rfl
 |some v=>
  have:=h j (by rw [hu];rfl)
  cases hu':look j U' with
  |none=>rw [hu'] at this;cases this
  |some _=>simp [hu'] at hj
theorem ah7 {b o t:List Obj} {U:List (ax×ai)} {id:ax} {v:ai} (h1:id∈dW b o t) (h2:look id U=none):pU b o t (ej id v U)<pU b o t U:=by
 unfold pU
 have hsub: ∀l:List ax,l.filter (fun k=>(look k (ej id v U)).isNone)=(l.filter fun k=>(look k U).isNone).filter fun k=> !(k==id):=by
  intro l
  rw [List.filter_filter]
  congr 1
  funext k
  rw [lV]
  cases hk:k==id with
  |true=>simp
  |false=>simp
 rw [hsub]
 refine Nat.lt_of_le_of_ne (List.length_filter_le _ _) fun hc=>?_
 have:=List.length_filter_eq_length_iff.1 hc id (List.mem_filter.2 ⟨h1,by rw [h2];rfl⟩)
 simp at this
structure Rn (s1 s:St) (x mb mo mt mu md:Nat) (B O T U:List (ax×ai)) (b o t:List Obj) (C:List Cf):Prop where
 mg:Mg s x mb mo mt mu md B O T U C
 low: ∀n,n<mu→s.get [] n=s1.get [] n
 val: ∀k v,look k U=some v→ ∃q,fv b o t k=some q∧eR s s.next v (some q)
 base: ∀k,(fW b o t k).isSome=true→(look k U).isSome=true
 new: ∀k,(look k U).isSome=true→iz b o t k
 nd:(U.map (·.1)).Nodup
 cnd:C.Nodup
 conf: ∀c,c∈C↔(∃k,c∈js b o t k)∨ ∃k,(look k U).isSome=true∧fW b o t k=none∧c=(k,fK)
theorem GR {b o t:List Obj} {k:ax} (hb:aX k b=none) (ho:aX k o=none) (ht:aX k t=none):js b o t k=[]∧fW b o t k=none:=by
 unfold js fW
 rw [hb,ho,ht]
 exact⟨rfl,rfl⟩
theorem Rs.rn {s1 s:St} {x mb mo mt mu md:Nat} {B O T U:List (ax×ai)} {b o t:List Obj} {D:ax→Prop} {C:List Cf} (r:Rs s1 s x mb mo mt mu md B O T U b o t D C) (hD: ∀k,D k↔k∈dW b o t):Rn s1 s x mb mo mt mu md B O T U b o t C:=by
 have out: ∀k, ¬D k→js b o t k=[]∧fW b o t k=none:=fun k h=>by
  rw [hD] at h
  simp only [dW,List.mem_append,not_or] at h
  have nn: ∀ {l:List Obj},k ∉ l.map (·.id)→aX k l=none:=fun {l} hn=>by
   cases ho:aX k l with
   |none=>rfl
   |some q=>exact absurd (vz.1 (by rw [ho];simp)) hn
  exact GR (nn h.1) (nn h.2.1) (nn h.2.2)
 have hin: ∀k,(fW b o t k).isSome=true→D k:=fun k h=>kV fun hc=>by rw [(out k hc).2] at h;cases h
 refine⟨r.mg,r.low,fun k v h=>?_,fun k h=>(r.dom k).2 ⟨hin k h,h⟩,fun k h=>.inl ((r.dom k).1 h).2,r.nd,r.cnd,fun c=>?_⟩
 ·obtain⟨q,h1,h2⟩:=r.val k v h
  exact⟨q,by simp only [fv,h1],h2⟩
 ·rw [r.conf c]
  constructor
  ·rintro⟨k,_,h⟩;exact .inl ⟨k,h⟩
  ·rintro(⟨k,h⟩|⟨k,h1,h2,_⟩)
   ·exact⟨k,kV fun hc=>(by rw [(out k hc).1] at h;cases h),h⟩
   ·have:=((r.dom k).1 h1).2
    rw [h2] at this;cases this
section
variable {s1 s s':St} {x mb mo mt mu md:Nat} {B O T U:List (ax×ai)} {b o t:List Obj} {C:List Cf}
theorem Rn.add (r:Rn s1 s x mb mo mt mu md B O T U b o t C) {id:ax} {p:Nat} {q:Obj} (hU:look id U=none) (hq:iM b o t id=some q) (hp:eR s s.next (.ptr p 0) (some q)) (hR:Reach b o t id)
 (hg: ∀n,s'.get [] n=((s.put mu (some (.map (cK 0 (ej id (.ptr p 0) U)) (ej id (.ptr p 0) U).length))).put md (some (.map (eG 0 (dC (id,fK) C)) (dC (id,fK) C).length))).get [] n) (hn:s'.next=s.next) (hm:s'.minw≤s'.next):
 Rn s1 s' x mb mo mt mu md B O T (ej id (.ptr p 0) U) b o t (dC (id,fK) C)∧(∀n,n≠mu→n≠md→s'.get [] n=s.get [] n):=by
 obtain⟨o1,o2,o3,o4,o5,o6⟩:=r.mg.ord
 have key: ∀n,n≠mu→n≠md→s'.get [] n=s.get [] n:=fun n h1 h2=>by
  rw [hg,cD,beq_eq_false_iff_ne.2 h2,cF,cD,beq_eq_false_iff_ne.2 h1];rfl
 have tr: ∀ {v:ai} {q:Obj},eR s s.next v (some q)→eR s' s'.next v (some q):=fun h=>by
  cases h with
  |at_ a1 a2 a3=>
   refine .at_ (by omega) ((key _ ?_ ?_).trans a2) a3
   ·intro e;subst e;rw [r.mg.hu] at a2;cases a2
   ·intro e;subst e;rw [r.mg.hd] at a2;cases a2
 have hmg:=hR.no.1
 have M:=r.mg
 refine⟨⟨⟨(key _ (by omega) (by omega)).trans M.hx,(key _ (by omega) (by omega)).trans M.hb,(key _ (by omega) (by omega)).trans M.ho,(key _ (by omega) (by omega)).trans M.ht,?_,?_,hm,o1,o2,o3,o4,o5,by omega⟩,fun n h=>(key n (by omega) (by omega)).trans (r.low n h),fun k v hk=>?_,fun k hk=>?_,fun k hk=>?_,CQ r.nd,tc r.cnd,fun c=>?_⟩,key⟩
 ·rw [hg,cD,beq_eq_false_iff_ne.2 (by omega),cF,cD,bS];rfl
 ·rw [hg,cD,bS];rfl
 ·rw [lV] at hk
  cases hjk:k==id with
  |true=>
   rw [hjk] at hk
   injection hk with hk;subst hk
   have:=eq_of_beq hjk
   subst this
   exact⟨q,by simp only [fv,hmg,hq],tr hp⟩
  |false=>
   rw [hjk] at hk
   obtain⟨q',h1,h2⟩:=r.val k v hk
   exact⟨q',h1,tr h2⟩
 ·rw [lV]
  cases k==id with
  |true=>rfl
  |false=>exact r.base k hk
 ·rw [lV] at hk
  cases hjk:k==id with
  |true=>rw [eq_of_beq hjk];exact .inr hR
  |false=>rw [hjk] at hk;exact r.new k hk
 ·rw [o7,r.conf c]
  constructor
  ·rintro(rfl|h|⟨k,h1,h2,h3⟩)
   ·exact .inr ⟨id,by rw [lV,bS];rfl,hmg,rfl⟩
   ·exact .inl h
   ·refine .inr ⟨k,?_,h2,h3⟩
    rw [lV]
    cases k==id<;>first|rfl|exact h1
  ·rintro(h|⟨k,h1,h2,h3⟩)
   ·exact .inr (.inl h)
   ·rw [lV] at h1
    cases hjk:k==id with
    |true=>rw [eq_of_beq hjk] at h3;exact .inl h3
    |false=>rw [hjk] at h1;exact .inr (.inr ⟨k,h1,h2,h3⟩)
end
section
variable {sp:FuncId→Option (List ai→Option ai)} {ch:Nat→Nat} (hS:uu sp) (h27:sp 27=none)
 {s1:St} {x mb mo mt mu md:Nat} {B O T:List (ax×ai)} {b o t:List Obj} (c:ww s1 mu B O T b o t)
structure Nd (s1 s s':St) (x mb mo mt mu md:Nat) (B O T U U':List (ax×ai)) (b o t:List Obj) (C':List Cf) (ids:List ax):Prop where
 rn:Rn s1 s' x mb mo mt mu md B O T U' b o t C'
 sub: ∀j,(look j U).isSome=true→(look j U').isSome=true
 refs: ∀id∈ids,(fv b o t id).isSome=true→(look id U').isSome=true
 clo: ∀j q,(look j U').isSome=true→look j U=none→fv b o t j=some q→ ∀id∈q.refs,(fv b o t id).isSome=true→(look id U').isSome=true
 old: ∀n,n<s.next→n≠mu→n≠md→s'.get [] n=s.get [] n
 next:s'.next=s.next
def Gb (sp:FuncId→Option (List ai→Option ai)) (ch:Nat→Nat) (s1:St) (x mb mo mt mu md:Nat) (B O T:List (ax×ai)) (b o t:List Obj) (N:Nat):Prop:=
 ∀(s:St) (U:List (ax×ai)) (C:List Cf) (k:ax) (q:Obj) (p:Nat),Rn s1 s x mb mo mt mu md B O T U b o t C→pU b o t U≤N→iz b o t k→fv b o t k=some q→eR s s.next (.ptr p 0) (some q)→
  ∃s' U' C',br (QM sp ch) 27 [.ptr x 0,.ptr p 0] s (jw []) s'∧Nd s1 s s' x mb mo mt mu md B O T U U' b o t C' q.refs
include hS c
theorem aiC {N:Nat} (ih: ∀M,M<N→Gb sp ch s1 x mb mo mt mu md B O T b o t M) {k:ax} {ob:Obj} (hk:iz b o t k) (hv:fv b o t k=some ob) (hg:ob.Good) {lc:Ag.Loc}: ∀(rest pre:List ax) (e:bc) (s:St) (U:List (ax×ai)) (C:List Cf),ob.refs=pre++rest→Rn s1 s x mb mo mt mu md B O T U b o t C→pU b o t U≤N→
 aq e 0= .ptr x 0→aq e 10=ob.refsV→aq e 11= .int .i64 (ob.refs.length:Nat)→aq e 12= .int .i64 (pre.length:Nat)→
 W (QM sp ch) 27 (.loop xd) ⟨e,59,lc⟩ s fun y _fr s'=>y= .exit 0∧ ∃U' C',Nd s1 s s' x mb mo mt mu md B O T U U' b o t C' rest:=by
 intro rest
 have hcl:=hg.refs.clean
 have hsm:small=9223372036854775808:=rfl
 have hrl:=hg.reflen
 induction rest with
 |nil=>
  intro pre e s U C hpre r hN h0 h10 h11 h12
  have hl:ob.refs.length=pre.length:=by rw [hpre];simp
  refine W.loop1 ?_
  unfold xd
  refine W.sreg ?_
  unfold Dt
  simp only [az,aA,aB,aW,aj,aC,aw,cQ,ak,aZ,cT,bD,cZ,tA,ar,decide_false,h11,h12,hl,fL]
  refine W.seq (W.cond (t:=false) (by simp only [aj,ah,ae,cT]) ?_)
  exact W.exit ⟨rfl,U,C,r,fun _ h=>h,fun id h=>(by cases h),fun j q h1 h2=>(by rw [h2] at h1;cases h1),fun _ _ _ _=>rfl,rfl⟩
 |cons id rest ihr=>
  intro pre e s U C hpre r hN h0 h10 h11 h12
  have hlt:pre.length<ob.refs.length:=by rw [hpre];simp
  have hat:ob.refs[pre.length]? =some id:=by rw [hpre];simp
  have hmem:id∈ob.refs:=by rw [hpre];simp
  have hia:=fun lc=>hg.refs.at mp hat lc .i64
  have M:=r.mg
  have hx:=M.hx
  have hm:=M.minw
  obtain⟨o1,o2,o3,o4,o5,o6⟩:=M.ord
  have hwr:IntKind.i64.wrap ((pre.length:Int)+1)=((pre.length+1:Nat):Int):=by rw [eC (by omega) (by omega)];omega
  have go: ∀(e2:bc) (s2:St) (U2:List (ax×ai)) (C2:List Cf),Rn s1 s2 x mb mo mt mu md B O T U2 b o t C2→(∀j,(look j U).isSome=true→(look j U2).isSome=true)→((fv b o t id).isSome=true→(look id U2).isSome=true)→(∀j q,(look j U2).isSome=true→look j U=none→fv b o t j=some q→ ∀i∈q.refs,(fv b o t i).isSome=true→(look i U2).isSome=true)→(∀n,n<s.next→n≠mu→n≠md→s2.get [] n=s.get [] n)→s2.next=s.next→
   aq e2 0= .ptr x 0→aq e2 10=ob.refsV→aq e2 11= .int .i64 (ob.refs.length:Nat)→aq e2 12= .int .i64 ((pre.length+1:Nat):Int)→
   W (QM sp ch) 27 (.loop xd) ⟨e2,59,lc⟩ s2 fun y fr s'=>y= .exit 0∧ ∃U' C',Nd s1 s s' x mb mo mt mu md B O T U U' b o t C' (id::rest):=by
   intro e2 s2 U2 C2 r2 sub2 ref2 clo2 old2 n2 g0 g10 g11 g12
   refine W.mono (ihr (pre++[id]) e2 s2 U2 C2 (by rw [hpre];simp) r2 (Nat.le_trans (ah8 sub2) hN) g0 g10 g11 (by rw [g12,dn];rfl)) ?_
   rintro y fr s' ⟨rfl,U',C',nd⟩
   refine⟨rfl,U',C',nd.rn,fun j h=>nd.sub j (sub2 j h),fun i hi hvi=>?_,fun j q h1 h2 h3 i hi hvi=>?_,fun n h1 h2 h3=>(nd.old n (by omega) h2 h3).trans (old2 n h1 h2 h3),nd.next.trans n2⟩
   ·rcases List.mem_cons.1 hi with rfl|hi
    ·exact nd.sub _ (ref2 hvi)
    ·exact nd.refs i hi hvi
   ·cases hj:look j U2 with
    |none=>exact nd.clo j q h1 hj h3 i hi hvi
    |some v=>exact nd.sub i (clo2 j q (by rw [hj];rfl) h2 h3 i hi hvi)
  refine W.loop1 ?_
  unfold xd
  refine W.sreg ?_
  unfold Dt
  simp only [az,aA,aB,aW,aj,aC,aw,cQ,ak,aZ,cT,bD,cZ,tA,ar,dT,h11,h12,hlt]
  refine W.seq (W.cond (t:=true) (by simp only [aj,ah,ae,cT]) (W.skip ?_))
  simp only [aN]
  refine W.seq (W.block (W.sreg ?_))
  unfold Mc
  simp only [az,aA,aB,ah,aJ,bf,ec,aj,eI,aw,kF,ak,cT,cF,bD,aR,bN,bS,tA,ae,ar,dD,h10,h12,hia,bp,eI]
  refine W.seq (W.sseq (W.reg ?_))
  unfold Md
  have hlk:=qN M.hu id
  cases hU:look id U with
  |some v=>
   obtain⟨q,v1,v2⟩:=r.val id v hU
   rcases v2.out with⟨_,v3⟩|⟨p,_,v3,_⟩
   ·cases v3
   have hat_:at_ id U= .ptr p 0:=by simp only [at_,hU,nM,v3]
   rw [hat_] at hlk
   simp only [az,aA,aB,ah,aE,bf,aW,b7,lp,fI,aj,aI,aC,aw,ak,cu,dM,fZ,cT,cF,bD,aR,bN,bS,tA,aM,ae,ar,rL,mE,h0,fG,dl,hx,dj,hlk,iC,iK,qW,aN]
   refine W.cond (t:=true) (by simp only [aj,ah,ae,cT,cF]) (W.exit ?_)
   show W (QM sp ch) 27 _ _ _ _
   refine W.reg ?_
   unfold zf
   simp only [az,aA,aB,ah,aE,aW,aj,aI,aC,bo,aw,d8,ak,aZ,cT,cF,bD,bS,tA,ae,ar,h12,hwr,aN]
   refine go _ s U C r (fun _ h=>h) (fun _=>by rw [hU];rfl) (fun j q h1 h2=>(by rw [h2] at h1;cases h1)) (fun _ _ _ _=>rfl) rfl ?_ ?_ ?_ ?_
   ·simp only [ah,ae,cF,h0]
   ·simp only [ah,ae,cF,h10]
   ·simp only [ah,ae,cF,h11]
   ·simp only [ah,ae,cT,cF]
  |none=>
   have hmg:fW b o t id=none:=by
    cases h:fW b o t id with
    |none=>rfl
    |some q=>
     have:=r.base id (by rw [h];rfl)
     rw [hU] at this;cases this
   have hval:fv b o t id=iM b o t id:=by simp only [fv,hmg]
   have hat_:at_ id U= .nilp:=by simp only [at_,hU,Option.getD_none]
   rw [hat_] at hlk
   have take: ∀(e2:bc) (v:ai),aq e2 6=v→eR s s.next v (iM b o t id)→aq e2 0= .ptr x 0→aq e2 5= .str id→aq e2 10=ob.refsV→aq e2 11= .int .i64 (ob.refs.length:Nat)→aq e2 12= .int .i64 (pre.length:Nat)→ ∀KK:Ex→Fr→St→Prop,
    (∀(e3:bc) (s2:St) (U2:List (ax×ai)) (C2:List Cf),Rn s1 s2 x mb mo mt mu md B O T U2 b o t C2→(∀j,(look j U).isSome=true→(look j U2).isSome=true)→((fv b o t id).isSome=true→(look id U2).isSome=true)→(∀j q,(look j U2).isSome=true→look j U=none→fv b o t j=some q→ ∀i∈q.refs,(fv b o t i).isSome=true→(look i U2).isSome=true)→(∀n,n<s.next→n≠mu→n≠md→s2.get [] n=s.get [] n)→s2.next=s.next→
     aq e3 0= .ptr x 0→aq e3 10=ob.refsV→aq e3 11= .int .i64 (ob.refs.length:Nat)→aq e3 12= .int .i64 (pre.length:Nat)→KK .normal ⟨e3,59,lc⟩ s2)→
    W (QM sp ch) 27 (.seq (.region Dv) (.cond (Operand.tmp 45) (.seq (.region Dw) (.seq (.region Dx) (.region Du))) .skip)) ⟨e2,59,lc⟩ s KK:=by
    intro e2 v g6 hp g0 g5 g10 g11 g12 KK hKK
    refine W.sreg ?_
    unfold Dv
    rcases hp.out with⟨rfl,hq⟩|⟨p,q,rfl,hq,p1,p2,p3⟩
    ·simp only [az,aA,aB,ah,aE,aW,aj,aI,aC,aw,ak,cT,bD,bS,tA,ar,g6,iC,iK,tP]
     refine W.cond (t:=false) (by simp only [aj,ah,ae,cT,cF]) (W.skip ?_)
     refine hKK _ s U C r (fun _ h=>h) (fun h=>?_) (fun j q h1 h2=>(by rw [h2] at h1;cases h1)) (fun _ _ _ _=>rfl) rfl ?_ ?_ ?_ ?_
     ·rw [hval,hq] at h;cases h
     ·simp only [ah,ae,cF,g0]
     ·simp only [ah,ae,cF,g10]
     ·simp only [ah,ae,cF,g11]
     ·simp only [ah,ae,cF,g12]
    ·have hR:Reach b o t id:=hk.next hv hmem hmg (by rw [hq];rfl)
     have hup:=x4 rK zW M.hu id (.ptr p 0)
     obtain⟨s2,hs2⟩: ∃a,a=s.put mu (some (.map (cK 0 (ej id (.ptr p 0) U)) (ej id (.ptr p 0) U).length)):=⟨_,rfl⟩
     rw [←hs2] at hup
     have x2:s2.get [] x=some (.cells [.map mb,.map mo,.map mt,.map mu,.map md]):=by rw [hs2,cD,beq_eq_false_iff_ne.2 (by omega)];exact hx
     have d2:s2.get [] md=some (.map (eG 0 C) C.length):=by rw [hs2,cD,beq_eq_false_iff_ne.2 (by omega)];exact M.hd
     have hnote:=xD (sp:=sp) (ch:=ch) hS.h45 x2 d2 id fK
     obtain⟨s3,hs3⟩: ∃a,a=s2.put md (some (.map (eG 0 (dC (id,fK) C)) (dC (id,fK) C).length)):=⟨_,rfl⟩
     rw [←hs3] at hnote
     have n3:s3.next=s.next:=by rw [hs3,hs2];rfl
     have m3:s3.minw≤s3.next:=by rw [hs3,hs2];exact ju _ _ _ (ju _ _ _ hm)
     have hp':eR s s.next (.ptr p 0) (some q):=.at_ p1 p2 p3
     obtain⟨r3,k3⟩:=r.add hU hq hp' hR (s':=s3) (fun n=>by rw [hs3,hs2]) n3 m3
     have hname:id∈dW b o t:=EX (by rw [hq];rfl)
     have hmeas:=ah7 (v:=.ptr p 0) hname hU
     have p3':eR s3 s3.next (.ptr p 0) (some q):=by
      refine .at_ (by omega) ((k3 p ?_ ?_).trans p2) p3
      ·intro e;subst e;rw [M.hu] at p2;cases p2
      ·intro e;subst e;rw [M.hd] at p2;cases p2
     obtain⟨s4,U4,C4,hrun,nd⟩:=ih (pU b o t (ej id (.ptr p 0) U)) (by omega) s3 _ _ id q p r3 (bv _) (.inr hR) (by rw [hval,hq]) p3'
     simp only [az,aA,aB,ah,aE,aW,aj,aI,aC,aw,ak,dM,cT,bD,bS,tA,ar,g6,iC,iK,qW]
     refine W.cond (t:=true) (by simp only [aj,ah,ae,cT,cF]) (W.sreg ?_)
     unfold Dw
     simp only [az,aA,dH,aB,dI,ah,aE,bf,b7,tL,fI,aj,aC,aw,tU,ak,cu,dM,fZ,cT,cF,bD,aR,bN,bS,tA,aM,ae,ar,rL,mE,g0,g5,g6,fG,dl,hx,dj,hup]
     refine W.seq (W.region (fD 2 ?_))
     unfold Dx
     simp only [az,aA,aB,ah,aE,aj,aw,cF,bA,aR,tA,ae,ar,g0,g5]
     refine fQ (g:=45) (args:=[.ptr x 0,.str id,.str fK]) ?_ hnote (by decide) ?_
     ·simp only [callee,ah,aj,aI,eH,aC,be,bh,hQ,ak,cu,dM,cT,cF,bT,cq,bS,ae]
      rfl
     refine fP ?_
     simp only [az,aN]
     refine W.region (fD 2 ?_)
     unfold Du
     simp only [az,aA,aB,ah,aE,aj,aw,cF,bA,aR,tA,ae,ar,g0,g6]
     refine fQ (g:=27) (args:=[.ptr x 0,.ptr p 0]) ?_ hrun (by decide) ?_
     ·simp only [callee,ah,aj,eH,aC,be,bh,ak,dM,cT,cF,bT,cq,bS,ae]
     refine fP ?_
     simp only [az]
     have sub4: ∀j,(look j U).isSome=true→(look j U4).isSome=true:=fun j h=>nd.sub j (by
      rw [lV]
      cases j==id<;>first|rfl|exact h)
     have id4:(look id U4).isSome=true:=nd.sub id (by rw [lV,bS];rfl)
     refine hKK _ s4 U4 C4 nd.rn sub4 (fun _=>id4) (fun j q' h1 h2 h3 i hi hvi=>?_) (fun n h1 h2 h3=>(nd.old n (by omega) h2 h3).trans (k3 n h2 h3)) (nd.next.trans n3) ?_ ?_ ?_ ?_
     ·cases hj:j==id with
      |true=>
       have:=eq_of_beq hj
       subst this
       rw [hval,hq] at h3
       have h3:=Option.some.inj h3
       rw [←h3] at hi
       exact nd.refs i hi hvi
      |false=>exact nd.clo j q' h1 (by rw [lV,hj];exact h2) h3 i hi hvi
     ·simp only [ah,ae,cF,g0]
     ·simp only [ah,ae,cF,g10]
     ·simp only [ah,ae,cF,g11]
     ·simp only [ah,ae,cF,g12]
   simp only [az,aA,aB,ah,aE,bf,aW,b7,lp,fI,aj,aI,aC,aw,ak,cu,fZ,cT,cF,bD,aR,bN,bS,tA,aM,ae,ar,rL,mE,h0,fG,dl,hx,dj,hlk,iC,iK,tP,aN]
   refine W.cond (t:=false) (by simp only [aj,ah,ae,cT,cF]) (W.skip ?_)
   simp only [aN]
   have lb:=qN M.hb id
   have hpb:=(c.pb id).low r.low
   have hpo:=(c.po id).low r.low
   have hpt:=(c.pt id).low r.low
   have cb:=(hpb.pv fun _ _=>rfl).clean
   have co:=(hpo.pv fun _ _=>rfl).clean
   have ct:=(hpt.pv fun _ _=>rfl).clean
   refine W.sreg ?_
   unfold Me
   simp only [az,aA,aB,ah,aE,aJ,bf,b7,lp,fI,aj,aC,aw,ak,cu,fZ,cT,cF,bD,aR,bN,bS,tA,Nat.add_zero,ae,ar,B9,mE,h0,fG,dl,hx,dj,lb]
   refine W.seq (W.seq (W.reg ?_))
   unfold Mf
   rcases hpb.out with⟨eb,qb⟩|⟨p,q,eb,qb,p1,p2,p3⟩
   ·have lo:=qN (s:=s.top) M.ho id
    have lt:=qN (s:=s.top) M.ht id
    have hxt:s.top.get [] x=some (.cells [.map mb,.map mo,.map mt,.map mu,.map md]):=hx
    have hless:=QQ (ch:=ch) hS.h46 hS.h77 hS.h122 hS.h119 hS.h123 hS.h124 hS.h31 (s:=s.top) (bv _) (hpo.pv (s':=s.top) fun _ _=>rfl) (hpt.pv (s':=s.top) fun _ _=>rfl) (c.vo id).len (c.vt id).len
    have hnd:iM b o t id=jt (aX id o) (aX id t):=by simp only [iM,qb]
    have hlv:eR s s.next (oZ (at_ id O) (at_ id T) (aX id o) (aX id t)) (iM b o t id):=by
     rw [hnd]
     exact QO (hpo.put_map M.hd (by omega) fun _ _ _=>rfl) (hpt.put_map M.hd (by omega) fun _ _ _=>rfl)
    have cl:=(hlv.pv fun _ _=>rfl).clean
    simp only [az,aA,aB,ah,aE,aW,aj,aI,aC,aw,ak,cT,cF,bD,bS,tA,ae,ar,eb,iC,iK,vI,aN]
    refine W.cond (t:=true) (by simp only [aj,ah,ae,cT,cF]) ?_
    show W (QM sp ch) 27 (SC.draw u9 Ma) _ _ _
    rw [show u9=u9.take 12++u9.drop 12 from(List.take_append_drop 12 _).symm]
    refine W.drawD (WD.calmOps hm (fun _ h=>by cases h) (fun _ h=>by cases h) ?_)
    unfold u9
    simp only [fh,fg,fu,isStore,ah,aE,bf,b7,lp,fI,aj,aC,aw,ak,cu,fZ,cT,cF,bD,aK,aQ,bA,aR,bN,bT,cq,bS,tA,aM,ae,ar,bt,Ca,Cb,mE,h0,fG,dl,hxt,dj,lo,lt]
    intro rs1 hc1 hi1
    refine WD.calmCall hm (g:=46) (args:=[at_ id O,at_ id T]) hc1 hi1 ?_ hless (by decide) ?_
    ·simp only [callee,ah,aj,eH,aC,be,bh,ak,cT,cF,bT,cq,bS,ae,co,ct]
    intro rs2 hc2 hi2
    refine WD.calmOps (l1:=[_]) (l2:=[]) hm hc2 hi2 ?_
    simp only [fh,fg,fu,isStore,ah,aJ,aj,aw,cT,cF,aK,aQ,aR,List.drop_succ_cons,bS,tA,aM,ae,ar,bt]
    intro rs3 hc3 hi3
    refine WD.nil ?_
    simp only [aN]
    refine take _ _ ?_ hlv ?_ ?_ ?_ ?_ ?_ _ (fun e3 s2 U2 C2 f1 f2 f3 f4 f5 f6 f0 f10 f11 f12=>?_)
    ·simp only [ah,ae,cT,cF]
    ·simp only [ah,ae,cF,h0]
    ·simp only [ah,ae,cT,cF]
    ·simp only [ah,ae,cF,h10]
    ·simp only [ah,ae,cF,h11]
    ·simp only [ah,ae,cF,h12]
    simp only [dS,aN]
    refine W.reg ?_
    unfold zf
    simp only [az,aA,aB,ah,aE,aW,aj,aI,aC,bo,aw,d8,ak,aZ,cT,bD,bS,tA,ar,f12,hwr,aN]
    refine go _ s2 U2 C2 f1 f2 f3 f4 f5 f6 ?_ ?_ ?_ ?_
    ·simp only [ah,ae,cF,f0]
    ·simp only [ah,ae,cF,f10]
    ·simp only [ah,ae,cF,f11]
    ·simp only [ah,ae,cT,cF]
   ·simp only [az,aA,aB,ah,aE,aW,aj,aI,aC,aw,ak,dM,cT,cF,bD,bS,tA,ae,ar,eb,iC,iK,vJ,aN]
    refine W.cond (t:=false) (by simp only [aj,ah,ae,cT,cF]) (W.skip ?_)
    simp only [aN]
    have hnd:iM b o t id=some q:=by simp only [iM,qb]
    have hp:eR s s.next (.ptr p 0) (iM b o t id):=by rw [hnd];exact .at_ (by omega) p2 p3
    refine take _ _ ?_ hp ?_ ?_ ?_ ?_ ?_ _ (fun e3 s2 U2 C2 f1 f2 f3 f4 f5 f6 f0 f10 f11 f12=>?_)
    ·simp only [ah,ae,cT,cF]
    ·simp only [ah,ae,cF,h0]
    ·simp only [ah,ae,cT,cF]
    ·simp only [ah,ae,cF,h10]
    ·simp only [ah,ae,cF,h11]
    ·simp only [ah,ae,cF,h12]
    simp only [dS,aN]
    refine W.reg ?_
    unfold zf
    simp only [az,aA,aB,ah,aE,aW,aj,aI,aC,bo,aw,d8,ak,aZ,cT,bD,bS,tA,ar,f12,hwr,aN]
    refine go _ s2 U2 C2 f1 f2 f3 f4 f5 f6 ?_ ?_ ?_ ?_
    ·simp only [ah,ae,cF,f0]
    ·simp only [ah,ae,cF,f10]
    ·simp only [ah,ae,cF,f11]
    ·simp only [ah,ae,cT,cF]
include h27
theorem aiD: ∀N,Gb sp ch s1 x mb mo mt mu md B O T b o t N:=by
 intro N
 induction N using Nat.strongRecOn with
 |ind N ih=>
  intro s U C k q p r hN hk hv hp
  rcases hp.out with⟨e,_⟩|⟨p',q',e1,e2,p1,p2,p3⟩
  ·cases e
  have e1:=(ai.ptr.inj e1).1
  have e2:=Option.some.inj e2
  subst e1;subst e2
  have hcl:=p3.refs.clean
  have hlen:=fun mk s=>p3.refs.len iT jl mk s
  simp only [Obj.cells] at p2
  have h: ∃v s',br (QM sp ch) 27 [.ptr x 0,.ptr p 0] s v s'∧(v=jw []∧ ∃U' C',Nd s1 s s' x mb mo mt mu md B O T U U' b o t C' q.refs):=by
   refine br.ofEx adw adv ady adx h27 ?_
   unfold L9
   refine W.sreg ?_
   unfold Mb
   simp only [dg,cM,az,aA,aB,ah,aE,bf,b7,fI,cL,aj,aI,aC,be,bh,bo,aw,cd,da,bH,ak,cT,cF,bD,gp,aK,aQ,aR,bN,bS,tA,aM,ae,ar,bt,bR,aU,bQ,dT,lP,iE,YO,fG,dl,p2,dj,hcl,hlen]
   refine W.block ?_
   refine(aiC hS c (N:=N) (fun M hM=>ih M hM) hk hv p3 q.refs [] _ s U C rfl r hN ?_ ?_ ?_ ?_).mono ?_
   ·simp only [ah,ae,cT,cF]
   ·simp only [ah,ae,cT,cF]
   ·simp only [ah,ae,cT,cF]
   ·simp only [ah,ae,cT,cF];rfl
   rintro y fr s' ⟨rfl,U',C',nd⟩
   exact⟨.inl rfl,_,⟨[],rfl,rfl⟩,rfl,U',C',nd⟩
  obtain⟨v,s',h1,rfl,U',C',h2⟩:=h
  exact⟨s',U',C',h1,h2⟩
end
structure KL (s:St) (lim:Nat) (v:ai) (ks:List ax):Prop where
 clean:v.clean=true
 len: ∀mk s',gG Tryz.prog mk 37 v s'=some (.int .i64 (ks.length:Nat))
 row: ∀i k,ks[i]? =some k→ ∃rk,rk<lim∧s.get [] rk=some (.cells (ks.map bp))∧ ∀lc,iq Tryz.prog lc 37 v (.int .i64 (i:Nat))=some (.ptr rk i)
theorem KL.of {s0 s:St} {v:ai} {ks:List ax} (g:mX 1 s0 s v (ks.map bp)):KL s s.next v ks:=by
 rcases g.row with⟨rfl,hx⟩|⟨hne,rk,rfl,hk,h4,h5⟩
 ·have hk0:ks=[]:=List.map_eq_nil_iff.1 hx
  subst hk0
  exact⟨rfl,fun mk s'=>iT mk s',fun i k h=>(by simp at h)⟩
 ·rw [uX] at hk
  refine⟨rfl,fun mk s'=>by rw [QX,ep],fun i k h=>⟨rk,h5,hk,fun lc=>?_⟩⟩
  have hlt:i<ks.length:=by
   rcases Nat.lt_or_ge i ks.length with h1|h1
   ·exact h1
   ·rw [List.getElem?_eq_none h1] at h;cases h
  have hna:fF (.int .i64 (i:Int))=some i:=rfl
  have hb:Nat.blt i (ks.map bp).length=true:=Nat.ble_eq_true_of_le (by rw [ep];exact hlt)
  rw [Ig,hna]
  simp only [ak,aU,bS,Bool.true_and,hb,cT,Nat.mul_one,aM]
theorem KL.keep {s s':St} {lim lim':Nat} {v:ai} {ks:List ax} (k:KL s lim v ks) (hl:lim≤lim') (hg: ∀n cs,n<lim→s.get [] n=some (.cells cs)→s'.get [] n=some (.cells cs)):KL s' lim' v ks:=
 ⟨k.clean,k.len,fun i x h=>let⟨rk,h1,h2,h3⟩:=k.row i x h;⟨rk,by omega,hg rk _ h1 h2,h3⟩⟩
section
variable {sp:FuncId→Option (List ai→Option ai)} {ch:Nat→Nat}
theorem QF (h26:sp 26=none) {m:Nat} {s:St}:br (QM sp ch) 26 [.map m] s (.func (.func 49) [] [.ptr s.next 0]) (s.new (.cells [.map m])):=by
 refine br.of2 ads adr adu adt h26 ?_
 unfold L6
 refine W.sreg ?_
 unfold L7
 simp only [dg,cM,az,aA,aB,ah,aJ,ja,aj,aI,aC,iA,aw,bH,ak,fZ,cT,gp,aK,aQ,bS,tA,aM,ar,bR,bQ,dT,YN,iA,ofValue,fk]
 refine W.sreg ?_
 unfold L8
 simp only [az,aA,aB,ah,aJ,vG,aj,aC,be,bh,aw,ak,dM,cT,cF,bS,tA,ae,ar,oe]
 exact W.ret ⟨rfl,.inr rfl,cp (by simp only [ah,ae,cT,cF]) rfl⟩
theorem XS (h49:sp 49=none) {m cb:Nat} {s0:St} {L:List (ax×ai)} (hmw:s0.minw≤s0.next) (hm:m<s0.next) (hcb:cb<s0.next) (hc:s0.get [] cb=some (.cells [.map m])) (hmm:s0.get [] m=some (.map (cK 0 L) L.length)) (hL:L.length≤1000000):qs (QM sp ch) 1 49 s0 cb (cK 0 L):=by
 intro s bx lo lim lob c ht
 refine ag4 (Q:=QM sp ch) rfl rfl (ch:=ch) rfl rfl (Ho L) (fun i=>by rw [qC];exact hL) h49 rfl rfl hmw hm hcb hc (by rw [qC];exact hmm) c ht fun e he=>?_
 have h1:e.key∈(cK 0 L).map (·.key):=List.mem_map.2 ⟨e,he,rfl⟩
 rw [wP] at h1
 obtain⟨b,_,e2⟩:=List.mem_map.1 h1
 exact⟨b,e2.symm⟩
structure Gc (sp:FuncId→Option (List ai→Option ai)):Prop where
 s25: ∀n,n=25∨n=47∨n=78∨n=48→sp n=none
 h26:sp 26=none
 h49:sp 49=none
theorem SS (hS:Gc sp) {s:St} {m:Nat} {L:List (ax×ai)} (hm:s.minw≤s.next) (hlt:m<s.next) (hs:s.get [] m=some (.map (cK 0 L) L.length)) (hL:L.length≤1000000):
 ∃v s',br (QM sp ch) 25 [.func (.func 49) [] [.ptr s.next 0]] (s.new (.cells [.map m])) v s'∧KL s' s'.next v (fq (L.map (·.1)))∧(∀n,n<s.next→s'.get [] n=s.get [] n)∧s.next≤s'.next∧s'.minw≤s'.next:=by
 have hg2: ∀n,n<s.next→(s.new (.cells [.map m])).get [] n=s.get [] n:=fun n h=>by rw [cW,beq_eq_false_iff_ne.2 (by omega)];rfl
 obtain⟨v,s2,hr,hgot⟩:=SR (Q:=QM sp ch) rfl rfl hS.s25 (fun _=>rfl) (fun n hn=>by rcases hn with rfl|rfl|rfl<;>rfl) rfl (g:=49) (cb:=s.next) (s0:=s.new (.cells [.map m])) (es:=cK 0 L) (ks:=L.map (·.1)) (j8 hm) (by rw [qC];omega) (by rw [wP]) (by kernel_rfl)
  (XS hS.h49 (m:=m) (j8 hm) (mS hlt) (Nat.lt_succ_self _) (by rw [cW,bS];rfl) ((hg2 _ hlt).trans hs) hL)
 have hn:s.next+1≤s2.next:=hgot.next
 have h1:=hgot.minw
 have h2:(s.new (.cells [.map m])).minw=s.minw:=rfl
 exact⟨v,s2,hr,.of hgot,fun n h=>(hgot.old n (mS h)).trans (hg2 n h),by omega,by omega⟩
end
section
variable {sp:FuncId→Option (List ai→Option ai)} {ch:Nat→Nat} (hS:uu sp) (h27:sp 27=none)
 {s1:St} {x mb mo mt mu md:Nat} {B O T:List (ax×ai)} {b o t:List Obj} (c:ww s1 mu B O T b o t)
include hS h27 c
theorem Uw {lim:Nat} {v:ai} {ks:List ax} (hlen:ks.length≤1000000) {lc:Ag.Loc}: ∀(rest pre:List ax) (e:bc) (s:St) (U:List (ax×ai)) (C:List Cf),ks=pre++rest→KL s lim v ks→lim≤s.next→Rn s1 s x mb mo mt mu md B O T U b o t C→(∀k∈rest,(look k U).isSome=true)→
 aq e 8= .ptr x 0→aq e 84=v→aq e 85= .int .i64 (ks.length:Nat)→aq e 86= .int .i64 (pre.length:Nat)→
 W (QM sp ch) 9 (.loop zH) ⟨e,132,lc⟩ s fun y fr s'=>y= .exit 4∧ ∃e',fr=⟨e',132,lc⟩∧(aq e' 6=aq e 6∧aq e' 8= .ptr x 0)∧ ∃U' C',Rn s1 s' x mb mo mt mu md B O T U' b o t C'∧(∀j,(look j U).isSome=true→(look j U').isSome=true)∧
   (∀k∈rest, ∀q,fv b o t k=some q→ ∀id∈q.refs,(fv b o t id).isSome=true→(look id U').isSome=true)∧
   (∀j q,(look j U').isSome=true→look j U=none→fv b o t j=some q→ ∀id∈q.refs,(fv b o t id).isSome=true→(look id U').isSome=true)∧s'.next=s.next:=by
 intro rest
 induction rest with
 |nil=>
  intro pre e s U C hpre K hlim r hin h8 h84 h85 h86
  have hl:ks.length=pre.length:=by rw [hpre];simp
  refine W.loop1 ?_
  unfold zH
  refine W.sreg ?_
  unfold Ek
  simp only [az,aA,aB,aW,aj,aC,aw,cQ,ak,aZ,cT,bD,cZ,tA,ar,decide_false,h85,h86,hl,fL]
  refine W.seq (W.cond (t:=false) (by simp only [aj,ah,ae,cT]) ?_)
  refine W.exit ⟨rfl,_,rfl,⟨?_,?_⟩,U,C,r,fun _ h=>h,fun k h=>(by cases h),fun j q h1 h2=>(by rw [h2] at h1;cases h1),rfl⟩
  ·simp only [ah,ae,cF]
  ·simp only [ah,ae,cF,h8]
 |cons k rest ih=>
  intro pre e s U C hpre K hlim r hin h8 h84 h85 h86
  have hlt:pre.length<ks.length:=by rw [hpre];simp
  have hat:ks[pre.length]? =some k:=by rw [hpre];simp
  obtain⟨rk,k1,k2,hia⟩:=K.row pre.length k hat
  have hcl:=K.clean
  have hwr:IntKind.i64.wrap ((pre.length:Int)+1)=((pre.length+1:Nat):Int):=by rw [eC (by omega) (by omega)];omega
  have hrd:((ks.map bp).drop pre.length).head?=some (.str k):=by rw [hpre,List.map_append,List.drop_left' (by simp)];rfl
  have M:=r.mg
  have hx:=M.hx
  obtain⟨u,hu⟩:=Option.isSome_iff_exists.1 (hin k (by simp))
  obtain⟨q,v1,v2⟩:=r.val k u hu
  rcases v2.out with⟨_,v3⟩|⟨p,q',rfl,hq',_⟩
  ·cases v3
  have hlk:=qN M.hu k
  have hat_:at_ k U= .ptr p 0:=by simp only [at_,hu,nM]
  rw [hat_] at hlk
  obtain⟨s2,U2,C2,hrun,nd⟩:=aiD hS h27 c (ch:=ch) (pU b o t U) s U C k q p r (bv _) (r.new k (by rw [hu];rfl)) v1 v2
  have K2:KL s2 lim v ks:=K.keep (bv _) fun n cs h1 h2=>(nd.old n (by omega) (fun e=>by subst e;rw [M.hu] at h2;cases h2) (fun e=>by subst e;rw [M.hd] at h2;cases h2)).trans h2
  refine W.loop1 ?_
  unfold zH
  refine W.sreg ?_
  unfold Ek
  simp only [az,aA,aB,aW,aj,aC,aw,cQ,ak,aZ,cT,bD,cZ,tA,ar,dT,h85,h86,hlt]
  refine W.seq (W.cond (t:=true) (by simp only [aj,ah,ae,cT]) (W.skip ?_))
  simp only [aN]
  refine W.seq (W.block (W.sreg ?_))
  unfold Qr
  simp only [az,aA,aB,ah,aJ,bf,ec,aj,aw,ak,cT,cF,bS,tA,ae,ar,bD,h84,h86,hia,dl,k2,dj,dD,hrd]
  refine W.region (fD 7 ?_)
  unfold Qs
  simp only [az,aA,aB,ah,aE,bf,b7,lp,fI,aj,aC,aw,ak,cu,fZ,cT,cF,bD,bA,aR,bN,bS,tA,aM,ae,ar,rL,mE,h8,fG,dl,hx,dj,hlk]
  refine fQ (g:=27) (args:=[.ptr x 0,.ptr p 0]) ?_ hrun (by decide) ?_
  ·simp only [callee,ah,aj,eH,aC,be,bh,ak,dM,cT,cF,bT,cq,bS,ae]
  refine fP ?_
  simp only [az,dS,aN]
  refine W.reg ?_
  unfold Qt
  simp only [az,aA,aB,ah,aE,aW,aj,aI,aC,bo,aw,d8,ak,aZ,cT,cF,bD,bS,tA,ae,ar,h86,hwr,aN]
  refine(ih (pre++[k]) _ s2 U2 C2 (by rw [hpre];simp) K2 (by rw [nd.next];exact hlim) nd.rn (fun j hj=>nd.sub j (hin j (by simp [hj]))) ?_ ?_ ?_ ?_).mono ?_
  ·simp only [ah,ae,cF,h8]
  ·simp only [ah,ae,cF,h84]
  ·simp only [ah,ae,cF,h85]
  ·simp only [ah,ae,cT,cF,dn,aK,aQ]
  rintro y fr s' ⟨rfl,e',rfl,⟨g6,g8⟩,U',C',q1,q2,q3,q4,q5⟩
  refine⟨rfl,e',rfl,⟨g6.trans ?_,g8⟩,U',C',q1,fun j h=>q2 j (nd.sub j h),fun j hj q' hq' i hi hvi=>?_,fun j q' h1 h2 h3 i hi hvi=>?_,q5.trans nd.next⟩
  ·simp only [ah,ae,cF]
  ·rcases List.mem_cons.1 hj with rfl|hj
   ·rw [v1] at hq'
    have hq':=Option.some.inj hq'
    rw [←hq'] at hi
    exact q2 i (nd.refs i hi hvi)
   ·exact q3 j hj q' hq' i hi hvi
  ·cases hj:look j U2 with
   |none=>exact q4 j q' h1 hj h3 i hi hvi
   |some w=>exact q2 i (nd.clo j q' (by rw [hj];rfl) h2 h3 i hi hvi)
end
theorem aiB {s1 s:St} {x mb mo mt mu md:Nat} {B O T U:List (ax×ai)} {b o t:List Obj} {C:List Cf} (r:Rn s1 s x mb mo mt mu md B O T U b o t C)
 (hc: ∀j q,(look j U).isSome=true→fv b o t j=some q→ ∀id∈q.refs,(fv b o t id).isSome=true→(look id U).isSome=true):
 (∀k,(look k U).isSome=true↔iz b o t k)∧ ∀c,c∈C↔(∃k,c∈js b o t k)∨ ∃k,Reach b o t k∧c=(k,fK):=by
 have hR: ∀k,Reach b o t k→(look k U).isSome=true:=by
  intro k h
  induction h with
  |of h1 h2 h3 h4=>exact hc _ _ (r.base _ (by rw [h1];rfl)) (by simp only [fv,h1]) _ h2 (by simp only [fv,h3];exact h4)
  |step h0 h1 h2 h3 h4 ih=>exact hc _ _ ih (by simp only [fv,h0.no.1];exact h1) _ h2 (by simp only [fv,h3];exact h4)
 refine⟨fun k=>⟨r.new k,fun h=>h.elim (r.base k) (hR k)⟩,fun c=>?_⟩
 rw [r.conf c]
 constructor
 ·rintro(h|⟨k,h1,h2,h3⟩)
  ·exact .inl h
  ·rcases r.new k h1 with h|h
   ·rw [h2] at h;cases h
   ·exact .inr ⟨k,h,h3⟩
 ·rintro(h|⟨k,h1,h2⟩)
  ·exact .inl h
  ·exact .inr ⟨k,hR k h1,h1.no.1,h2⟩
end Go.Proofs.YtbfmdojdemckbaaGreat
