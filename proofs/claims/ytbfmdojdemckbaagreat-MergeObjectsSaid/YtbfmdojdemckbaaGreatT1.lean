/- tag.Merge: values by keys. -/
import Derived.Test.YtbfmdojdemckbaaGreatQ3
namespace Go.Proofs.YtbfmdojdemckbaaGreat
open _root_.Bool renaming and_true→dB
open _root_.List renaming cons_append→cq,drop→aR,elem_eq_true_of_mem→qk,head?_cons→bN,length_append→dn,length_cons→aK,length_map→ep,length_nil→aQ,length_singleton→oK,map_append→kC,mem_of_elem_eq_true→qq,mem_singleton→pE,nil_append→bT,take_append_drop→mR,take→bA
open _root_.Nat renaming add_zero→cY,ble_eq_true_of_le→ew,le_succ_of_le→j8,lt_irrefl→fL,lt_succ_self→ic,reduceAdd→bt,reduceBEq→ae,reduceLT→ar,reduceLeDiff→bR,reduceMul→jh,zero_add→aM
open _root_.Option renaming bind_some→ak
open Go.Ag
def iR (k:ax) (K:List ax):List ax:=bif K.elem k then K else K++[k]
def jC (l:List cH) (K:List ax):List ax:=l.foldl (fun K t=>iR t.1 K) K
def qZ (k:ax) (i:Nat) (x:ax) (V:ax→List ax):ax→List ax:=fun j=>bif j==k then(V j).set i x else V j
def vN (i:Nat) (l:List cH) (V:ax→List ax):ax→List ax:=l.foldl (fun V t=>qZ t.1 i t.2 V) V
structure TM (s:St) (m lo:Nat) (K:List ax) (V:ax→List ax):Prop where
 len: ∀k,(V k).length=3
 fits:K.Nodup
 noV: ∀k,k ∉ K→V k=[[],[],[]]
 ex: ∃L:List (ax×ai),L.map (·.1)=K∧s.get [] m=some (.map (cK 0 L) L.length)∧(∀k v,look k L=some v→ ∃r,v= .ptr r 0∧lo≤r∧r<s.next∧s.get [] r=some (.cells ((V k).map bp)))∧(∀k k' v,look k L=some v→look k' L=some v→k=k')
theorem Ie (lc:Ag.Loc) (m o:Nat) (i:ai):iq Tryz.prog lc 197 (.ptr m o) i=(fF i).bind fun i=>bif Nat.blt i 3 then some (.ptr m (o+i*1)) else none:=by kernel_rfl
theorem ajB:fR Tryz.prog .eql 196 .nilp .nilp=some (.bool true):=by kernel_rfl
theorem ajC (n o:Nat):fR Tryz.prog .eql 196 (.ptr n o) .nilp=some (.bool false):=by kernel_rfl
theorem air (e:bc) (s:St):lX Tryz.prog 195 e none s=some (.map s.next,s.new (.map [] 0)):=by
 have h:Tryz.prog.underlying 195=some (.map 9 196):=by kernel_rfl
 simp only [lX]
theorem Q8 {s:St} {m:Nat} {L:List (ax×ai)} {c:Nat} (hs:s.get [] m=some (.map (cK 0 L) c)) (k:ax):lk Tryz.prog [] 195 (.map m) (.str k) false s=some (at_ k L):=EA rK RA ama hs k
theorem zQ {k:ax}: ∀ {L:List (ax×ai)},(look k L).isSome=(L.map (·.1)).elem k
 | []=>rfl
 |(a,v)::L=>by
  have ih:=zQ (k:=k) (L:=L)
  simp only [look,List.map_cons,List.elem]
  cases h:k==a with
  |true=>simp
  |false=>simpa using ih
theorem CP {k:ax} {v:ai}: ∀ {L:List (ax×ai)},look k L=none→ej k v L=L++[(k,v)]
 | [],_=>rfl
 |(a,u)::L,h=>by
  simp only [look] at h
  cases hk:k==a with
  |true=>rw [hk] at h;cases h
  |false=>
   rw [hk] at h
   simp only [ej,hk,cF,CP h,cq]
theorem al6 (cs:List ai) (i:Nat) (x:ai) (hi:i<cs.length):cI cs i [x]=some (cs.set i x):=by
 have h:Nat.ble (i+ [x].length) cs.length=true:=ew (Nat.succ_le_of_lt hi)
 simp only [cI,h,cT,List.set_eq_take_append_cons_drop,if_pos hi];rfl
theorem akF {k:ax} {i:Nat} {x:ax} {V:ax→List ax} (h: ∀j,(V j).length=3) (j:ax):(qZ k i x V j).length=3:=by
 unfold qZ
 cases j==k with
 |true=>simp [h]
 |false=>exact h j
theorem TM.row {s:St} {m lo:Nat} {K:List ax} {V:ax→List ax} (t:TM s m lo K V) {k:ax} (hk:k∈K): ∃r,lo≤r∧r<s.next∧s.get [] r=some (.cells ((V k).map bp))∧lk Tryz.prog [] 195 (.map m) (.str k) false s=some (.ptr r 0)∧
 ∀(i:Nat) (x:ax) (s':St),m<lo→(∀n,s'.get [] n=(s.put r (some (.cells (((V k).map bp).set i (bp x))))).get [] n)→s'.next=s.next→TM s' m lo K (qZ k i x V):=by
 obtain⟨L,h1,h2,h3,h4⟩:=t.ex
 have hs:=zQ (k:=k) (L:=L)
 rw [h1,qk hk] at hs
 obtain⟨v,hv⟩:=Option.isSome_iff_exists.1 hs
 obtain⟨r,rfl,q1,q2,q3⟩:=h3 k v hv
 refine⟨r,q1,q2,q3,?_,fun i x s' hmlo hg hn=>⟨fun j=>akF t.len j,t.fits,fun j hj=>?_,L,h1,?_,fun j v hj=>?_,h4⟩⟩
 ·rw [Q8 h2];simp only [at_,hv,Option.getD_some]
 ·have:(j==k)=false:=beq_eq_false_iff_ne.2 (fun e=>hj (e▸hk))
  simp only [qZ,this,cF]
  exact t.noV j hj
 ·rw [hg,cD,beq_eq_false_iff_ne.2 (by omega)];exact h2
 ·obtain⟨r',rfl,p1,p2,p3⟩:=h3 j v hj
  refine⟨r',rfl,p1,by omega,?_⟩
  rw [hg,cD]
  cases hr:r'==r with
  |true=>
   have:=eq_of_beq hr
   subst this
   have:j=k:=h4 j k _ hj hv
   subst this
   simp only [cT,qZ,bS,List.map_set]
  |false=>
   have:(j==k)=false:=beq_eq_false_iff_ne.2 (fun e=>by
    subst e
    rw [hv] at hj
    injection hj with hj
    injection hj with hj
    exact beq_eq_false_iff_ne.1 hr hj.symm)
   simp only [cF,qZ,this]
   exact p3
theorem TM.nil_ {s:St} {m lo:Nat} {K:List ax} {V:ax→List ax} (t:TM s m lo K V) {k:ax} (hk:k ∉ K) (hmlo:m<lo) (hlo:lo≤s.next):lk Tryz.prog [] 195 (.map m) (.str k) false s=some .nilp∧
 ∃o,lB Tryz.prog [] 195 (.map m) (.str k) (.ptr s.next 0) (s.new (.cells [.str [],.str [],.str []]))=some ((s.new (.cells [.str [],.str [],.str []])).put m o)∧TM ((s.new (.cells [.str [],.str [],.str []])).put m o) m lo (K++[k]) V:=by
 obtain⟨L,h1,h2,h3,h4⟩:=t.ex
 have hs:=zQ (k:=k) (L:=L)
 have hf:K.elem k=false:=by
  cases h:K.elem k with
  |true=>exact absurd (qq h) hk
  |false=>rfl
 rw [h1,hf] at hs
 have hnone:look k L=none:=by
  cases h:look k L with
  |none=>rfl
  |some v=>rw [h] at hs;cases hs
 have hg1:(s.new (.cells [.str [],.str [],.str []])).get [] m=some (.map (cK 0 L) L.length):=by rw [cW,beq_eq_false_iff_ne.2 (by omega)];exact h2
 refine⟨by rw [Q8 h2];simp only [at_,hnone,Option.getD_none],_,x4 rK RA hg1 k (.ptr s.next 0),t.len,?_,fun j hj=>t.noV j (fun h=>hj (by simp [h])),ej k (.ptr s.next 0) L,by rw [CP hnone];simp [h1],by rw [cD,bS];rfl,fun j v hj=>?_,fun j j' v hj hj'=>?_⟩
 ·exact List.nodup_append.2 ⟨t.fits,by simp,fun a ha b hb e=>by simp only [pE] at hb;subst hb;subst e;exact hk ha⟩
 ·rw [lV] at hj
  cases hjk:j==k with
  |true=>
   rw [hjk] at hj
   injection hj with hj
   have:=eq_of_beq hjk
   subst this
   refine⟨s.next,hj.symm,hlo,ic _,?_⟩
   rw [cD,beq_eq_false_iff_ne.2 (by omega),cF,cW,bS,t.noV j hk];rfl
  |false=>
   rw [hjk] at hj
   obtain⟨r',rfl,p1,p2,p3⟩:=h3 j v hj
   refine⟨r',rfl,p1,Nat.lt_succ_of_lt p2,?_⟩
   rw [cD,beq_eq_false_iff_ne.2 (by omega),cF,cW,beq_eq_false_iff_ne.2 (by omega)];exact p3
 ·rw [lV] at hj hj'
  have old: ∀ {i:ax},look i L=some v→v≠ .ptr s.next 0:=fun hi e=>by
   obtain⟨r',rfl,p1,p2,p3⟩:=h3 _ v hi
   injection e with e
   omega
  cases hjk:j==k with
  |true=>
   rw [hjk] at hj
   injection hj with hj
   cases hjk':j'==k with
   |true=>rw [eq_of_beq hjk,eq_of_beq hjk']
   |false=>rw [hjk'] at hj';exact absurd hj.symm (old hj')
  |false=>
   rw [hjk] at hj
   cases hjk':j'==k with
   |true=>
    rw [hjk'] at hj'
    injection hj' with hj'
    exact absurd hj'.symm (old hj)
   |false=>rw [hjk'] at hj';exact h4 j j' v hj hj'
theorem Et {s s1:St} (h:s.minw≤s.next) (h1:s1.next=s.next):(s.least s1).minw≤s.next:=by
 show(bif Nat.ble s.minw s1.minw then s.minw else s1.minw)≤s.next
 cases hb:Nat.ble s.minw s1.minw with
 |true=>exact h
 |false=>
  have: ¬s.minw≤s1.minw:=fun hc=>by rw [ew hc] at hb;cases hb
  simp only [cF];omega
section
variable {sp:FuncId→Option (List ai→Option ai)} {ch:Nat→Nat}
theorem R9 {e:bc} {lc:Ag.Loc} {s:St} {r i:Nat} {cs:List ai} {x:ax} {rs1:List dQ} {K:Fr→St→Prop} (hi: ∀r∈rs1,r.i<9) (hx:s.get [] r=some (.cells cs)) (hl:i<cs.length) (hm:s.minw≤s.next) (h56:aq e 56= .ptr r i) (h54:aq e 54= .str x)
 (hk: ∀s',(∀k,s'.get [] k=(s.put r (some (.cells (cs.set i (bp x))))).get [] k)→s'.next=s.next→s'.ci=s.ci→s'.minw≤s'.next→K ⟨e,136,lc⟩ s'):
 WD (QM sp ch) 76 [511] rs1 9 (oY.drop 9) ⟨e,136,lc⟩ s K:=by
 have hxt:s.top.get [] r=some (.cells cs):=hx
 have hw:=al6 cs i (.str x) hl
 unfold oY
 refine WD.fullL (v:=gX) (lc:=lc) (s1:=s.top.put r (some (.cells (cs.set i (bp x))))) (fr1:=⟨e,136,lc⟩) hi (by decide) rfl ?_ rfl rfl (fun rs5 k5=>?_)
 ·simp only [dJ,aj,aC,kF,ak,cu,cT,aK,aQ,bS,aM,ar,dB,aU,cP,dT,bD,FH,j7,hxt,j6,h56,h54,kF,hw]
  rfl
 refine WD.nil (hk _ (fun k=>rfl) rfl rfl ?_)
 exact Et hm rfl
theorem als {v:ai} {l:List cH} (hl:bu 2 ek v l) (hsmall:l.length≤1000) {m lo i:Nat} (hi:i<3) (hmlo:m<lo): ∀(rest pre:List cH) (e:bc) (lc:Ag.Loc) (s:St) (K:List ax) (V:ax→List ax),l=pre++rest→TM s m lo K V→lo≤s.next→s.minw≤s.next→
 aq e 9= .map m→aq e 10= .int .i64 (i:Nat)→aq e 33=v→aq e 34= .int .i64 (l.length:Nat)→aq e 35= .int .i64 (pre.length:Nat)→
 W (QM sp ch) 76 (.loop xk) ⟨e,136,lc⟩ s fun x fr s'=>x= .exit 2∧ ∃e' lc',fr=⟨e',136,lc'⟩∧(aq e' 9= .map m∧aq e' 25=aq e 25∧aq e' 26=aq e 26)∧TM s' m lo (jC rest K) (vN i rest V)∧(∀n,n<m→s'.get [] n=s.get [] n)∧s.next≤s'.next∧s'.minw≤s'.next∧s'.ci=s.ci:=by
 intro rest
 have hcl:=hl.clean
 induction rest with
 |nil=>
  intro pre e lc s K V hpre t hlo hm h9 h10 h33 h34 h35
  have hl:l.length=pre.length:=by rw [hpre];simp
  refine W.loop1 ?_
  unfold xk
  refine W.sreg ?_
  unfold Eh
  simp only [az,aA,aB,aW,aj,aC,aw,cQ,ak,aZ,cT,bD,cZ,tA,ar,decide_false,h34,h35,hl,fL]
  refine W.seq (W.cond (t:=false) (by simp only [aj,ah,ae,cT, *]) ?_)
  exact W.exit ⟨rfl,_,_,rfl,⟨by simp only [ah,ae,cF,h9],by simp only [ah,ae,cF, *],by simp only [ah,ae,cF, *]⟩,t,fun _ _=>rfl,Nat.le_refl _,hm,rfl⟩
 |cons q rest ih=>
  intro pre e lc s K V hpre t hlo hm h9 h10 h33 h34 h35
  obtain⟨k,x⟩:=q
  have hlt:pre.length<l.length:=by rw [hpre];simp
  have hat:l[pre.length]? =some (k,x):=by rw [hpre];simp
  have hia:=fun lc=>hl.at u4 hat lc .i64
  have hwr:IntKind.i64.wrap ((pre.length:Int)+1)=((pre.length+1:Nat):Int):=by rw [eC (by omega) (by omega)];omega
  have fin: ∀(e2:bc) (lc2:Ag.Loc) (s2:St),TM s2 m lo (iR k K) (qZ k i x V)→(∀n,n<m→s2.get [] n=s.get [] n)→s.next≤s2.next→s2.minw≤s2.next→s2.ci=s.ci→aq e2 9=aq e 9→aq e2 10=aq e 10→aq e2 25=aq e 25→aq e2 26=aq e 26→aq e2 33=aq e 33→aq e2 34=aq e 34→aq e2 35= .int .i64 ((pre.length+1:Nat):Int)→
   W (QM sp ch) 76 (.loop xk) ⟨e2,136,lc2⟩ s2 fun y fr s'=>y= .exit 2∧ ∃e' lc',fr=⟨e',136,lc'⟩∧(aq e' 9= .map m∧aq e' 25=aq e 25∧aq e' 26=aq e 26)∧TM s' m lo (jC ((k,x)::rest) K) (vN i ((k,x)::rest) V)∧(∀n,n<m→s'.get [] n=s.get [] n)∧s.next≤s'.next∧s'.minw≤s'.next∧s'.ci=s.ci:=by
   intro e2 lc2 s2 t2 o2 n2 m2 c2 g9 g10 g25 g26 g33 g34 g35
   refine W.mono (ih (pre++[(k,x)]) _ _ s2 (iR k K) (qZ k i x V) (by rw [hpre];simp) t2 (by omega) m2 ?_ ?_ ?_ ?_ ?_) ?_
   ·rw [g9,h9]
   ·rw [g10,h10]
   ·rw [g33,h33]
   ·rw [g34,h34]
   ·rw [g35,dn];rfl
   rintro y fr s' ⟨rfl,e',lc',rfl,⟨d9,d25,d26⟩,q1,q2,q3,q4,q5⟩
   refine⟨rfl,e',lc',rfl,⟨d9,d25.trans g25,d26.trans g26⟩,q1,fun n hn=>(q2 n hn).trans (o2 n hn),by omega,q4,q5.trans c2⟩
  refine W.loop1 ?_
  unfold xk
  refine W.sreg ?_
  unfold Eh
  simp only [az,aA,aB,aW,aj,aC,aw,cQ,ak,aZ,cT,bD,cZ,tA,ar,dT,h34,h35,hlt]
  refine W.seq (W.cond (t:=true) (by simp only [aj,ah,ae,cT, *]) (W.skip ?_))
  simp only [aN]
  refine W.seq (W.block (W.sreg ?_))
  unfold Px
  simp only [az,aA,dH,aB,dI,ah,bI,gQ,fH,bf,dJ,ec,aj,aC,eM,eI,aw,bH,di,fU,ak,bZ,cT,cF,bD,gp,aK,aQ,cut,cI,bA,aR,List.take_succ_cons,bT,cq,bS,tA,aM,ae,ar,bt,bR,dB,aU,cP,bQ,dT,Ao,FG,AX,ZM,h33,h35,hia,ek]
  refine W.seq (W.seq (W.reg ?_))
  unfold Py
  by_cases hK:k∈K
  ·obtain⟨r,r1,r2,r3,r4,r5⟩:=t.row hK
   have hadd:iR k K=K:=by simp only [iR,qk hK,cT]
   simp only [az,aA,aB,ah,cz,bI,aE,bf,aW,b7,lp,aj,aI,aC,bU,aw,ak,cu,dM,fZ,cT,cF,bD,aR,bN,bS,tA,cY,ae,ar,aU,oc,dD,h9,r4,iC,iK,ajC,aN]
   refine W.cond (t:=false) (by simp only [aj,ah,ae,cT,cF]) (W.skip ?_)
   simp only [aN]
   rw [show oY=oY.take 9++oY.drop 9 from(mR 9 _).symm]
   refine W.drawD (WD.calmOps hm (fun _ h=>by cases h) (fun _ h=>by cases h) ?_)
   have r4t:lk Tryz.prog [] 195 (.map m) (.str k) false s.top=some (.ptr r 0):=r4
   unfold oY
   simp only [fh,fg,fu,isStore,ah,cz,bI,aE,bf,b7,ec,lp,fI,aj,aC,bU,sh,aw,ak,cu,fZ,cT,cF,bD,aK,aQ,bA,aR,bN,bT,cq,bS,tA,aM,cY,ae,ar,bt,aU,cP,dT,oc,uT,dD,h9,h10,r4t,fG,Ie,hi,Nat.mul_one]
   intro rs1 hc1 hi1
   refine R9 (x:=x) (i:=i) hi1 r3 (by rw [ep,t.len];exact hi) hm (by simp only [ah,ae,cT,cF, *]) (by simp only [ah,ae,cT,cF, *]) ?_
   intro s' q1 q2 q3 q4
   have hold: ∀n,n<m→s'.get [] n=s.get [] n:=fun n hn=>by
    rw [q1,cD,beq_eq_false_iff_ne.2 (by omega)];rfl
   simp only [dS,aN]
   refine W.reg ?_
   unfold D7
   simp only [az,aA,aB,ah,aE,aW,aj,aI,aC,bo,aw,d8,ak,aZ,cT,cF,bD,bS,tA,ae,ar,h35,hwr,aN]
   refine fin _ _ s' (by rw [hadd];exact r5 i x s' hmlo q1 q2) hold (by omega) q4 q3 ?_ ?_ ?_ ?_ ?_ ?_ ?_
   any_goals simp only [ah,ae,cT,cF, *]
  ·obtain⟨n1,o,n2,n3⟩:=t.nil_ hK hmlo hlo
   have hadd:iR k K=K++[k]:=by
    have:K.elem k=false:=by
     cases h:K.elem k with
     |true=>exact absurd (qq h) hK
     |false=>rfl
    simp only [iR,this,cF]
   obtain⟨s1,hs1⟩: ∃a,a=(s.new (.cells [.str [],.str [],.str []])).put m o:=⟨_,rfl⟩
   rw [←hs1] at n2 n3
   have e1:s1.next=s.next+1:=by rw [hs1];rfl
   have e2:s1.minw≤s1.next:=by rw [hs1];exact ju _ _ _ (j8 hm)
   have e3:s1.ci=s.ci:=by rw [hs1];rfl
   have e4: ∀n,n<m→s1.get [] n=s.get [] n:=fun n hn=>by
    rw [hs1,cD,beq_eq_false_iff_ne.2 (by omega),cF,cW,beq_eq_false_iff_ne.2 (by omega)];rfl
   obtain⟨r,r1,r2,r3,r4,r5⟩:=n3.row (k:=k) (by simp)
   simp only [az,aA,aB,ah,cz,bI,aE,bf,aW,b7,lp,aj,aI,aC,bU,aw,ak,cu,fZ,cT,cF,bD,aR,bN,bS,tA,cY,ae,ar,aU,oc,dD,h9,n1,iC,ajB,iK,aN]
   refine W.cond (t:=true) (by simp only [aj,ah,ae,cT,cF]) (W.reg ?_)
   unfold Pz
   simp only [az,aA,dH,aB,dI,ah,cz,bI,aE,fH,bf,b7,tL,aj,aC,iA,bU,aw,tU,bH,di,ak,cu,dM,fZ,cT,cF,bD,gp,aR,bN,bS,tA,cY,ae,ar,aU,oc,dD,h9,ZR,FY,n2,aN]
   rw [show oY=oY.take 9++oY.drop 9 from(mR 9 _).symm]
   refine W.drawD (WD.calmOps e2 (fun _ h=>by cases h) (fun _ h=>by cases h) ?_)
   have r4t:lk Tryz.prog [] 195 (.map m) (.str k) false s1.top=some (.ptr r 0):=r4
   unfold oY
   simp only [fh,fg,fu,isStore,ah,cz,bI,aE,bf,b7,ec,lp,fI,aj,aC,bU,sh,aw,ak,cu,fZ,cT,cF,bD,aK,aQ,bA,aR,bN,bT,cq,bS,tA,aM,cY,ae,ar,bt,aU,cP,dT,oc,uT,dD,h9,h10,r4t,fG,Ie,hi,Nat.mul_one]
   intro rs1 hc1 hi1
   refine R9 (x:=x) (i:=i) hi1 r3 (by rw [ep,n3.len];exact hi) e2 (by simp only [ah,ae,cT,cF, *]) (by simp only [ah,ae,cT,cF, *]) ?_
   intro s' q1 q2 q3 q4
   have hold: ∀n,n<m→s'.get [] n=s.get [] n:=fun n hn=>by
    rw [q1,cD,beq_eq_false_iff_ne.2 (by omega)];exact e4 n hn
   simp only [dS,aN]
   refine W.reg ?_
   unfold D7
   simp only [az,aA,aB,ah,aE,aW,aj,aI,aC,bo,aw,d8,ak,aZ,cT,cF,bD,bS,tA,ae,ar,h35,hwr,aN]
   refine fin _ _ s' (by rw [hadd];exact r5 i x s' hmlo q1 q2) hold (by omega) q4 (q3.trans e3) ?_ ?_ ?_ ?_ ?_ ?_ ?_
   any_goals simp only [ah,ae,cT,cF, *]
end
structure jM (v:ai) (l:List cH):Prop where
 is:bu 2 ek v l
 valid:iv l=true
 keys: ∀t∈l,t.1.length<small
theorem jM.len {v:ai} {l:List cH} (h:jM v l):l.length≤60:=by
 have:=h.valid
 simp only [iv,Bool.and_eq_true,decide_eq_true_eq] at this
 exact this.2
theorem jM.spec {v:ai} {l:List cH} (h:jM v l):pu [v]=some (.bool true):=by
 have:=h.len
 rw [S8 h.is (by have:small=9223372036854775808:=rfl;omega) h.keys,h.valid]
section
variable {sp:FuncId→Option (List ai→Option ai)} {ch:Nat→Nat}
theorem Fv (h59:sp 59=some pu) {A v:ai} {l:List cH} (h:jM v l) {m lo i:Nat} (hi:i<3) (hmlo:m<lo) (hA:A.clean=true) (hix:pR Tryz.prog 194 A (.int .i64 (i:Nat))=some v) {e:bc} {lc:Ag.Loc} {s:St} {K:List ax} {V:ax→List ax} {P:Ex→Fr→St→Prop}
 (t:TM s m lo K V) (hlo:lo≤s.next) (hm:s.minw≤s.next) (h9:aq e 9= .map m) (h25:aq e 25=A) (h26:aq e 26= .int .i64 (i:Nat))
 (hk: ∀(e':bc) (lc':Ag.Loc) (s':St),aq e' 9= .map m→aq e' 25=A→aq e' 26= .int .i64 ((i+1:Nat):Int)→TM s' m lo (jC l K) (vN i l V)→(∀n,n<m→s'.get [] n=s.get [] n)→lo≤s'.next→s.next≤s'.next→s'.minw≤s'.next→s'.ci=s.ci→W (QM sp ch) 76 (.loop vg) ⟨e',136,lc'⟩ s' P):
 W (QM sp ch) 76 (.loop vg) ⟨e,136,lc⟩ s P:=by
 have hcl:=h.is.clean
 have hln:=fun mk s=>h.is.len se sd mk s
 have hsp:=h.spec
 have hl60:=h.len
 have hwr:IntKind.i64.wrap ((i:Int)+1)=((i+1:Nat):Int):=by rw [eC (by omega) (by omega)];omega
 have hlt:du (i:Int) 3=true:=by
  have:=cZ i 3
  rw [show((3:Nat):Int)=3 from rfl] at this
  rw [this];exact decide_eq_true hi
 refine W.loop1 ?_
 unfold vg
 refine W.sreg ?_
 unfold Eg
 simp only [az,aA,aB,aW,aj,aI,aC,bo,aw,cQ,ak,aZ,cT,bD,tA,ar,h26,hlt]
 refine W.seq (W.cond (t:=true) (by simp only [aj,ah,ae,cT]) (W.skip ?_))
 simp only [aN]
 refine W.seq (W.block (W.sreg ?_))
 unfold PL
 simp only [az,aA,aB,ah,aE,aJ,RV,aj,aC,aw,ak,cT,cF,bD,bS,tA,ae,ar,h25,h26,hA,hix]
 refine W.seq (W.seq (W.reg ?_))
 unfold PM
 simp only [az,aA,aB,ah,aE,eW,dc,db,aj,aC,be,bh,aw,eZ,ak,ei,cT,cF,qu,Bool.not_true,bS,tA,ae,ar,hcl,h59,hsp,aN]
 refine W.cond (t:=false) (by simp only [aj,ah,ae,cT,cF]) (W.skip ?_)
 simp only [aN]
 refine W.sreg ?_
 unfold PN
 simp only [az,aA,aB,ah,aE,cL,aj,aI,aC,be,bh,bo,aw,cd,da,bH,ak,cT,cF,bD,gp,bS,tA,ae,ar,aU,hcl,ZQ,hln]
 refine W.block ?_
 refine W.mono (als h.is (by omega) hi hmlo l [] _ _ s K V rfl t hlo hm ?_ ?_ ?_ ?_ ?_) ?_
 ·simp only [ah,ae,cF,h9]
 ·simp only [ah,ae,cT,cF]
 ·simp only [ah,ae,cT,cF]
 ·simp only [ah,ae,cT,cF]
 ·simp only [ah,ae,cT,cF];rfl
 rintro x fr s' ⟨rfl,e',lc',rfl,⟨d9,d25,d26⟩,q1,q2,q3,q4,q5⟩
 have d25:aq e' 25=A:=d25.trans (by simp only [ah,ae,cF,h25])
 have d26:aq e' 26= .int .i64 (i:Nat):=d26.trans (by simp only [ah,ae,cF,h26])
 show W (QM sp ch) 76 _ _ _ _
 refine W.reg ?_
 unfold PA
 simp only [az,aA,aB,ah,aE,aW,aj,aI,aC,bo,aw,d8,ak,aZ,cT,bD,bS,tA,ar,d26,hwr,aN]
 refine hk _ _ s' ?_ ?_ ?_ q1 q2 (by omega) q3 q4 q5
 ·simp only [ah,ae,cF,d9]
 ·simp only [ah,ae,cF,d25]
 ·simp only [ah,ae,cT,cF]
theorem CT {vb vo vt:ai}:pR Tryz.prog 194 (.agg [vb,vo,vt]) (.int .i64 ((0:Nat):Int))=some vb∧pR Tryz.prog 194 (.agg [vb,vo,vt]) (.int .i64 ((1:Nat):Int))=some vo∧pR Tryz.prog 194 (.agg [vb,vo,vt]) (.int .i64 ((2:Nat):Int))=some vt:=by
 have h: ∀k:Nat,fF (.int .i64 (k:Int))=some k:=fun _=>rfl
 refine⟨?_,?_,?_⟩<;>rw [aaI,h,ak,mD]<;>rfl
def kn (b o t:List cH):List ax:=jC t (jC o (jC b []))
def x5 (b o t:List cH):ax→List ax:=vN 2 t (vN 1 o (vN 0 b fun _=>[[],[],[]]))
theorem akJ (h59:sp 59=some pu) {vb vo vt:ai} {b o t:List cH} (hb:jM vb b) (ho:jM vo o) (ht:jM vt t) {m:Nat} {e:bc} {lc:Ag.Loc} {s:St} (hs:s.get [] m=some (.map [] 0)) (hlo:m<s.next) (hm:s.minw≤s.next) (h9:aq e 9= .map m) (h25:aq e 25= .agg [vb,vo,vt]) (h26:aq e 26= .int .i64 (0:Nat)):
 W (QM sp ch) 76 (.loop vg) ⟨e,136,lc⟩ s fun x fr s'=>x= .exit 0∧ ∃e' lc',fr=⟨e',136,lc'⟩∧aq e' 9= .map m∧TM s' m (m+1) (kn b o t) (x5 b o t)∧(∀n,n<m→s'.get [] n=s.get [] n)∧s.next≤s'.next∧s'.minw≤s'.next∧s'.ci=s.ci:=by
 have hA:(ai.agg [vb,vo,vt]).clean=true:=rfl
 have t0:TM s m (m+1) [] fun _=>[[],[],[]]:=⟨fun _=>rfl,List.nodup_nil,fun _ _=>rfl,[],rfl,hs,fun k v h=>(by cases h),fun k k' v h=>(by cases h)⟩
 refine Fv (i:=0) h59 hb (by decide) (ic _) hA CT.1 t0 hlo hm h9 h25 h26 fun e1 l1 s1 a9 a25 a26 t1 a1 a2 a3 a4 a5=>?_
 refine Fv (i:=1) h59 ho (by decide) (ic _) hA CT.2.1 t1 a2 a4 a9 a25 a26 fun e2 l2 s2 b9 b25 b26 t2 b1 b2 b3 b4 b5=>?_
 refine Fv (i:=2) h59 ht (by decide) (ic _) hA CT.2.2 t2 b2 b4 b9 b25 b26 fun e3 l3 s3 c9 c25 c26 t3 c1 c2 c3 c4 c5=>?_
 refine W.loop1 ?_
 unfold vg
 refine W.sreg ?_
 unfold Eg
 have hlt:du ((2+1:Nat):Int) 3=false:=rfl
 simp only [az,aA,aB,aW,aj,aI,aC,bo,aw,cQ,ak,aZ,cT,bD,tA,ar,bt,c26,hlt]
 refine W.seq (W.cond (t:=false) (by simp only [aj,ah,ae,cT]) ?_)
 refine W.exit ⟨rfl,_,_,rfl,?_,t3,fun n hn=>(c1 n hn).trans ((b1 n hn).trans (a1 n hn)),by omega,c4,c5.trans (b5.trans a5)⟩
 simp only [ah,ae,cF,c9]
end
section
variable {sp:FuncId→Option (List ai→Option ai)} {ch:Nat→Nat}
theorem aaA {v:ai} {l:List ax} (hl:bu 1 bp v l) (hsmall:l.length≤1000000) {k:ax} {s:St}: ∀(rest pre:List ax) (e:bc) (lc:Ag.Loc),l=pre++rest→pre.elem k=false→
 aq e 0=v→aq e 1= .str k→aq e 7= .int .i64 (l.length:Nat)→aq e 8= .int .i64 (pre.length:Nat)→
 W (QM sp ch) 186 (.loop za) ⟨e,19,lc⟩ s fun x fr s'=>s'=s∧fr.size=19∧((x= .exit 0∧l.elem k=false)∨(x= .ret∧l.elem k=true∧ ∃i:Nat,aq fr.env 4= .int .i64 i)):=by
 intro rest
 have hcl:=hl.clean
 induction rest with
 |nil=>
  intro pre e lc hpre hp h0 h1 h7 h8
  have hl:l.length=pre.length:=by rw [hpre];simp
  refine W.loop1 ?_
  unfold za
  refine W.sreg ?_
  unfold Dg
  simp only [az,aA,aB,aW,aj,aC,aw,cQ,ak,aZ,cT,bD,cZ,tA,ar,decide_false,h7,h8,hl,fL]
  refine W.seq (W.cond (t:=false) (by simp only [aj,ah,ae,cT, *]) ?_)
  exact W.exit ⟨rfl,rfl,.inl ⟨rfl,by rw [hpre,List.append_nil];exact hp⟩⟩
 |cons q rest ih=>
  intro pre e lc hpre hp h0 h1 h7 h8
  have hlt:pre.length<l.length:=by rw [hpre];simp
  have hat:l[pre.length]? =some q:=by rw [hpre];simp
  have hia:=fun lc=>hl.at mp hat lc .i64
  have hwr:IntKind.i64.wrap ((pre.length:Int)+1)=((pre.length+1:Nat):Int):=by rw [eC (by omega) (by omega)];omega
  refine W.loop1 ?_
  unfold za
  refine W.sreg ?_
  unfold Dg
  simp only [az,aA,aB,aW,aj,aC,aw,cQ,ak,aZ,cT,bD,cZ,tA,ar,dT,h7,h8,hlt]
  refine W.seq (W.cond (t:=true) (by simp only [aj,ah,ae,cT, *]) (W.skip ?_))
  simp only [aN]
  refine W.seq (W.block (W.sreg ?_))
  unfold KM
  simp only [az,aA,aB,ah,aE,aJ,aj,aw,cT,cF,bS,tA,ae,ar,h8]
  refine W.seq (W.reg ?_)
  unfold KN
  simp only [az,aA,aB,ah,aE,bf,aW,ec,aj,aC,eI,aw,iJ,kF,ak,cu,cT,cF,bD,aR,bN,bS,tA,ae,ar,dD,h0,h1,hia,bp,eI,aN]
  cases hq:k==q with
  |true=>
   refine W.cond (t:=true) (by simp only [aj,ah,ae,cT,cF]) (W.sreg ?_)
   unfold KO
   simp only [az,aA,aB,ah,aE,aJ,aj,aw,cT,cF,bS,tA,ae,ar]
   refine W.ret ⟨rfl,rfl,.inr ⟨rfl,?_,pre.length,?_⟩⟩
   ·rw [hpre]
    exact qk (by rw [eq_of_beq hq];simp)
   ·simp only [ah,ae,cT,cF]
  |false=>
   refine W.cond (t:=false) (by simp only [aj,ah,ae,cT,cF]) (W.skip ?_)
   simp only [dS,aN]
   refine W.reg ?_
   unfold KP
   simp only [az,aA,aB,ah,aE,aW,aj,aI,aC,bo,aw,d8,ak,aZ,cT,cF,bD,bS,tA,ae,ar,h8,hwr,aN]
   refine ih (pre++[q]) _ _ (by rw [hpre];simp) ?_ ?_ ?_ ?_ ?_
   ·cases he:(pre++[q]).elem k with
    |false=>rfl
    |true=>
     have:=qq he
     rcases List.mem_append.1 this with h|h
     ·rw [qk h] at hp;cases hp
     ·simp only [pE] at h
      subst h
      simp at hq
   ·simp only [ah,ae,cF,h0]
   ·simp only [ah,ae,cF,h1]
   ·simp only [ah,ae,cF,h7]
   ·simp only [ah,ae,cT,cF,dn,aK,aQ]
theorem V4 (h186:sp 186=none) (h121:sp 121=none) {v:ai} {l:List ax} (hl:bu 1 bp v l) (hsmall:l.length≤1000000) (k:ax) (s:St):br (QM sp ch) 121 [v,.str k] s (.bool (l.elem k)) s:=by
 have hcl:=hl.clean
 have hln:=fun mk s=>hl.len iT jl mk s
 have h1: ∃i:Int,br (QM sp ch) 186 [v,.str k] s (.int .i64 i) s∧ig 0 i=l.elem k:=by
  have hrun: ∃w s',br (QM sp ch) 186 [v,.str k] s w s'∧(s'=s∧ ∃i:Int,w= .int .i64 i∧ig 0 i=l.elem k):=by
   refine br.ofEx acH acG acJ acI h186 ?_
   unfold KH
   refine W.sreg ?_
   unfold KI
   simp only [dg,cM,az,aA,aB,aJ,aI,aw,cT,aK,aQ,tA,aM,ar,bt,bR,bQ,dT,ofValue,fk]
   refine W.seq (W.seq (W.reg ?_))
   unfold KJ
   simp only [az,aA,aB,ah,aE,cL,aj,aI,aC,be,bh,bo,aw,cd,da,bH,ak,cT,cF,bD,gp,bS,tA,ae,ar,aU,YD,hcl,hln,aN]
   refine W.block ?_
   refine W.mono (aaA (k:=k) hl hsmall l [] _ _ rfl rfl ?_ ?_ ?_ ?_) ?_
   ·simp only [ah,ae,cT,cF]
   ·simp only [ah,ae,cT,cF]
   ·simp only [ah,ae,cT,cF]
   ·simp only [ah,ae,cT,cF];rfl
   rintro x fr s' ⟨rfl,hz,⟨rfl,he⟩|⟨rfl,he,i,hi⟩⟩
   ·obtain⟨e',z,lc'⟩:=fr
    have hz:z=19:=hz
    subst hz
    show W (QM sp ch) 186 _ _ _ _
    refine W.sreg ?_
    unfold KQ
    simp only [az,aA,aB,aJ,aI,bo,aw,tA,ar]
    refine W.ret ⟨.inr rfl,.int .i64 (-1),cp ?_ rfl,rfl, -1,rfl,by rw [he];rfl⟩
    simp only [ah,ae,cT]
   ·refine⟨.inr rfl,.int .i64 i,cp hi rfl,rfl,i,rfl,?_⟩
    rw [he]
    have:=qK 0 i
    rw [show((0:Nat):Int)=0 from rfl] at this
    rw [this];exact decide_eq_true (Nat.zero_le _)
  obtain⟨w,s',r1,rfl,i,rfl,r2⟩:=hrun
  exact⟨i,r1,r2⟩
 obtain⟨i,hr,hi⟩:=h1
 refine br.of2 abw abv aby abx h121 ?_
 unfold Ji
 refine W.sreg ?_
 unfold Jj
 simp only [dg,cM,az,aA,aB,aJ,aI,aw,cT,aK,aQ,tA,aM,ar,bt,bR,bQ,dT,ofValue,fk]
 refine W.seq (W.region (fD 2 ?_))
 unfold Jk
 simp only [az,aA,aB,ah,aE,aj,aw,cT,cF,bA,aR,bS,tA,ae,ar]
 refine fQ (g:=186) (args:=[v,.str k]) ?_ hr (by decide) ?_
 ·simp only [callee,ah,aj,eH,aC,be,bh,ak,cu,cT,cF,bT,cq,bS,ae,hcl]
 refine fP ?_
 simp only [az,aA,aB,ah,aJ,aW,aj,aI,aC,bo,aw,mh,ak,aZ,cT,cF,bD,bS,tA,ae,ar,hi,aN]
 refine W.ret ⟨rfl,.inr rfl,cp ?_ rfl⟩
 simp only [ah,ae,cT,cF]
end
structure kg (lo:Nat) (s:St) (ov cv:ai) (xs:List cH) (ys:List ax):Prop where
 l:gi 2 lo s ov (xs.map ek)
 r:gi 1 lo s cv (ys.map bp)
 ne: ∀k,ov= .list 2 (xs.map ek) (.own k)→cv= .list 1 (ys.map bp) (.own k)→False
theorem Bu {t:TypeId} {E:EI} {sz lo:Nat} (hE:jc Tryz.prog t=some E) (hn:E.n=sz) (hb:E.b≤88) {s:St} {ov y:ai} {xs ys:List ai} (h:gi sz lo s ov xs) (hy:jO [] E.g E.n y s=some ys) (hne:ys≠ []) (hlen:xs.length+ys.length≤1000000) (hm:s.minw≤s.next):
 ∃s',jD Tryz.prog [] t ov y false s=some (.list sz (xs++ys) (.own s.next),s')∧s'.get [] s.next=some .tok∧s'.ci=s.ci∧s'.next=s.next+1∧s'.minw≤s'.next∧(∀n,n<s.next→(∀k,ov= .list sz xs (.own k)→n≠k)→s'.get [] n=s.get [] n):=by
 subst hn
 have hov:w7 ov=true∧ov.cells=[ov]:=by rcases h with⟨rfl,_⟩|⟨_,k,rfl,_⟩<;>exact⟨rfl,rfl⟩
 cases ys with
 |nil=>exact absurd rfl hne
 |cons y0 ys=>
  rcases h with⟨rfl,rfl⟩|⟨hne,k,rfl,hk,h5,h6⟩
  ·have hr:kP (y0::ys).length E.b=true:=tW (by simpa using hlen) hb
   refine⟨s.new .tok,?_,by rw [cW,bS];rfl,rfl,rfl,j8 hm,fun n hn' _=>?_⟩
   ·simp only [jD,hE,ak,hy,kY,j2,hr,cT,cF,bT]
   ·rw [cW,beq_eq_false_iff_ne.2 (by omega)];rfl
  ·have hr:kP (xs.length+(y0::ys).length) E.b=true:=tW hlen hb
   refine⟨(s.put k none).new .tok,?_,by rw [cW,o9,bS];rfl,rfl,rfl,j8 (ju s k none hm),fun n hn' hnk=>?_⟩
   ·simp only [jD,hE,ak,hy,kY,hk,hr,aU,bS,Bool.and_self,cT]
   ·rw [cW,o9,beq_eq_false_iff_ne.2 (by omega),cF,cD,beq_eq_false_iff_ne.2 (hnk k rfl)];rfl
theorem gi.token {sz lo:Nat} {s:St} {ov:ai} {xs:List ai} (h:gi sz lo s ov xs) {k:Nat} (hk:ov= .list sz xs (.own k)):lo≤k∧k<s.next∧s.get [] k=some .tok:=by
 rcases h with⟨rfl,_⟩|⟨_,k',rfl,h1,h2,h3⟩
 ·cases hk
 ·injection hk with _ _ h;injection h with h;subst h;exact⟨h2,h3,h1⟩
theorem kg.left {lo:Nat} {s:St} {ov cv:ai} {xs:List cH} {ys:List ax} (h:kg lo s ov cv xs ys) (hm:s.minw≤s.next) (hlo:lo≤s.next) (hlen:xs.length≤1000) (x:cH):
 ∃ov' s',jD Tryz.prog [] 38 ov (.list 2 [.agg [.str x.1,.str x.2]] .full) false s=some (ov',s')∧kg lo s' ov' cv (xs++[x]) ys∧s'.ci=s.ci∧s.next≤s'.next∧s'.minw≤s'.next∧ov'.clean=true∧ ∀n,n<lo→s'.get [] n=s.get [] n:=by
 obtain⟨s',a1,a2,a3,a4,a5,a6⟩:=Bu Hi rfl (by decide) (y:=.list 2 [.agg [.str x.1,.str x.2]] .full) (ys:=[ek x]) h.l rfl (by simp) (by rw [ep,oK];omega) hm
 refine⟨_,s',a1,⟨.inr ⟨by simp,s.next,by rw [kC];rfl,a2,hlo,by omega⟩,?_,fun k h1 h2=>?_⟩,a3,by omega,a5,rfl,fun n hn=>a6 n (by omega) fun k hk=>by have:=(h.l.token hk).1;omega⟩
 ·rcases h.r with h0|⟨h1,k,h2,h3,h4,h5⟩
  ·exact .inl h0
  ·refine .inr ⟨h1,k,h2,(a6 k h5 fun k' hk' e=>?_).trans h3,h4,by omega⟩
   subst e
   exact h.ne k hk' h2
 ·injection h1 with _ _ h1;injection h1 with h1
  have:=(h.r.token h2).2.1
  omega
theorem kg.right {lo:Nat} {s:St} {ov cv:ai} {xs:List cH} {ys:List ax} (h:kg lo s ov cv xs ys) (hm:s.minw≤s.next) (hlo:lo≤s.next) (hlen:ys.length≤1000) (y:ax):
 ∃cv' s',jD Tryz.prog [] 37 cv (.list 1 [.str y] .full) false s=some (cv',s')∧kg lo s' ov cv' xs (ys++[y])∧s'.ci=s.ci∧s.next≤s'.next∧s'.minw≤s'.next∧cv'.clean=true∧ ∀n,n<lo→s'.get [] n=s.get [] n:=by
 obtain⟨s',a1,a2,a3,a4,a5,a6⟩:=Bu pN rfl (by decide) (y:=.list 1 [.str y] .full) (ys:=[bp y]) h.r rfl (by simp) (by rw [ep,oK];omega) hm
 refine⟨_,s',a1,⟨?_,.inr ⟨by simp,s.next,by rw [kC];rfl,a2,hlo,by omega⟩,fun k h1 h2=>?_⟩,a3,by omega,a5,rfl,fun n hn=>a6 n (by omega) fun k hk=>by have:=(h.r.token hk).1;omega⟩
 ·rcases h.l with h0|⟨h1,k,h2,h3,h4,h5⟩
  ·exact .inl h0
  ·refine .inr ⟨h1,k,h2,(a6 k h5 fun k' hk' e=>?_).trans h3,h4,by omega⟩
   subst e
   exact h.ne k h2 hk'
 ·injection h2 with _ _ h2;injection h2 with h2
  have:=(h.l.token h1).2.1
  omega
theorem B3 (a b c a' b' c':List UInt8):fR Tryz.prog .eql 197 (.agg [.str a,.str b,.str c]) (.agg [.str a',.str b',.str c'])=some (.bool (a==a'&&(b==b'&&c==c'))):=by
 have h:fR Tryz.prog .eql 197 (.agg [.str a,.str b,.str c]) (.agg [.str a',.str b',.str c'])=((some (a==a')).bind fun r=>bif r then(some (b==b')).bind fun r=>bif r then(some (c==c')).bind fun r=>bif r then some true else some false else some false else some false).bind fun r=>some (.bool r):=by kernel_rfl
 rw [h]
 cases a==a'<;>cases b==b'<;>cases c==c'<;>rfl
theorem BA {e:bc} {x y z:Operand} {a b c:ax} (hx:ev e x=some (.str a)) (hy:ev e y=some (.str b)) (hz:ev e z=some (.str c)):fY Tryz.prog 197 [(0,x),(1,y),(2,z)] e=some (.agg [.str a,.str b,.str c]):=by
 rw [UN]
 simp only [FY,ak,dL,evc,hx,hy,hz,cu,cT]
 rfl
theorem GI {e:bc} {x:Operand} {a:ax} (hx:ev e x=some (.str a)) (s:St):dR Tryz.prog 37 1 [(0,x)] false e s=some (.list 1 [.str a] .full,s):=by
 simp only [dR,pN,ak,dL,evc,hx,ai.clean,cT,gg,ai.cells,aK,aQ,cI,Nat.zero_mul,aM,jh,ie,cut]
 rfl
theorem U7 {e:bc} {x:Operand} {a b:ax} (hx:ev e x=some (.agg [.str a,.str b])) (s:St):dR Tryz.prog 38 1 [(0,x)] false e s=some (.list 2 [.agg [.str a,.str b]] .full,s):=by
 simp only [dR,Hi,ak,dL,evc,hx,ai.clean,cT,gg,ai.cells,aK,aQ,cI,Nat.zero_mul,aM,bt,jh,ie,cut]
 rfl
theorem UT {e:bc} {x y:Operand} {a b:ax} (hx:ev e x=some (.str a)) (hy:ev e y=some (.str b)):fY Tryz.prog 51 [(0,x),(1,y)] e=some (.agg [.str a,.str b]):=by
 rw [US]
 simp only [AX,ak,dL,evc,hx,hy,cu,cT]
 rfl
end Go.Proofs.YtbfmdojdemckbaaGreat
