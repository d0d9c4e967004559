/- tag.Merge; merger.fields. -/
import Derived.Test.YtbfmdojdemckbaaGreatQ1
import Derived.Test.YtbfmdojdemckbaaGreatS1
open Bool renaming and_eq_true→df,and_self→fL,and_true→dX,not_false→ej,not_true→dg,or_eq_false_iff→mj,true_and→iq
open List renaming append_nil→iQ,cons_append→cP,drop_succ_cons→gZ,drop→aZ,elem_eq_true_of_mem→rD,foldl_cons→vj,getElem?_cons_succ→lO,getElem?_cons_zero→gj,head?_cons→bE,length_append→dw,length_cons→aR,length_map→fw,length_nil→aY,length_singleton→pT,length_take→qG,map_append→mm,map_cons→fS,mem_of_elem_eq_true→rG,mem_of_getElem?→kE,mem_of_mem_drop→vn,mem_of_mem_take→sM,mem_singleton→qI,nil_append→cy,take_append_drop→oe,take_succ_cons→e7,take→bO
open Nat renaming add_zero→cQ,beq→bo,ble_eq_true_of_le→fe,ble→cK,eq_of_beq_eq_true→iI,le_refl→bK,le_succ_of_le→lj,le_succ→kF,lt_irrefl→ff,lt_succ_of_lt→og,lt_succ_self→iC,reduceAdd→bJ,reduceBEq→ah,reduceLT→ar,reduceLeDiff→ck,reduceMul→jJ,zero_add→aQ,zero_le→iK
open Go.Operand renaming tmp→aa
open Option renaming bind_some→aq,getD_some→oh
open Go.Ag.W renaming block→cR,cond→bc,exit→eL,loop1→cY,mono→jy,region→gH,reg→cp,ret→bP,seq→aV,skip→b7,sreg→aF
namespace Go.Proofs.YtbfmdojdemckbaaGreat
open Go.Ag
def jh (k:aB) (K:List aB):List aB:=bif K.elem k then K else K++[k]
def jT (l:List cM) (K:List aB):List aB:=l.foldl (fun K t=>jh t.1 K) K
def qA (k:aB) (i:Nat) (x:aB) (V:aB->List aB):aB->List aB:=fun j=>bif j==k then(V j).set i x else V j
def uR (i:Nat) (l:List cM) (V:aB->List aB):aB->List aB:=l.foldl (fun V t=>qA t.1 i t.2 V) V
structure TM (s:St) (m lo:Nat) (K:List aB) (V:aB->List aB):Prop where
 len: ∀k,(V k).length=3
 fits:K.Nodup
 noV: ∀k,k ∉ K->V k=[[],[],[]]
 ex: ∃L:List (aB×aj),L.map (·.1)=K/\s.get [] m=some (.map (c8 0 L) L.length)/\(∀k v,look k L=some v-> ∃r,v= .ptr r 0/\lo<=r/\r<s.next/\s.get [] r=some (.cells ((V k).map bB)))/\(∀k k' v,look k L=some v->look k' L=some v->k=k')
theorem JO (lc:Ag.Loc) (m o:Nat) (i:aj):iU Tryz.prog lc 197 (.ptr m o) i=(fV i).bind fun i=>bif Nat.blt i 3 then some (.ptr m (o+i*1)) else none:=by kernel_rfl
theorem anH:gf Tryz.prog .eql 196 .nilp .nilp=some (.bool true):=by kernel_rfl
theorem anI (n o:Nat):gf Tryz.prog .eql 196 (.ptr n o) .nilp=some (.bool false):=by kernel_rfl
theorem aml (e:bq) (s:St):nl Tryz.prog 195 e none s=some (.map s.next,s.new (.map [] 0)):=by
 have h:Tryz.prog.underlying 195=some (.map 9 196):=by kernel_rfl
 simp only[nl]
theorem Ul {s:St} {m:Nat} {L:List (aB×aj)} {c:Nat} (hs:s.get [] m=some (.map (c8 0 L) c)) (k:aB):lZ Tryz.prog [] 195 (.map m) (.str k) false s=some (at_ k L):=AV qR UJ aqx hs k
theorem AU {k:aB}: ∀ {L:List (aB×aj)},(look k L).isSome=(L.map (·.1)).elem k
 | []=>rfl
 |(a,v)::L=>by
  have ih:=AU (k:=k) (L:=L)
  simp only[look,fS,List.elem]
  cases h:k==a with
  |true=>simp
  |false=>simpa using ih
theorem DY {k:aB} {v:aj}: ∀ {L:List (aB×aj)},look k L=none->fk k v L=L++[(k,v)]
 | [],_=>rfl
 |(a,u)::L,h=>by
  simp only[look] at h
  cases hk:k==a with
  |true=>rw[hk] at h;cases h
  |false=>
   rw[hk] at h
   simp only[fk,hk,cF,DY h,cP]
theorem aqt (cs:List aj) (i:Nat) (x:aj) (hi:i<cs.length):dl cs i [x]=some (cs.set i x):=by
 have h:cK (i+ [x].length) cs.length=true:=fe (Nat.succ_le_of_lt hi)
 simp only[dl,h,cT,List.set_eq_take_append_cons_drop,if_pos hi];rfl
theorem aoR {k:aB} {i:Nat} {x:aB} {V:aB->List aB} (h: ∀j,(V j).length=3) (j:aB):(qA k i x V j).length=3:=by
 unfold qA
 cases j==k with
 |true=>simp[h]
 |false=>exact h j
theorem TM.row {s:St} {m lo:Nat} {K:List aB} {V:aB->List aB} (t:TM s m lo K V) {k:aB} (hk:k∈K): ∃r,lo<=r/\r<s.next/\s.get [] r=some (.cells ((V k).map bB))/\lZ Tryz.prog [] 195 (.map m) (.str k) false s=some (.ptr r 0)/\
 ∀(i:Nat) (x:aB) (s':St),m<lo->(∀n,s'.get [] n=(s.put r (some (.cells (((V k).map bB).set i (bB x))))).get [] n)->s'.next=s.next->TM s' m lo K (qA k i x V):=by
 obtain⟨L,h1,h2,h3,h4⟩:=t.ex
 have hs:=AU (k:=k) (L:=L)
 rw[h1,rD hk] at hs
 obtain⟨v,hv⟩:=Option.isSome_iff_exists.1 hs
 obtain⟨r,rfl,q1,q2,q3⟩:=h3 k v hv
 refine⟨r,q1,q2,q3,?_,fun i x s' hmlo hg hn=>⟨fun j=>aoR t.len j,t.fits,fun j hj=>?_,L,h1,?_,fun j v hj=>?_,h4⟩⟩
 ·rw[Ul h2];simp only[at_,hv,oh]
 ·have:(j==k)=false:=beq_eq_false_iff_ne.2 (fun e=>hj (e▸hk))
  simp only[qA,this,cF]
  exact t.noV j hj
 ·rw[hg,cX,beq_eq_false_iff_ne.2 (by omega)];exact h2
 ·obtain⟨r',rfl,p1,p2,p3⟩:=h3 j v hj
  refine⟨r',rfl,p1,by omega,?_⟩
  rw[hg,cX]
  cases hr:r'==r with
  |true=>
   have:=eq_of_beq hr
   subst this
   have:j=k:=h4 j k _ hj hv
   subst this
   simp only[cT,qA,bS,List.map_set]
  |false=>
   have:(j==k)=false:=beq_eq_false_iff_ne.2 (fun e=>by
    subst e
    rw[hv] at hj
    injection hj with hj
    injection hj with hj
    exact beq_eq_false_iff_ne.1 hr hj.symm)
   simp only[cF,qA,this]
   exact p3
theorem TM.nil_ {s:St} {m lo:Nat} {K:List aB} {V:aB->List aB} (t:TM s m lo K V) {k:aB} (hk:k ∉ K) (hmlo:m<lo) (hlo:lo<=s.next):lZ Tryz.prog [] 195 (.map m) (.str k) false s=some .nilp/\
 ∃o,mR Tryz.prog [] 195 (.map m) (.str k) (.ptr s.next 0) (s.new (.cells [.str [],.str [],.str []]))=some ((s.new (.cells [.str [],.str [],.str []])).put m o)/\TM ((s.new (.cells [.str [],.str [],.str []])).put m o) m lo (K++[k]) V:=by
 obtain⟨L,h1,h2,h3,h4⟩:=t.ex
 have hs:=AU (k:=k) (L:=L)
 have hf:K.elem k=false:=by
  cases h:K.elem k with
  |true=>exact absurd (rG h) hk
  |false=>rfl
 rw[h1,hf] at hs
 have hnone:look k L=none:=by
  cases h:look k L with
  |none=>rfl
  |some v=>rw[h] at hs;cases hs
 have hg1:(s.new (.cells [.str [],.str [],.str []])).get [] m=some (.map (c8 0 L) L.length):=by rw[dy,beq_eq_false_iff_ne.2 (by omega)];exact h2
 refine⟨by rw[Ul h2];simp only[at_,hnone,Option.getD_none],_,w5 qR UJ hg1 k (.ptr s.next 0),t.len,?_,fun j hj=>t.noV j (fun h=>hj (by simp[h])),fk k (.ptr s.next 0) L,by rw[DY hnone];simp[h1],by rw[cX,bS];rfl,fun j v hj=>?_,fun j j' v hj hj'=>?_⟩
 ·exact List.nodup_append.2 ⟨t.fits,by simp,fun a ha b hb e=>by simp only[qI] at hb;subst hb;subst e;exact hk ha⟩
 ·rw[nj] at hj
  cases hjk:j==k with
  |true=>
   rw[hjk] at hj
   injection hj with hj
   have:=eq_of_beq hjk
   subst this
   refine⟨s.next,hj.symm,hlo,iC _,?_⟩
   rw[cX,beq_eq_false_iff_ne.2 (by omega),cF,dy,bS,t.noV j hk];rfl
  |false=>
   rw[hjk] at hj
   obtain⟨r',rfl,p1,p2,p3⟩:=h3 j v hj
   refine⟨r',rfl,p1,og p2,?_⟩
   rw[cX,beq_eq_false_iff_ne.2 (by omega),cF,dy,beq_eq_false_iff_ne.2 (by omega)];exact p3
 ·rw[nj] at hj hj'
  have old: ∀ {i:aB},look i L=some v->v≠ .ptr s.next 0:=fun hi e=>by
   obtain⟨r',rfl,p1,p2,p3⟩:=h3 _ v hi
   injection e with e
   omega
  cases hjk:j==k with
  |true=>
   rw[hjk] at hj
   injection hj with hj
   cases hjk':j'==k with
   |true=>rw[eq_of_beq hjk,eq_of_beq hjk']
   |false=>rw[hjk'] at hj';exact absurd hj.symm (old hj')
  |false=>
   rw[hjk] at hj
   cases hjk':j'==k with
   |true=>
    rw[hjk'] at hj'
    injection hj' with hj'
    exact absurd hj'.symm (old hj)
   |false=>rw[hjk'] at hj';exact h4 j j' v hj hj'
theorem FZ {s s1:St} (h:s.minw<=s.next) (h1:s1.next=s.next):(s.least s1).minw<=s.next:=by
 show(bif cK s.minw s1.minw then s.minw else s1.minw)<=s.next
 cases hb:cK s.minw s1.minw with
 |true=>exact h
 |false=>
  have: ¬s.minw<=s1.minw:=fun hc=>by rw[fe hc] at hb;cases hb
  simp only[cF];omega
section
variable {sp:FuncId->Option (List aj->Option aj)} {ch:Nat->Nat}
theorem Vu {e:bq} {lc:Ag.Loc} {s:St} {r i:Nat} {cs:List aj} {x:aB} {rs1:List eY} {K:Fr->St->Prop} (hi: ∀r∈rs1,r.i<9) (hx:s.get [] r=some (.cells cs)) (hl:i<cs.length) (hm:s.minw<=s.next) (h56:ay e 56= .ptr r i) (h54:ay e 54= .str x)
 (hk: ∀s',(∀k,s'.get [] k=(s.put r (some (.cells (cs.set i (bB x))))).get [] k)->s'.next=s.next->s'.ci=s.ci->s'.minw<=s'.next->K ⟨e,136,lc⟩ s'):
 WD (QM sp ch) 76 [511] rs1 9 (qj.drop 9) ⟨e,136,lc⟩ s K:=by
 have hxt:s.top.get [] r=some (.cells cs):=hx
 have hw:=aqt cs i (.str x) hl
 unfold qj
 refine WD.fullL (v:=iB) (lc:=lc) (s1:=s.top.put r (some (.cells (cs.set i (bB x))))) (fr1:=⟨e,136,lc⟩) hi (by decide) rfl ?_ rfl rfl (fun rs5 k5=>?_)
 ·simp only[eN,ak,aD,ji,aq,cw,cT,aR,aY,bS,aQ,ar,dX,aX,dA,dT,bQ,Hc,kW,hxt,kV,h56,h54,ji,hw]
  rfl
 refine WD.nil (hk _ (fun k=>rfl) rfl rfl ?_)
 exact FZ hm rfl
theorem apH {v:aj} {l:List cM} (hl:bH 2 ep v l) (hsmall:l.length<=1000) {m lo i:Nat} (hi:i<3) (hmlo:m<lo): ∀(rest pre:List cM) (e:bq) (lc:Ag.Loc) (s:St) (K:List aB) (V:aB->List aB),l=pre++rest->TM s m lo K V->lo<=s.next->s.minw<=s.next->
 ay e 9= .map m->ay e 10= .int .i64 (i:Nat)->ay e 33=v->ay e 34= .int .i64 (l.length:Nat)->ay e 35= .int .i64 (pre.length:Nat)->
 W (QM sp ch) 76 (.loop x7) ⟨e,136,lc⟩ s fun x fr s'=>x= .exit 2/\ ∃e' lc',fr=⟨e',136,lc'⟩/\(ay e' 9= .map m/\ay e' 25=ay e 25/\ay e' 26=ay e 26)/\TM s' m lo (jT rest K) (uR i rest V)/\(∀n,n<m->s'.get [] n=s.get [] n)/\s.next<=s'.next/\s'.minw<=s'.next/\s'.ci=s.ci:=by
 intro rest
 have hcl:=hl.clean
 induction rest with
 |nil=>
  intro pre e lc s K V hpre t hlo hm h9 h10 h33 h34 h35
  have hl:l.length=pre.length:=by rw[hpre];simp
  refine cY ?_
  unfold x7
  refine aF ?_
  unfold FE
  simp only[aw,az,aA,aU,ak,aD,au,cE,aq,a7,cT,bQ,cN,tA,ar,decide_false,h34,h35,hl,ff]
  refine aV (bc (t:=false) (by simp only[ak,ai,ah,cT, *]) ?_)
  exact eL ⟨rfl,_,_,rfl,⟨by simp only[ai,ah,cF,h9],by simp only[ai,ah,cF, *],by simp only[ai,ah,cF, *]⟩,t,fun _ _=>rfl,bK _,hm,rfl⟩
 |cons q rest ih=>
  intro pre e lc s K V hpre t hlo hm h9 h10 h33 h34 h35
  obtain⟨k,x⟩:=q
  have hlt:pre.length<l.length:=by rw[hpre];simp
  have hat:l[pre.length]? =some (k,x):=by rw[hpre];simp
  have hia:=fun lc=>hl.at tt hat lc .i64
  have hwr:IntKind.i64.wrap ((pre.length:Int)+1)=((pre.length+1:Nat):Int):=by rw[eh (by omega) (by omega)];omega
  have fin: ∀(e2:bq) (lc2:Ag.Loc) (s2:St),TM s2 m lo (jh k K) (qA k i x V)->(∀n,n<m->s2.get [] n=s.get [] n)->s.next<=s2.next->s2.minw<=s2.next->s2.ci=s.ci->ay e2 9=ay e 9->ay e2 10=ay e 10->ay e2 25=ay e 25->ay e2 26=ay e 26->ay e2 33=ay e 33->ay e2 34=ay e 34->ay e2 35= .int .i64 ((pre.length+1:Nat):Int)->
   W (QM sp ch) 76 (.loop x7) ⟨e2,136,lc2⟩ s2 fun y fr s'=>y= .exit 2/\ ∃e' lc',fr=⟨e',136,lc'⟩/\(ay e' 9= .map m/\ay e' 25=ay e 25/\ay e' 26=ay e 26)/\TM s' m lo (jT ((k,x)::rest) K) (uR i ((k,x)::rest) V)/\(∀n,n<m->s'.get [] n=s.get [] n)/\s.next<=s'.next/\s'.minw<=s'.next/\s'.ci=s.ci:=by
   intro e2 lc2 s2 t2 o2 n2 m2 c2 g9 g10 g25 g26 g33 g34 g35
   refine jy (ih (pre++[(k,x)]) _ _ s2 (jh k K) (qA k i x V) (by rw[hpre];simp) t2 (by omega) m2 ?_ ?_ ?_ ?_ ?_) ?_
   ·rw[g9,h9]
   ·rw[g10,h10]
   ·rw[g33,h33]
   ·rw[g34,h34]
   ·rw[g35,dw];rfl
   rintro y fr s' ⟨rfl,e',lc',rfl,⟨d9,d25,d26⟩,q1,q2,q3,q4,q5⟩
   refine⟨rfl,e',lc',rfl,⟨d9,d25.trans g25,d26.trans g26⟩,q1,fun n hn=>(q2 n hn).trans (o2 n hn),by omega,q4,q5.trans c2⟩
  refine cY ?_
  unfold x7
  refine aF ?_
  unfold FE
  simp only[aw,az,aA,aU,ak,aD,au,cE,aq,a7,cT,bQ,cN,tA,ar,dT,h34,h35,hlt]
  refine aV (bc (t:=true) (by simp only[ak,ai,ah,cT, *]) (b7 ?_))
  simp only[aW]
  refine aV (cR (aF ?_))
  unfold RX
  simp only[aw,az,eD,aA,eE,ai,bU,iW,gY,bn,eN,dI,ak,aD,fv,dR,au,bG,dj,ik,aq,cu,cT,cF,bQ,hG,aR,aY,cut,dl,bO,aZ,e7,cy,cP,bS,tA,aQ,ah,ar,bJ,ck,dX,aX,dA,cd,dT,Br,Hb,BZ,ac8,h33,h35,hia,ep]
  refine aV (aV (cp ?_))
  unfold RY
  by_cases hK:k∈K
  ·obtain⟨r,r1,r2,r3,r4,r5⟩:=t.row hK
   have hadd:jh k K=K:=by simp only[jh,rD hK,cT]
   simp only[aw,az,aA,ai,cJ,bU,aG,bn,aU,bN,l5,ak,aH,aD,bT,au,aq,cw,ez,gr,cT,cF,bQ,aZ,bE,bS,tA,cQ,ah,ar,aX,pq,dv,h9,r4,ja,jj,anI,aW]
   refine bc (t:=false) (by simp only[ak,ai,ah,cT,cF]) (b7 ?_)
   simp only[aW]
   rw[show qj=qj.take 9++qj.drop 9 from(oe 9 _).symm]
   refine W.drawD (WD.calmOps hm (fun _ h=>by cases h) (fun _ h=>by cases h) ?_)
   have r4t:lZ Tryz.prog [] 195 (.map m) (.str k) false s.top=some (.ptr r 0):=r4
   unfold qj
   simp only[d8,d7,ec,isStore,ai,cJ,bU,aG,bn,bN,dI,l5,gh,ak,aD,bT,sn,au,aq,cw,gr,cT,cF,bQ,aR,aY,bO,aZ,bE,cy,cP,bS,tA,aQ,cQ,ah,ar,bJ,aX,dA,dT,pq,vZ,dv,h9,h10,r4t,gg,JO,hi,Nat.mul_one]
   intro rs1 hc1 hi1
   refine Vu (x:=x) (i:=i) hi1 r3 (by rw[fw,t.len];exact hi) hm (by simp only[ai,ah,cT,cF, *]) (by simp only[ai,ah,cT,cF, *]) ?_
   intro s' q1 q2 q3 q4
   have hold: ∀n,n<m->s'.get [] n=s.get [] n:=fun n hn=>by
    rw[q1,cX,beq_eq_false_iff_ne.2 (by omega)];rfl
   simp only[dM,aW]
   refine cp ?_
   unfold Fu
   simp only[aw,az,aA,ai,aG,aU,ak,aH,aD,bm,au,dW,aq,a7,cT,cF,bQ,bS,tA,ah,ar,h35,hwr,aW]
   refine fin _ _ s' (by rw[hadd];exact r5 i x s' hmlo q1 q2) hold (by omega) q4 q3 ?_ ?_ ?_ ?_ ?_ ?_ ?_
   any_goals simp only[ai,ah,cT,cF, *]
  ·obtain⟨n1,o,n2,n3⟩:=t.nil_ hK hmlo hlo
   have hadd:jh k K=K++[k]:=by
    have:K.elem k=false:=by
     cases h:K.elem k with
     |true=>exact absurd (rG h) hK
     |false=>rfl
    simp only[jh,this,cF]
   obtain⟨s1,hs1⟩: ∃a,a=(s.new (.cells [.str [],.str [],.str []])).put m o:=⟨_,rfl⟩
   rw[<-hs1] at n2 n3
   have e1:s1.next=s.next+1:=by rw[hs1];rfl
   have e2:s1.minw<=s1.next:=by rw[hs1];exact jW _ _ _ (lj hm)
   have e3:s1.ci=s.ci:=by rw[hs1];rfl
   have e4: ∀n,n<m->s1.get [] n=s.get [] n:=fun n hn=>by
    rw[hs1,cX,beq_eq_false_iff_ne.2 (by omega),cF,dy,beq_eq_false_iff_ne.2 (by omega)];rfl
   obtain⟨r,r1,r2,r3,r4,r5⟩:=n3.row (k:=k) (by simp)
   simp only[aw,az,aA,ai,cJ,bU,aG,bn,aU,bN,l5,ak,aH,aD,bT,au,aq,cw,gr,cT,cF,bQ,aZ,bE,bS,tA,cQ,ah,ar,aX,pq,dv,h9,n1,ja,anH,jj,aW]
   refine bc (t:=true) (by simp only[ak,ai,ah,cT,cF]) (cp ?_)
   unfold RZ
   simp only[aw,az,eD,aA,eE,ai,cJ,bU,aG,gY,bn,bN,tI,ak,aD,i9,bT,au,tM,bG,dj,aq,cw,ez,gr,cT,cF,bQ,hG,aZ,bE,bS,tA,cQ,ah,ar,aX,pq,dv,h9,ade,Hu,n2,aW]
   rw[show qj=qj.take 9++qj.drop 9 from(oe 9 _).symm]
   refine W.drawD (WD.calmOps e2 (fun _ h=>by cases h) (fun _ h=>by cases h) ?_)
   have r4t:lZ Tryz.prog [] 195 (.map m) (.str k) false s1.top=some (.ptr r 0):=r4
   unfold qj
   simp only[d8,d7,ec,isStore,ai,cJ,bU,aG,bn,bN,dI,l5,gh,ak,aD,bT,sn,au,aq,cw,gr,cT,cF,bQ,aR,aY,bO,aZ,bE,cy,cP,bS,tA,aQ,cQ,ah,ar,bJ,aX,dA,dT,pq,vZ,dv,h9,h10,r4t,gg,JO,hi,Nat.mul_one]
   intro rs1 hc1 hi1
   refine Vu (x:=x) (i:=i) hi1 r3 (by rw[fw,n3.len];exact hi) e2 (by simp only[ai,ah,cT,cF, *]) (by simp only[ai,ah,cT,cF, *]) ?_
   intro s' q1 q2 q3 q4
   have hold: ∀n,n<m->s'.get [] n=s.get [] n:=fun n hn=>by
    rw[q1,cX,beq_eq_false_iff_ne.2 (by omega)];exact e4 n hn
   simp only[dM,aW]
   refine cp ?_
   unfold Fu
   simp only[aw,az,aA,ai,aG,aU,ak,aH,aD,bm,au,dW,aq,a7,cT,cF,bQ,bS,tA,ah,ar,h35,hwr,aW]
   refine fin _ _ s' (by rw[hadd];exact r5 i x s' hmlo q1 q2) hold (by omega) q4 (q3.trans e3) ?_ ?_ ?_ ?_ ?_ ?_ ?_
   any_goals simp only[ai,ah,cT,cF, *]
end
structure kn (v:aj) (l:List cM):Prop where
 is:bH 2 ep v l
 valid:gM l=true
 keys: ∀t∈l,t.1.length<small
theorem kn.len {v:aj} {l:List cM} (h:kn v l):l.length<=60:=by
 have:=h.valid
 simp only[gM,df,decide_eq_true_eq] at this
 exact this.2
theorem kn.spec {v:aj} {l:List cM} (h:kn v l):qE [v]=some (.bool true):=by
 have:=h.len
 rw[Wv h.is (by have:small=9223372036854775808:=rfl;omega) h.keys,h.valid]
section
variable {sp:FuncId->Option (List aj->Option aj)} {ch:Nat->Nat}
theorem GX (h59:sp 59=some qE) {A v:aj} {l:List cM} (h:kn v l) {m lo i:Nat} (hi:i<3) (hmlo:m<lo) (hA:A.clean=true) (hix:qT Tryz.prog 194 A (.int .i64 (i:Nat))=some v) {e:bq} {lc:Ag.Loc} {s:St} {K:List aB} {V:aB->List aB} {P:Ex->Fr->St->Prop}
 (t:TM s m lo K V) (hlo:lo<=s.next) (hm:s.minw<=s.next) (h9:ay e 9= .map m) (h25:ay e 25=A) (h26:ay e 26= .int .i64 (i:Nat))
 (hk: ∀(e':bq) (lc':Ag.Loc) (s':St),ay e' 9= .map m->ay e' 25=A->ay e' 26= .int .i64 ((i+1:Nat):Int)->TM s' m lo (jT l K) (uR i l V)->(∀n,n<m->s'.get [] n=s.get [] n)->lo<=s'.next->s.next<=s'.next->s'.minw<=s'.next->s'.ci=s.ci->W (QM sp ch) 76 (.loop wq) ⟨e',136,lc'⟩ s' P):
 W (QM sp ch) 76 (.loop wq) ⟨e,136,lc⟩ s P:=by
 have hcl:=h.is.clean
 have hln:=fun mk s=>h.is.len qW qV mk s
 have hsp:=h.spec
 have hl60:=h.len
 have hwr:IntKind.i64.wrap ((i:Int)+1)=((i+1:Nat):Int):=by rw[eh (by omega) (by omega)];omega
 have hlt:di (i:Int) 3=true:=by
  have:=cN i 3
  rw[show((3:Nat):Int)=3 from rfl] at this
  rw[this];exact decide_eq_true hi
 refine cY ?_
 unfold wq
 refine aF ?_
 unfold FD
 simp only[aw,az,aA,aU,ak,aH,aD,bm,au,cE,aq,a7,cT,bQ,tA,ar,h26,hlt]
 refine aV (bc (t:=true) (by simp only[ak,ai,ah,cT]) (b7 ?_))
 simp only[aW]
 refine aV (cR (aF ?_))
 unfold Sa
 simp only[aw,az,aA,ai,aG,aM,Bk,ak,aD,au,aq,cT,cF,bQ,bS,tA,ah,ar,h25,h26,hA,hix]
 refine aV (aV (cp ?_))
 unfold Sb
 simp only[aw,az,aA,ai,aG,fp,dc,da,ak,aD,bh,bk,au,fq,aq,eJ,cT,cF,rK,dg,bS,tA,ah,ar,hcl,h59,hsp,aW]
 refine bc (t:=false) (by simp only[ak,ai,ah,cT,cF]) (b7 ?_)
 simp only[aW]
 refine aF ?_
 unfold Sc
 simp only[aw,az,aA,ai,aG,cG,ak,aH,aD,bh,bk,bm,au,bZ,cW,bG,aq,cT,cF,bQ,hG,bS,tA,ah,ar,aX,hcl,adc,hln]
 refine cR ?_
 refine jy (apH h.is (by omega) hi hmlo l [] _ _ s K V rfl t hlo hm ?_ ?_ ?_ ?_ ?_) ?_
 ·simp only[ai,ah,cF,h9]
 ·simp only[ai,ah,cT,cF]
 ·simp only[ai,ah,cT,cF]
 ·simp only[ai,ah,cT,cF]
 ·simp only[ai,ah,cT,cF];rfl
 rintro x fr s' ⟨rfl,e',lc',rfl,⟨d9,d25,d26⟩,q1,q2,q3,q4,q5⟩
 have d25:ay e' 25=A:=d25.trans (by simp only[ai,ah,cF,h25])
 have d26:ay e' 26= .int .i64 (i:Nat):=d26.trans (by simp only[ai,ah,cF,h26])
 show W (QM sp ch) 76 _ _ _ _
 refine cp ?_
 unfold R0
 simp only[aw,az,aA,ai,aG,aU,ak,aH,aD,bm,au,dW,aq,a7,cT,bQ,bS,tA,ar,d26,hwr,aW]
 refine hk _ _ s' ?_ ?_ ?_ q1 q2 (by omega) q3 q4 q5
 ·simp only[ai,ah,cF,d9]
 ·simp only[ai,ah,cF,d25]
 ·simp only[ai,ah,cT,cF]
theorem D4 {vb vo vt:aj}:qT Tryz.prog 194 (.agg [vb,vo,vt]) (.int .i64 ((0:Nat):Int))=some vb/\qT Tryz.prog 194 (.agg [vb,vo,vt]) (.int .i64 ((1:Nat):Int))=some vo/\qT Tryz.prog 194 (.agg [vb,vo,vt]) (.int .i64 ((2:Nat):Int))=some vt:=by
 have h: ∀k:Nat,fV (.int .i64 (k:Int))=some k:=fun _=>rfl
 refine⟨?_,?_,?_⟩<;>rw[ad7,h,aq,mL]<;>rfl
def kb (b o t:List cM):List aB:=jT t (jT o (jT b []))
def u7 (b o t:List cM):aB->List aB:=uR 2 t (uR 1 o (uR 0 b fun _=>[[],[],[]]))
theorem aoV (h59:sp 59=some qE) {vb vo vt:aj} {b o t:List cM} (hb:kn vb b) (ho:kn vo o) (ht:kn vt t) {m:Nat} {e:bq} {lc:Ag.Loc} {s:St} (hs:s.get [] m=some (.map [] 0)) (hlo:m<s.next) (hm:s.minw<=s.next) (h9:ay e 9= .map m) (h25:ay e 25= .agg [vb,vo,vt]) (h26:ay e 26= .int .i64 (0:Nat)):
 W (QM sp ch) 76 (.loop wq) ⟨e,136,lc⟩ s fun x fr s'=>x= .exit 0/\ ∃e' lc',fr=⟨e',136,lc'⟩/\ay e' 9= .map m/\TM s' m (m+1) (kb b o t) (u7 b o t)/\(∀n,n<m->s'.get [] n=s.get [] n)/\s.next<=s'.next/\s'.minw<=s'.next/\s'.ci=s.ci:=by
 have hA:(aj.agg [vb,vo,vt]).clean=true:=rfl
 have t0:TM s m (m+1) [] fun _=>[[],[],[]]:=⟨fun _=>rfl,List.nodup_nil,fun _ _=>rfl,[],rfl,hs,fun k v h=>(by cases h),fun k k' v h=>(by cases h)⟩
 refine GX (i:=0) h59 hb (by decide) (iC _) hA D4.1 t0 hlo hm h9 h25 h26 fun e1 l1 s1 a9 a25 a26 t1 a1 a2 a3 a4 a5=>?_
 refine GX (i:=1) h59 ho (by decide) (iC _) hA D4.2.1 t1 a2 a4 a9 a25 a26 fun e2 l2 s2 b9 b25 b26 t2 b1 b2 b3 b4 b5=>?_
 refine GX (i:=2) h59 ht (by decide) (iC _) hA D4.2.2 t2 b2 b4 b9 b25 b26 fun e3 l3 s3 c9 c25 c26 t3 c1 c2 c3 c4 c5=>?_
 refine cY ?_
 unfold wq
 refine aF ?_
 unfold FD
 have hlt:di ((2+1:Nat):Int) 3=false:=rfl
 simp only[aw,az,aA,aU,ak,aH,aD,bm,au,cE,aq,a7,cT,bQ,tA,ar,bJ,c26,hlt]
 refine aV (bc (t:=false) (by simp only[ak,ai,ah,cT]) ?_)
 refine eL ⟨rfl,_,_,rfl,?_,t3,fun n hn=>(c1 n hn).trans ((b1 n hn).trans (a1 n hn)),by omega,c4,c5.trans (b5.trans a5)⟩
 simp only[ai,ah,cF,c9]
end
section
variable {sp:FuncId->Option (List aj->Option aj)} {ch:Nat->Nat}
theorem ad0 {v:aj} {l:List aB} (hl:bH 1 bB v l) (hsmall:l.length<=1000000) {k:aB} {s:St}: ∀(rest pre:List aB) (e:bq) (lc:Ag.Loc),l=pre++rest->pre.elem k=false->
 ay e 0=v->ay e 1= .str k->ay e 7= .int .i64 (l.length:Nat)->ay e 8= .int .i64 (pre.length:Nat)->
 W (QM sp ch) 186 (.loop zS) ⟨e,19,lc⟩ s fun x fr s'=>s'=s/\fr.size=19/\((x= .exit 0/\l.elem k=false)\/(x= .ret/\l.elem k=true/\ ∃i:Nat,ay fr.env 4= .int .i64 i)):=by
 intro rest
 have hcl:=hl.clean
 induction rest with
 |nil=>
  intro pre e lc hpre hp h0 h1 h7 h8
  have hl:l.length=pre.length:=by rw[hpre];simp
  refine cY ?_
  unfold zS
  refine aF ?_
  unfold Ei
  simp only[aw,az,aA,aU,ak,aD,au,cE,aq,a7,cT,bQ,cN,tA,ar,decide_false,h7,h8,hl,ff]
  refine aV (bc (t:=false) (by simp only[ak,ai,ah,cT, *]) ?_)
  exact eL ⟨rfl,rfl,.inl ⟨rfl,by rw[hpre,iQ];exact hp⟩⟩
 |cons q rest ih=>
  intro pre e lc hpre hp h0 h1 h7 h8
  have hlt:pre.length<l.length:=by rw[hpre];simp
  have hat:l[pre.length]? =some q:=by rw[hpre];simp
  have hia:=fun lc=>hl.at lF hat lc .i64
  have hwr:IntKind.i64.wrap ((pre.length:Int)+1)=((pre.length+1:Nat):Int):=by rw[eh (by omega) (by omega)];omega
  refine cY ?_
  unfold zS
  refine aF ?_
  unfold Ei
  simp only[aw,az,aA,aU,ak,aD,au,cE,aq,a7,cT,bQ,cN,tA,ar,dT,h7,h8,hlt]
  refine aV (bc (t:=true) (by simp only[ak,ai,ah,cT, *]) (b7 ?_))
  simp only[aW]
  refine aV (cR (aF ?_))
  unfold My
  simp only[aw,az,aA,ai,aG,aM,ak,au,cT,cF,bS,tA,ah,ar,h8]
  refine aV (cp ?_)
  unfold Mz
  simp only[aw,az,aA,ai,aG,bn,aU,dI,ak,aD,dR,au,jr,ji,aq,cw,cT,cF,bQ,aZ,bE,bS,tA,ah,ar,dv,h0,h1,hia,bB,dR,aW]
  cases hq:k==q with
  |true=>
   refine bc (t:=true) (by simp only[ak,ai,ah,cT,cF]) (aF ?_)
   unfold MA
   simp only[aw,az,aA,ai,aG,aM,ak,au,cT,cF,bS,tA,ah,ar]
   refine bP ⟨rfl,rfl,.inr ⟨rfl,?_,pre.length,?_⟩⟩
   ·rw[hpre]
    exact rD (by rw[eq_of_beq hq];simp)
   ·simp only[ai,ah,cT,cF]
  |false=>
   refine bc (t:=false) (by simp only[ak,ai,ah,cT,cF]) (b7 ?_)
   simp only[dM,aW]
   refine cp ?_
   unfold MB
   simp only[aw,az,aA,ai,aG,aU,ak,aH,aD,bm,au,dW,aq,a7,cT,cF,bQ,bS,tA,ah,ar,h8,hwr,aW]
   refine ih (pre++[q]) _ _ (by rw[hpre];simp) ?_ ?_ ?_ ?_ ?_
   ·cases he:(pre++[q]).elem k with
    |false=>rfl
    |true=>
     have:=rG he
     rcases List.mem_append.1 this with h|h
     ·rw[rD h] at hp;cases hp
     ·simp only[qI] at h
      subst h
      simp at hq
   ·simp only[ai,ah,cF,h0]
   ·simp only[ai,ah,cF,h1]
   ·simp only[ai,ah,cF,h7]
   ·simp only[ai,ah,cT,cF,dw,aR,aY]
theorem Zg (h186:sp 186=none) (h121:sp 121=none) {v:aj} {l:List aB} (hl:bH 1 bB v l) (hsmall:l.length<=1000000) (k:aB) (s:St):bv (QM sp ch) 121 [v,.str k] s (.bool (l.elem k)) s:=by
 have hcl:=hl.clean
 have hln:=fun mk s=>hl.len iV jl mk s
 have h1: ∃i:Int,bv (QM sp ch) 186 [v,.str k] s (.int .i64 i) s/\gX 0 i=l.elem k:=by
  have hrun: ∃w s',bv (QM sp ch) 186 [v,.str k] s w s'/\(s'=s/\ ∃i:Int,w= .int .i64 i/\gX 0 i=l.elem k):=by
   refine bv.ofEx afS afR afU afT h186 ?_
   unfold Mv
   refine aF ?_
   unfold Mw
   simp only[dr,cZ,aw,az,aA,aM,aH,au,cT,aR,aY,tA,aQ,ar,bJ,ck,cd,dT,ofValue,gD]
   refine aV (aV (cp ?_))
   unfold Mx
   simp only[aw,az,aA,ai,aG,cG,ak,aH,aD,bh,bk,bm,au,bZ,cW,bG,aq,cT,cF,bQ,hG,bS,tA,ah,ar,aX,abX,hcl,hln,aW]
   refine cR ?_
   refine jy (ad0 (k:=k) hl hsmall l [] _ _ rfl rfl ?_ ?_ ?_ ?_) ?_
   ·simp only[ai,ah,cT,cF]
   ·simp only[ai,ah,cT,cF]
   ·simp only[ai,ah,cT,cF]
   ·simp only[ai,ah,cT,cF];rfl
   rintro x fr s' ⟨rfl,hz,⟨rfl,he⟩|⟨rfl,he,i,hi⟩⟩
   ·obtain⟨e',z,lc'⟩:=fr
    have hz:z=19:=hz
    subst hz
    show W (QM sp ch) 186 _ _ _ _
    refine aF ?_
    unfold MC
    simp only[aw,az,aA,aM,aH,bm,au,tA,ar]
    refine bP ⟨.inr rfl,.int .i64 (-1),bV ?_ rfl,rfl, -1,rfl,by rw[he];rfl⟩
    simp only[ai,ah,cT]
   ·refine⟨.inr rfl,.int .i64 i,bV hi rfl,rfl,i,rfl,?_⟩
    rw[he]
    have:=oN 0 i
    rw[show((0:Nat):Int)=0 from rfl] at this
    rw[this];exact decide_eq_true (iK _)
  obtain⟨w,s',r1,rfl,i,rfl,r2⟩:=hrun
  exact⟨i,r1,r2⟩
 obtain⟨i,hr,hi⟩:=h1
 refine bv.of2 aeT aeS aeV aeU h121 ?_
 unfold KP
 refine aF ?_
 unfold KQ
 simp only[dr,cZ,aw,az,aA,aM,aH,au,cT,aR,aY,tA,aQ,ar,bJ,ck,cd,dT,ofValue,gD]
 refine aV (gH (gd 2 ?_))
 unfold KR
 simp only[aw,az,aA,ai,aG,ak,au,cT,cF,bO,aZ,bS,tA,ah,ar]
 refine gq (g:=186) (args:=[v,.str k]) ?_ hr (by decide) ?_
 ·simp only[callee,ai,ak,fA,aD,bh,bk,aq,cw,cT,cF,cy,cP,bS,ah,hcl]
 refine gp ?_
 simp only[aw,az,aA,ai,aM,aU,ak,aH,aD,bm,au,j7,aq,a7,cT,cF,bQ,bS,tA,ah,ar,hi,aW]
 refine bP ⟨rfl,.inr rfl,bV ?_ rfl⟩
 simp only[ai,ah,cT,cF]
end
structure lw (lo:Nat) (s:St) (ov cv:aj) (xs:List cM) (ys:List aB):Prop where
 l:gW 2 lo s ov (xs.map ep)
 r:gW 1 lo s cv (ys.map bB)
 ne: ∀k,ov= .list 2 (xs.map ep) (.own k)->cv= .list 1 (ys.map bB) (.own k)->False
theorem CC {t:TypeId} {E:EI} {sz lo:Nat} (hE:jG Tryz.prog t=some E) (hn:E.n=sz) (hb:E.b<=88) {s:St} {ov y:aj} {xs ys:List aj} (h:gW sz lo s ov xs) (hy:ku [] E.g E.n y s=some ys) (hne:ys≠ []) (hlen:xs.length+ys.length<=1000000) (hm:s.minw<=s.next):
 ∃s',j6 Tryz.prog [] t ov y false s=some (.list sz (xs++ys) (.own s.next),s')/\s'.get [] s.next=some .tok/\s'.ci=s.ci/\s'.next=s.next+1/\s'.minw<=s'.next/\(∀n,n<s.next->(∀k,ov= .list sz xs (.own k)->n≠k)->s'.get [] n=s.get [] n):=by
 subst hn
 have hov:xV ov=true/\ov.cells=[ov]:=by rcases h with⟨rfl,_⟩|⟨_,k,rfl,_⟩<;>exact⟨rfl,rfl⟩
 cases ys with
 |nil=>exact absurd rfl hne
 |cons y0 ys=>
  rcases h with⟨rfl,rfl⟩|⟨hne,k,rfl,hk,h5,h6⟩
  ·have hr:l7 (y0::ys).length E.b=true:=uV (by simpa using hlen) hb
   refine⟨s.new .tok,?_,by rw[dy,bS];rfl,rfl,rfl,lj hm,fun n hn' _=>?_⟩
   ·simp only[j6,hE,aq,hy,mp,kP,hr,cT,cF,cy]
   ·rw[dy,beq_eq_false_iff_ne.2 (by omega)];rfl
  ·have hr:l7 (xs.length+(y0::ys).length) E.b=true:=uV hlen hb
   refine⟨(s.put k none).new .tok,?_,by rw[dy,qs,bS];rfl,rfl,rfl,lj (jW s k none hm),fun n hn' hnk=>?_⟩
   ·simp only[j6,hE,aq,hy,mp,hk,hr,aX,bS,fL,cT]
   ·rw[dy,qs,beq_eq_false_iff_ne.2 (by omega),cF,cX,beq_eq_false_iff_ne.2 (hnk k rfl)];rfl
theorem gW.token {sz lo:Nat} {s:St} {ov:aj} {xs:List aj} (h:gW sz lo s ov xs) {k:Nat} (hk:ov= .list sz xs (.own k)):lo<=k/\k<s.next/\s.get [] k=some .tok:=by
 rcases h with⟨rfl,_⟩|⟨_,k',rfl,h1,h2,h3⟩
 ·cases hk
 ·injection hk with _ _ h;injection h with h;subst h;exact⟨h2,h3,h1⟩
theorem lw.left {lo:Nat} {s:St} {ov cv:aj} {xs:List cM} {ys:List aB} (h:lw lo s ov cv xs ys) (hm:s.minw<=s.next) (hlo:lo<=s.next) (hlen:xs.length<=1000) (x:cM):
 ∃ov' s',j6 Tryz.prog [] 38 ov (.list 2 [.agg [.str x.1,.str x.2]] .full) false s=some (ov',s')/\lw lo s' ov' cv (xs++[x]) ys/\s'.ci=s.ci/\s.next<=s'.next/\s'.minw<=s'.next/\ov'.clean=true/\ ∀n,n<lo->s'.get [] n=s.get [] n:=by
 obtain⟨s',a1,a2,a3,a4,a5,a6⟩:=CC IQ rfl (by decide) (y:=.list 2 [.agg [.str x.1,.str x.2]] .full) (ys:=[ep x]) h.l rfl (by simp) (by rw[fw,pT];omega) hm
 refine⟨_,s',a1,⟨.inr ⟨by simp,s.next,by rw[mm];rfl,a2,hlo,by omega⟩,?_,fun k h1 h2=>?_⟩,a3,by omega,a5,rfl,fun n hn=>a6 n (by omega) fun k hk=>by have:=(h.l.token hk).1;omega⟩
 ·rcases h.r with h0|⟨h1,k,h2,h3,h4,h5⟩
  ·exact .inl h0
  ·refine .inr ⟨h1,k,h2,(a6 k h5 fun k' hk' e=>?_).trans h3,h4,by omega⟩
   subst e
   exact h.ne k hk' h2
 ·injection h1 with _ _ h1;injection h1 with h1
  have:=(h.r.token h2).2.1
  omega
theorem lw.right {lo:Nat} {s:St} {ov cv:aj} {xs:List cM} {ys:List aB} (h:lw lo s ov cv xs ys) (hm:s.minw<=s.next) (hlo:lo<=s.next) (hlen:ys.length<=1000) (y:aB):
 ∃cv' s',j6 Tryz.prog [] 37 cv (.list 1 [.str y] .full) false s=some (cv',s')/\lw lo s' ov cv' xs (ys++[y])/\s'.ci=s.ci/\s.next<=s'.next/\s'.minw<=s'.next/\cv'.clean=true/\ ∀n,n<lo->s'.get [] n=s.get [] n:=by
 obtain⟨s',a1,a2,a3,a4,a5,a6⟩:=CC qQ rfl (by decide) (y:=.list 1 [.str y] .full) (ys:=[bB y]) h.r rfl (by simp) (by rw[fw,pT];omega) hm
 refine⟨_,s',a1,⟨?_,.inr ⟨by simp,s.next,by rw[mm];rfl,a2,hlo,by omega⟩,fun k h1 h2=>?_⟩,a3,by omega,a5,rfl,fun n hn=>a6 n (by omega) fun k hk=>by have:=(h.r.token hk).1;omega⟩
 ·rcases h.l with h0|⟨h1,k,h2,h3,h4,h5⟩
  ·exact .inl h0
  ·refine .inr ⟨h1,k,h2,(a6 k h5 fun k' hk' e=>?_).trans h3,h4,by omega⟩
   subst e
   exact h.ne k h2 hk'
 ·injection h2 with _ _ h2;injection h2 with h2
  have:=(h.l.token h1).2.1
  omega
theorem Dc (a b c a' b' c':List UInt8):gf Tryz.prog .eql 197 (.agg [.str a,.str b,.str c]) (.agg [.str a',.str b',.str c'])=some (.bool (a==a'&&(b==b'&&c==c'))):=by
 have h:gf Tryz.prog .eql 197 (.agg [.str a,.str b,.str c]) (.agg [.str a',.str b',.str c'])=((some (a==a')).bind fun r=>bif r then(some (b==b')).bind fun r=>bif r then(some (c==c')).bind fun r=>bif r then some true else some false else some false else some false).bind fun r=>some (.bool r):=by kernel_rfl
 rw[h]
 cases a==a'<;>cases b==b'<;>cases c==c'<;>rfl
theorem CG {e:bq} {x y z:Operand} {a b c:aB} (hx:ev e x=some (.str a)) (hy:ev e y=some (.str b)) (hz:ev e z=some (.str c)):gQ Tryz.prog 197 [(0,x),(1,y),(2,z)] e=some (.agg [.str a,.str b,.str c]):=by
 rw[X6]
 simp only[Hu,aq,ee,evc,hx,hy,hz,cw,cT]
 rfl
theorem Ie {e:bq} {x:Operand} {a:aB} (hx:ev e x=some (.str a)) (s:St):ey Tryz.prog 37 1 [(0,x)] false e s=some (.list 1 [.str a] .full,s):=by
 simp only[ey,qQ,aq,ee,evc,hx,aj.clean,cT,gU,aj.cells,aR,aY,dl,Nat.zero_mul,aQ,jJ,iL,cut]
 rfl
theorem Ym {e:bq} {x:Operand} {a b:aB} (hx:ev e x=some (.agg [.str a,.str b])) (s:St):ey Tryz.prog 38 1 [(0,x)] false e s=some (.list 2 [.agg [.str a,.str b]] .full,s):=by
 simp only[ey,IQ,aq,ee,evc,hx,aj.clean,cT,gU,aj.cells,aR,aY,dl,Nat.zero_mul,aQ,bJ,jJ,iL,cut]
 rfl
theorem Yb {e:bq} {x y:Operand} {a b:aB} (hx:ev e x=some (.str a)) (hy:ev e y=some (.str b)):gQ Tryz.prog 51 [(0,x),(1,y)] e=some (.agg [.str a,.str b]):=by
 rw[Ya]
 simp only[BZ,aq,ee,evc,hx,hy,cw,cT]
 rfl
def kz (a b c:aB):Option aB:=bif c==b||c==a then some b else bif b==a then some c else none
def nD (k a b c:aB) (ys:List aB):List aB:=match kz a b c with
 |some _=>ys
 |none=>ys++[k]
def kY (k v:aB) (xs:List cM) (ys:List aB):List cM×List aB:=
 bif v== [] then(xs,ys) else bif decide (xs.length<60) then(xs++[(k,v)],ys) else bif ys.elem k then(xs,ys) else(xs,ys++[k])
noncomputable def RS:SC:=(.seq (.seq (.region Fv)
 (.cond (aa 78) .skip (.region Fw)))
 (.cond (aa 78) (.region AB) (.seq (.region AC)
 (.cond (aa 99) (.region AD) (.region AA)))))
noncomputable def RT:SC:=(.seq (.region Fx)
 (.cond (aa 111) .skip (.seq (.region Fy)
 (.cond (aa 114) (.region Fz) (.seq (.region FA)
 (.cond (aa 124) (.region FB) .skip))))))
section
variable {sp:FuncId->Option (List aj->Option aj)} {ch:Nat->Nat}
theorem zG (lc:Ag.Loc) (l g o:Nat):iU Tryz.prog lc 197 (.lref l g o) (.int .i64 0)=bif bo (lc.gen l) g then some (.lref l g (o+0*1)) else none:=by rw[DU];rfl
theorem DT (lc:Ag.Loc) (l g o:Nat):iU Tryz.prog lc 197 (.lref l g o) (.int .i64 1)=bif bo (lc.gen l) g then some (.lref l g (o+1*1)) else none:=by rw[DU];rfl
theorem JN (lc:Ag.Loc) (l g o:Nat):iU Tryz.prog lc 197 (.lref l g o) (.int .i64 2)=bif bo (lc.gen l) g then some (.lref l g (o+2*1)) else none:=by rw[DU];rfl
theorem apu {e:bq} {lc:Ag.Loc} {s:St} {lo g:Nat} {ov cv:aj} {xs:List cM} {ys:List aB} {k a b c:aB} {P:Ex->Fr->St->Prop} (t:lw lo s ov cv xs ys) (hm:s.minw<=s.next) (hlo:lo<=s.next) (hlen:ys.length<=1000)
 (h14:ay e 14=ov) (h15:ay e 15=cv) (h17:ay e 17= .str k) (h18:ay e 18= .lref 18 g 0) (h19:ay e 19= .str a) (hg:lc.gen 18=g) (hl:lc.get 18 g=some [.str a,.str b,.str c])
 (hk: ∀(e':bq) (s':St) (cv':aj),ay e' 9=ay e 9->ay e' 14=ov->ay e' 15=cv'->ay e' 17= .str k->ay e' 19= .str ((kz a b c).getD a)->ay e' 61=ay e 61->ay e' 62=ay e 62->ay e' 63=ay e 63->lw lo s' ov cv' xs (nD k a b c ys)->s'.ci=s.ci->s.next<=s'.next->s'.minw<=s'.next->(∀n,n<lo->s'.get [] n=s.get [] n)->P .normal ⟨e',136,lc⟩ s'):
 W (QM sp ch) 76 RS ⟨e,136,lc⟩ s P:=by
 have hcc:=t.r.clean
 have hb1: ∀e,ay e 81= .str a->ay e 83= .str b->ay e 85= .str b->gQ Tryz.prog 197 [(0,.tmp 81),(1,.tmp 83),(2,.tmp 85)] e=some (.agg [.str a,.str b,.str b]):=fun e p q r=>CG (by rw[ak,p]) (by rw[ak,q]) (by rw[ak,r])
 have hb2: ∀e,ay e 90= .str a->ay e 92= .str b->ay e 94= .str a->gQ Tryz.prog 197 [(0,.tmp 90),(1,.tmp 92),(2,.tmp 94)] e=some (.agg [.str a,.str b,.str a]):=fun e p q r=>CG (by rw[ak,p]) (by rw[ak,q]) (by rw[ak,r])
 have hb3: ∀e,ay e 102= .str a->ay e 104= .str a->ay e 106= .str c->gQ Tryz.prog 197 [(0,.tmp 102),(1,.tmp 104),(2,.tmp 106)] e=some (.agg [.str a,.str a,.str c]):=fun e p q r=>CG (by rw[ak,p]) (by rw[ak,q]) (by rw[ak,r])
 have hsl: ∀e s,ay e 75= .str k->ey Tryz.prog 37 1 [(0,.tmp 75)] false e s=some (.list 1 [.str k] .full,s):=fun e s h=>Ie (by rw[ak,h]) s
 unfold RS
 refine aV (aV (cp ?_))
 unfold Fv
 simp only[aw,az,aA,ai,aM,lK,bn,aU,dI,ak,aH,aD,bm,bT,au,aq,cu,cT,cF,bQ,aR,aY,cut,bO,aZ,bE,bS,tA,aQ,cQ,ah,ar,bJ,jJ,iq,aX,Bq,dv,h18,hg,hl,zG,DT,hb1,Dc,aW]
 have tail: ∀(e1:bq),ay e1 9=ay e 9->ay e1 14=ay e 14->ay e1 15=ay e 15->ay e1 17=ay e 17->ay e1 18=ay e 18->ay e1 19=ay e 19->ay e1 61=ay e 61->ay e1 62=ay e 62->ay e1 63=ay e 63->ay e1 78= .bool (c==b||c==a)->
  W (QM sp ch) 76 (.cond (aa 78) (.region AB) (.seq (.region AC) (.cond (aa 99) (.region AD) (.region AA)))) ⟨e1,136,lc⟩ s P:=by
  intro e1 g9 g14 g15 g17 g18 g19 g61 g62 g63 g78
  rw[h14] at g14
  rw[h15] at g15
  rw[h17] at g17
  rw[h18] at g18
  rw[h19] at g19
  cases hz:c==b||c==a with
  |true=>
   have hp:kz a b c=some b:=by simp only[kz,hz,cT]
   rw[hz] at g78
   refine bc (t:=true) (by rw[ak,g78]) (cp ?_)
   unfold AB
   simp only[aw,az,aA,ai,aM,bn,dI,ak,aH,bm,bT,au,aq,cT,cF,bQ,aZ,bE,bS,tA,aQ,ah,ar,jJ,aX,dv,g18,hg,hl,DT]
   refine hk _ s cv ?_ ?_ ?_ ?_ ?_ ?_ ?_ ?_ (by simp only[nD,hp];exact t) rfl (bK _) hm fun _ _=>rfl
   all_goals simp only[ai,ah,cT,cF,g9,g14,g15,g17,g61,g62,g63,hp,oh]
  |false=>
   rw[hz] at g78
   refine bc (t:=false) (by rw[ak,g78]) (aF ?_)
   unfold AC
   simp only[aw,az,aA,ai,aM,lK,bn,aU,dI,ak,aH,aD,bm,bT,au,aq,cu,cT,cF,bQ,aR,aY,cut,bO,aZ,bE,bS,tA,aQ,cQ,ah,ar,bJ,jJ,iq,dX,aX,Bq,dv,g18,hg,hl,zG,JN,hb3,Dc]
   cases hy:b==a with
   |true=>
    have hp:kz a b c=some c:=by simp only[kz,hz,hy,cT,cF]
    refine bc (t:=true) (by simp only[ak,ai,ah,cT,cF,bS]) (cp ?_)
    unfold AD
    simp only[aw,az,aA,ai,aM,bn,dI,ak,aH,bm,bT,au,aq,cT,cF,bQ,aZ,bE,bS,tA,aQ,ah,ar,jJ,aX,dv,g18,hg,hl,JN]
    refine hk _ s cv ?_ ?_ ?_ ?_ ?_ ?_ ?_ ?_ (by simp only[nD,hp];exact t) rfl (bK _) hm fun _ _=>rfl
    all_goals simp only[ai,ah,cT,cF,g9,g14,g15,g17,g61,g62,g63,hp,oh]
   |false=>
    have hp:kz a b c=none:=by simp only[kz,hz,hy,cF]
    obtain⟨cv',s',r1,r2,r3,r4,r5,r6,r7⟩:=t.right hm hlo hlen k
    refine bc (t:=false) (by simp only[ak,ai,ah,cT,cF]) (cp ?_)
    unfold AA
    simp only[aw,az,aA,ai,aG,aM,lL,cG,ak,aD,bh,bk,au,bZ,ph,bG,aq,jD,cT,cF,bQ,hG,bS,tA,ah,ar,aX,wh,g15,g17,hcc,adf,adg,hsl,r1]
    refine hk _ s' cv' ?_ ?_ ?_ ?_ ?_ ?_ ?_ ?_ (by simp only[nD,hp];exact r2) r3 r4 r5 r7
    all_goals simp only[ai,ah,cT,cF,g9,g14,g17,g19,g61,g62,g63,hp,Option.getD_none]
 cases hz:c==b with
 |true=>
  refine bc (t:=true) (by simp only[ak,ai,ah,cT,cF,bS]) (b7 ?_)
  simp only[aW]
  refine tail _ ?_ ?_ ?_ ?_ ?_ ?_ ?_ ?_ ?_ ?_
  all_goals simp only[ai,ah,cT,cF,hz,bS,Bool.true_or]
 |false=>
  refine bc (t:=false) (by simp only[ak,ai,ah,cT,cF]) (cp ?_)
  unfold Fw
  simp only[aw,az,aA,ai,aM,lK,bn,aU,dI,ak,aH,aD,bm,bT,au,aq,cu,cT,cF,bQ,aR,aY,cut,bO,aZ,bE,bS,tA,aQ,cQ,ah,ar,bJ,jJ,iq,aX,Bq,dv,h18,hg,hl,zG,DT,hb2,Dc,aW]
  refine tail _ ?_ ?_ ?_ ?_ ?_ ?_ ?_ ?_ ?_ ?_
  all_goals simp only[ai,ah,cT,cF,hz,bS,Bool.false_or]
end
theorem lw.isR {lo:Nat} {s:St} {ov cv:aj} {xs:List cM} {ys:List aB} (t:lw lo s ov cv xs ys):bH 1 bB cv ys:=by
 rcases t.r with⟨h1,h2⟩|⟨_,k,h1,_⟩
 ·exact .inl ⟨h1,List.map_eq_nil_iff.1 h2⟩
 ·exact .inr ⟨_,h1⟩
theorem lw.isL {lo:Nat} {s:St} {ov cv:aj} {xs:List cM} {ys:List aB} (t:lw lo s ov cv xs ys):bH 2 ep ov xs:=by
 rcases t.l with⟨h1,h2⟩|⟨_,k,h1,_⟩
 ·exact .inl ⟨h1,List.map_eq_nil_iff.1 h2⟩
 ·exact .inr ⟨_,h1⟩
section
variable {sp:FuncId->Option (List aj->Option aj)} {ch:Nat->Nat}
theorem apv (h186:sp 186=none) (h121:sp 121=none) {e:bq} {lc:Ag.Loc} {s:St} {lo:Nat} {ov cv:aj} {xs:List cM} {ys:List aB} {k v:aB} {P:Ex->Fr->St->Prop} (t:lw lo s ov cv xs ys) (hm:s.minw<=s.next) (hlo:lo<=s.next) (hlen:ys.length<=1000) (hlx:xs.length<=60)
 (h14:ay e 14=ov) (h15:ay e 15=cv) (h17:ay e 17= .str k) (h19:ay e 19= .str v)
 (hk: ∀(e':bq) (s':St) (ov' cv':aj),ay e' 9=ay e 9->ay e' 14=ov'->ay e' 15=cv'->ay e' 61=ay e 61->ay e' 62=ay e 62->ay e' 63=ay e 63->lw lo s' ov' cv' (kY k v xs ys).1 (kY k v xs ys).2->s'.ci=s.ci->s.next<=s'.next->s'.minw<=s'.next->(∀n,n<lo->s'.get [] n=s.get [] n)->P .normal ⟨e',136,lc⟩ s'):
 W (QM sp ch) 76 RT ⟨e,136,lc⟩ s P:=by
 have hcc:=t.r.clean
 have hco:=t.l.clean
 have hln:=fun mk s=>t.isL.len qW qV mk s
 have hcon:=Zg (ch:=ch) h186 h121 t.isR (by omega) k s
 have hbd: ∀e,ay e 119= .str k->ay e 120= .str v->gQ Tryz.prog 51 [(0,.tmp 119),(1,.tmp 120)] e=some (.agg [.str k,.str v]):=fun e p q=>Yb (by rw[ak,p]) (by rw[ak,q])
 have hsl: ∀e s,ay e 130= .str k->ey Tryz.prog 37 1 [(0,.tmp 130)] false e s=some (.list 1 [.str k] .full,s):=fun e s h=>Ie (by rw[ak,h]) s
 have hsl2: ∀e s,ay e 121= .agg [.str k,.str v]->ey Tryz.prog 38 1 [(0,.tmp 121)] false e s=some (.list 2 [.agg [.str k,.str v]] .full,s):=fun e s h=>Ym (by rw[ak,h]) s
 unfold RT
 refine aF ?_
 unfold Fx
 simp only[aw,az,aA,ai,aG,aM,aU,ak,aH,aD,iM,au,jr,aq,cw,cT,cF,bQ,bS,tA,ah,ar,h19]
 cases hv:v== [] with
 |true=>
  have hp:kY k v xs ys=(xs,ys):=by simp only[kY,hv,cT]
  refine bc (t:=true) (by simp only[ak,ai,ah,cT,cF]) (b7 ?_)
  refine hk _ s ov cv ?_ ?_ ?_ ?_ ?_ ?_ (by rw[hp];exact t) rfl (bK _) hm fun _ _=>rfl
  all_goals simp only[ai,ah,cF,h14,h15]
 |false=>
  refine bc (t:=false) (by simp only[ak,ai,ah,cT,cF]) (aF ?_)
  unfold Fy
  have hlt:di ((xs.length:Nat):Int) 60=decide (xs.length<60):=cN xs.length 60
  simp only[aw,az,aA,ai,aG,aM,aU,cG,ak,aH,aD,bh,bk,bm,au,bZ,cE,cW,bG,aq,a7,cT,cF,bQ,hG,bS,tA,ah,ar,aX,h14,hco,ac5,hln,hlt]
  by_cases h60:xs.length<60
  ·have hp:kY k v xs ys=(xs++[(k,v)],ys):=by simp only[kY,hv,decide_eq_true h60,cT,cF]
   obtain⟨ov',s',r1,r2,r3,r4,r5,r6,r7⟩:=t.left hm hlo (by omega) (k,v)
   refine bc (t:=true) (by simp only[ak,ai,ah,cT,cF,decide_eq_true h60]) (cp ?_)
   unfold Fz
   simp only[aw,az,aA,ai,aG,aM,lK,lL,cG,ak,aD,bh,bk,au,bZ,ph,bG,aq,jD,cT,cF,bQ,hG,bS,tA,ah,ar,aX,ad6,h14,h17,h19,hco,hbd,ac6,ac7,hsl2,r1]
   refine hk _ s' ov' cv ?_ ?_ ?_ ?_ ?_ ?_ (by rw[hp];exact r2) r3 r4 r5 r7
   all_goals simp only[ai,ah,cT,cF,h15]
  ·refine bc (t:=false) (by simp only[ak,ai,ah,cT,cF,decide_eq_false h60]) (aV (gH (gd 2 ?_)))
   unfold FA
   simp only[aw,az,aA,ai,aG,ak,au,cF,bO,aZ,tA,ah,ar,h15,h17]
   refine gq (g:=121) (args:=[cv,.str k]) ?_ hcon (by decide) ?_
   ·simp only[callee,ai,ak,fA,aD,bh,bk,aq,cw,cT,cF,cy,cP,bS,ah,hcc]
   refine gp ?_
   simp only[aw,az,aA,ai,aM,fp,ak,aD,au,fq,aq,eJ,cT,cF,bS,tA,ah,ar,aW]
   cases he:ys.elem k with
   |true=>
    have hp:kY k v xs ys=(xs,ys):=by simp only[kY,hv,decide_eq_false h60,he,cT,cF]
    refine bc (t:=false) (by simp only[ak,ai,ah,cT,cF,dg]) (b7 ?_)
    refine hk _ s ov cv ?_ ?_ ?_ ?_ ?_ ?_ (by rw[hp];exact t) rfl (bK _) hm fun _ _=>rfl
    all_goals simp only[ai,ah,cF,h14,h15]
   |false=>
    have hp:kY k v xs ys=(xs,ys++[k]):=by simp only[kY,hv,decide_eq_false h60,he,cF]
    obtain⟨cv',s',r1,r2,r3,r4,r5,r6,r7⟩:=t.right hm hlo hlen k
    refine bc (t:=true) (by simp only[ak,ai,ah,cT,cF,ej]) (cp ?_)
    unfold FB
    simp only[aw,az,aA,ai,aG,aM,lL,cG,ak,aD,bh,bk,au,bZ,ph,bG,aq,jD,cT,cF,bQ,hG,ej,bS,tA,ah,ar,aX,wh,h15,h17,hcc,ac9,ada,hsl,r1]
    refine hk _ s' ov cv' ?_ ?_ ?_ ?_ ?_ ?_ (by rw[hp];exact r2) r3 r4 r5 r7
    all_goals simp only[ai,ah,cT,cF,h14]
end
def l9 (V:aB->List aB) (k:aB) (st:List cM×List aB):List cM×List aB:=match V k with
 | [a,b,c]=>kY k ((kz a b c).getD a) st.1 (nD k a b c st.2)
 |_=>st
def jQ (V:aB->List aB) (ks:List aB) (st:List cM×List aB):List cM×List aB:=ks.foldl (fun st k=>l9 V k st) st
theorem Wu {k v:aB} {xs:List cM} {ys:List aB} (hx:xs.length<=60):(kY k v xs ys).1.length<=60/\(kY k v xs ys).2.length<=ys.length+1:=by
 unfold kY
 cases v== [] with
 |true=>exact⟨hx,kF _⟩
 |false=>
  by_cases h:xs.length<60
  ·simp only[cF,decide_eq_true h,cT,dw,aR,aY];omega
  ·simp only[cF,decide_eq_false h]
   cases ys.elem k with
   |true=>exact⟨hx,kF _⟩
   |false=>simp only[cF,dw,aR,aY];omega
theorem apx {V:aB->List aB} {k:aB} {st:List cM×List aB} (hx:st.1.length<=60):(l9 V k st).1.length<=60/\(l9 V k st).2.length<=st.2.length+2:=by
 unfold l9
 split
 ·rename_i a b c _
  have h:=Wu (k:=k) (v:=(kz a b c).getD a) (ys:=nD k a b c st.2) hx
  have h2:(nD k a b c st.2).length<=st.2.length+1:=by
   unfold nD
   cases kz a b c with
   |none=>simp
   |some _=>exact kF _
  exact⟨h.1,by omega⟩
 ·exact⟨hx,by omega⟩
theorem TM.keep {s s':St} {m lo:Nat} {K:List aB} {V:aB->List aB} (t:TM s m lo K V) (hm:m<s.next) (hg: ∀n,n<s.next->s'.get [] n=s.get [] n) (hn:s.next<=s'.next):TM s' m lo K V:=by
 obtain⟨L,h1,h2,h3,h4⟩:=t.ex
 refine⟨t.len,t.fits,t.noV,L,h1,(hg m hm).trans h2,fun k v hv=>?_,h4⟩
 obtain⟨r,a,b,c,d⟩:=h3 k v hv
 exact⟨r,a,b,by omega,(hg r c).trans d⟩
theorem apM {l:List aB} (h:l.length=3): ∃a b c,l=[a,b,c]:=by
 match l,h with
 | [a,b,c],_=>exact⟨a,b,c,rfl⟩
section
variable {sp:FuncId->Option (List aj->Option aj)} {ch:Nat->Nat}
theorem akW (h186:sp 186=none) (h121:sp 121=none) {s0:St} {m lo0 rk:Nat} {K ks:List aB} {V:aB->List aB} (t0:TM s0 m lo0 K V) (hm0:m<s0.next) (hrk:rk<s0.next) (hrow:s0.get [] rk=some (.cells (ks.map bB))) (hks: ∀k∈ks,k∈K) (hlen:ks.length<=300):
 ∀(rest pre:List aB) (e:bq) (lc:Ag.Loc) (s:St) (ov cv:aj) (xs:List cM) (ys:List aB),ks=pre++rest->lw s0.next s ov cv xs ys->xs.length<=60->ys.length<=2*pre.length->s.minw<=s.next->s0.next<=s.next->(∀n,n<s0.next->s.get [] n=s0.get [] n)->
 ay e 9= .map m->ay e 14=ov->ay e 15=cv->ay e 61= .arr 1 rk 0 ks.length ks.length->ay e 62= .int .i64 (ks.length:Nat)->ay e 63= .int .i64 (pre.length:Nat)->
 W (QM sp ch) 76 (.loop x8) ⟨e,136,lc⟩ s fun x fr s'=>x= .exit 4/\ ∃e' lc' ov' cv',fr=⟨e',136,lc'⟩/\ay e' 14=ov'/\ay e' 15=cv'/\lw s0.next s' ov' cv' (jQ V rest (xs,ys)).1 (jQ V rest (xs,ys)).2/\s'.ci=s.ci:=by
 intro rest
 induction rest with
 |nil=>
  intro pre e lc s ov cv xs ys hpre two hx hy hm hn hold h9 h14 h15 h61 h62 h63
  have hl:ks.length=pre.length:=by rw[hpre];simp
  refine cY ?_
  unfold x8
  refine aF ?_
  unfold Az
  simp only[aw,az,aA,aU,ak,aD,au,cE,aq,a7,cT,bQ,cN,tA,ar,decide_false,h62,h63,hl,ff]
  refine aV (bc (t:=false) (by simp only[ak,ai,ah,cT]) ?_)
  refine eL ⟨rfl,_,_,ov,cv,rfl,?_,?_,two,rfl⟩
  ·simp only[ai,ah,cF,h14]
  ·simp only[ai,ah,cF,h15]
 |cons k rest ih=>
  intro pre e lc s ov cv xs ys hpre two hx hy hm hn hold h9 h14 h15 h61 h62 h63
  have hlt:pre.length<ks.length:=by rw[hpre];simp
  have hwr:IntKind.i64.wrap ((pre.length:Int)+1)=((pre.length+1:Nat):Int):=by rw[eh (by omega) (by omega)];omega
  have hrd:((ks.map bB).drop pre.length).head?=some (.str k):=by rw[hpre,mm,List.drop_left' (by simp)];rfl
  have hgr:s.get [] rk=some (.cells (ks.map bB)):=(hold rk hrk).trans hrow
  have t:=t0.keep hm0 hold hn
  obtain⟨r,r1,r2,r3,r4,_⟩:=t.row (hks k (by rw[hpre];simp))
  obtain⟨a,b,c,habc⟩:=apM (t0.len k)
  rw[habc] at r3
  simp only[fS,List.map_nil,bB] at r3
  have hst:jQ V (k::rest) (xs,ys)=jQ V rest (kY k ((kz a b c).getD a) xs (nD k a b c ys)):=by
   simp only[jQ,vj,l9,habc]
  have hconf:(nD k a b c ys).length<=ys.length+1:=by
   unfold nD
   cases kz a b c with
   |none=>simp
   |some _=>exact kF _
  have hle:=Wu (k:=k) (v:=(kz a b c).getD a) (ys:=nD k a b c ys) hx
  refine cY ?_
  unfold x8
  refine aF ?_
  unfold Az
  simp only[aw,az,aA,aU,ak,aD,au,cE,aq,a7,cT,bQ,cN,tA,ar,dT,h62,h63,hlt]
  refine aV (bc (t:=true) (by simp only[ak,ai,ah,cT]) (b7 ?_))
  simp only[aW]
  refine aV (cR (aF ?_))
  unfold R5
  simp only[aw,az,aA,ai,aM,bn,dI,ak,sn,au,aq,cT,cF,bS,tA,aQ,ah,ar,iq,aX,dA,dT,bQ,JQ,h61,h63,hlt,Nat.mul_one,dH,hgr,dG,dv,hrd]
  refine aF ?_
  unfold R6
  simp only[aw,az,eD,aA,eE,ai,bU,iW,aG,gY,bn,eN,l5,gh,ak,aD,fv,au,bG,dj,ik,aq,cw,cu,gr,cT,cF,bQ,hG,aR,aY,cut,dl,bO,aZ,e7,cy,cP,bS,tA,aQ,ah,ar,bJ,ck,dX,aX,dA,cd,dT,h9,r4,gg,dH,r3,dG,Bq,adb,Hu,api]
  refine aF ?_
  unfold R7
  simp only[aw,az,aA,ai,cJ,bU,aM,bn,dI,ak,aH,bm,bT,au,aq,cT,cF,bQ,aZ,bE,bS,tA,cQ,ah,ar,jJ,aX,dv,zG]
  refine aV (cR ?_)
  refine apu (g:=lc.gen 18+1) (k:=k) (a:=a) (b:=b) (c:=c) two hm hn (by omega) ?_ ?_ ?_ ?_ ?_ ?_ ?_ ?_
  ·simp only[ai,ah,cF,h14]
  ·simp only[ai,ah,cF,h15]
  ·simp only[ai,ah,cT,cF]
  ·simp only[ai,ah,cT,cF]
  ·simp only[ai,ah,cT,cF]
  ·simp only[cJ,ah,cT]
  ·simp only[bU,cT,bS]
  intro e1 s1 cv1 g9 g14 g15 g17 g19 g61 g62 g63 two1 c1 n1 m1 o1
  simp only[ai,ah,cF] at g9 g61 g62 g63
  simp only[dM,aW]
  refine cR ?_
  refine apv (k:=k) (v:=(kz a b c).getD a) h186 h121 two1 m1 (by omega) (by omega) hx g14 g15 g17 g19 ?_
  intro e2 s2 ov2 cv2 f9 f14 f15 f61 f62 f63 two2 c2 n2 m2 o2
  simp only[dM,aW]
  refine cp ?_
  unfold R9
  simp only[aw,az,aA,ai,aG,aU,ak,aH,aD,bm,au,dW,aq,a7,cT,bQ,bS,tA,ar,f63,g63,h63,hwr,aW]
  refine jy (ih (pre++[k]) _ _ s2 ov2 cv2 _ _ (by rw[hpre];simp) two2 hle.1 (by rw[dw,pT];omega) m2 (by omega) (fun n hn'=>(o2 n hn').trans ((o1 n hn').trans (hold n hn'))) ?_ ?_ ?_ ?_ ?_ ?_) ?_
  ·simp only[ai,ah,cF,f9,g9,h9]
  ·simp only[ai,ah,cF,f14]
  ·simp only[ai,ah,cF,f15]
  ·simp only[ai,ah,cF,f61,g61,h61]
  ·simp only[ai,ah,cF,f62,g62,h62]
  ·simp only[ai,ah,cT,cF,dw,aR,aY]
  rintro x fr s' ⟨rfl,e',lc',ov',cv',rfl,q1,q2,q3,q4⟩
  refine⟨rfl,e',lc',ov',cv',rfl,q1,q2,?_,by rw[q4,c2,c1]⟩
  rw[hst]
  exact q3
end
noncomputable def vz (T:fh) (ch:Nat->Nat):cI:=QM (fun f=>eR f T) ch
theorem abb {T:fh} (hT:fI T):Ag.Good (vz T fun _=>0) where
 mixed:=Gg
 spec f sp hsp args v hv G hp w xs wr hx:=hT _ (BR hsp) args v hv G hp w xs wr hx
 specH f sp h args v G hp w xs wr hx hv:=by cases h
 specW f sp h:=by
  have h:(bif bo f 48 then some wY else bif bo f 51 then some wX else none)=some sp:=h
  cases hb:bo f 48 with
  |true=>
   have:=iI hb
   subst this
   rw[hb] at h
   injection h with h;subst h
   exact ao2
  |false=>
   rw[hb] at h
   cases hb2:bo f 51 with
   |true=>
    have:=iI hb2
    subst this
    rw[hb2] at h
    injection h with h;subst h
    exact ao1
   |false=>rw[hb2] at h;cases h
 names f fn hf:=by
  have hf:Tryz.prog.funcs[f]? =some fn:=hf
  have:=List.all_eq_true.1 Gl fn (by
   rw[<-Array.getElem?_toList] at hf
   exact kE hf)
  simpa using this
theorem We {T:fh} (hT:fI T) {f:FuncId} {args:List aj} {u:aj} (hp:jv args=true) (hr: ∀ch, ∃v s',bv (vz T ch) f (eX args) s0 v s'/\j5 s'.heap v u) (G:Gh) (h:bD bR) (w:World) (xs:List Value) (wr:WR G h w) (hx:cU G args xs):
 lp Tryz.prog f ⟨xs⟩ w fun y w'=> ∃G',WR G' h w'/\dF G h w G' h w' 0 0/\VR G' u y:=by
 obtain⟨N,hN⟩:=fan (B:=1000000) (by omega) (fun ch n=> ∃v s',(db (vz T ch) n).call f (eX args) [] s0=some (v,s')/\j5 s'.heap v u)
  (fun ch n m hnm ⟨v,s',h1,h2⟩=>⟨v,s',(nk (vz T ch) hnm).call _ _ _ _ _ h1,h2⟩)
  (fun ch n ⟨v,s',h1,h2⟩=>⟨s'.ci,fun ch' hc=>⟨v,s',(qn (vz T fun _=>0) n).call f _ [] ch s0 v s' h1 ch' hc,h2⟩⟩)
  (fun ch _=>let⟨v,s',⟨n,h1⟩,h2⟩:=hr ch;⟨n,v,s',h1,h2⟩)
 exact G3 (Q:=vz T fun _=>0) (n:=N) (abb hT) (fun _=>(by decide:0<1000000)) hp (fun ch hi=>hN ch hi) G h w xs wr hx
def jp (b o t:List cM):List cM×List aB:=jQ (u7 b o t) (fC (kb b o t)) ([],[])
def wN (r:List cM×List aB):aj:=.tup [gK 2 (r.1.map ep),gK 1 (r.2.map bB)]
theorem ul: ∀(l:List cM) (K:List aB),(jT l K).length<=K.length+l.length
 | [],K=>bK _
 |t::l,K=>by
  have h:=ul l (jh t.1 K)
  have h2:(jh t.1 K).length<=K.length+1:=by
   unfold jh
   cases K.elem t.1 with
   |true=>exact kF _
   |false=>simp
  simp only[jT,vj,aR] at h ⊢
  omega
theorem xH: ∀(L:List (aB×aj)) (n:Nat),(c8 n L).map (·.key)=(L.map (·.1)).map bB
 | [],_=>rfl
 |(a,v)::L,n=>by
  simp only[c8,fS,xH L (n+1)];rfl
theorem rY: ∀(L:List (aB×aj)) (n:Nat),(c8 n L).length=L.length
 | [],_=>rfl
 |(a,v)::L,n=>by simp only[c8,aR,rY L (n+1)]
theorem C9: ∀(U:List (aB×aj)) (n:Nat),(c8 n U).map (·.born)=List.range' n U.length
 | [],_=>rfl
 |(k,v)::U,n=>by simp only[c8,fS,C9 U (n+1),aR,List.range'_succ]
theorem IX (L:List (aB×aj)):y6 (c8 0 L):=by
 refine⟨fun e he=>?_,by rw[C9];exact List.nodup_range'⟩
 have h1:e.born∈(c8 0 L).map (·.born):=List.mem_map.2 ⟨e,he,rfl⟩
 rw[C9,List.mem_range'_1] at h1
 rw[rY];omega
theorem Ue (mk:bt) (n m o l c:Nat) (s:St):ie Tryz.prog mk 37 (.arr n m o l c) s=some (.int .i64 (l:Nat)):=by kernel_rfl
section
variable {sp:FuncId->Option (List aj->Option aj)} {ch:Nat->Nat}
theorem akN (h120:sp 120=none) {m:Nat} {s:St}:bv (QM sp ch) 120 [.map m] s (.func (.func 185) [] [.ptr s.next 0]) (s.new (.cells [.map m])):=by
 refine bv.of2 aeP aeO aeR aeQ h120 ?_
 unfold KM
 refine aF ?_
 unfold KN
 simp only[dr,cZ,aw,az,aA,ai,aM,iA,ak,aH,aD,i9,au,bG,aq,gr,cT,hG,aR,aY,bS,tA,aQ,ar,ck,cd,dT,abz,i9,ofValue,gD]
 refine aF ?_
 unfold KO
 simp only[aw,az,aA,ai,aM,wJ,ak,aD,bh,bk,au,aq,ez,cT,cF,bS,tA,ah,ar,pz]
 exact bP ⟨rfl,.inr rfl,bV (by simp only[ai,ah,cT,cF]) rfl⟩
theorem aa8 (h185:sp 185=none) {m cb:Nat} {s0:St} {L:List (aB×aj)} (hmw:s0.minw<=s0.next) (hm:m<s0.next) (hcb:cb<s0.next) (hc:s0.get [] cb=some (.cells [.map m])) (hmm:s0.get [] m=some (.map (c8 0 L) L.length)) (hL:L.length<=1000000):rJ (QM sp ch) 1 185 s0 cb (c8 0 L):=by
 intro s bx lo lim lob c ht
 refine akP (Q:=QM sp ch) rfl rfl (ch:=ch) rfl rfl (IX L) (fun i=>by rw[rY];exact hL) h185 rfl rfl hmw hm hcb hc (by rw[rY];exact hmm) c ht fun e he=>?_
 have h1:e.key∈(c8 0 L).map (·.key):=List.mem_map.2 ⟨e,he,rfl⟩
 rw[xH] at h1
 obtain⟨b,_,e2⟩:=List.mem_map.1 h1
 exact⟨b,e2.symm⟩
theorem apD (hs: ∀n,n=25\/n=47\/n=78\/n=48->sp n=none) (h76:sp 76=none) (h59:sp 59=some qE) (h120:sp 120=none) (h185:sp 185=none) (h186:sp 186=none) (h121:sp 121=none) {vb vo vt:aj} {b o t:List cM} (hb:kn vb b) (ho:kn vo o) (ht:kn vt t) {s:St} (hm:s.minw<=s.next):
 ∃v s',bv (QM sp ch) 76 [vb,vo,vt] s v s'/\j5 s'.heap v (wN (jp b o t)):=by
 have cb:=hb.is.clean
 have co:=ho.is.clean
 have ct:=ht.is.clean
 have cell: ∀ {v:aj} {l:List cM},bH 2 ep v l->v.cells=[v]:=fun h=>by rcases h with⟨rfl,_⟩|⟨r,rfl⟩<;>rfl
 have lb:=cell hb.is
 have lo:=cell ho.is
 have lt:=cell ht.is
 have hbd: ∀e,ay e 20=vb->ay e 21=vo->ay e 22=vt->gQ Tryz.prog 194 [(0,.tmp 20),(1,.tmp 21),(2,.tmp 22)] e=some (.agg [vb,vo,vt]):=fun e p q r=>by
  rw[X5]
  simp only[W3,aq,ee,evc,ev,p,q,r,cb,co,ct,lb,lo,lt,cT]
  rfl
 refine bv.ofEx ajM ajL ajP ajO h76 ?_
 unfold RR
 refine aF ?_
 unfold RU
 simp only[dr,cZ,aw,az,aA,aM,aH,au,cT,aR,aY,tA,aQ,ar,bJ,ck,cd,dT,ofValue,gD]
 refine aF ?_
 unfold RV
 simp only[aw,az,eD,aA,eE,ai,dp,bU,iW,aG,gY,lK,eN,ak,aD,fv,au,bG,dj,ik,aq,cu,cT,cF,bQ,hG,aR,aY,dl,bO,aZ,cy,cP,bS,tA,aQ,ah,ar,bJ,ck,dX,aX,dA,cd,dT,hbd,adh,W3,aph]
 refine aF ?_
 unfold R4
 simp only[aw,az,aA,ai,aM,uM,ak,au,bZ,cT,cF,bQ,bS,tA,ah,ar,aml]
 refine aV (aV (cp ?_))
 unfold R8
 simp only[aw,az,aA,ai,bU,aG,bn,ak,aH,bm,bT,au,aq,cT,cF,bQ,aR,aY,cut,bO,aZ,bS,tA,aQ,ah,ar,bJ,aX,an1,aW]
 refine cR ?_
 refine jy (aoV (m:=s.next) h59 hb ho ht (by rw[dy,bS];rfl) (iC _) (lj hm) ?_ ?_ ?_) ?_
 ·simp only[ai,ah,cT,cF]
 ·simp only[ai,ah,cT,cF]
 ·simp only[ai,ah,cT,cF];rfl
 rintro x fr s1 ⟨rfl,e1,lc1,rfl,g9,t1,o1,n1,m1,c1⟩
 have n1:s.next+1<=s1.next:=n1
 show W (QM sp ch) 76 _ _ _ _
 refine aF ?_
 unfold R1
 simp only[aw,az,aA,aM,aH,au,tA,ar,ofValue,gD]
 refine aF ?_
 unfold R2
 simp only[aw,az,aA,aM,aH,au,tA,ar,ofValue,gD]
 obtain⟨L,hL1,hL2,_,_⟩:=t1.ex
 have hLl:L.length<=180:=by
  have h1:(L.map (·.1)).length=(kb b o t).length:=congrArg List.length hL1
  rw[fw] at h1
  have h2:=ul b []
  have h3:=ul o (jT b [])
  have h4:=ul t (jT o (jT b []))
  have hb:=hb.len
  have ho:=ho.len
  have ht:=ht.len
  simp only[aY] at h2
  unfold kb at h1
  omega
 have hg2: ∀n,n<s1.next->(s1.new (.cells [.map s.next])).get [] n=s1.get [] n:=fun n h=>by rw[dy,beq_eq_false_iff_ne.2 (by omega)];rfl
 obtain⟨v,s2,hr,hgot⟩:=Wc (Q:=QM sp ch) rfl rfl hs (fun _=>rfl) (fun n hn=>by rcases hn with rfl|rfl|rfl<;>rfl) rfl (g:=185) (cb:=s1.next) (s0:=s1.new (.cells [.map s.next])) (es:=c8 0 L) (ks:=kb b o t) (lj m1) (by rw[rY];omega) (by rw[xH,hL1]) (by kernel_rfl)
  (aa8 h185 (m:=s.next) (lj m1) (og (by omega)) (iC _) (by rw[dy,bS];rfl) ((hg2 _ (by omega)).trans hL2) (by omega))
 have hvc:=hgot.clean
 refine aV (aV (gH (gd 1 ?_)))
 unfold R3
 simp only[aw,az,aA,ai,aG,ak,au,cF,bO,aZ,tA,ah,ar,g9]
 refine gq (g:=120) (args:=[.map s.next]) ?_ (akN h120) (by decide) ?_
 ·simp only[callee,ai,ak,fA,aD,bh,bk,aq,gr,cT,cF,cy,cP,bS,ah]
 refine gq (g:=25) (args:=[.func (.func 185) [] [.ptr s1.next 0]]) ?_ hr (by decide) ?_
 ·simp only[callee,ai,ak,fA,aD,bh,bk,aq,oG,cT,cF,cy,cP,bS,ah]
 refine gp ?_
 have hnx:s1.next+1<=s2.next:=hgot.next
 have m2:s2.minw<=s2.next:=by
  have h1:=hgot.minw
  have h2:(s1.new (.cells [.map s.next])).minw=s1.minw:=rfl
  omega
 have hold: ∀n,n<s1.next->s2.get [] n=s1.get [] n:=fun n h=>(hgot.old n (og h)).trans (hg2 n h)
 have t2:=t1.keep (by omega) hold (by omega)
 obtain⟨ks,hks⟩: ∃ks,ks=fC (kb b o t):=⟨_,rfl⟩
 have hperm:=kU (kb b o t)
 rw[<-hks] at hperm hgot
 have hkl:ks.length<=300:=by
  have h1:=hperm.length_eq
  have h2:(L.map (·.1)).length=(kb b o t).length:=congrArg List.length hL1
  rw[fw] at h2
  omega
 have htags:jp b o t=jQ (u7 b o t) ks ([],[]):=by rw[hks];rfl
 have hend: ∀(e3:bq) (lc3:Ag.Loc) (ov cv:aj) (s3:St),ay e3 14=ov->ay e3 15=cv->lw s2.next s3 ov cv (jp b o t).1 (jp b o t).2->
  W (QM sp ch) 76 (.seq (.region FC) .ret) ⟨e3,136,lc3⟩ s3 fun x fr s'=>(x= .normal\/x= .ret)/\ ∃v,(∃vs,gL (QM sp ch) [] fr s' [.tmp 6,.tmp 7]=some vs/\jO vs=v)/\j5 s'.heap v (wN (jp b o t)):=by
  intro e3 lc3 ov cv s3 h14 h15 two
  have c1:=two.l.clean
  have c2:=two.r.clean
  refine aF ?_
  unfold FC
  simp only[aw,az,aA,ai,aG,aM,ak,au,cT,cF,bS,tA,ah,ar,h14,h15]
  refine bP ⟨.inr rfl,.tup [ov,cv],tL (v:=ov) (w:=cv) ?_ c1 ?_ c2,4,?_⟩
  ·simp only[ai,ah,cT,cF]
  ·simp only[ai,ah,cT,cF]
  have f1:dt s3.heap 3 ov=some (gK 2 ((jp b o t).1.map ep)):=xQ two.l (k:=2) fun v hv=>by
   obtain⟨p,_,rfl⟩:=List.mem_map.1 hv
   rfl
  have f2:dt s3.heap 3 cv=some (gK 1 ((jp b o t).2.map bB)):=xQ two.r (k:=2) fun v hv=>by
   obtain⟨p,_,rfl⟩:=List.mem_map.1 hv
   rfl
  show(eU (dt s3.heap 3) [ov,cv]).bind (fun r=>some (aj.tup r))=_
  simp only[eU,f1,f2,aq,wN]
 rcases hgot.row with⟨rfl,hx⟩|⟨hne,rk,rfl,hk,h4,h5⟩
 ·have hk0:ks=[]:=List.map_eq_nil_iff.1 hx
  simp only[aw,az,aA,ai,aG,cG,ak,aH,aD,bh,bk,bm,au,bZ,cW,bG,aq,vH,cT,cF,bQ,hG,bS,tA,ah,ar,aX,JL,iV,aW]
  refine cR (cY ?_)
  unfold x8
  refine aF ?_
  unfold Az
  have h00:di 0 ((0:Nat):Int)=false:=rfl
  simp only[aw,az,aA,ai,aU,ak,aD,au,cE,aq,a7,cT,cF,bQ,bS,tA,ah,ar,h00]
  refine aV (bc (t:=false) (by simp only[ak,ai,ah,cT,cF]) ?_)
  refine eL ?_
  refine hend _ _ .nils .nils s2 ?_ ?_ ?_
  ·simp only[ai,ah,cT,cF]
  ·simp only[ai,ah,cT,cF]
  ·rw[htags,hk0]
   exact⟨.inl ⟨rfl,rfl⟩,.inl ⟨rfl,rfl⟩,fun k h=>(by cases h)⟩
 ·rw[wc] at hk
  simp only[fw]
  have hca: ∀n m o l c:Nat,(aj.arr n m o l c).clean=true:=fun _ _ _ _ _=>rfl
  simp only[aw,az,aA,ai,aG,cG,ak,aH,aD,bh,bk,bm,au,bZ,cW,bG,aq,cT,cF,bQ,hG,bS,tA,ah,ar,aX,JL,Ue,hca,aW]
  refine cR ?_
  have two0:lw s2.next s2 .nils .nils [] []:=⟨.inl ⟨rfl,rfl⟩,.inl ⟨rfl,rfl⟩,fun k h=>(by cases h)⟩
  have hm2:s.next<s2.next:=by omega
  refine jy (akW h186 h121 t2 hm2 h5 hk (fun k h=>hperm.mem_iff.1 h) hkl ks [] _ _ s2 .nils .nils [] [] rfl two0 (iK _) (iK _) m2 (bK _) (fun _ _=>rfl) ?_ ?_ ?_ ?_ ?_ ?_) ?_
  ·simp only[ai,ah,cF,g9]
  ·simp only[ai,ah,cT,cF]
  ·simp only[ai,ah,cT,cF]
  ·simp only[ai,ah,cT,cF]
  ·simp only[ai,ah,cT,cF]
  ·simp only[ai,ah,cT,cF];rfl
  rintro x fr s3 ⟨rfl,e3,lc3,ov,cv,rfl,q14,q15,two,_⟩
  rw[<-htags] at two
  exact hend e3 lc3 ov cv s3 q14 q15 two
end
def u6:Sp
 | [u,v,w]=>bif pures [u,v,w] then(ic 2 oC u).bind fun b=>(ic 2 oC v).bind fun o=>(ic 2 oC w).bind fun t=>
     bif(gM b&&qB b)&&((gM o&&qB o)&&(gM t&&qB t)) then some (wN (jp b o t)) else none else none
 |_=>none
theorem apB {vb vo vt:aj} {b o t:List cM} (hb:kn vb b) (ho:kn vo o) (ht:kn vt t) (pb:cx vb=true) (po:cx vo=true) (pt:cx vt=true):u6 [vb,vo,vt]=some (wN (jp b o t)):=by
 simp only[u6,pures,pb,po,pt,fL,cT,ka rR hb.is,ka rR ho.is,ka rR ht.is,aq,hb.valid,ho.valid,ht.valid,uY hb.keys,uY ho.keys,uY ht.keys]
def HM:fh:=[(59,qE)]
theorem Xs:fI HM:=.cons Ww .nil
theorem apC:ek Tryz.prog 76 u6:=by
 intro args x hv G h w xs wr hx
 unfold u6 at hv
 split at hv
 ·rename_i u v t
  obtain⟨hp,hv⟩:=cq hv
  simp only[Option.bind_eq_some_iff] at hv
  obtain⟨a,h1,b,h2,c,h3,hv⟩:=hv
  obtain⟨hs,hv⟩:=cq hv
  injection hv with hv;subst hv
  simp only[df] at hs
  obtain⟨⟨v1,s1⟩,⟨v2,s2⟩,v3,s3⟩:=hs
  have ha:kn u a:=⟨jA (fun v a=>rQ) h1,v1,uX s1⟩
  have hb:kn v b:=⟨jA (fun v a=>rQ) h2,v2,uX s2⟩
  have hc:kn t c:=⟨jA (fun v a=>rQ) h3,v3,uX s3⟩
  exact We Xs (args:=[u,v,t]) (kZ hp) (fun ch=>by
   rw[iP hp]
   exact apD (sp:=fun f=>eR f HM) (ch:=ch) (fun n hn=>by rcases hn with rfl|rfl|rfl|rfl<;>rfl) rfl rfl rfl rfl rfl rfl ha hb hc (s:=s0) (bK _)) G h w xs wr hx
 ·cases hv
theorem Iq {b o t p:List aB} (h:sY b o t=some p):p=t\/p=o:=by
 unfold sY at h
 cases h1:o==b with
 |true=>rw[h1] at h;injection h with h;exact .inl h.symm
 |false=>
  rw[h1] at h
  cases h2:t==b||t==o with
  |true=>rw[h2] at h;injection h with h;exact .inr h.symm
  |false=>rw[h2] at h;cases h
theorem al3 {b:List aB} {p:Nat} {x:aB} (h:x∈lW b p):x∈b:=by
 unfold lW at h
 cases hb:b[p]? with
 |none=>rw[hb] at h;cases h
 |some y=>
  rw[hb] at h
  simp only[qI] at h
  subst h
  exact kE hb
theorem VZ {b o t:List aB}: ∀ {l:List (Nat×Nat×Nat)} {i j k:Nat} {out r:List aB},l8 b o t l i j k out=some r-> ∀x∈r,x∈out\/x∈b\/x∈o\/x∈t
 | [],_,_,_,out,r,h,x,hx=>by injection h with h;subst h;exact .inl hx
 |(p,q,s)::l,i,j,k,out,r,h,x,hx=>by
  simp only[l8] at h
  split at h
  ·cases h
  ·rename_i part hp
   rcases VZ h x hx with h1|h1
   ·rcases List.mem_append.1 h1 with h1|h1
    ·rcases List.mem_append.1 h1 with h1|h1
     ·exact .inl h1
     ·rcases Iq hp with rfl|rfl
      ·exact .inr (.inr (.inr (vn (sM h1))))
      ·exact .inr (.inr (.inl (vn (sM h1))))
    ·exact .inr (.inl (al3 h1))
   ·exact .inr h1
theorem VY {b o t:List aB}: ∀ {l:List (Nat×Nat×Nat)} {i j k:Nat} {out r:List aB},o8 b.length o.length t.length i j k l->out.length<=i+j+k->i<=b.length+1->j<=o.length+1->k<=t.length+1->l8 b o t l i j k out=some r->r.length<=b.length+o.length+t.length+3
 | [],_,_,_,out,r,_,ho,hi,hj,hk,h=>by injection h with h;subst h;omega
 |(p,q,s)::l,i,j,k,out,r,hR,ho,hi,hj,hk,h=>by
  cases hR with
  |cons r1 r2 r3 r4 r5 r6 r7=>
  simp only[l8] at h
  split at h
  ·cases h
  ·rename_i part hp
   have h1:=TW b p
   have h2:part.length<=(q-j)+(s-k):=by
    rcases Iq hp with rfl|rfl
    ·rw[qG];omega
    ·rw[qG];omega
   exact VY r7 (by rw[dw,dw];omega) (by omega) (by omega) (by omega) h
theorem V2 {b o t r:List aB} (h:mP b o t=some r):(∀x∈r,x∈b\/x∈o\/x∈t)/\r.length<=b.length+o.length+t.length+3:=by
 unfold mP at h
 cases hl:mZ [b,o,t] with
 |true=>rw[hl] at h;cases h
 |false=>
  rw[hl] at h
  have h:l8 b o t (rN b o t) 0 0 0 []=some r:=h
  refine⟨fun x hx=>?_,VY (HW b o t) (iK _) (iK _) (iK _) (iK _) h⟩
  rcases VZ h x hx with h1|h1
  ·cases h1
  ·exact h1
theorem A0 {x:aB}: ∀ {l:List cM} {K:List aB},x∈jT l K↔x∈K\/ ∃t∈l,t.1=x
 | [],K=>by simp[jT]
 |t::l,K=>by
  have ih:=A0 (x:=x) (l:=l) (K:=jh t.1 K)
  have h1:jT (t::l) K=jT l (jh t.1 K):=rfl
  rw[h1,ih]
  have h2:x∈jh t.1 K↔x∈K\/x=t.1:=by
   unfold jh
   cases h:K.elem t.1 with
   |true=>
    have:=rG h
    simp only[cT]
    exact⟨.inl,fun h=>h.elim id fun e=>e▸this⟩
   |false=>simp
  rw[h2]
  simp only[List.mem_cons,exists_eq_or_imp]
  constructor
  ·rintro((h|h)|h)
   ·exact .inl h
   ·exact .inr (.inl h.symm)
   ·exact .inr (.inr h)
  ·rintro(h|h|h)
   ·exact .inl (.inl h)
   ·exact .inl (.inr h.symm)
   ·exact .inr h
theorem al2 {x:aB} {b o t:List cM}:x∈kb b o t↔(∃u∈b,u.1=x)\/(∃u∈o,u.1=x)\/ ∃u∈t,u.1=x:=by
 unfold kb
 rw[A0,A0,A0]
 simp only[List.not_mem_nil,false_or,or_assoc]
theorem apw {k v:aB} {xs:List cM} {ys:List aB}:(∀t∈(kY k v xs ys).1,t∈xs\/t=(k,v))/\ ∀y∈(kY k v xs ys).2,y∈ys\/y=k:=by
 unfold kY
 cases v== [] with
 |true=>exact⟨fun _ h=>.inl h,fun _ h=>.inl h⟩
 |false=>
  cases decide (xs.length<60) with
  |true=>exact⟨fun _ h=>by simpa using h,fun _ h=>.inl h⟩
  |false=>
   cases ys.elem k with
   |true=>exact⟨fun _ h=>.inl h,fun _ h=>.inl h⟩
   |false=>exact⟨fun _ h=>.inl h,fun _ h=>by simpa using h⟩
theorem apy {V:aB->List aB} {k:aB} {st:List cM×List aB}:(∀t∈(l9 V k st).1,t∈st.1\/t.1=k)/\ ∀y∈(l9 V k st).2,y∈st.2\/y=k:=by
 unfold l9
 split
 ·rename_i a b c _
  have h:=apw (k:=k) (v:=(kz a b c).getD a) (xs:=st.1) (ys:=nD k a b c st.2)
  refine⟨fun t ht=>(h.1 t ht).imp id fun e=>by rw[e],fun y hy=>?_⟩
  rcases h.2 y hy with h2|h2
  ·unfold nD at h2
   cases hp:kz a b c with
   |some z=>rw[hp] at h2;exact .inl h2
   |none=>rw[hp] at h2;simpa using h2
  ·exact .inr h2
 ·exact⟨fun _ h=>.inl h,fun _ h=>.inl h⟩
theorem WE {V:aB->List aB}: ∀ {ks:List aB} {st:List cM×List aB},(∀t∈(jQ V ks st).1,t∈st.1\/t.1∈ks)/\ ∀y∈(jQ V ks st).2,y∈st.2\/y∈ks
 | [],st=>⟨fun _ h=>.inl h,fun _ h=>.inl h⟩
 |k::ks,st=>by
  have ih:=WE (V:=V) (ks:=ks) (st:=l9 V k st)
  have h:=apy (V:=V) (k:=k) (st:=st)
  have e:jQ V (k::ks) st=jQ V ks (l9 V k st):=rfl
  rw[e]
  refine⟨fun t ht=>?_,fun y hy=>?_⟩
  ·rcases ih.1 t ht with h1|h1
   ·exact(h.1 t h1).imp id fun e=>by simp[e]
   ·exact .inr (by simp[h1])
  ·rcases ih.2 y hy with h1|h1
   ·exact(h.2 y h1).imp id fun e=>by simp[e]
   ·exact .inr (by simp[h1])
theorem WC {V:aB->List aB}: ∀ {ks:List aB} {st:List cM×List aB},st.1.length<=60->(jQ V ks st).1.length<=60/\(jQ V ks st).2.length<=st.2.length+2*ks.length
 | [],st,h=>⟨h,bK _⟩
 |k::ks,st,h=>by
  have h1:=apx (V:=V) (k:=k) h
  have ih:=WC (V:=V) (ks:=ks) h1.1
  have e:jQ V (k::ks) st=jQ V ks (l9 V k st):=rfl
  rw[e,aR]
  exact⟨ih.1,by omega⟩
theorem Hf {b o t:List cM}:(∀u∈(jp b o t).1,u.1∈kb b o t)/\(∀y∈(jp b o t).2,y∈kb b o t):=by
 have h:=WE (V:=u7 b o t) (ks:=fC (kb b o t)) (st:=([],[]))
 have hp:=kU (kb b o t)
 refine⟨fun u hu=>?_,fun y hy=>?_⟩
 ·rcases h.1 u hu with h1|h1
  ·cases h1
  ·exact hp.mem_iff.1 h1
 ·rcases h.2 y hy with h1|h1
  ·cases h1
  ·exact hp.mem_iff.1 h1
theorem BO (b o t:List cM):(jp b o t).1.length<=60/\(jp b o t).2.length<=2*(b.length+o.length+t.length):=by
 have h:=WC (V:=u7 b o t) (ks:=fC (kb b o t)) (st:=([],[])) (iK _)
 have h1:=(kU (kb b o t)).length_eq
 have h2:=ul b []
 have h3:=ul o (jT b [])
 have h4:=ul t (jT o (jT b []))
 simp only[aY] at h2 h
 have h5:(kb b o t).length=(jT t (jT o (jT b []))).length:=rfl
 exact⟨h.1,by have:=h.2;show(jQ _ _ _).2.length<=_;omega⟩
def rr (o:Obj) (r:List aB):Obj:=⟨o.id,o.kind,o.x,o.y,gK 1 (r.map bB),o.tagsV,r,o.tags⟩
def yU (o:Obj) (p:Int×Int):Obj:=⟨o.id,o.kind,p.1,p.2,o.refsV,o.tagsV,o.refs,o.tags⟩
def WT (o:Obj) (l:List cM):Obj:=⟨o.id,o.kind,o.x,o.y,o.refsV,gK 2 (l.map ep),o.refs,l⟩
def kd (b o t:Obj):Option (List aB):=match mP b.refs o.refs t.refs with
 |some r=>bif eK (rr b r) then some r else none
 |none=>none
def jb (b o t:Obj):Obj:=match kd b o t with
 |some r=>rr b r
 |none=>b
def lM (b o t:Obj):Int×Int:=nW (b.x,b.y) (o.x,o.y) (t.x,t.y)
def th (b o t:Obj):Obj:=WT (yU (jb b o t) (lM b o t)) (jp b.tags o.tags t.tags).1
def tQ:aB:=[114,101,102,115]
def BC:aB:=[97,116]
def mO (k:aB):aB:=[116,97,103,32]++k
def kA (b o t:Obj) (C:List Cf):List Cf:=match kd b o t with
 |some _=>C
 |none=>dU (b.id,tQ) C
def m7 (b o t:Obj) (C:List Cf):List Cf:=bif re (b.x,b.y) (o.x,o.y) (t.x,t.y) then dU (b.id,BC) C else C
def mQ (id:aB) (ks:List aB) (C:List Cf):List Cf:=ks.foldl (fun C k=>dU (id,mO k) C) C
def qd (b o t:Obj) (C:List Cf):List Cf:=mQ b.id (jp b.tags o.tags t.tags).2 (m7 b o t (kA b o t C))
theorem wD {n:Nat} {α:Type} {enc:α->aj} (l:List α):bH n enc (gK n (l.map enc)) l:=by
 cases l with
 |nil=>exact .inl ⟨rfl,rfl⟩
 |cons a l=>exact .inr ⟨_,rfl⟩
theorem anP: ∀l:List aB,cx (gK 1 (l.map bB))=true
 | []=>rfl
 |a::l=>by
  show(pures ((a::l).map bB)&&true)=true
  rw[GD];rfl
theorem Vr: ∀l:List cM,pures (l.map ep)=true
 | []=>rfl
 |a::l=>by
  show(cx (ep a)&&pures (l.map ep))=true
  rw[Vr l];rfl
theorem anQ: ∀l:List cM,cx (gK 2 (l.map ep))=true
 | []=>rfl
 |a::l=>by
  show(pures ((a::l).map ep)&&true)=true
  rw[Vr];rfl
theorem aqf {b:Obj} (hb:b.Good) {r:List aB} (h1:r.length<small) (h2: ∀x∈r,x.length<small):(rr b r).Good:=
 {refs:=wD r,tags:=hb.tags,id:=hb.id,reflen:=h1,ref:=h2,taglen:=hb.taglen,key:=hb.key,pr:=anP r,pt:=hb.pt }
theorem V0 {b o t:Obj} (gb:b.Good) (go:o.Good) (gt:t.Good) {r:List aB} (h:mP b.refs o.refs t.refs=some r):(rr b r).Good:=by
 obtain⟨h1,h2⟩:=V2 h
 have hl:mZ [b.refs,o.refs,t.refs]=false:=by
  cases hl:mZ [b.refs,o.refs,t.refs] with
  |false=>rfl
  |true=>simp only[mP,hl,cT] at h;cases h
 simp only[mZ,Bool.or_false,mj,oP] at hl
 have l1:=of_decide_eq_false hl.1
 have l2:=of_decide_eq_false hl.2.1
 have l3:=of_decide_eq_false hl.2.2
 have hsm:small=9223372036854775808:=rfl
 refine aqf gb (by omega) fun x hx=>?_
 rcases h1 x hx with h|h|h
 ·exact gb.ref x h
 ·exact go.ref x h
 ·exact gt.ref x h
structure Fs (s0 s:St) (x mb mo mt mu md:Nat) (C:List Cf) (cs:List aj):Prop where
 row:s.get [] s0.next=some (.cells cs)
 hx:s.get [] x=some (.cells [.map mb,.map mo,.map mt,.map mu,.map md])
 hd:s.get [] md=some (.map (fJ 0 C) C.length)
 old: ∀n,n<s0.next->n≠md->s.get [] n=s0.get [] n
 next:s.next=s0.next+1
 minw:s.minw<=s.next
 ci:s.ci=s0.ci
 lt:md<s0.next/\x<s0.next/\x≠md
section
variable {s0 s:St} {x mb mo mt mu md:Nat} {C:List Cf} {cs:List aj}
theorem Fs.put (f:Fs s0 s x mb mo mt mu md C cs) {s':St} {cs':List aj} (hg: ∀n,s'.get [] n=(s.put s0.next (some (.cells cs'))).get [] n) (hn:s'.next=s.next) (hm:s'.minw<=s'.next) (hc:s'.ci=s.ci):Fs s0 s' x mb mo mt mu md C cs':=by
 obtain⟨l1,l2,l3⟩:=f.lt
 refine⟨by rw[hg,cX,bS];rfl,?_,?_,fun n h1 h2=>?_,hn.trans f.next,hm,hc.trans f.ci,f.lt⟩
 ·rw[hg,cX,beq_eq_false_iff_ne.2 (by omega)];exact f.hx
 ·rw[hg,cX,beq_eq_false_iff_ne.2 (by omega)];exact f.hd
 ·rw[hg,cX,beq_eq_false_iff_ne.2 (by omega)];exact f.old n h1 h2
theorem Fs.note (f:Fs s0 s x mb mo mt mu md C cs) (c:Cf) {s':St} (hg: ∀n,s'.get [] n=(s.put md (some (.map (fJ 0 (dU c C)) (dU c C).length))).get [] n) (hn:s'.next=s.next) (hm:s'.minw<=s'.next) (hc:s'.ci=s.ci):Fs s0 s' x mb mo mt mu md (dU c C) cs:=by
 obtain⟨l1,l2,l3⟩:=f.lt
 refine⟨?_,?_,by rw[hg,cX,bS];rfl,fun n h1 h2=>?_,hn.trans f.next,hm,hc.trans f.ci,f.lt⟩
 ·rw[hg,cX,beq_eq_false_iff_ne.2 (by omega)];exact f.row
 ·rw[hg,cX,beq_eq_false_iff_ne.2 (by omega)];exact f.hx
 ·rw[hg,cX,beq_eq_false_iff_ne.2 h2];exact f.old n h1 h2
end
section
variable {sp:FuncId->Option (List aj->Option aj)} {ch:Nat->Nat}
theorem aaJ (h74:sp 74=some tR) (h36:sp 36=some su) (h45:sp 45=none) {s0 s:St} {x mb mo mt mu md pb po pt:Nat} {C:List Cf} {b o t:Obj} (f:Fs s0 s x mb mo mt mu md C b.cells) (ob:s.get [] pb=some (.cells b.cells)) (oo:s.get [] po=some (.cells o.cells)) (ot:s.get [] pt=some (.cells t.cells)) (gb:b.Good) (go:o.Good) (gt:t.Good) (hpb:pb<s0.next/\pb≠md)
 {e:bq} {lc:Ag.Loc} {REST:SC} {P:Ex->Fr->St->Prop} (h0:ay e 0= .ptr x 0) (h1:ay e 1= .ptr pb 0) (h2:ay e 2= .ptr po 0) (h3:ay e 3= .ptr pt 0) (h9:ay e 9= .ptr s0.next 0)
 (hk: ∀(e':bq) (s':St),ay e' 0= .ptr x 0->ay e' 1= .ptr pb 0->ay e' 2= .ptr po 0->ay e' 3= .ptr pt 0->ay e' 9= .ptr s0.next 0->Fs s0 s' x mb mo mt mu md (kA b o t C) (jb b o t).cells->W (QM sp ch) 44 REST ⟨e',107,lc⟩ s' P):
 W (QM sp ch) 44 (.seq (.draw EM PE) (.seq (.region Ad) (.seq (.seq (.region Ae) (.cond (aa 43) (.seq (.region Af) (.region Ah)) .skip)) REST))) ⟨e,107,lc⟩ s P:=by
 have hseq:=aoN gb.refs go.refs gt.refs gb.pr go.pr gt.pr
 have cb:=gb.refs.clean
 have co:=go.refs.clean
 have ct:=gt.refs.clean
 have ob':s.get [] pb=some (.cells [.str b.id,.int .i64 b.kind,.int .i64 b.x,.int .i64 b.y,b.refsV,b.tagsV]):=ob
 have oo':s.get [] po=some (.cells [.str o.id,.int .i64 o.kind,.int .i64 o.x,.int .i64 o.y,o.refsV,o.tagsV]):=oo
 have ot':s.get [] pt=some (.cells [.str t.id,.int .i64 t.kind,.int .i64 t.x,.int .i64 t.y,t.refsV,t.tagsV]):=ot
 have hrow:s.get [] s0.next=some (.cells [.str b.id,.int .i64 b.kind,.int .i64 b.x,.int .i64 b.y,b.refsV,b.tagsV]):=f.row
 have bad: ∀(e1:bq) (rv:aj) (s1:St),kd b o t=none->Fs s0 s1 x mb mo mt mu md C [.str b.id,.int .i64 b.kind,.int .i64 b.x,.int .i64 b.y,rv,b.tagsV]->ay e1 0= .ptr x 0->ay e1 1= .ptr pb 0->ay e1 2= .ptr po 0->ay e1 3= .ptr pt 0->ay e1 9= .ptr s0.next 0->
  W (QM sp ch) 44 (.seq (.region Af) (.region Ah)) ⟨e1,107,lc⟩ s1 fun y fr s'=>Ex.next P (fun fr s=>W (QM sp ch) 44 REST fr s P) y fr s':=by
  intro e1 rv s1 hno f1 g0 g1 g2 g3 g9
  have hb1:s1.get [] pb=some (.cells [.str b.id,.int .i64 b.kind,.int .i64 b.x,.int .i64 b.y,b.refsV,b.tagsV]):=((f1.old pb hpb.1 hpb.2).trans (f.old pb hpb.1 hpb.2).symm).trans ob
  have hnote:=yp (sp:=sp) (ch:=ch) h45 f1.hx f1.hd b.id tQ
  refine aV (gH (gd 5 ?_))
  unfold Af
  simp only[aw,az,aA,ai,aG,bn,bN,gh,ak,au,aq,cT,cF,bQ,bO,aZ,bE,bS,tA,cQ,ah,ar,r0,dv,g0,g1,gg,dH,hb1,dG]
  refine gq (g:=45) (args:=[.ptr x 0,.str b.id,.str tQ]) ?_ hnote (by decide) ?_
  ·simp only[callee,ai,ak,aH,fA,aD,bh,bk,iM,aq,cw,ez,cT,cF,cy,cP,bS,ah]
   rfl
  refine gp ?_
  obtain⟨s2,hs2⟩: ∃a,a=s1.put md (some (.map (fJ 0 (dU (b.id,tQ) C)) (dU (b.id,tQ) C).length)):=⟨_,rfl⟩
  rw[<-hs2]
  have f2:Fs s0 s2 x mb mo mt mu md (dU (b.id,tQ) C) _:=f1.note (b.id,tQ) (fun n=>by rw[hs2]) (by rw[hs2];rfl) (by rw[hs2];exact jW _ _ _ f1.minw) (by rw[hs2];rfl)
  have hb2:s2.get [] pb=some (.cells [.str b.id,.int .i64 b.kind,.int .i64 b.x,.int .i64 b.y,b.refsV,b.tagsV]):=((f2.old pb hpb.1 hpb.2).trans (f.old pb hpb.1 hpb.2).symm).trans ob
  have hr2:=f2.row
  have cell:b.refsV.cells=[b.refsV]:=by rcases gb.refs with⟨h,_⟩|⟨r,h⟩<;>rw[h]<;>rfl
  simp only[aw,aW]
  refine cp ?_
  unfold Ah
  simp only[aw,az,eD,aA,eE,ai,aG,bn,eN,bN,gh,ak,aD,au,aq,cT,cF,bQ,aR,aY,dl,bO,aZ,bE,gZ,cy,cP,bS,tA,aQ,ah,ar,bJ,ck,dX,aX,dA,cd,dT,na,fT,yO,cb,cell,g1,g9,gg,dH,hb2,hr2,dG,kW,kV,aW]
  refine hk _ _ ?_ ?_ ?_ ?_ ?_ ?_
  ·simp only[ai,ah,cF,g0]
  ·simp only[ai,ah,cF,g1]
  ·simp only[ai,ah,cF,g2]
  ·simp only[ai,ah,cF,g3]
  ·simp only[ai,ah,cF,g9]
  ·have e1:kA b o t C=dU (b.id,tQ) C:=by simp only[kA,hno]
   have e2:jb b o t=b:=by simp only[jb,hno]
   rw[e1,e2]
   exact f2.put (fun n=>rfl) rfl (jW _ _ _ f2.minw) rfl
 refine W.sdrawQ f.minw ?_
 unfold EM
 rcases aoh (mP b.refs o.refs t.refs) with⟨r,hr,hres,hrl⟩|⟨hr,hres⟩
 ·rw[hres] at hseq
  have crl:=hrl.clean
  have cell:(gK 1 (r.map bB)).cells=[gK 1 (r.map bB)]:=by cases r<;>rfl
  have gw:=V0 gb go gt hr
  have hobj:=UV gw
  simp only[Obj.val,Obj.cells] at hobj
  simp only[rr] at hobj
  simp only[d8,d7,ec,isStore,ai,aG,aM,bn,bN,gh,jm,dc,da,ak,aD,bh,bk,au,aq,cT,cF,bQ,rK,aZ,bE,bS,tA,aQ,ah,ar,na,fT,h1,h2,h3,cb,co,ct,gg,dH,tn,ob',oo',ot',dG,h74,hseq,iy,gj,lO]
  refine aF ?_
  unfold Ad
  simp only[aw,az,eD,aA,eE,ai,aG,eN,bN,ak,aD,au,aq,cT,cF,bQ,aR,aY,dl,bO,aZ,gZ,cy,cP,bS,tA,aQ,ah,ar,bJ,ck,dX,aX,dA,cd,dT,na,yO,h9,crl,cell,hrow,kW,kV]
  obtain⟨s1,hs1⟩: ∃a,a=s.put s0.next (some (.cells [.str b.id,.int .i64 b.kind,.int .i64 b.x,.int .i64 b.y,gK 1 (r.map bB),b.tagsV])):=⟨_,rfl⟩
  rw[<-hs1]
  have f1:Fs s0 s1 x mb mo mt mu md C [.str b.id,.int .i64 b.kind,.int .i64 b.x,.int .i64 b.y,gK 1 (r.map bB),b.tagsV]:=f.put (fun n=>by rw[hs1]) (by rw[hs1];rfl) (by rw[hs1];exact jW _ _ _ f.minw) (by rw[hs1];rfl)
  have hr1:=f1.row
  refine aV (aV (cp ?_))
  unfold Ae
  simp only[aw,az,de,aA,dQ,eG,ai,aG,cz,bn,fp,dc,da,ak,aH,aD,bh,bk,bF,cD,du,au,fq,aq,eJ,cu,cT,cF,bQ,rK,aR,aY,cut,bO,aZ,e7,dg,bS,tA,aQ,ah,ar,bJ,aX,kT,h9,dH,hr1,dG,h36,hobj,aW]
  cases hv:eK (rr b r) with
  |true=>
   have hv':eK ⟨b.id,b.kind,b.x,b.y,gK 1 (r.map bB),b.tagsV,r,b.tags⟩=true:=hv
   have hM:kd b o t=some r:=by simp only[kd,hr,hv,cT]
   refine bc (t:=false) (by simp only[ak,ai,ah,cT,cF,hv',dg]) (b7 ?_)
   simp only[aW]
   refine hk _ _ ?_ ?_ ?_ ?_ ?_ ?_
   ·simp only[ai,ah,cF,h0]
   ·simp only[ai,ah,cF,h1]
   ·simp only[ai,ah,cF,h2]
   ·simp only[ai,ah,cF,h3]
   ·simp only[ai,ah,cF,h9]
   ·have e1:kA b o t C=C:=by simp only[kA,hM]
    have e2:jb b o t=rr b r:=by simp only[jb,hM]
    rw[e1,e2]
    exact f1
  |false=>
   have hv':eK ⟨b.id,b.kind,b.x,b.y,gK 1 (r.map bB),b.tagsV,r,b.tags⟩=false:=hv
   have hM:kd b o t=none:=by simp only[kd,hr,hv,cF]
   refine bc (t:=true) (by simp only[ak,ai,ah,cT,cF,hv',ej]) ?_
   refine bad _ _ s1 hM f1 ?_ ?_ ?_ ?_ ?_
   ·simp only[ai,ah,cF,h0]
   ·simp only[ai,ah,cF,h1]
   ·simp only[ai,ah,cF,h2]
   ·simp only[ai,ah,cF,h3]
   ·simp only[ai,ah,cF,h9]
 ·rw[hres] at hseq
  have hM:kd b o t=none:=by simp only[kd,hr]
  simp only[d8,d7,ec,isStore,ai,aG,aM,bn,bN,gh,jm,dc,da,ak,aD,bh,bk,au,aq,cT,cF,bQ,rK,aZ,bE,bS,tA,aQ,ah,ar,na,fT,h1,h2,h3,cb,co,ct,gg,dH,tn,ob',oo',ot',dG,h74,hseq,iy,gj,lO]
  refine aF ?_
  unfold Ad
  simp only[aw,az,eD,aA,eE,ai,aG,eN,bN,ak,aD,au,aq,vH,cT,cF,bQ,aR,aY,dl,bO,aZ,gZ,cy,cP,bS,tA,aQ,ah,ar,bJ,ck,dX,aX,dA,cd,dT,na,yO,h9,xw,hrow,kW,kV]
  obtain⟨s1,hs1⟩: ∃a,a=s.put s0.next (some (.cells [.str b.id,.int .i64 b.kind,.int .i64 b.x,.int .i64 b.y,.nils,b.tagsV])):=⟨_,rfl⟩
  rw[<-hs1]
  have f1:Fs s0 s1 x mb mo mt mu md C [.str b.id,.int .i64 b.kind,.int .i64 b.x,.int .i64 b.y,.nils,b.tagsV]:=f.put (fun n=>by rw[hs1]) (by rw[hs1];rfl) (by rw[hs1];exact jW _ _ _ f.minw) (by rw[hs1];rfl)
  refine aV (aV (cp ?_))
  unfold Ae
  simp only[aw,az,de,aA,eH,ip,ai,aG,cz,fp,ak,aH,aD,bF,cD,dB,au,fq,aq,eJ,cT,cF,ej,bS,tA,ah,ar,aW]
  refine bc (t:=true) (by simp only[ak,ai,ah,cT,cF]) ?_
  refine bad _ _ s1 hM f1 ?_ ?_ ?_ ?_ ?_
  ·simp only[ai,ah,cF,h0]
  ·simp only[ai,ah,cF,h1]
  ·simp only[ai,ah,cF,h2]
  ·simp only[ai,ah,cF,h3]
  ·simp only[ai,ah,cF,h9]
end
section
variable {sp:FuncId->Option (List aj->Option aj)} {ch:Nat->Nat}
theorem aaI (h75:sp 75=none) (h118:sp 118=some tE) (h45:sp 45=none) {s0 s:St} {x mb mo mt mu md pb po pt:Nat} {C:List Cf} {b o t q:Obj} (f:Fs s0 s x mb mo mt mu md C q.cells) (ob:s.get [] pb=some (.cells b.cells)) (oo:s.get [] po=some (.cells o.cells)) (ot:s.get [] pt=some (.cells t.cells))
 {e:bq} {lc:Ag.Loc} {REST:SC} {P:Ex->Fr->St->Prop} (h0:ay e 0= .ptr x 0) (h1:ay e 1= .ptr pb 0) (h2:ay e 2= .ptr po 0) (h3:ay e 3= .ptr pt 0) (h9:ay e 9= .ptr s0.next 0)
 (hk: ∀(e':bq) (s':St),ay e' 0= .ptr x 0->ay e' 1= .ptr pb 0->ay e' 2= .ptr po 0->ay e' 3= .ptr pt 0->ay e' 9= .ptr s0.next 0->Fs s0 s' x mb mo mt mu md (m7 b o t C) (yU q (lM b o t)).cells->W (QM sp ch) 44 REST ⟨e',107,lc⟩ s' P):
 W (QM sp ch) 44 (.seq (.draw wo PF) REST) ⟨e,107,lc⟩ s P:=by
 have ob':s.get [] pb=some (.cells [.str b.id,.int .i64 b.kind,.int .i64 b.x,.int .i64 b.y,b.refsV,b.tagsV]):=ob
 have oo':s.get [] po=some (.cells [.str o.id,.int .i64 o.kind,.int .i64 o.x,.int .i64 o.y,o.refsV,o.tagsV]):=oo
 have ot':s.get [] pt=some (.cells [.str t.id,.int .i64 t.kind,.int .i64 t.x,.int .i64 t.y,t.refsV,t.tagsV]):=ot
 have hcall: ∃s1,bv (QM sp ch) 75 [.ptr x 0,.str b.id,ib (b.x,b.y),ib (o.x,o.y),ib (t.x,t.y)] s.top (ib (lM b o t)) s1/\s1.next=s.next/\s1.ci=s.ci/\s1.minw<=s1.next/\Fs s0 (s.least s1) x mb mo mt mu md (m7 b o t C) q.cells:=by
  cases hbad:re (b.x,b.y) (o.x,o.y) (t.x,t.y) with
  |false=>
   refine⟨s.top,anL h75 (b.x,b.y) (o.x,o.y) (t.x,t.y) hbad s.top,rfl,rfl,bK _,?_⟩
   rw[ni f.minw]
   simp only[m7,hbad,cF]
   exact f
  |true=>
   have hx:s.top.get [] x=some (.cells [.map mb,.map mo,.map mt,.map mu,.map md]):=f.hx
   have hd:s.top.get [] md=some (.map (fJ 0 C) C.length):=f.hd
   refine⟨_,anK h75 h45 h118 hx hd (b.x,b.y) (o.x,o.y) (t.x,t.y) hbad,rfl,rfl,jW _ _ _ (bK _),?_⟩
   simp only[m7,hbad,cT]
   exact f.note (b.id,BC) (fun n=>rfl) rfl (FZ f.minw rfl) rfl
 obtain⟨s1,hrun,n1,c1,m1,f1⟩:=hcall
 obtain⟨sL,hsL⟩: ∃a,a=s.least s1:=⟨_,rfl⟩
 have hrow:sL.top.get [] s0.next=some (.cells [.str q.id,.int .i64 q.kind,.int .i64 q.x,.int .i64 q.y,q.refsV,q.tagsV]):=by rw[hsL];exact f1.row
 rw[show wo=wo.take 17++wo.drop 17 from(oe 17 _).symm]
 refine aV (W.drawD (WD.calmOps f.minw (fun _ h=>by cases h) (fun _ h=>by cases h) ?_))
 unfold wo
 simp only[d8,d7,ec,isStore,ai,aG,bn,bN,gh,ak,au,aq,cT,cF,bQ,aR,aY,cut,bO,aZ,bE,e7,bS,tA,aQ,cQ,ah,ar,bJ,aX,r0,vV,dv,jo,h0,h1,h2,h3,gg,dH,tn,ob',oo',ot',dG]
 intro rs1 hc1 hi1
 refine WD.loudCall (g:=75) (args:=[.ptr x 0,.str b.id,ib (b.x,b.y),ib (o.x,o.y),ib (t.x,t.y)]) (YC hc1 hi1) (by decide) ?_ hrun n1 c1 (by decide) (fun rs2 k2=>?_)
 ·simp only[callee,ai,ak,fA,aD,bh,bk,aq,cw,cu,ez,cT,cF,cy,cP,bS,ah]
  rfl
 rw[<-hsL] at f1 ⊢
 refine WD.fullL (v:=.ptr s0.next 2) (lc:=lc) (s1:=sL.top) (fr1:=⟨_,107,lc⟩) (fun r hr=>(k2 r hr).1) (by decide) rfl ?_ rfl (iO.2 ⟨by decide,rfl⟩) (fun rs3 k3=>?_)
 ·simp only[ai,bN,ak,au,aq,cF,bQ,aQ,ah,vV,h9]
 rw[ni f1.minw]
 refine WD.fullL (v:=iB) (lc:=lc) (s1:=sL.top.put s0.next (some (.cells (yU q (lM b o t)).cells))) (fr1:=⟨_,107,lc⟩) k3 (by decide) rfl ?_ rfl rfl (fun rs5 k5=>?_)
 ·simp only[ai,eN,ak,aD,dj,aq,cu,cT,cF,bQ,aR,aY,dl,bO,aZ,gZ,cy,cP,bS,aQ,ah,ar,bJ,ck,dX,aX,dA,cd,dT,sF,kW,hrow,kV,ib]
  rfl
 refine WD.nil ?_
 simp only[aW]
 refine hk _ _ ?_ ?_ ?_ ?_ ?_ (f1.put (fun n=>rfl) rfl (FZ f1.minw rfl) rfl)
 ·simp only[ai,ah,cF,h0]
 ·simp only[ai,ah,cF,h1]
 ·simp only[ai,ah,cF,h2]
 ·simp only[ai,ah,cF,h3]
 ·simp only[ai,ah,cF,h9]
end
theorem XM (a b:List UInt8):gf Tryz.prog .add 9 (.str a) (.str b)=bif cK (a.length+b.length) 1073741824 then some (.str (a++b)) else none:=by kernel_rfl
theorem XN {k:aB} (h:k.length<=24):gf Tryz.prog .add 9 (.str [116,97,103,32]) (.str k)=some (.str (mO k)):=by
 have h1:cK ([116,97,103,32]++k:aB).length 1073741824=true:=fe (by rw[dw];show 4+k.length<=_;omega)
 rw[XM,<-dw,h1];rfl
theorem UK {k:aB} (h:gS k=true):k.length<=24:=by
 unfold gS at h
 split at h
 ·cases h
 ·simp only[df] at h
  exact Nat.le_of_ble_eq_true h.2
theorem WH: ∀ {l:List cM} {last:aB},ma last l=true-> ∀t∈l,gS t.1=true
 | [],_,_,_,h=>by cases h
 |a::l,last,h,t,ht=>by
  simp only[ma] at h
  cases hb:kX last a with
  |true=>rw[hb] at h;cases h
  |false=>
   rw[hb] at h
   rcases List.mem_cons.1 ht with rfl|ht
   ·simp only[kX,mj,Bool.not_eq_false'] at hb
    exact hb.1.1.1
   ·exact WH h t ht
theorem He {l:List cM} (h:gM l=true): ∀t∈l,gS t.1=true:=by
 simp only[gM,df] at h
 exact WH h.1
theorem Hg {b o t:List cM} (vb:gM b=true) (vo:gM o=true) (vt:gM t=true): ∀k∈kb b o t,gS k=true:=by
 intro k hk
 rcases al2.1 hk with⟨u,hu,rfl⟩|⟨u,hu,rfl⟩|⟨u,hu,rfl⟩
 ·exact He vb u hu
 ·exact He vo u hu
 ·exact He vt u hu
section
variable {sp:FuncId->Option (List aj->Option aj)} {ch:Nat->Nat}
theorem akV (h45:sp 45=none) {s0:St} {x mb mo mt mu md pb:Nat} {cs:List aj} {b:Obj} (hpb:pb<s0.next/\pb≠md) (ob:s0.get [] pb=some (.cells b.cells)) {v:aj} {ks:List aB} (hv:bH 1 bB v ks) (hks:ks.length<=1000000) (hkl: ∀k∈ks,k.length<=24): ∀(rest pre:List aB) (e:bq) (lc:Ag.Loc) (s:St) (C:List Cf),ks=pre++rest->Fs s0 s x mb mo mt mu md C cs->
 ay e 0= .ptr x 0->ay e 1= .ptr pb 0->ay e 9= .ptr s0.next 0->ay e 92=v->ay e 93= .int .i64 (ks.length:Nat)->ay e 94= .int .i64 (pre.length:Nat)->
 W (QM sp ch) 44 (.loop Ac) ⟨e,107,lc⟩ s fun y fr s'=>y= .exit 0/\ ∃e' lc',fr=⟨e',107,lc'⟩/\ay e' 9= .ptr s0.next 0/\Fs s0 s' x mb mo mt mu md (mQ b.id rest C) cs:=by
 have hcl:=hv.clean
 intro rest
 induction rest with
 |nil=>
  intro pre e lc s C hpre f h0 h1 h9 h92 h93 h94
  have hl:ks.length=pre.length:=by rw[hpre];simp
  refine cY ?_
  unfold Ac
  refine aF ?_
  unfold EL
  simp only[aw,az,aA,aU,ak,aD,au,cE,aq,a7,cT,bQ,cN,tA,ar,decide_false,h93,h94,hl,ff]
  refine aV (bc (t:=false) (by simp only[ak,ai,ah,cT]) ?_)
  refine eL ⟨rfl,_,_,rfl,?_,f⟩
  simp only[ai,ah,cF,h9]
 |cons k rest ih=>
  intro pre e lc s C hpre f h0 h1 h9 h92 h93 h94
  have hlt:pre.length<ks.length:=by rw[hpre];simp
  have hat:ks[pre.length]? =some k:=by rw[hpre];simp
  have hia:=fun lc=>hv.at lF hat lc .i64
  have hwr:IntKind.i64.wrap ((pre.length:Int)+1)=((pre.length+1:Nat):Int):=by rw[eh (by omega) (by omega)];omega
  have ob':s.get [] pb=some (.cells [.str b.id,.int .i64 b.kind,.int .i64 b.x,.int .i64 b.y,b.refsV,b.tagsV]):=(f.old pb hpb.1 hpb.2).trans ob
  have hnote:=yp (sp:=sp) (ch:=ch) h45 f.hx f.hd b.id (mO k)
  have hadd:=XN (hkl k (by rw[hpre];simp))
  refine cY ?_
  unfold Ac
  refine aF ?_
  unfold EL
  simp only[aw,az,aA,aU,ak,aD,au,cE,aq,a7,cT,bQ,cN,tA,ar,dT,h93,h94,hlt]
  refine aV (bc (t:=true) (by simp only[ak,ai,ah,cT]) (b7 ?_))
  simp only[aW]
  refine aV (cR (aF ?_))
  unfold PK
  simp only[aw,az,aA,ai,aM,bn,dI,ak,dR,au,ji,aq,cT,cF,bQ,aZ,bE,bS,tA,ah,ar,dv,h92,h94,hia,bB,dR]
  refine gH (gd 7 ?_)
  unfold PL
  simp only[aw,az,aA,ai,aG,bn,aU,bN,gh,ak,aH,aD,iM,au,aq,cw,cT,cF,bQ,bO,aZ,bE,bS,tA,cQ,ah,ar,r0,dv,h0,h1,gg,dH,ob',dG,hadd]
  refine gq (g:=45) (args:=[.ptr x 0,.str b.id,.str (mO k)]) ?_ hnote (by decide) ?_
  ·simp only[callee,ai,ak,fA,aD,bh,bk,aq,cw,ez,cT,cF,cy,cP,bS,ah]
  refine gp ?_
  obtain⟨s2,hs2⟩: ∃a,a=s.put md (some (.map (fJ 0 (dU (b.id,mO k) C)) (dU (b.id,mO k) C).length)):=⟨_,rfl⟩
  rw[<-hs2]
  have f2:Fs s0 s2 x mb mo mt mu md (dU (b.id,mO k) C) cs:=f.note (b.id,mO k) (fun n=>by rw[hs2]) (by rw[hs2];rfl) (by rw[hs2];exact jW _ _ _ f.minw) (by rw[hs2];rfl)
  simp only[aw,dM,aW]
  refine cp ?_
  unfold PM
  simp only[aw,az,aA,ai,aG,aU,ak,aH,aD,bm,au,dW,aq,a7,cT,cF,bQ,bS,tA,ah,ar,h94,hwr,aW]
  refine ih (pre++[k]) _ _ s2 _ (by rw[hpre];simp) f2 ?_ ?_ ?_ ?_ ?_ ?_
  ·simp only[ai,ah,cF,h0]
  ·simp only[ai,ah,cF,h1]
  ·simp only[ai,ah,cF,h9]
  ·simp only[ai,ah,cF,h92]
  ·simp only[ai,ah,cF,h93]
  ·simp only[ai,ah,cT,cF,dw,aR,aY]
theorem aat (h44:sp 44=none) (h74:sp 74=some tR) (h36:sp 36=some su) (h45:sp 45=none) (h75:sp 75=none) (h118:sp 118=some tE) (h76:sp 76=some u6) {s0:St} {x mb mo mt mu md pb po pt:Nat} {C:List Cf} {b o t:Obj}
 (hx:s0.get [] x=some (.cells [.map mb,.map mo,.map mt,.map mu,.map md])) (hd:s0.get [] md=some (.map (fJ 0 C) C.length)) (hlt:x<s0.next/\md<s0.next) (hm:s0.minw<=s0.next) (ob:s0.get [] pb=some (.cells b.cells)) (oo:s0.get [] po=some (.cells o.cells)) (ot:s0.get [] pt=some (.cells t.cells)) (gb:b.Good) (go:o.Good) (gt:t.Good)
 (hp:pb<s0.next/\po<s0.next/\pt<s0.next) (vb:gM b.tags=true) (vo:gM o.tags=true) (vt:gM t.tags=true):
 ∃s',bv (QM sp ch) 44 [.ptr x 0,.ptr pb 0,.ptr po 0,.ptr pt 0] s0 (.ptr s0.next 0) s'/\Fs s0 s' x mb mo mt mu md (qd b o t C) (th b o t).cells:=by
 have hxd:x≠md:=fun e=>by subst e;rw[hx] at hd;cases hd
 have hne: ∀ {p:Nat} {l:List aj},s0.get [] p=some (.cells l)->p≠md:=fun h e=>by subst e;rw[hd] at h;cases h
 have ob':s0.get [] pb=some (.cells [.str b.id,.int .i64 b.kind,.int .i64 b.x,.int .i64 b.y,b.refsV,b.tagsV]):=ob
 have crb:=gb.refs.clean
 have ctb:=gb.tags.clean
 have cell: ∀ {n:Nat} {α:Type} {enc:α->aj} {v:aj} {l:List α},bH n enc v l->v.cells=[v]:=fun h=>by rcases h with⟨rfl,_⟩|⟨r,rfl⟩<;>rfl
 have h: ∃v s',bv (QM sp ch) 44 [.ptr x 0,.ptr pb 0,.ptr po 0,.ptr pt 0] s0 v s'/\(v= .ptr s0.next 0/\Fs s0 s' x mb mo mt mu md (qd b o t C) (th b o t).cells):=by
  refine bv.ofEx ah2 ah1 ah4 ah3 h44 ?_
  unfold PD
  refine aF ?_
  unfold PG
  simp only[dr,cZ,aw,az,aA,aM,aH,au,cT,aR,aY,tA,aQ,ar,bJ,ck,cd,dT,ja]
  refine aF ?_
  unfold PH
  simp only[aw,az,eD,aA,eE,ai,aG,gY,bn,eN,gh,ak,aD,i9,au,bG,dj,aq,cu,cT,cF,bQ,hG,aR,aY,cut,dl,bO,aZ,gZ,e7,cy,iQ,bS,tA,aQ,ah,ar,bJ,ck,dX,aX,dA,cd,dT,kT,rm,rA,act,gg,dH,ob',dG,kW,kV,dy]
  obtain⟨s1,hs1⟩: ∃a,a=(s0.new (.cells [.str [],.int .i64 0,.int .i64 0,.int .i64 0,.nils,.nils])).put s0.next (some (.cells b.cells)):=⟨_,rfl⟩
  have e1: ∀n,s1.get [] n=bif n==s0.next then some (.cells b.cells) else s0.get [] n:=fun n=>by
   rw[hs1,cX,dy]
   cases n==s0.next<;>rfl
  have e2: ∀n,n<s0.next->s1.get [] n=s0.get [] n:=fun n h=>by rw[e1,beq_eq_false_iff_ne.2 (by omega)];rfl
  have f1:Fs s0 s1 x mb mo mt mu md C b.cells:=⟨by rw[e1,bS];rfl,(e2 x hlt.1).trans hx,(e2 md hlt.2).trans hd,fun n h _=>e2 n h,by rw[hs1];rfl,by rw[hs1];exact jW _ _ _ (lj hm),by rw[hs1];rfl,hlt.2,hlt.1,hxd⟩
  have hst:(s0.new (.cells [.str [],.int .i64 0,.int .i64 0,.int .i64 0,.nils,.nils])).put s0.next (some (.cells [.str b.id,.int .i64 b.kind,.int .i64 b.x,.int .i64 b.y,b.refsV,b.tagsV]))=s1:=by rw[hs1];rfl
  rw[hst]
  have hpb:pb<s0.next/\pb≠md:=⟨hp.1,hne ob⟩
  have hpo:po<s0.next/\po≠md:=⟨hp.2.1,hne oo⟩
  have hpt:pt<s0.next/\pt≠md:=⟨hp.2.2,hne ot⟩
  refine aaJ h74 h36 h45 f1 ((f1.old pb hpb.1 hpb.2).trans ob) ((f1.old po hpo.1 hpo.2).trans oo) ((f1.old pt hpt.1 hpt.2).trans ot) gb go gt hpb ?_ ?_ ?_ ?_ ?_ ?_
  ·simp only[ai,ah,cT,cF]
  ·simp only[ai,ah,cT,cF]
  ·simp only[ai,ah,cT,cF]
  ·simp only[ai,ah,cT,cF]
  ·simp only[ai,ah,cT,cF]
  intro e2 s2 a0 a1 a2 a3 a9 f2
  refine aaI h75 h118 h45 f2 ((f2.old pb hpb.1 hpb.2).trans ob) ((f2.old po hpo.1 hpo.2).trans oo) ((f2.old pt hpt.1 hpt.2).trans ot) a0 a1 a2 a3 a9 ?_
  intro e3 s3 b0 b1 b2 b3 b9 f3
  have ob3:s3.get [] pb=some (.cells [.str b.id,.int .i64 b.kind,.int .i64 b.x,.int .i64 b.y,b.refsV,b.tagsV]):=(f3.old pb hpb.1 hpb.2).trans ob
  have oo3:s3.get [] po=some (.cells [.str o.id,.int .i64 o.kind,.int .i64 o.x,.int .i64 o.y,o.refsV,o.tagsV]):=(f3.old po hpo.1 hpo.2).trans oo
  have ot3:s3.get [] pt=some (.cells [.str t.id,.int .i64 t.kind,.int .i64 t.x,.int .i64 t.y,t.refsV,t.tagsV]):=(f3.old pt hpt.1 hpt.2).trans ot
  have htag:=apB ⟨gb.tags,vb,gb.key⟩ ⟨go.tags,vo,go.key⟩ ⟨gt.tags,vt,gt.key⟩ gb.pt go.pt gt.pt
  have cto:=go.tags.clean
  have ctt:=gt.tags.clean
  have i1:bH 2 ep (gK 2 ((jp b.tags o.tags t.tags).1.map ep)) (jp b.tags o.tags t.tags).1:=wD _
  have i2:bH 1 bB (gK 1 ((jp b.tags o.tags t.tags).2.map bB)) (jp b.tags o.tags t.tags).2:=wD _
  have c1:=i1.clean
  have c2:=i2.clean
  have l1:=cell i1
  have hln:=fun mk s=>i2.len iV jl mk s
  have hrow:=f3.row
  simp only[yU,Obj.cells] at hrow
  have hlk:(jp b.tags o.tags t.tags).2.length<=1000000:=by
   have h1:=(BO b.tags o.tags t.tags).2
   have h2:b.tags.length<=60:=kn.len ⟨gb.tags,vb,gb.key⟩
   have h3:o.tags.length<=60:=kn.len ⟨go.tags,vo,go.key⟩
   have h4:t.tags.length<=60:=kn.len ⟨gt.tags,vt,gt.key⟩
   omega
  refine W.sdrawQ f3.minw ?_
  unfold PO
  simp only[d8,d7,ec,isStore,ai,aG,aM,bn,bN,gh,jm,dc,da,ak,aD,bh,bk,au,aq,cT,cF,bQ,rK,aZ,bE,bS,tA,aQ,ah,ar,uv,mL,b1,b2,b3,ctb,cto,ctt,gg,dH,tn,ob3,oo3,ot3,dG,h76,htag,wN,iy,gj,lO]
  refine aF ?_
  unfold PP
  simp only[aw,az,eD,aA,eE,ai,aG,eN,bN,ak,aD,au,aq,cT,cF,bQ,aR,aY,dl,bO,aZ,gZ,cy,cP,iQ,bS,tA,aQ,ah,ar,bJ,ck,dX,aX,dA,cd,dT,uv,apo,b9,c1,l1,hrow,kW,kV]
  obtain⟨s4,hs4⟩: ∃a,a=s3.put s0.next (some (.cells (th b o t).cells)):=⟨_,rfl⟩
  have f4:Fs s0 s4 x mb mo mt mu md (m7 b o t (kA b o t C)) (th b o t).cells:=f3.put (fun n=>by rw[hs4]) (by rw[hs4];rfl) (by rw[hs4];exact jW _ _ _ f3.minw) (by rw[hs4];rfl)
  have hs4':s3.put s0.next (some (.cells [.str (jb b o t).id,.int .i64 (jb b o t).kind,.int .i64 (lM b o t).1,.int .i64 (lM b o t).2,(jb b o t).refsV,gK 2 ((jp b.tags o.tags t.tags).1.map ep)]))=s4:=hs4.symm
  rw[hs4']
  refine aV (aV (cp ?_))
  unfold PJ
  simp only[aw,az,aA,ai,aG,cG,ak,aH,aD,bh,bk,bm,au,bZ,cW,bG,aq,cT,cF,bQ,hG,bS,tA,ah,ar,aX,acu,c2,hln,aW]
  refine cR ?_
  refine jy (akV h45 hpb ob i2 hlk (fun k hk=>UK (Hg vb vo vt k (Hf.2 k hk))) (jp b.tags o.tags t.tags).2 [] _ _ s4 _ rfl f4 ?_ ?_ ?_ ?_ ?_ ?_) ?_
  ·simp only[ai,ah,cF,b0]
  ·simp only[ai,ah,cF,b1]
  ·simp only[ai,ah,cF,b9]
  ·simp only[ai,ah,cT,cF]
  ·simp only[ai,ah,cT,cF]
  ·simp only[ai,ah,cT,cF];rfl
  rintro y fr s5 ⟨rfl,e5,lc5,rfl,g9,f5⟩
  show W (QM sp ch) 44 _ _ _ _
  refine aF ?_
  unfold PN
  simp only[aw,az,aA,aM,ak,au,tA,ar,g9]
  refine bP ⟨.inr rfl,.ptr s0.next 0,bV ?_ rfl,rfl,f5⟩
  simp only[ai,ah,cT]
 obtain⟨v,s',r1,rfl,r2⟩:=h
 exact⟨s',r1,r2⟩
end
end Go.Proofs.YtbfmdojdemckbaaGreat
