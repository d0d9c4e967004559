/- tag.Merge; merger.fields. -/
import Derived.Test.YtbfmdojdemckbaaGreatQ1
import Derived.Test.YtbfmdojdemckbaaGreatS1
open Bool renaming and_eq_true→cZ,and_self→gf,and_true→dY,not_false→gU,not_true→dS,or_eq_false_iff→rA,true_and→i9
open List renaming append_nil→iA,cons_append→cH,drop_succ_cons→gr,drop→a7,elem_eq_true_of_mem→qM,foldl_cons→uz,getElem?_cons_succ→mJ,getElem?_cons_zero→gg,head?_cons→bO,length_append→dp,length_cons→aP,length_map→eH,length_nil→aW,length_singleton→o9,length_take→pZ,map_append→kB,map_cons→fw,mem_of_elem_eq_true→qP,mem_of_getElem?→lX,mem_of_mem_drop→uB,mem_of_mem_take→rH,mem_singleton→p8,nil_append→cq,take_append_drop→nr,take_succ_cons→eR,take→bN
open Nat renaming add_zero→dc,beq→be,ble_eq_true_of_le→eL,ble→cy,eq_of_beq_eq_true→ik,le_refl→bB,le_succ_of_le→kC,le_succ→ka,lt_irrefl→eU,lt_succ_of_lt→ns,lt_succ_self→io,reduceAdd→bE,reduceBEq→ah,reduceLT→au,reduceLeDiff→cm,reduceMul→jt,zero_add→aQ,zero_le→iB
open Go.Operand renaming tmp→aa
open Option renaming bind_some→aq,getD_some→pc
open Go.Ag.W renaming block→cO,cond→bc,exit→eD,loop1→cR,mono→ja,region→gh,reg→b7,ret→cd,seq→aR,skip→ck,sreg→aF
namespace Go.Proofs.YtbfmdojdemckbaaGreat
open Go.Ag
def iT (k:ar) (K:List ar):List ar:=bif K.elem k then K else K++[k]
def jG (l:List cz) (K:List ar):List ar:=l.foldl (fun K t=>iT t.1 K) K
def my (k:ar) (i:Nat) (x:ar) (V:ar->List ar):ar->List ar:=fun j=>bif j==k then(V j).set i x else V j
def rq (i:Nat) (l:List cz) (V:ar->List ar):ar->List ar:=l.foldl (fun V t=>my t.1 i t.2 V) V
structure TM (s:St) (m lo:Nat) (K:List ar) (V:ar->List ar):Prop where
 len: ∀k,(V k).length=3
 fits:K.Nodup
 noV: ∀k,k ∉ K->V k=[[],[],[]]
 ex: ∃L:List (ar×aj),L.map (·.1)=K/\s.get [] m=some (.map (cP 0 L) L.length)/\(∀k v,look k L=some v-> ∃r,v= .ptr r 0/\lo<=r/\r<s.next/\s.get [] r=some (.cells ((V k).map bu)))/\(∀k k' v,look k L=some v->look k' L=some v->k=k')
theorem IZ (lc:Ag.Loc) (m o:Nat) (i:aj):iH Tryz.prog lc 197 (.ptr m o) i=(fF i).bind fun i=>bif Nat.blt i 3 then some (.ptr m (o+i*1)) else none:=by kernel_rfl
theorem ajS:fy Tryz.prog .eql 196 .nilp .nilp=some (.bool true):=by kernel_rfl
theorem ajT (n o:Nat):fy Tryz.prog .eql 196 (.ptr n o) .nilp=some (.bool false):=by kernel_rfl
theorem aiJ (e:bj) (s:St):mp Tryz.prog 195 e none s=some (.map s.next,s.new (.map [] 0)):=by
 have h:Tryz.prog.underlying 195=some (.map 9 196):=by kernel_rfl
 simp only[mp]
theorem RL {s:St} {m:Nat} {L:List (ar×aj)} {c:Nat} (hs:s.get [] m=some (.map (cP 0 L) c)) (k:ar):lM Tryz.prog [] 195 (.map m) (.str k) false s=some (at_ k L):=E7 sd Sa amC hs k
theorem Ah {k:ar}: ∀ {L:List (ar×aj)},(look k L).isSome=(L.map (·.1)).elem k
 | []=>rfl
 |(a,v)::L=>by
  have ih:=Ah (k:=k) (L:=L)
  simp only[look,fw,List.elem]
  cases h:k==a with
  |true=>simp
  |false=>simpa using ih
theorem Dm {k:ar} {v:aj}: ∀ {L:List (ar×aj)},look k L=none->eG k v L=L++[(k,v)]
 | [],_=>rfl
 |(a,u)::L,h=>by
  simp only[look] at h
  cases hk:k==a with
  |true=>rw[hk] at h;cases h
  |false=>
   rw[hk] at h
   simp only[eG,hk,cF,Dm h,cH]
theorem amy (cs:List aj) (i:Nat) (x:aj) (hi:i<cs.length):cV cs i [x]=some (cs.set i x):=by
 have h:cy (i+ [x].length) cs.length=true:=eL (Nat.succ_le_of_lt hi)
 simp only[cV,h,cT,List.set_eq_take_append_cons_drop,if_pos hi];rfl
theorem ak8 {k:ar} {i:Nat} {x:ar} {V:ar->List ar} (h: ∀j,(V j).length=3) (j:ar):(my k i x V j).length=3:=by
 unfold my
 cases j==k with
 |true=>simp[h]
 |false=>exact h j
theorem TM.row {s:St} {m lo:Nat} {K:List ar} {V:ar->List ar} (t:TM s m lo K V) {k:ar} (hk:k∈K): ∃r,lo<=r/\r<s.next/\s.get [] r=some (.cells ((V k).map bu))/\lM Tryz.prog [] 195 (.map m) (.str k) false s=some (.ptr r 0)/\
 ∀(i:Nat) (x:ar) (s':St),m<lo->(∀n,s'.get [] n=(s.put r (some (.cells (((V k).map bu).set i (bu x))))).get [] n)->s'.next=s.next->TM s' m lo K (my k i x V):=by
 obtain⟨L,h1,h2,h3,h4⟩:=t.ex
 have hs:=Ah (k:=k) (L:=L)
 rw[h1,qM hk] at hs
 obtain⟨v,hv⟩:=Option.isSome_iff_exists.1 hs
 obtain⟨r,rfl,q1,q2,q3⟩:=h3 k v hv
 refine⟨r,q1,q2,q3,?_,fun i x s' hmlo hg hn=>⟨fun j=>ak8 t.len j,t.fits,fun j hj=>?_,L,h1,?_,fun j v hj=>?_,h4⟩⟩
 ·rw[RL h2];simp only[at_,hv,pc]
 ·have:(j==k)=false:=beq_eq_false_iff_ne.2 (fun e=>hj (e▸hk))
  simp only[my,this,cF]
  exact t.noV j hj
 ·rw[hg,cI,beq_eq_false_iff_ne.2 (by omega)];exact h2
 ·obtain⟨r',rfl,p1,p2,p3⟩:=h3 j v hj
  refine⟨r',rfl,p1,by omega,?_⟩
  rw[hg,cI]
  cases hr:r'==r with
  |true=>
   have:=eq_of_beq hr
   subst this
   have:j=k:=h4 j k _ hj hv
   subst this
   simp only[cT,my,bS,List.map_set]
  |false=>
   have:(j==k)=false:=beq_eq_false_iff_ne.2 (fun e=>by
    subst e
    rw[hv] at hj
    injection hj with hj
    injection hj with hj
    exact beq_eq_false_iff_ne.1 hr hj.symm)
   simp only[cF,my,this]
   exact p3
theorem TM.nil_ {s:St} {m lo:Nat} {K:List ar} {V:ar->List ar} (t:TM s m lo K V) {k:ar} (hk:k ∉ K) (hmlo:m<lo) (hlo:lo<=s.next):lM Tryz.prog [] 195 (.map m) (.str k) false s=some .nilp/\
 ∃o,lS Tryz.prog [] 195 (.map m) (.str k) (.ptr s.next 0) (s.new (.cells [.str [],.str [],.str []]))=some ((s.new (.cells [.str [],.str [],.str []])).put m o)/\TM ((s.new (.cells [.str [],.str [],.str []])).put m o) m lo (K++[k]) V:=by
 obtain⟨L,h1,h2,h3,h4⟩:=t.ex
 have hs:=Ah (k:=k) (L:=L)
 have hf:K.elem k=false:=by
  cases h:K.elem k with
  |true=>exact absurd (qP h) hk
  |false=>rfl
 rw[h1,hf] at hs
 have hnone:look k L=none:=by
  cases h:look k L with
  |none=>rfl
  |some v=>rw[h] at hs;cases hs
 have hg1:(s.new (.cells [.str [],.str [],.str []])).get [] m=some (.map (cP 0 L) L.length):=by rw[df,beq_eq_false_iff_ne.2 (by omega)];exact h2
 refine⟨by rw[RL h2];simp only[at_,hnone,Option.getD_none],_,yo sd Sa hg1 k (.ptr s.next 0),t.len,?_,fun j hj=>t.noV j (fun h=>hj (by simp[h])),eG k (.ptr s.next 0) L,by rw[Dm hnone];simp[h1],by rw[cI,bS];rfl,fun j v hj=>?_,fun j j' v hj hj'=>?_⟩
 ·exact List.nodup_append.2 ⟨t.fits,by simp,fun a ha b hb e=>by simp only[p8] at hb;subst hb;subst e;exact hk ha⟩
 ·rw[mm] at hj
  cases hjk:j==k with
  |true=>
   rw[hjk] at hj
   injection hj with hj
   have:=eq_of_beq hjk
   subst this
   refine⟨s.next,hj.symm,hlo,io _,?_⟩
   rw[cI,beq_eq_false_iff_ne.2 (by omega),cF,df,bS,t.noV j hk];rfl
  |false=>
   rw[hjk] at hj
   obtain⟨r',rfl,p1,p2,p3⟩:=h3 j v hj
   refine⟨r',rfl,p1,ns p2,?_⟩
   rw[cI,beq_eq_false_iff_ne.2 (by omega),cF,df,beq_eq_false_iff_ne.2 (by omega)];exact p3
 ·rw[mm] at hj hj'
  have old: ∀ {i:ar},look i L=some v->v≠ .ptr s.next 0:=fun hi e=>by
   obtain⟨r',rfl,p1,p2,p3⟩:=h3 _ v hi
   injection e with e
   omega
  cases hjk:j==k with
  |true=>
   rw[hjk] at hj
   injection hj with hj
   cases hjk':j'==k with
   |true=>rw[eq_of_beq hjk,eq_of_beq hjk']
   |false=>rw[hjk'] at hj';exact absurd hj.symm (old hj')
  |false=>
   rw[hjk] at hj
   cases hjk':j'==k with
   |true=>
    rw[hjk'] at hj'
    injection hj' with hj'
    exact absurd hj'.symm (old hj)
   |false=>rw[hjk'] at hj';exact h4 j j' v hj hj'
theorem E0 {s s1:St} (h:s.minw<=s.next) (h1:s1.next=s.next):(s.least s1).minw<=s.next:=by
 show(bif cy s.minw s1.minw then s.minw else s1.minw)<=s.next
 cases hb:cy s.minw s1.minw with
 |true=>exact h
 |false=>
  have: ¬s.minw<=s1.minw:=fun hc=>by rw[eL hc] at hb;cases hb
  simp only[cF];omega
section
variable {sp:FuncId->Option (List aj->Option aj)} {ch:Nat->Nat}
theorem ST {e:bj} {lc:Ag.Loc} {s:St} {r i:Nat} {cs:List aj} {x:ar} {rs1:List dU} {K:Fr->St->Prop} (hi: ∀r∈rs1,r.i<9) (hx:s.get [] r=some (.cells cs)) (hl:i<cs.length) (hm:s.minw<=s.next) (h56:ax e 56= .ptr r i) (h54:ax e 54= .str x)
 (hk: ∀s',(∀k,s'.get [] k=(s.put r (some (.cells (cs.set i (bu x))))).get [] k)->s'.next=s.next->s'.ci=s.ci->s'.minw<=s'.next->K ⟨e,136,lc⟩ s'):
 WD (QM sp ch) 76 [511] rs1 9 (pA.drop 9) ⟨e,136,lc⟩ s K:=by
 have hxt:s.top.get [] r=some (.cells cs):=hx
 have hw:=amy cs i (.str x) hl
 unfold pA
 refine WD.fullL (v:=ii) (lc:=lc) (s1:=s.top.put r (some (.cells (cs.set i (bu x))))) (fr1:=⟨e,136,lc⟩) hi (by decide) rfl ?_ rfl rfl (fun rs5 k5=>?_)
 ·simp only[ez,ak,aD,kV,aq,cS,cT,aP,aW,bS,aQ,au,dY,aZ,dl,dT,bF,Gl,kz,hxt,ky,h56,h54,kV,hw]
  rfl
 refine WD.nil (hk _ (fun k=>rfl) rfl rfl ?_)
 exact E0 hm rfl
theorem alW {v:aj} {l:List cz} (hl:bC 2 eC v l) (hsmall:l.length<=1000) {m lo i:Nat} (hi:i<3) (hmlo:m<lo): ∀(rest pre:List cz) (e:bj) (lc:Ag.Loc) (s:St) (K:List ar) (V:ar->List ar),l=pre++rest->TM s m lo K V->lo<=s.next->s.minw<=s.next->
 ax e 9= .map m->ax e 10= .int .i64 (i:Nat)->ax e 33=v->ax e 34= .int .i64 (l.length:Nat)->ax e 35= .int .i64 (pre.length:Nat)->
 W (QM sp ch) 76 (.loop xy) ⟨e,136,lc⟩ s fun x fr s'=>x= .exit 2/\ ∃e' lc',fr=⟨e',136,lc'⟩/\(ax e' 9= .map m/\ax e' 25=ax e 25/\ax e' 26=ax e 26)/\TM s' m lo (jG rest K) (rq i rest V)/\(∀n,n<m->s'.get [] n=s.get [] n)/\s.next<=s'.next/\s'.minw<=s'.next/\s'.ci=s.ci:=by
 intro rest
 have hcl:=hl.clean
 induction rest with
 |nil=>
  intro pre e lc s K V hpre t hlo hm h9 h10 h33 h34 h35
  have hl:l.length=pre.length:=by rw[hpre];simp
  refine cR ?_
  unfold xy
  refine aF ?_
  unfold EJ
  simp only[az,aA,aB,aX,ak,aD,aw,cQ,aq,bf,cT,bF,da,tA,au,decide_false,h34,h35,hl,eU]
  refine aR (bc (t:=false) (by simp only[ak,ai,ah,cT, *]) ?_)
  exact eD ⟨rfl,_,_,rfl,⟨by simp only[ai,ah,cF,h9],by simp only[ai,ah,cF, *],by simp only[ai,ah,cF, *]⟩,t,fun _ _=>rfl,bB _,hm,rfl⟩
 |cons q rest ih=>
  intro pre e lc s K V hpre t hlo hm h9 h10 h33 h34 h35
  obtain⟨k,x⟩:=q
  have hlt:pre.length<l.length:=by rw[hpre];simp
  have hat:l[pre.length]? =some (k,x):=by rw[hpre];simp
  have hia:=fun lc=>hl.at si hat lc .i64
  have hwr:IntKind.i64.wrap ((pre.length:Int)+1)=((pre.length+1:Nat):Int):=by rw[ew (by omega) (by omega)];omega
  have fin: ∀(e2:bj) (lc2:Ag.Loc) (s2:St),TM s2 m lo (iT k K) (my k i x V)->(∀n,n<m->s2.get [] n=s.get [] n)->s.next<=s2.next->s2.minw<=s2.next->s2.ci=s.ci->ax e2 9=ax e 9->ax e2 10=ax e 10->ax e2 25=ax e 25->ax e2 26=ax e 26->ax e2 33=ax e 33->ax e2 34=ax e 34->ax e2 35= .int .i64 ((pre.length+1:Nat):Int)->
   W (QM sp ch) 76 (.loop xy) ⟨e2,136,lc2⟩ s2 fun y fr s'=>y= .exit 2/\ ∃e' lc',fr=⟨e',136,lc'⟩/\(ax e' 9= .map m/\ax e' 25=ax e 25/\ax e' 26=ax e 26)/\TM s' m lo (jG ((k,x)::rest) K) (rq i ((k,x)::rest) V)/\(∀n,n<m->s'.get [] n=s.get [] n)/\s.next<=s'.next/\s'.minw<=s'.next/\s'.ci=s.ci:=by
   intro e2 lc2 s2 t2 o2 n2 m2 c2 g9 g10 g25 g26 g33 g34 g35
   refine ja (ih (pre++[(k,x)]) _ _ s2 (iT k K) (my k i x V) (by rw[hpre];simp) t2 (by omega) m2 ?_ ?_ ?_ ?_ ?_) ?_
   ·rw[g9,h9]
   ·rw[g10,h10]
   ·rw[g33,h33]
   ·rw[g34,h34]
   ·rw[g35,dp];rfl
   rintro y fr s' ⟨rfl,e',lc',rfl,⟨d9,d25,d26⟩,q1,q2,q3,q4,q5⟩
   refine⟨rfl,e',lc',rfl,⟨d9,d25.trans g25,d26.trans g26⟩,q1,fun n hn=>(q2 n hn).trans (o2 n hn),by omega,q4,q5.trans c2⟩
  refine cR ?_
  unfold xy
  refine aF ?_
  unfold EJ
  simp only[az,aA,aB,aX,ak,aD,aw,cQ,aq,bf,cT,bF,da,tA,au,dT,h34,h35,hlt]
  refine aR (bc (t:=true) (by simp only[ak,ai,ah,cT, *]) (ck ?_))
  simp only[aU]
  refine aR (cO (aF ?_))
  unfold P5
  simp only[az,aA,ej,aB,ep,ai,bR,jz,gZ,bo,ez,ek,ak,aD,gl,fQ,aw,bJ,dC,ix,aq,cK,cT,cF,bF,gD,aP,aW,cut,cV,bN,a7,eR,cq,cH,bS,tA,aQ,ah,au,bE,cm,dY,aZ,dl,cj,dT,x7,Gk,Bi,aax,h33,h35,hia,eC]
  refine aR (aR (b7 ?_))
  unfold P6
  by_cases hK:k∈K
  ·obtain⟨r,r1,r2,r3,r4,r5⟩:=t.row hK
   have hadd:iT k K=K:=by simp only[iT,qM hK,cT]
   simp only[az,aA,aB,ai,cM,bR,aH,bo,aX,bZ,lQ,ak,aK,aD,cx,aw,aq,cS,dW,fZ,cT,cF,bF,a7,bO,bS,tA,dc,ah,au,aZ,oN,dH,h9,r4,iP,iU,ajT,aU]
   refine bc (t:=false) (by simp only[ak,ai,ah,cT,cF]) (ck ?_)
   simp only[aU]
   rw[show pA=pA.take 9++pA.drop 9 from(nr 9 _).symm]
   refine W.drawD (WD.calmOps hm (fun _ h=>by cases h) (fun _ h=>by cases h) ?_)
   have r4t:lM Tryz.prog [] 195 (.map m) (.str k) false s.top=some (.ptr r 0):=r4
   unfold pA
   simp only[eJ,eI,eK,isStore,ai,cM,bR,aH,bo,bZ,ek,lQ,fI,ak,aD,cx,sF,aw,aq,cS,fZ,cT,cF,bF,aP,aW,bN,a7,bO,cq,cH,bS,tA,aQ,dc,ah,au,bE,aZ,dl,dT,oN,vh,dH,h9,h10,r4t,fG,IZ,hi,Nat.mul_one]
   intro rs1 hc1 hi1
   refine ST (x:=x) (i:=i) hi1 r3 (by rw[eH,t.len];exact hi) hm (by simp only[ai,ah,cT,cF, *]) (by simp only[ai,ah,cT,cF, *]) ?_
   intro s' q1 q2 q3 q4
   have hold: ∀n,n<m->s'.get [] n=s.get [] n:=fun n hn=>by
    rw[q1,cI,beq_eq_false_iff_ne.2 (by omega)];rfl
   simp only[dP,aU]
   refine b7 ?_
   unfold Ey
   simp only[az,aA,aB,ai,aH,aX,ak,aK,aD,bt,aw,dZ,aq,bf,cT,cF,bF,bS,tA,ah,au,h35,hwr,aU]
   refine fin _ _ s' (by rw[hadd];exact r5 i x s' hmlo q1 q2) hold (by omega) q4 q3 ?_ ?_ ?_ ?_ ?_ ?_ ?_
   any_goals simp only[ai,ah,cT,cF, *]
  ·obtain⟨n1,o,n2,n3⟩:=t.nil_ hK hmlo hlo
   have hadd:iT k K=K++[k]:=by
    have:K.elem k=false:=by
     cases h:K.elem k with
     |true=>exact absurd (qP h) hK
     |false=>rfl
    simp only[iT,this,cF]
   obtain⟨s1,hs1⟩: ∃a,a=(s.new (.cells [.str [],.str [],.str []])).put m o:=⟨_,rfl⟩
   rw[<-hs1] at n2 n3
   have e1:s1.next=s.next+1:=by rw[hs1];rfl
   have e2:s1.minw<=s1.next:=by rw[hs1];exact jJ _ _ _ (kC hm)
   have e3:s1.ci=s.ci:=by rw[hs1];rfl
   have e4: ∀n,n<m->s1.get [] n=s.get [] n:=fun n hn=>by
    rw[hs1,cI,beq_eq_false_iff_ne.2 (by omega),cF,df,beq_eq_false_iff_ne.2 (by omega)];rfl
   obtain⟨r,r1,r2,r3,r4,r5⟩:=n3.row (k:=k) (by simp)
   simp only[az,aA,aB,ai,cM,bR,aH,bo,aX,bZ,lQ,ak,aK,aD,cx,aw,aq,cS,fZ,cT,cF,bF,a7,bO,bS,tA,dc,ah,au,aZ,oN,dH,h9,n1,iP,ajS,iU,aU]
   refine bc (t:=true) (by simp only[ak,ai,ah,cT,cF]) (b7 ?_)
   unfold P7
   simp only[az,aA,ej,aB,ep,ai,cM,bR,aH,gZ,bo,bZ,ua,ak,aD,jc,cx,aw,ui,bJ,dC,aq,cS,dW,fZ,cT,cF,bF,gD,a7,bO,bS,tA,dc,ah,au,aZ,oN,dH,h9,aaC,GD,n2,aU]
   rw[show pA=pA.take 9++pA.drop 9 from(nr 9 _).symm]
   refine W.drawD (WD.calmOps e2 (fun _ h=>by cases h) (fun _ h=>by cases h) ?_)
   have r4t:lM Tryz.prog [] 195 (.map m) (.str k) false s1.top=some (.ptr r 0):=r4
   unfold pA
   simp only[eJ,eI,eK,isStore,ai,cM,bR,aH,bo,bZ,ek,lQ,fI,ak,aD,cx,sF,aw,aq,cS,fZ,cT,cF,bF,aP,aW,bN,a7,bO,cq,cH,bS,tA,aQ,dc,ah,au,bE,aZ,dl,dT,oN,vh,dH,h9,h10,r4t,fG,IZ,hi,Nat.mul_one]
   intro rs1 hc1 hi1
   refine ST (x:=x) (i:=i) hi1 r3 (by rw[eH,n3.len];exact hi) e2 (by simp only[ai,ah,cT,cF, *]) (by simp only[ai,ah,cT,cF, *]) ?_
   intro s' q1 q2 q3 q4
   have hold: ∀n,n<m->s'.get [] n=s.get [] n:=fun n hn=>by
    rw[q1,cI,beq_eq_false_iff_ne.2 (by omega)];exact e4 n hn
   simp only[dP,aU]
   refine b7 ?_
   unfold Ey
   simp only[az,aA,aB,ai,aH,aX,ak,aK,aD,bt,aw,dZ,aq,bf,cT,cF,bF,bS,tA,ah,au,h35,hwr,aU]
   refine fin _ _ s' (by rw[hadd];exact r5 i x s' hmlo q1 q2) hold (by omega) q4 (q3.trans e3) ?_ ?_ ?_ ?_ ?_ ?_ ?_
   any_goals simp only[ai,ah,cT,cF, *]
end
structure jZ (v:aj) (l:List cz):Prop where
 is:bC 2 eC v l
 valid:iK l=true
 keys: ∀t∈l,t.1.length<small
theorem jZ.len {v:aj} {l:List cz} (h:jZ v l):l.length<=60:=by
 have:=h.valid
 simp only[iK,cZ,decide_eq_true_eq] at this
 exact this.2
theorem jZ.spec {v:aj} {l:List cz} (h:jZ v l):pT [v]=some (.bool true):=by
 have:=h.len
 rw[TW h.is (by have:small=9223372036854775808:=rfl;omega) h.keys,h.valid]
section
variable {sp:FuncId->Option (List aj->Option aj)} {ch:Nat->Nat}
theorem F5 (h59:sp 59=some pT) {A v:aj} {l:List cz} (h:jZ v l) {m lo i:Nat} (hi:i<3) (hmlo:m<lo) (hA:A.clean=true) (hix:qn Tryz.prog 194 A (.int .i64 (i:Nat))=some v) {e:bj} {lc:Ag.Loc} {s:St} {K:List ar} {V:ar->List ar} {P:Ex->Fr->St->Prop}
 (t:TM s m lo K V) (hlo:lo<=s.next) (hm:s.minw<=s.next) (h9:ax e 9= .map m) (h25:ax e 25=A) (h26:ax e 26= .int .i64 (i:Nat))
 (hk: ∀(e':bj) (lc':Ag.Loc) (s':St),ax e' 9= .map m->ax e' 25=A->ax e' 26= .int .i64 ((i+1:Nat):Int)->TM s' m lo (jG l K) (rq i l V)->(∀n,n<m->s'.get [] n=s.get [] n)->lo<=s'.next->s.next<=s'.next->s'.minw<=s'.next->s'.ci=s.ci->W (QM sp ch) 76 (.loop vz) ⟨e',136,lc'⟩ s' P):
 W (QM sp ch) 76 (.loop vz) ⟨e,136,lc⟩ s P:=by
 have hcl:=h.is.clean
 have hln:=fun mk s=>h.is.len pD pC mk s
 have hsp:=h.spec
 have hl60:=h.len
 have hwr:IntKind.i64.wrap ((i:Int)+1)=((i+1:Nat):Int):=by rw[ew (by omega) (by omega)];omega
 have hlt:dz (i:Int) 3=true:=by
  have:=da i 3
  rw[show((3:Nat):Int)=3 from rfl] at this
  rw[this];exact decide_eq_true hi
 refine cR ?_
 unfold vz
 refine aF ?_
 unfold EH
 simp only[az,aA,aB,aX,ak,aK,aD,bt,aw,cQ,aq,bf,cT,bF,tA,au,h26,hlt]
 refine aR (bc (t:=true) (by simp only[ak,ai,ah,cT]) (ck ?_))
 simp only[aU]
 refine aR (cO (aF ?_))
 unfold Qi
 simp only[az,aA,aB,ai,aH,aN,Sz,ak,aD,aw,aq,cT,cF,bF,bS,tA,ah,au,h25,h26,hA,hix]
 refine aR (aR (b7 ?_))
 unfold Qj
 simp only[az,aA,aB,ai,aH,hG,dK,dI,ak,aD,bk,bm,aw,hJ,aq,gI,cT,cF,qS,dS,bS,tA,ah,au,hcl,h59,hsp,aU]
 refine bc (t:=false) (by simp only[ak,ai,ah,cT,cF]) (ck ?_)
 simp only[aU]
 refine aF ?_
 unfold Qk
 simp only[az,aA,aB,ai,aH,cJ,ak,aK,aD,bk,bm,bt,aw,bU,cU,bJ,aq,cT,cF,bF,gD,bS,tA,ah,au,aZ,hcl,aaB,hln]
 refine cO ?_
 refine ja (alW h.is (by omega) hi hmlo l [] _ _ s K V rfl t hlo hm ?_ ?_ ?_ ?_ ?_) ?_
 ·simp only[ai,ah,cF,h9]
 ·simp only[ai,ah,cT,cF]
 ·simp only[ai,ah,cT,cF]
 ·simp only[ai,ah,cT,cF]
 ·simp only[ai,ah,cT,cF];rfl
 rintro x fr s' ⟨rfl,e',lc',rfl,⟨d9,d25,d26⟩,q1,q2,q3,q4,q5⟩
 have d25:ax e' 25=A:=d25.trans (by simp only[ai,ah,cF,h25])
 have d26:ax e' 26= .int .i64 (i:Nat):=d26.trans (by simp only[ai,ah,cF,h26])
 show W (QM sp ch) 76 _ _ _ _
 refine b7 ?_
 unfold P8
 simp only[az,aA,aB,ai,aH,aX,ak,aK,aD,bt,aw,dZ,aq,bf,cT,bF,bS,tA,au,d26,hwr,aU]
 refine hk _ _ s' ?_ ?_ ?_ q1 q2 (by omega) q3 q4 q5
 ·simp only[ai,ah,cF,d9]
 ·simp only[ai,ah,cF,d25]
 ·simp only[ai,ah,cT,cF]
theorem Dr {vb vo vt:aj}:qn Tryz.prog 194 (.agg [vb,vo,vt]) (.int .i64 ((0:Nat):Int))=some vb/\qn Tryz.prog 194 (.agg [vb,vo,vt]) (.int .i64 ((1:Nat):Int))=some vo/\qn Tryz.prog 194 (.agg [vb,vo,vt]) (.int .i64 ((2:Nat):Int))=some vt:=by
 have h: ∀k:Nat,fF (.int .i64 (k:Int))=some k:=fun _=>rfl
 refine⟨?_,?_,?_⟩<;>rw[abm,h,aq,kR]<;>rfl
def jO (b o t:List cz):List ar:=jG t (jG o (jG b []))
def qH (b o t:List cz):ar->List ar:=rq 2 t (rq 1 o (rq 0 b fun _=>[[],[],[]]))
theorem alb (h59:sp 59=some pT) {vb vo vt:aj} {b o t:List cz} (hb:jZ vb b) (ho:jZ vo o) (ht:jZ vt t) {m:Nat} {e:bj} {lc:Ag.Loc} {s:St} (hs:s.get [] m=some (.map [] 0)) (hlo:m<s.next) (hm:s.minw<=s.next) (h9:ax e 9= .map m) (h25:ax e 25= .agg [vb,vo,vt]) (h26:ax e 26= .int .i64 (0:Nat)):
 W (QM sp ch) 76 (.loop vz) ⟨e,136,lc⟩ s fun x fr s'=>x= .exit 0/\ ∃e' lc',fr=⟨e',136,lc'⟩/\ax e' 9= .map m/\TM s' m (m+1) (jO b o t) (qH b o t)/\(∀n,n<m->s'.get [] n=s.get [] n)/\s.next<=s'.next/\s'.minw<=s'.next/\s'.ci=s.ci:=by
 have hA:(aj.agg [vb,vo,vt]).clean=true:=rfl
 have t0:TM s m (m+1) [] fun _=>[[],[],[]]:=⟨fun _=>rfl,List.nodup_nil,fun _ _=>rfl,[],rfl,hs,fun k v h=>(by cases h),fun k k' v h=>(by cases h)⟩
 refine F5 (i:=0) h59 hb (by decide) (io _) hA Dr.1 t0 hlo hm h9 h25 h26 fun e1 l1 s1 a9 a25 a26 t1 a1 a2 a3 a4 a5=>?_
 refine F5 (i:=1) h59 ho (by decide) (io _) hA Dr.2.1 t1 a2 a4 a9 a25 a26 fun e2 l2 s2 b9 b25 b26 t2 b1 b2 b3 b4 b5=>?_
 refine F5 (i:=2) h59 ht (by decide) (io _) hA Dr.2.2 t2 b2 b4 b9 b25 b26 fun e3 l3 s3 c9 c25 c26 t3 c1 c2 c3 c4 c5=>?_
 refine cR ?_
 unfold vz
 refine aF ?_
 unfold EH
 have hlt:dz ((2+1:Nat):Int) 3=false:=rfl
 simp only[az,aA,aB,aX,ak,aK,aD,bt,aw,cQ,aq,bf,cT,bF,tA,au,bE,c26,hlt]
 refine aR (bc (t:=false) (by simp only[ak,ai,ah,cT]) ?_)
 refine eD ⟨rfl,_,_,rfl,?_,t3,fun n hn=>(c1 n hn).trans ((b1 n hn).trans (a1 n hn)),by omega,c4,c5.trans (b5.trans a5)⟩
 simp only[ai,ah,cF,c9]
end
section
variable {sp:FuncId->Option (List aj->Option aj)} {ch:Nat->Nat}
theorem abe {v:aj} {l:List ar} (hl:bC 1 bu v l) (hsmall:l.length<=1000000) {k:ar} {s:St}: ∀(rest pre:List ar) (e:bj) (lc:Ag.Loc),l=pre++rest->pre.elem k=false->
 ax e 0=v->ax e 1= .str k->ax e 7= .int .i64 (l.length:Nat)->ax e 8= .int .i64 (pre.length:Nat)->
 W (QM sp ch) 186 (.loop zr) ⟨e,19,lc⟩ s fun x fr s'=>s'=s/\fr.size=19/\((x= .exit 0/\l.elem k=false)\/(x= .ret/\l.elem k=true/\ ∃i:Nat,ax fr.env 4= .int .i64 i)):=by
 intro rest
 have hcl:=hl.clean
 induction rest with
 |nil=>
  intro pre e lc hpre hp h0 h1 h7 h8
  have hl:l.length=pre.length:=by rw[hpre];simp
  refine cR ?_
  unfold zr
  refine aF ?_
  unfold DG
  simp only[az,aA,aB,aX,ak,aD,aw,cQ,aq,bf,cT,bF,da,tA,au,decide_false,h7,h8,hl,eU]
  refine aR (bc (t:=false) (by simp only[ak,ai,ah,cT, *]) ?_)
  exact eD ⟨rfl,rfl,.inl ⟨rfl,by rw[hpre,iA];exact hp⟩⟩
 |cons q rest ih=>
  intro pre e lc hpre hp h0 h1 h7 h8
  have hlt:pre.length<l.length:=by rw[hpre];simp
  have hat:l[pre.length]? =some q:=by rw[hpre];simp
  have hia:=fun lc=>hl.at lJ hat lc .i64
  have hwr:IntKind.i64.wrap ((pre.length:Int)+1)=((pre.length+1:Nat):Int):=by rw[ew (by omega) (by omega)];omega
  refine cR ?_
  unfold zr
  refine aF ?_
  unfold DG
  simp only[az,aA,aB,aX,ak,aD,aw,cQ,aq,bf,cT,bF,da,tA,au,dT,h7,h8,hlt]
  refine aR (bc (t:=true) (by simp only[ak,ai,ah,cT, *]) (ck ?_))
  simp only[aU]
  refine aR (cO (aF ?_))
  unfold Lq
  simp only[az,aA,aB,ai,aH,aN,ak,aw,cT,cF,bS,tA,ah,au,h8]
  refine aR (b7 ?_)
  unfold Lr
  simp only[az,aA,aB,ai,aH,bo,aX,ek,ak,aD,fQ,aw,jd,kV,aq,cS,cT,cF,bF,a7,bO,bS,tA,ah,au,dH,h0,h1,hia,bu,fQ,aU]
  cases hq:k==q with
  |true=>
   refine bc (t:=true) (by simp only[ak,ai,ah,cT,cF]) (aF ?_)
   unfold Ls
   simp only[az,aA,aB,ai,aH,aN,ak,aw,cT,cF,bS,tA,ah,au]
   refine cd ⟨rfl,rfl,.inr ⟨rfl,?_,pre.length,?_⟩⟩
   ·rw[hpre]
    exact qM (by rw[eq_of_beq hq];simp)
   ·simp only[ai,ah,cT,cF]
  |false=>
   refine bc (t:=false) (by simp only[ak,ai,ah,cT,cF]) (ck ?_)
   simp only[dP,aU]
   refine b7 ?_
   unfold Lu
   simp only[az,aA,aB,ai,aH,aX,ak,aK,aD,bt,aw,dZ,aq,bf,cT,cF,bF,bS,tA,ah,au,h8,hwr,aU]
   refine ih (pre++[q]) _ _ (by rw[hpre];simp) ?_ ?_ ?_ ?_ ?_
   ·cases he:(pre++[q]).elem k with
    |false=>rfl
    |true=>
     have:=qP he
     rcases List.mem_append.1 this with h|h
     ·rw[qM h] at hp;cases hp
     ·simp only[p8] at h
      subst h
      simp at hq
   ·simp only[ai,ah,cF,h0]
   ·simp only[ai,ah,cF,h1]
   ·simp only[ai,ah,cF,h7]
   ·simp only[ai,ah,cT,cF,dp,aP,aW]
theorem W8 (h186:sp 186=none) (h121:sp 121=none) {v:aj} {l:List ar} (hl:bC 1 bu v l) (hsmall:l.length<=1000000) (k:ar) (s:St):bz (QM sp ch) 121 [v,.str k] s (.bool (l.elem k)) s:=by
 have hcl:=hl.clean
 have hln:=fun mk s=>hl.len iI iW mk s
 have h1: ∃i:Int,bz (QM sp ch) 186 [v,.str k] s (.int .i64 i) s/\iG 0 i=l.elem k:=by
  have hrun: ∃w s',bz (QM sp ch) 186 [v,.str k] s w s'/\(s'=s/\ ∃i:Int,w= .int .i64 i/\iG 0 i=l.elem k):=by
   refine bz.ofEx ac1 ac0 ac3 ac2 h186 ?_
   unfold Lm
   refine aF ?_
   unfold Ln
   simp only[dt,cY,az,aA,aB,aN,aK,aw,cT,aP,aW,tA,aQ,au,bE,cm,cj,dT,ofValue,fH]
   refine aR (aR (b7 ?_))
   unfold Lp
   simp only[az,aA,aB,ai,aH,cJ,ak,aK,aD,bk,bm,bt,aw,bU,cU,bJ,aq,cT,cF,bF,gD,bS,tA,ah,au,aZ,Zv,hcl,hln,aU]
   refine cO ?_
   refine ja (abe (k:=k) hl hsmall l [] _ _ rfl rfl ?_ ?_ ?_ ?_) ?_
   ·simp only[ai,ah,cT,cF]
   ·simp only[ai,ah,cT,cF]
   ·simp only[ai,ah,cT,cF]
   ·simp only[ai,ah,cT,cF];rfl
   rintro x fr s' ⟨rfl,hz,⟨rfl,he⟩|⟨rfl,he,i,hi⟩⟩
   ·obtain⟨e',z,lc'⟩:=fr
    have hz:z=19:=hz
    subst hz
    show W (QM sp ch) 186 _ _ _ _
    refine aF ?_
    unfold Lv
    simp only[az,aA,aB,aN,aK,bt,aw,tA,au]
    refine cd ⟨.inr rfl,.int .i64 (-1),cE ?_ rfl,rfl, -1,rfl,by rw[he];rfl⟩
    simp only[ai,ah,cT]
   ·refine⟨.inr rfl,.int .i64 i,cE hi rfl,rfl,i,rfl,?_⟩
    rw[he]
    have:=sj 0 i
    rw[show((0:Nat):Int)=0 from rfl] at this
    rw[this];exact decide_eq_true (iB _)
  obtain⟨w,s',r1,rfl,i,rfl,r2⟩:=hrun
  exact⟨i,r1,r2⟩
 obtain⟨i,hr,hi⟩:=h1
 refine bz.of2 acf ace ach acg h121 ?_
 unfold J7
 refine aF ?_
 unfold J8
 simp only[dt,cY,az,aA,aB,aN,aK,aw,cT,aP,aW,tA,aQ,au,bE,cm,cj,dT,ofValue,fH]
 refine aR (gh (fU 2 ?_))
 unfold J9
 simp only[az,aA,aB,ai,aH,ak,aw,cT,cF,bN,a7,bS,tA,ah,au]
 refine fY (g:=186) (args:=[v,.str k]) ?_ hr (by decide) ?_
 ·simp only[callee,ai,ak,ff,aD,bk,bm,aq,cS,cT,cF,cq,cH,bS,ah,hcl]
 refine fX ?_
 simp only[az,aA,aB,ai,aN,aX,ak,aK,aD,bt,aw,nK,aq,bf,cT,cF,bF,bS,tA,ah,au,hi,aU]
 refine cd ⟨rfl,.inr rfl,cE ?_ rfl⟩
 simp only[ai,ah,cT,cF]
end
structure kH (lo:Nat) (s:St) (ov cv:aj) (xs:List cz) (ys:List ar):Prop where
 l:gi 2 lo s ov (xs.map eC)
 r:gi 1 lo s cv (ys.map bu)
 ne: ∀k,ov= .list 2 (xs.map eC) (.own k)->cv= .list 1 (ys.map bu) (.own k)->False
theorem BS {t:TypeId} {E:EI} {sz lo:Nat} (hE:jp Tryz.prog t=some E) (hn:E.n=sz) (hb:E.b<=88) {s:St} {ov y:aj} {xs ys:List aj} (h:gi sz lo s ov xs) (hy:j2 [] E.g E.n y s=some ys) (hne:ys≠ []) (hlen:xs.length+ys.length<=1000000) (hm:s.minw<=s.next):
 ∃s',jN Tryz.prog [] t ov y false s=some (.list sz (xs++ys) (.own s.next),s')/\s'.get [] s.next=some .tok/\s'.ci=s.ci/\s'.next=s.next+1/\s'.minw<=s'.next/\(∀n,n<s.next->(∀k,ov= .list sz xs (.own k)->n≠k)->s'.get [] n=s.get [] n):=by
 subst hn
 have hov:xn ov=true/\ov.cells=[ov]:=by rcases h with⟨rfl,_⟩|⟨_,k,rfl,_⟩<;>exact⟨rfl,rfl⟩
 cases ys with
 |nil=>exact absurd rfl hne
 |cons y0 ys=>
  rcases h with⟨rfl,rfl⟩|⟨hne,k,rfl,hk,h5,h6⟩
  ·have hr:lk (y0::ys).length E.b=true:=uj (by simpa using hlen) hb
   refine⟨s.new .tok,?_,by rw[df,bS];rfl,rfl,rfl,kC hm,fun n hn' _=>?_⟩
   ·simp only[jN,hE,aq,hy,lA,kr,hr,cT,cF,cq]
   ·rw[df,beq_eq_false_iff_ne.2 (by omega)];rfl
  ·have hr:lk (xs.length+(y0::ys).length) E.b=true:=uj hlen hb
   refine⟨(s.put k none).new .tok,?_,by rw[df,pH,bS];rfl,rfl,rfl,kC (jJ s k none hm),fun n hn' hnk=>?_⟩
   ·simp only[jN,hE,aq,hy,lA,hk,hr,aZ,bS,gf,cT]
   ·rw[df,pH,beq_eq_false_iff_ne.2 (by omega),cF,cI,beq_eq_false_iff_ne.2 (hnk k rfl)];rfl
theorem gi.token {sz lo:Nat} {s:St} {ov:aj} {xs:List aj} (h:gi sz lo s ov xs) {k:Nat} (hk:ov= .list sz xs (.own k)):lo<=k/\k<s.next/\s.get [] k=some .tok:=by
 rcases h with⟨rfl,_⟩|⟨_,k',rfl,h1,h2,h3⟩
 ·cases hk
 ·injection hk with _ _ h;injection h with h;subst h;exact⟨h2,h3,h1⟩
theorem kH.left {lo:Nat} {s:St} {ov cv:aj} {xs:List cz} {ys:List ar} (h:kH lo s ov cv xs ys) (hm:s.minw<=s.next) (hlo:lo<=s.next) (hlen:xs.length<=1000) (x:cz):
 ∃ov' s',jN Tryz.prog [] 38 ov (.list 2 [.agg [.str x.1,.str x.2]] .full) false s=some (ov',s')/\kH lo s' ov' cv (xs++[x]) ys/\s'.ci=s.ci/\s.next<=s'.next/\s'.minw<=s'.next/\ov'.clean=true/\ ∀n,n<lo->s'.get [] n=s.get [] n:=by
 obtain⟨s',a1,a2,a3,a4,a5,a6⟩:=BS HV rfl (by decide) (y:=.list 2 [.agg [.str x.1,.str x.2]] .full) (ys:=[eC x]) h.l rfl (by simp) (by rw[eH,o9];omega) hm
 refine⟨_,s',a1,⟨.inr ⟨by simp,s.next,by rw[kB];rfl,a2,hlo,by omega⟩,?_,fun k h1 h2=>?_⟩,a3,by omega,a5,rfl,fun n hn=>a6 n (by omega) fun k hk=>by have:=(h.l.token hk).1;omega⟩
 ·rcases h.r with h0|⟨h1,k,h2,h3,h4,h5⟩
  ·exact .inl h0
  ·refine .inr ⟨h1,k,h2,(a6 k h5 fun k' hk' e=>?_).trans h3,h4,by omega⟩
   subst e
   exact h.ne k hk' h2
 ·injection h1 with _ _ h1;injection h1 with h1
  have:=(h.r.token h2).2.1
  omega
theorem kH.right {lo:Nat} {s:St} {ov cv:aj} {xs:List cz} {ys:List ar} (h:kH lo s ov cv xs ys) (hm:s.minw<=s.next) (hlo:lo<=s.next) (hlen:ys.length<=1000) (y:ar):
 ∃cv' s',jN Tryz.prog [] 37 cv (.list 1 [.str y] .full) false s=some (cv',s')/\kH lo s' ov cv' xs (ys++[y])/\s'.ci=s.ci/\s.next<=s'.next/\s'.minw<=s'.next/\cv'.clean=true/\ ∀n,n<lo->s'.get [] n=s.get [] n:=by
 obtain⟨s',a1,a2,a3,a4,a5,a6⟩:=BS qj rfl (by decide) (y:=.list 1 [.str y] .full) (ys:=[bu y]) h.r rfl (by simp) (by rw[eH,o9];omega) hm
 refine⟨_,s',a1,⟨?_,.inr ⟨by simp,s.next,by rw[kB];rfl,a2,hlo,by omega⟩,fun k h1 h2=>?_⟩,a3,by omega,a5,rfl,fun n hn=>a6 n (by omega) fun k hk=>by have:=(h.r.token hk).1;omega⟩
 ·rcases h.l with h0|⟨h1,k,h2,h3,h4,h5⟩
  ·exact .inl h0
  ·refine .inr ⟨h1,k,h2,(a6 k h5 fun k' hk' e=>?_).trans h3,h4,by omega⟩
   subst e
   exact h.ne k h2 hk'
 ·injection h2 with _ _ h2;injection h2 with h2
  have:=(h.l.token h1).2.1
  omega
theorem Cv (a b c a' b' c':List UInt8):fy Tryz.prog .eql 197 (.agg [.str a,.str b,.str c]) (.agg [.str a',.str b',.str c'])=some (.bool (a==a'&&(b==b'&&c==c'))):=by
 have h:fy Tryz.prog .eql 197 (.agg [.str a,.str b,.str c]) (.agg [.str a',.str b',.str c'])=((some (a==a')).bind fun r=>bif r then(some (b==b')).bind fun r=>bif r then(some (c==c')).bind fun r=>bif r then some true else some false else some false else some false).bind fun r=>some (.bool r):=by kernel_rfl
 rw[h]
 cases a==a'<;>cases b==b'<;>cases c==c'<;>rfl
theorem BW {e:bj} {x y z:Operand} {a b c:ar} (hx:ev e x=some (.str a)) (hy:ev e y=some (.str b)) (hz:ev e z=some (.str c)):gm Tryz.prog 197 [(0,x),(1,y),(2,z)] e=some (.agg [.str a,.str b,.str c]):=by
 rw[VG]
 simp only[GD,aq,dQ,evc,hx,hy,hz,cS,cT]
 rfl
theorem Hn {e:bj} {x:Operand} {a:ar} (hx:ev e x=some (.str a)) (s:St):dV Tryz.prog 37 1 [(0,x)] false e s=some (.list 1 [.str a] .full,s):=by
 simp only[dV,qj,aq,dQ,evc,hx,aj.clean,cT,gd,aj.cells,aP,aW,cV,Nat.zero_mul,aQ,jt,ip,cut]
 rfl
theorem VY {e:bj} {x:Operand} {a b:ar} (hx:ev e x=some (.agg [.str a,.str b])) (s:St):dV Tryz.prog 38 1 [(0,x)] false e s=some (.list 2 [.agg [.str a,.str b]] .full,s):=by
 simp only[dV,HV,aq,dQ,evc,hx,aj.clean,cT,gd,aj.cells,aP,aW,cV,Nat.zero_mul,aQ,bE,jt,ip,cut]
 rfl
theorem VL {e:bj} {x y:Operand} {a b:ar} (hx:ev e x=some (.str a)) (hy:ev e y=some (.str b)):gm Tryz.prog 51 [(0,x),(1,y)] e=some (.agg [.str a,.str b]):=by
 rw[VK]
 simp only[Bi,aq,dQ,evc,hx,hy,cS,cT]
 rfl
def j3 (a b c:ar):Option ar:=bif c==b||c==a then some b else bif b==a then some c else none
def mD (k a b c:ar) (ys:List ar):List ar:=match j3 a b c with
 |some _=>ys
 |none=>ys++[k]
def kS (k v:ar) (xs:List cz) (ys:List ar):List cz×List ar:=
 bif v== [] then(xs,ys) else bif decide (xs.length<60) then(xs++[(k,v)],ys) else bif ys.elem k then(xs,ys) else(xs,ys++[k])
noncomputable def P1:SC:=(.seq (.seq (.region Ez)
 (.cond (aa 78) .skip (.region EA)))
 (.cond (aa 78) (.region zV) (.seq (.region zW)
 (.cond (aa 99) (.region zX) (.region zU)))))
noncomputable def P2:SC:=(.seq (.region EB)
 (.cond (aa 111) .skip (.seq (.region EC)
 (.cond (aa 114) (.region ED) (.seq (.region EE)
 (.cond (aa 124) (.region EF) .skip))))))
section
variable {sp:FuncId->Option (List aj->Option aj)} {ch:Nat->Nat}
theorem zc (lc:Ag.Loc) (l g o:Nat):iH Tryz.prog lc 197 (.lref l g o) (.int .i64 0)=bif be (lc.gen l) g then some (.lref l g (o+0*1)) else none:=by rw[Dh];rfl
theorem Dg (lc:Ag.Loc) (l g o:Nat):iH Tryz.prog lc 197 (.lref l g o) (.int .i64 1)=bif be (lc.gen l) g then some (.lref l g (o+1*1)) else none:=by rw[Dh];rfl
theorem IY (lc:Ag.Loc) (l g o:Nat):iH Tryz.prog lc 197 (.lref l g o) (.int .i64 2)=bif be (lc.gen l) g then some (.lref l g (o+2*1)) else none:=by rw[Dh];rfl
theorem alI {e:bj} {lc:Ag.Loc} {s:St} {lo g:Nat} {ov cv:aj} {xs:List cz} {ys:List ar} {k a b c:ar} {P:Ex->Fr->St->Prop} (t:kH lo s ov cv xs ys) (hm:s.minw<=s.next) (hlo:lo<=s.next) (hlen:ys.length<=1000)
 (h14:ax e 14=ov) (h15:ax e 15=cv) (h17:ax e 17= .str k) (h18:ax e 18= .lref 18 g 0) (h19:ax e 19= .str a) (hg:lc.gen 18=g) (hl:lc.get 18 g=some [.str a,.str b,.str c])
 (hk: ∀(e':bj) (s':St) (cv':aj),ax e' 9=ax e 9->ax e' 14=ov->ax e' 15=cv'->ax e' 17= .str k->ax e' 19= .str ((j3 a b c).getD a)->ax e' 61=ax e 61->ax e' 62=ax e 62->ax e' 63=ax e 63->kH lo s' ov cv' xs (mD k a b c ys)->s'.ci=s.ci->s.next<=s'.next->s'.minw<=s'.next->(∀n,n<lo->s'.get [] n=s.get [] n)->P .normal ⟨e',136,lc⟩ s'):
 W (QM sp ch) 76 P1 ⟨e,136,lc⟩ s P:=by
 have hcc:=t.r.clean
 have hb1: ∀e,ax e 81= .str a->ax e 83= .str b->ax e 85= .str b->gm Tryz.prog 197 [(0,.tmp 81),(1,.tmp 83),(2,.tmp 85)] e=some (.agg [.str a,.str b,.str b]):=fun e p q r=>BW (by rw[ak,p]) (by rw[ak,q]) (by rw[ak,r])
 have hb2: ∀e,ax e 90= .str a->ax e 92= .str b->ax e 94= .str a->gm Tryz.prog 197 [(0,.tmp 90),(1,.tmp 92),(2,.tmp 94)] e=some (.agg [.str a,.str b,.str a]):=fun e p q r=>BW (by rw[ak,p]) (by rw[ak,q]) (by rw[ak,r])
 have hb3: ∀e,ax e 102= .str a->ax e 104= .str a->ax e 106= .str c->gm Tryz.prog 197 [(0,.tmp 102),(1,.tmp 104),(2,.tmp 106)] e=some (.agg [.str a,.str a,.str c]):=fun e p q r=>BW (by rw[ak,p]) (by rw[ak,q]) (by rw[ak,r])
 have hsl: ∀e s,ax e 75= .str k->dV Tryz.prog 37 1 [(0,.tmp 75)] false e s=some (.list 1 [.str k] .full,s):=fun e s h=>Hn (by rw[ak,h]) s
 unfold P1
 refine aR (aR (b7 ?_))
 unfold Ez
 simp only[az,aA,aB,ai,aN,lf,bo,aX,ek,ak,aK,aD,bt,cx,aw,aq,cK,cT,cF,bF,aP,aW,cut,bN,a7,bO,bS,tA,aQ,dc,ah,au,bE,jt,i9,aZ,AK,dH,h18,hg,hl,zc,Dg,hb1,Cv,aU]
 have tail: ∀(e1:bj),ax e1 9=ax e 9->ax e1 14=ax e 14->ax e1 15=ax e 15->ax e1 17=ax e 17->ax e1 18=ax e 18->ax e1 19=ax e 19->ax e1 61=ax e 61->ax e1 62=ax e 62->ax e1 63=ax e 63->ax e1 78= .bool (c==b||c==a)->
  W (QM sp ch) 76 (.cond (aa 78) (.region zV) (.seq (.region zW) (.cond (aa 99) (.region zX) (.region zU)))) ⟨e1,136,lc⟩ s P:=by
  intro e1 g9 g14 g15 g17 g18 g19 g61 g62 g63 g78
  rw[h14] at g14
  rw[h15] at g15
  rw[h17] at g17
  rw[h18] at g18
  rw[h19] at g19
  cases hz:c==b||c==a with
  |true=>
   have hp:j3 a b c=some b:=by simp only[j3,hz,cT]
   rw[hz] at g78
   refine bc (t:=true) (by rw[ak,g78]) (b7 ?_)
   unfold zV
   simp only[az,aA,aB,ai,aN,bo,ek,ak,aK,bt,cx,aw,aq,cT,cF,bF,a7,bO,bS,tA,aQ,ah,au,jt,aZ,dH,g18,hg,hl,Dg]
   refine hk _ s cv ?_ ?_ ?_ ?_ ?_ ?_ ?_ ?_ (by simp only[mD,hp];exact t) rfl (bB _) hm fun _ _=>rfl
   all_goals simp only[ai,ah,cT,cF,g9,g14,g15,g17,g61,g62,g63,hp,pc]
  |false=>
   rw[hz] at g78
   refine bc (t:=false) (by rw[ak,g78]) (aF ?_)
   unfold zW
   simp only[az,aA,aB,ai,aN,lf,bo,aX,ek,ak,aK,aD,bt,cx,aw,aq,cK,cT,cF,bF,aP,aW,cut,bN,a7,bO,bS,tA,aQ,dc,ah,au,bE,jt,i9,dY,aZ,AK,dH,g18,hg,hl,zc,IY,hb3,Cv]
   cases hy:b==a with
   |true=>
    have hp:j3 a b c=some c:=by simp only[j3,hz,hy,cT,cF]
    refine bc (t:=true) (by simp only[ak,ai,ah,cT,cF,bS]) (b7 ?_)
    unfold zX
    simp only[az,aA,aB,ai,aN,bo,ek,ak,aK,bt,cx,aw,aq,cT,cF,bF,a7,bO,bS,tA,aQ,ah,au,jt,aZ,dH,g18,hg,hl,IY]
    refine hk _ s cv ?_ ?_ ?_ ?_ ?_ ?_ ?_ ?_ (by simp only[mD,hp];exact t) rfl (bB _) hm fun _ _=>rfl
    all_goals simp only[ai,ah,cT,cF,g9,g14,g15,g17,g61,g62,g63,hp,pc]
   |false=>
    have hp:j3 a b c=none:=by simp only[j3,hz,hy,cF]
    obtain⟨cv',s',r1,r2,r3,r4,r5,r6,r7⟩:=t.right hm hlo hlen k
    refine bc (t:=false) (by simp only[ak,ai,ah,cT,cF]) (b7 ?_)
    unfold zU
    simp only[az,aA,aB,ai,aH,aN,lg,cJ,ak,aD,bk,bm,aw,bU,oI,bJ,aq,jm,cT,cF,bF,gD,bS,tA,ah,au,aZ,vq,g15,g17,hcc,aaD,aaE,hsl,r1]
    refine hk _ s' cv' ?_ ?_ ?_ ?_ ?_ ?_ ?_ ?_ (by simp only[mD,hp];exact r2) r3 r4 r5 r7
    all_goals simp only[ai,ah,cT,cF,g9,g14,g17,g19,g61,g62,g63,hp,Option.getD_none]
 cases hz:c==b with
 |true=>
  refine bc (t:=true) (by simp only[ak,ai,ah,cT,cF,bS]) (ck ?_)
  simp only[aU]
  refine tail _ ?_ ?_ ?_ ?_ ?_ ?_ ?_ ?_ ?_ ?_
  all_goals simp only[ai,ah,cT,cF,hz,bS,Bool.true_or]
 |false=>
  refine bc (t:=false) (by simp only[ak,ai,ah,cT,cF]) (b7 ?_)
  unfold EA
  simp only[az,aA,aB,ai,aN,lf,bo,aX,ek,ak,aK,aD,bt,cx,aw,aq,cK,cT,cF,bF,aP,aW,cut,bN,a7,bO,bS,tA,aQ,dc,ah,au,bE,jt,i9,aZ,AK,dH,h18,hg,hl,zc,Dg,hb2,Cv,aU]
  refine tail _ ?_ ?_ ?_ ?_ ?_ ?_ ?_ ?_ ?_ ?_
  all_goals simp only[ai,ah,cT,cF,hz,bS,Bool.false_or]
end
theorem kH.isR {lo:Nat} {s:St} {ov cv:aj} {xs:List cz} {ys:List ar} (t:kH lo s ov cv xs ys):bC 1 bu cv ys:=by
 rcases t.r with⟨h1,h2⟩|⟨_,k,h1,_⟩
 ·exact .inl ⟨h1,List.map_eq_nil_iff.1 h2⟩
 ·exact .inr ⟨_,h1⟩
theorem kH.isL {lo:Nat} {s:St} {ov cv:aj} {xs:List cz} {ys:List ar} (t:kH lo s ov cv xs ys):bC 2 eC ov xs:=by
 rcases t.l with⟨h1,h2⟩|⟨_,k,h1,_⟩
 ·exact .inl ⟨h1,List.map_eq_nil_iff.1 h2⟩
 ·exact .inr ⟨_,h1⟩
section
variable {sp:FuncId->Option (List aj->Option aj)} {ch:Nat->Nat}
theorem alJ (h186:sp 186=none) (h121:sp 121=none) {e:bj} {lc:Ag.Loc} {s:St} {lo:Nat} {ov cv:aj} {xs:List cz} {ys:List ar} {k v:ar} {P:Ex->Fr->St->Prop} (t:kH lo s ov cv xs ys) (hm:s.minw<=s.next) (hlo:lo<=s.next) (hlen:ys.length<=1000) (hlx:xs.length<=60)
 (h14:ax e 14=ov) (h15:ax e 15=cv) (h17:ax e 17= .str k) (h19:ax e 19= .str v)
 (hk: ∀(e':bj) (s':St) (ov' cv':aj),ax e' 9=ax e 9->ax e' 14=ov'->ax e' 15=cv'->ax e' 61=ax e 61->ax e' 62=ax e 62->ax e' 63=ax e 63->kH lo s' ov' cv' (kS k v xs ys).1 (kS k v xs ys).2->s'.ci=s.ci->s.next<=s'.next->s'.minw<=s'.next->(∀n,n<lo->s'.get [] n=s.get [] n)->P .normal ⟨e',136,lc⟩ s'):
 W (QM sp ch) 76 P2 ⟨e,136,lc⟩ s P:=by
 have hcc:=t.r.clean
 have hco:=t.l.clean
 have hln:=fun mk s=>t.isL.len pD pC mk s
 have hcon:=W8 (ch:=ch) h186 h121 t.isR (by omega) k s
 have hbd: ∀e,ax e 119= .str k->ax e 120= .str v->gm Tryz.prog 51 [(0,.tmp 119),(1,.tmp 120)] e=some (.agg [.str k,.str v]):=fun e p q=>VL (by rw[ak,p]) (by rw[ak,q])
 have hsl: ∀e s,ax e 130= .str k->dV Tryz.prog 37 1 [(0,.tmp 130)] false e s=some (.list 1 [.str k] .full,s):=fun e s h=>Hn (by rw[ak,h]) s
 have hsl2: ∀e s,ax e 121= .agg [.str k,.str v]->dV Tryz.prog 38 1 [(0,.tmp 121)] false e s=some (.list 2 [.agg [.str k,.str v]] .full,s):=fun e s h=>VY (by rw[ak,h]) s
 unfold P2
 refine aF ?_
 unfold EB
 simp only[az,aA,aB,ai,aH,aN,aX,ak,aK,aD,jB,aw,jd,aq,cS,cT,cF,bF,bS,tA,ah,au,h19]
 cases hv:v== [] with
 |true=>
  have hp:kS k v xs ys=(xs,ys):=by simp only[kS,hv,cT]
  refine bc (t:=true) (by simp only[ak,ai,ah,cT,cF]) (ck ?_)
  refine hk _ s ov cv ?_ ?_ ?_ ?_ ?_ ?_ (by rw[hp];exact t) rfl (bB _) hm fun _ _=>rfl
  all_goals simp only[ai,ah,cF,h14,h15]
 |false=>
  refine bc (t:=false) (by simp only[ak,ai,ah,cT,cF]) (aF ?_)
  unfold EC
  have hlt:dz ((xs.length:Nat):Int) 60=decide (xs.length<60):=da xs.length 60
  simp only[az,aA,aB,ai,aH,aN,aX,cJ,ak,aK,aD,bk,bm,bt,aw,bU,cQ,cU,bJ,aq,bf,cT,cF,bF,gD,bS,tA,ah,au,aZ,h14,hco,aau,hln,hlt]
  by_cases h60:xs.length<60
  ·have hp:kS k v xs ys=(xs++[(k,v)],ys):=by simp only[kS,hv,decide_eq_true h60,cT,cF]
   obtain⟨ov',s',r1,r2,r3,r4,r5,r6,r7⟩:=t.left hm hlo (by omega) (k,v)
   refine bc (t:=true) (by simp only[ak,ai,ah,cT,cF,decide_eq_true h60]) (b7 ?_)
   unfold ED
   simp only[az,aA,aB,ai,aH,aN,lf,lg,cJ,ak,aD,bk,bm,aw,bU,oI,bJ,aq,jm,cT,cF,bF,gD,bS,tA,ah,au,aZ,abl,h14,h17,h19,hco,hbd,aav,aaw,hsl2,r1]
   refine hk _ s' ov' cv ?_ ?_ ?_ ?_ ?_ ?_ (by rw[hp];exact r2) r3 r4 r5 r7
   all_goals simp only[ai,ah,cT,cF,h15]
  ·refine bc (t:=false) (by simp only[ak,ai,ah,cT,cF,decide_eq_false h60]) (aR (gh (fU 2 ?_)))
   unfold EE
   simp only[az,aA,aB,ai,aH,ak,aw,cF,bN,a7,tA,ah,au,h15,h17]
   refine fY (g:=121) (args:=[cv,.str k]) ?_ hcon (by decide) ?_
   ·simp only[callee,ai,ak,ff,aD,bk,bm,aq,cS,cT,cF,cq,cH,bS,ah,hcc]
   refine fX ?_
   simp only[az,aA,aB,ai,aN,hG,ak,aD,aw,hJ,aq,gI,cT,cF,bS,tA,ah,au,aU]
   cases he:ys.elem k with
   |true=>
    have hp:kS k v xs ys=(xs,ys):=by simp only[kS,hv,decide_eq_false h60,he,cT,cF]
    refine bc (t:=false) (by simp only[ak,ai,ah,cT,cF,dS]) (ck ?_)
    refine hk _ s ov cv ?_ ?_ ?_ ?_ ?_ ?_ (by rw[hp];exact t) rfl (bB _) hm fun _ _=>rfl
    all_goals simp only[ai,ah,cF,h14,h15]
   |false=>
    have hp:kS k v xs ys=(xs,ys++[k]):=by simp only[kS,hv,decide_eq_false h60,he,cF]
    obtain⟨cv',s',r1,r2,r3,r4,r5,r6,r7⟩:=t.right hm hlo hlen k
    refine bc (t:=true) (by simp only[ak,ai,ah,cT,cF,gU]) (b7 ?_)
    unfold EF
    simp only[az,aA,aB,ai,aH,aN,lg,cJ,ak,aD,bk,bm,aw,bU,oI,bJ,aq,jm,cT,cF,bF,gD,gU,bS,tA,ah,au,aZ,vq,h15,h17,hcc,aay,aaz,hsl,r1]
    refine hk _ s' ov cv' ?_ ?_ ?_ ?_ ?_ ?_ (by rw[hp];exact r2) r3 r4 r5 r7
    all_goals simp only[ai,ah,cT,cF,h14]
end
def mE (V:ar->List ar) (k:ar) (st:List cz×List ar):List cz×List ar:=match V k with
 | [a,b,c]=>kS k ((j3 a b c).getD a) st.1 (mD k a b c st.2)
 |_=>st
def j6 (V:ar->List ar) (ks:List ar) (st:List cz×List ar):List cz×List ar:=ks.foldl (fun st k=>mE V k st) st
theorem TV {k v:ar} {xs:List cz} {ys:List ar} (hx:xs.length<=60):(kS k v xs ys).1.length<=60/\(kS k v xs ys).2.length<=ys.length+1:=by
 unfold kS
 cases v== [] with
 |true=>exact⟨hx,ka _⟩
 |false=>
  by_cases h:xs.length<60
  ·simp only[cF,decide_eq_true h,cT,dp,aP,aW];omega
  ·simp only[cF,decide_eq_false h]
   cases ys.elem k with
   |true=>exact⟨hx,ka _⟩
   |false=>simp only[cF,dp,aP,aW];omega
theorem alM {V:ar->List ar} {k:ar} {st:List cz×List ar} (hx:st.1.length<=60):(mE V k st).1.length<=60/\(mE V k st).2.length<=st.2.length+2:=by
 unfold mE
 split
 ·rename_i a b c _
  have h:=TV (k:=k) (v:=(j3 a b c).getD a) (ys:=mD k a b c st.2) hx
  have h2:(mD k a b c st.2).length<=st.2.length+1:=by
   unfold mD
   cases j3 a b c with
   |none=>simp
   |some _=>exact ka _
  exact⟨h.1,by omega⟩
 ·exact⟨hx,by omega⟩
theorem TM.keep {s s':St} {m lo:Nat} {K:List ar} {V:ar->List ar} (t:TM s m lo K V) (hm:m<s.next) (hg: ∀n,n<s.next->s'.get [] n=s.get [] n) (hn:s.next<=s'.next):TM s' m lo K V:=by
 obtain⟨L,h1,h2,h3,h4⟩:=t.ex
 refine⟨t.len,t.fits,t.noV,L,h1,(hg m hm).trans h2,fun k v hv=>?_,h4⟩
 obtain⟨r,a,b,c,d⟩:=h3 k v hv
 exact⟨r,a,b,by omega,(hg r c).trans d⟩
theorem al0 {l:List ar} (h:l.length=3): ∃a b c,l=[a,b,c]:=by
 match l,h with
 | [a,b,c],_=>exact⟨a,b,c,rfl⟩
section
variable {sp:FuncId->Option (List aj->Option aj)} {ch:Nat->Nat}
theorem ahs (h186:sp 186=none) (h121:sp 121=none) {s0:St} {m lo0 rk:Nat} {K ks:List ar} {V:ar->List ar} (t0:TM s0 m lo0 K V) (hm0:m<s0.next) (hrk:rk<s0.next) (hrow:s0.get [] rk=some (.cells (ks.map bu))) (hks: ∀k∈ks,k∈K) (hlen:ks.length<=300):
 ∀(rest pre:List ar) (e:bj) (lc:Ag.Loc) (s:St) (ov cv:aj) (xs:List cz) (ys:List ar),ks=pre++rest->kH s0.next s ov cv xs ys->xs.length<=60->ys.length<=2*pre.length->s.minw<=s.next->s0.next<=s.next->(∀n,n<s0.next->s.get [] n=s0.get [] n)->
 ax e 9= .map m->ax e 14=ov->ax e 15=cv->ax e 61= .arr 1 rk 0 ks.length ks.length->ax e 62= .int .i64 (ks.length:Nat)->ax e 63= .int .i64 (pre.length:Nat)->
 W (QM sp ch) 76 (.loop xz) ⟨e,136,lc⟩ s fun x fr s'=>x= .exit 4/\ ∃e' lc' ov' cv',fr=⟨e',136,lc'⟩/\ax e' 14=ov'/\ax e' 15=cv'/\kH s0.next s' ov' cv' (j6 V rest (xs,ys)).1 (j6 V rest (xs,ys)).2/\s'.ci=s.ci:=by
 intro rest
 induction rest with
 |nil=>
  intro pre e lc s ov cv xs ys hpre two hx hy hm hn hold h9 h14 h15 h61 h62 h63
  have hl:ks.length=pre.length:=by rw[hpre];simp
  refine cR ?_
  unfold xz
  refine aF ?_
  unfold zT
  simp only[az,aA,aB,aX,ak,aD,aw,cQ,aq,bf,cT,bF,da,tA,au,decide_false,h62,h63,hl,eU]
  refine aR (bc (t:=false) (by simp only[ak,ai,ah,cT]) ?_)
  refine eD ⟨rfl,_,_,ov,cv,rfl,?_,?_,two,rfl⟩
  ·simp only[ai,ah,cF,h14]
  ·simp only[ai,ah,cF,h15]
 |cons k rest ih=>
  intro pre e lc s ov cv xs ys hpre two hx hy hm hn hold h9 h14 h15 h61 h62 h63
  have hlt:pre.length<ks.length:=by rw[hpre];simp
  have hwr:IntKind.i64.wrap ((pre.length:Int)+1)=((pre.length+1:Nat):Int):=by rw[ew (by omega) (by omega)];omega
  have hrd:((ks.map bu).drop pre.length).head?=some (.str k):=by rw[hpre,kB,List.drop_left' (by simp)];rfl
  have hgr:s.get [] rk=some (.cells (ks.map bu)):=(hold rk hrk).trans hrow
  have t:=t0.keep hm0 hold hn
  obtain⟨r,r1,r2,r3,r4,_⟩:=t.row (hks k (by rw[hpre];simp))
  obtain⟨a,b,c,habc⟩:=al0 (t0.len k)
  rw[habc] at r3
  simp only[fw,List.map_nil,bu] at r3
  have hst:j6 V (k::rest) (xs,ys)=j6 V rest (kS k ((j3 a b c).getD a) xs (mD k a b c ys)):=by
   simp only[j6,uz,mE,habc]
  have hconf:(mD k a b c ys).length<=ys.length+1:=by
   unfold mD
   cases j3 a b c with
   |none=>simp
   |some _=>exact ka _
  have hle:=TV (k:=k) (v:=(j3 a b c).getD a) (ys:=mD k a b c ys) hx
  refine cR ?_
  unfold xz
  refine aF ?_
  unfold zT
  simp only[az,aA,aB,aX,ak,aD,aw,cQ,aq,bf,cT,bF,da,tA,au,dT,h62,h63,hlt]
  refine aR (bc (t:=true) (by simp only[ak,ai,ah,cT]) (ck ?_))
  simp only[aU]
  refine aR (cO (aF ?_))
  unfold Qd
  simp only[az,aA,aB,ai,aN,bo,ek,ak,sF,aw,aq,cT,cF,bS,tA,aQ,ah,au,i9,aZ,dl,dT,bF,I1,h61,h63,hlt,Nat.mul_one,dv,hgr,du,dH,hrd]
  refine aF ?_
  unfold Qe
  simp only[az,aA,ej,aB,ep,ai,bR,jz,aH,gZ,bo,ez,lQ,fI,ak,aD,gl,aw,bJ,dC,ix,aq,cS,cK,fZ,cT,cF,bF,gD,aP,aW,cut,cV,bN,a7,eR,cq,cH,bS,tA,aQ,ah,au,bE,cm,dY,aZ,dl,cj,dT,h9,r4,fG,dv,r3,du,AK,aaA,GD,alA]
  refine aF ?_
  unfold Qf
  simp only[az,aA,aB,ai,cM,bR,aN,bo,ek,ak,aK,bt,cx,aw,aq,cT,cF,bF,a7,bO,bS,tA,dc,ah,au,jt,aZ,dH,zc]
  refine aR (cO ?_)
  refine alI (g:=lc.gen 18+1) (k:=k) (a:=a) (b:=b) (c:=c) two hm hn (by omega) ?_ ?_ ?_ ?_ ?_ ?_ ?_ ?_
  ·simp only[ai,ah,cF,h14]
  ·simp only[ai,ah,cF,h15]
  ·simp only[ai,ah,cT,cF]
  ·simp only[ai,ah,cT,cF]
  ·simp only[ai,ah,cT,cF]
  ·simp only[cM,ah,cT]
  ·simp only[bR,cT,bS]
  intro e1 s1 cv1 g9 g14 g15 g17 g19 g61 g62 g63 two1 c1 n1 m1 o1
  simp only[ai,ah,cF] at g9 g61 g62 g63
  simp only[dP,aU]
  refine cO ?_
  refine alJ (k:=k) (v:=(j3 a b c).getD a) h186 h121 two1 m1 (by omega) (by omega) hx g14 g15 g17 g19 ?_
  intro e2 s2 ov2 cv2 f9 f14 f15 f61 f62 f63 two2 c2 n2 m2 o2
  simp only[dP,aU]
  refine b7 ?_
  unfold Qh
  simp only[az,aA,aB,ai,aH,aX,ak,aK,aD,bt,aw,dZ,aq,bf,cT,bF,bS,tA,au,f63,g63,h63,hwr,aU]
  refine ja (ih (pre++[k]) _ _ s2 ov2 cv2 _ _ (by rw[hpre];simp) two2 hle.1 (by rw[dp,o9];omega) m2 (by omega) (fun n hn'=>(o2 n hn').trans ((o1 n hn').trans (hold n hn'))) ?_ ?_ ?_ ?_ ?_ ?_) ?_
  ·simp only[ai,ah,cF,f9,g9,h9]
  ·simp only[ai,ah,cF,f14]
  ·simp only[ai,ah,cF,f15]
  ·simp only[ai,ah,cF,f61,g61,h61]
  ·simp only[ai,ah,cF,f62,g62,h62]
  ·simp only[ai,ah,cT,cF,dp,aP,aW]
  rintro x fr s' ⟨rfl,e',lc',ov',cv',rfl,q1,q2,q3,q4⟩
  refine⟨rfl,e',lc',ov',cv',rfl,q1,q2,?_,by rw[q4,c2,c1]⟩
  rw[hst]
  exact q3
end
noncomputable def uL (T:eV) (ch:Nat->Nat):cw:=QM (fun f=>fv f T) ch
theorem YP {T:eV} (hT:fT T):Ag.Good (uL T fun _=>0) where
 mixed:=Fh
 spec f sp hsp args v hv G hp w xs wr hx:=hT _ (A9 hsp) args v hv G hp w xs wr hx
 specH f sp h args v G hp w xs wr hx hv:=by cases h
 specW f sp h:=by
  have h:(bif be f 48 then some wh else bif be f 51 then some wg else none)=some sp:=h
  cases hb:be f 48 with
  |true=>
   have:=ik hb
   subst this
   rw[hb] at h
   injection h with h;subst h
   exact ali
  |false=>
   rw[hb] at h
   cases hb2:be f 51 with
   |true=>
    have:=ik hb2
    subst this
    rw[hb2] at h
    injection h with h;subst h
    exact alh
   |false=>rw[hb2] at h;cases h
 names f fn hf:=by
  have hf:Tryz.prog.funcs[f]? =some fn:=hf
  have:=List.all_eq_true.1 Fp fn (by
   rw[<-Array.getElem?_toList] at hf
   exact lX hf)
  simpa using this
theorem TH {T:eV} (hT:fT T) {f:FuncId} {args:List aj} {u:aj} (hp:jT args=true) (hr: ∀ch, ∃v s',bz (uL T ch) f (ef args) s0 v s'/\jW s'.heap v u) (G:Gh) (h:bv bH) (w:World) (xs:List Value) (wr:WR G h w) (hx:cp G args xs):
 kF Tryz.prog f ⟨xs⟩ w fun y w'=> ∃G',WR G' h w'/\dr G h w G' h w' 0 0/\VR G' u y:=by
 obtain⟨N,hN⟩:=XY (B:=1000000) (by omega) (fun ch n=> ∃v s',(cN (uL T ch) n).call f (ef args) [] s0=some (v,s')/\jW s'.heap v u)
  (fun ch n m hnm ⟨v,s',h1,h2⟩=>⟨v,s',(mn (uL T ch) hnm).call _ _ _ _ _ h1,h2⟩)
  (fun ch n ⟨v,s',h1,h2⟩=>⟨s'.ci,fun ch' hc=>⟨v,s',(pE (uL T fun _=>0) n).call f _ [] ch s0 v s' h1 ch' hc,h2⟩⟩)
  (fun ch _=>let⟨v,s',⟨n,h1⟩,h2⟩:=hr ch;⟨n,v,s',h1,h2⟩)
 exact F9 (Q:=uL T fun _=>0) (n:=N) (YP hT) (fun _=>(by decide:0<1000000)) hp (fun ch hi=>hN ch hi) G h w xs wr hx
def i8 (b o t:List cz):List cz×List ar:=j6 (qH b o t) (fh (jO b o t)) ([],[])
def vT (r:List cz×List ar):aj:=.tup [fR 2 (r.1.map eC),fR 1 (r.2.map bu)]
theorem tB: ∀(l:List cz) (K:List ar),(jG l K).length<=K.length+l.length
 | [],K=>bB _
 |t::l,K=>by
  have h:=tB l (iT t.1 K)
  have h2:(iT t.1 K).length<=K.length+1:=by
   unfold iT
   cases K.elem t.1 with
   |true=>exact ka _
   |false=>simp
  simp only[jG,uz,aP] at h ⊢
  omega
theorem w7: ∀(L:List (ar×aj)) (n:Nat),(cP n L).map (·.key)=(L.map (·.1)).map bu
 | [],_=>rfl
 |(a,v)::L,n=>by
  simp only[cP,fw,w7 L (n+1)];rfl
theorem qY: ∀(L:List (ar×aj)) (n:Nat),(cP n L).length=L.length
 | [],_=>rfl
 |(a,v)::L,n=>by simp only[cP,aP,qY L (n+1)]
theorem Cs: ∀(U:List (ar×aj)) (n:Nat),(cP n U).map (·.born)=List.range' n U.length
 | [],_=>rfl
 |(k,v)::U,n=>by simp only[cP,fw,Cs U (n+1),aP,List.range'_succ]
theorem H1 (L:List (ar×aj)):yA (cP 0 L):=by
 refine⟨fun e he=>?_,by rw[Cs];exact List.nodup_range'⟩
 have h1:e.born∈(cP 0 L).map (·.born):=List.mem_map.2 ⟨e,he,rfl⟩
 rw[Cs,List.mem_range'_1] at h1
 rw[qY];omega
theorem RE (mk:bn) (n m o l c:Nat) (s:St):gW Tryz.prog mk 37 (.arr n m o l c) s=some (.int .i64 (l:Nat)):=by kernel_rfl
section
variable {sp:FuncId->Option (List aj->Option aj)} {ch:Nat->Nat}
theorem ahj (h120:sp 120=none) {m:Nat} {s:St}:bz (QM sp ch) 120 [.map m] s (.func (.func 185) [] [.ptr s.next 0]) (s.new (.cells [.map m])):=by
 refine bz.of2 aca ab9 acd acb h120 ?_
 unfold J4
 refine aF ?_
 unfold J5
 simp only[dt,cY,az,aA,aB,ai,aN,jC,ak,aK,aD,jc,aw,bJ,aq,fZ,cT,gD,aP,aW,bS,tA,aQ,au,cm,cj,dT,Zg,jc,ofValue,fH]
 refine aF ?_
 unfold J6
 simp only[az,aA,aB,ai,aN,xY,ak,aD,bk,bm,aw,aq,dW,cT,cF,bS,tA,ah,au,pF]
 exact cd ⟨rfl,.inr rfl,cE (by simp only[ai,ah,cT,cF]) rfl⟩
theorem YM (h185:sp 185=none) {m cb:Nat} {s0:St} {L:List (ar×aj)} (hmw:s0.minw<=s0.next) (hm:m<s0.next) (hcb:cb<s0.next) (hc:s0.get [] cb=some (.cells [.map m])) (hmm:s0.get [] m=some (.map (cP 0 L) L.length)) (hL:L.length<=1000000):qR (QM sp ch) 1 185 s0 cb (cP 0 L):=by
 intro s bx lo lim lob c ht
 refine ahl (Q:=QM sp ch) rfl rfl (ch:=ch) rfl rfl (H1 L) (fun i=>by rw[qY];exact hL) h185 rfl rfl hmw hm hcb hc (by rw[qY];exact hmm) c ht fun e he=>?_
 have h1:e.key∈(cP 0 L).map (·.key):=List.mem_map.2 ⟨e,he,rfl⟩
 rw[w7] at h1
 obtain⟨b,_,e2⟩:=List.mem_map.1 h1
 exact⟨b,e2.symm⟩
theorem alT (hs: ∀n,n=25\/n=47\/n=78\/n=48->sp n=none) (h76:sp 76=none) (h59:sp 59=some pT) (h120:sp 120=none) (h185:sp 185=none) (h186:sp 186=none) (h121:sp 121=none) {vb vo vt:aj} {b o t:List cz} (hb:jZ vb b) (ho:jZ vo o) (ht:jZ vt t) {s:St} (hm:s.minw<=s.next):
 ∃v s',bz (QM sp ch) 76 [vb,vo,vt] s v s'/\jW s'.heap v (vT (i8 b o t)):=by
 have cb:=hb.is.clean
 have co:=ho.is.clean
 have ct:=ht.is.clean
 have cell: ∀ {v:aj} {l:List cz},bC 2 eC v l->v.cells=[v]:=fun h=>by rcases h with⟨rfl,_⟩|⟨r,rfl⟩<;>rfl
 have lb:=cell hb.is
 have lo:=cell ho.is
 have lt:=cell ht.is
 have hbd: ∀e,ax e 20=vb->ax e 21=vo->ax e 22=vt->gm Tryz.prog 194 [(0,.tmp 20),(1,.tmp 21),(2,.tmp 22)] e=some (.agg [vb,vo,vt]):=fun e p q r=>by
  rw[VF]
  simp only[Ux,aq,dQ,evc,ev,p,q,r,cb,co,ct,lb,lo,lt,cT]
  rfl
 refine bz.ofEx agI agH agL agK h76 ?_
 unfold P0
 refine aF ?_
 unfold P3
 simp only[dt,cY,az,aA,aB,aN,aK,aw,cT,aP,aW,tA,aQ,au,bE,cm,cj,dT,ofValue,fH]
 refine aF ?_
 unfold P4
 simp only[az,aA,ej,aB,ep,ai,dA,bR,jz,aH,gZ,lf,ez,ak,aD,gl,aw,bJ,dC,ix,aq,cK,cT,cF,bF,gD,aP,aW,cV,bN,a7,cq,cH,bS,tA,aQ,ah,au,bE,cm,dY,aZ,dl,cj,dT,hbd,aaF,Ux,alz]
 refine aF ?_
 unfold Qc
 simp only[az,aA,aB,ai,aN,vO,ak,aw,bU,cT,cF,bF,bS,tA,ah,au,aiJ]
 refine aR (aR (b7 ?_))
 unfold Qg
 simp only[az,aA,aB,ai,bR,aH,bo,ak,aK,bt,cx,aw,aq,cT,cF,bF,aP,aW,cut,bN,a7,bS,tA,aQ,ah,au,bE,aZ,akd,aU]
 refine cO ?_
 refine ja (alb (m:=s.next) h59 hb ho ht (by rw[df,bS];rfl) (io _) (kC hm) ?_ ?_ ?_) ?_
 ·simp only[ai,ah,cT,cF]
 ·simp only[ai,ah,cT,cF]
 ·simp only[ai,ah,cT,cF];rfl
 rintro x fr s1 ⟨rfl,e1,lc1,rfl,g9,t1,o1,n1,m1,c1⟩
 have n1:s.next+1<=s1.next:=n1
 show W (QM sp ch) 76 _ _ _ _
 refine aF ?_
 unfold P9
 simp only[az,aA,aB,aN,aK,aw,tA,au,ofValue,fH]
 refine aF ?_
 unfold Qa
 simp only[az,aA,aB,aN,aK,aw,tA,au,ofValue,fH]
 obtain⟨L,hL1,hL2,_,_⟩:=t1.ex
 have hLl:L.length<=180:=by
  have h1:(L.map (·.1)).length=(jO b o t).length:=congrArg List.length hL1
  rw[eH] at h1
  have h2:=tB b []
  have h3:=tB o (jG b [])
  have h4:=tB t (jG o (jG b []))
  have hb:=hb.len
  have ho:=ho.len
  have ht:=ht.len
  simp only[aW] at h2
  unfold jO at h1
  omega
 have hg2: ∀n,n<s1.next->(s1.new (.cells [.map s.next])).get [] n=s1.get [] n:=fun n h=>by rw[df,beq_eq_false_iff_ne.2 (by omega)];rfl
 obtain⟨v,s2,hr,hgot⟩:=TF (Q:=QM sp ch) rfl rfl hs (fun _=>rfl) (fun n hn=>by rcases hn with rfl|rfl|rfl<;>rfl) rfl (g:=185) (cb:=s1.next) (s0:=s1.new (.cells [.map s.next])) (es:=cP 0 L) (ks:=jO b o t) (kC m1) (by rw[qY];omega) (by rw[w7,hL1]) (by kernel_rfl)
  (YM h185 (m:=s.next) (kC m1) (ns (by omega)) (io _) (by rw[df,bS];rfl) ((hg2 _ (by omega)).trans hL2) (by omega))
 have hvc:=hgot.clean
 refine aR (aR (gh (fU 1 ?_)))
 unfold Qb
 simp only[az,aA,aB,ai,aH,ak,aw,cF,bN,a7,tA,ah,au,g9]
 refine fY (g:=120) (args:=[.map s.next]) ?_ (ahj h120) (by decide) ?_
 ·simp only[callee,ai,ak,ff,aD,bk,bm,aq,fZ,cT,cF,cq,cH,bS,ah]
 refine fY (g:=25) (args:=[.func (.func 185) [] [.ptr s1.next 0]]) ?_ hr (by decide) ?_
 ·simp only[callee,ai,ak,ff,aD,bk,bm,aq,oM,cT,cF,cq,cH,bS,ah]
 refine fX ?_
 have hnx:s1.next+1<=s2.next:=hgot.next
 have m2:s2.minw<=s2.next:=by
  have h1:=hgot.minw
  have h2:(s1.new (.cells [.map s.next])).minw=s1.minw:=rfl
  omega
 have hold: ∀n,n<s1.next->s2.get [] n=s1.get [] n:=fun n h=>(hgot.old n (ns h)).trans (hg2 n h)
 have t2:=t1.keep (by omega) hold (by omega)
 obtain⟨ks,hks⟩: ∃ks,ks=fh (jO b o t):=⟨_,rfl⟩
 have hperm:=mz (jO b o t)
 rw[<-hks] at hperm hgot
 have hkl:ks.length<=300:=by
  have h1:=hperm.length_eq
  have h2:(L.map (·.1)).length=(jO b o t).length:=congrArg List.length hL1
  rw[eH] at h2
  omega
 have htags:i8 b o t=j6 (qH b o t) ks ([],[]):=by rw[hks];rfl
 have hend: ∀(e3:bj) (lc3:Ag.Loc) (ov cv:aj) (s3:St),ax e3 14=ov->ax e3 15=cv->kH s2.next s3 ov cv (i8 b o t).1 (i8 b o t).2->
  W (QM sp ch) 76 (.seq (.region EG) .ret) ⟨e3,136,lc3⟩ s3 fun x fr s'=>(x= .normal\/x= .ret)/\ ∃v,(∃vs,gQ (QM sp ch) [] fr s' [.tmp 6,.tmp 7]=some vs/\jQ vs=v)/\jW s'.heap v (vT (i8 b o t)):=by
  intro e3 lc3 ov cv s3 h14 h15 two
  have c1:=two.l.clean
  have c2:=two.r.clean
  refine aF ?_
  unfold EG
  simp only[az,aA,aB,ai,aH,aN,ak,aw,cT,cF,bS,tA,ah,au,h14,h15]
  refine cd ⟨.inr rfl,.tup [ov,cv],sR (v:=ov) (w:=cv) ?_ c1 ?_ c2,4,?_⟩
  ·simp only[ai,ah,cT,cF]
  ·simp only[ai,ah,cT,cF]
  have f1:dh s3.heap 3 ov=some (fR 2 ((i8 b o t).1.map eC)):=xh two.l (k:=2) fun v hv=>by
   obtain⟨p,_,rfl⟩:=List.mem_map.1 hv
   rfl
  have f2:dh s3.heap 3 cv=some (fR 1 ((i8 b o t).2.map bu)):=xh two.r (k:=2) fun v hv=>by
   obtain⟨p,_,rfl⟩:=List.mem_map.1 hv
   rfl
  show(eE (dh s3.heap 3) [ov,cv]).bind (fun r=>some (aj.tup r))=_
  simp only[eE,f1,f2,aq,vT]
 rcases hgot.row with⟨rfl,hx⟩|⟨hne,rk,rfl,hk,h4,h5⟩
 ·have hk0:ks=[]:=List.map_eq_nil_iff.1 hx
  simp only[az,aA,aB,ai,aH,cJ,ak,aK,aD,bk,bm,bt,aw,bU,cU,bJ,aq,uX,cT,cF,bF,gD,bS,tA,ah,au,aZ,IR,iI,aU]
  refine cO (cR ?_)
  unfold xz
  refine aF ?_
  unfold zT
  have h00:dz 0 ((0:Nat):Int)=false:=rfl
  simp only[az,aA,aB,ai,aX,ak,aD,aw,cQ,aq,bf,cT,cF,bF,bS,tA,ah,au,h00]
  refine aR (bc (t:=false) (by simp only[ak,ai,ah,cT,cF]) ?_)
  refine eD ?_
  refine hend _ _ .nils .nils s2 ?_ ?_ ?_
  ·simp only[ai,ah,cT,cF]
  ·simp only[ai,ah,cT,cF]
  ·rw[htags,hk0]
   exact⟨.inl ⟨rfl,rfl⟩,.inl ⟨rfl,rfl⟩,fun k h=>(by cases h)⟩
 ·rw[vj] at hk
  simp only[eH]
  have hca: ∀n m o l c:Nat,(aj.arr n m o l c).clean=true:=fun _ _ _ _ _=>rfl
  simp only[az,aA,aB,ai,aH,cJ,ak,aK,aD,bk,bm,bt,aw,bU,cU,bJ,aq,cT,cF,bF,gD,bS,tA,ah,au,aZ,IR,RE,hca,aU]
  refine cO ?_
  have two0:kH s2.next s2 .nils .nils [] []:=⟨.inl ⟨rfl,rfl⟩,.inl ⟨rfl,rfl⟩,fun k h=>(by cases h)⟩
  have hm2:s.next<s2.next:=by omega
  refine ja (ahs h186 h121 t2 hm2 h5 hk (fun k h=>hperm.mem_iff.1 h) hkl ks [] _ _ s2 .nils .nils [] [] rfl two0 (iB _) (iB _) m2 (bB _) (fun _ _=>rfl) ?_ ?_ ?_ ?_ ?_ ?_) ?_
  ·simp only[ai,ah,cF,g9]
  ·simp only[ai,ah,cT,cF]
  ·simp only[ai,ah,cT,cF]
  ·simp only[ai,ah,cT,cF]
  ·simp only[ai,ah,cT,cF]
  ·simp only[ai,ah,cT,cF];rfl
  rintro x fr s3 ⟨rfl,e3,lc3,ov,cv,rfl,q14,q15,two,_⟩
  rw[<-htags] at two
  exact hend e3 lc3 ov cv s3 q14 q15 two
end
def ur:Sp
 | [u,v,w]=>bif pures [u,v,w] then(gj 2 oH u).bind fun b=>(gj 2 oH v).bind fun o=>(gj 2 oH w).bind fun t=>
     bif(iK b&&qE b)&&((iK o&&qE o)&&(iK t&&qE t)) then some (vT (i8 b o t)) else none else none
 |_=>none
theorem alR {vb vo vt:aj} {b o t:List cz} (hb:jZ vb b) (ho:jZ vo o) (ht:jZ vt t) (pb:bP vb=true) (po:bP vo=true) (pt:bP vt=true):ur [vb,vo,vt]=some (vT (i8 b o t)):=by
 simp only[ur,pures,pb,po,pt,gf,cT,jI rU hb.is,jI rU ho.is,jI rU ht.is,aq,hb.valid,ho.valid,ht.valid,wf hb.keys,wf ho.keys,wf ht.keys]
def GX:eV:=[(59,pT)]
theorem UU:fT GX:=.cons TX .nil
theorem alS:eN Tryz.prog 76 ur:=by
 intro args x hv G h w xs wr hx
 unfold ur at hv
 split at hv
 ·rename_i u v t
  obtain⟨hp,hv⟩:=bX hv
  simp only[Option.bind_eq_some_iff] at hv
  obtain⟨a,h1,b,h2,c,h3,hv⟩:=hv
  obtain⟨hs,hv⟩:=bX hv
  injection hv with hv;subst hv
  simp only[cZ] at hs
  obtain⟨⟨v1,s1⟩,⟨v2,s2⟩,v3,s3⟩:=hs
  have ha:jZ u a:=⟨jb (fun v a=>rT) h1,v1,we s1⟩
  have hb:jZ v b:=⟨jb (fun v a=>rT) h2,v2,we s2⟩
  have hc:jZ t c:=⟨jb (fun v a=>rT) h3,v3,we s3⟩
  exact TH UU (args:=[u,v,t]) (kA hp) (fun ch=>by
   rw[iz hp]
   exact alT (sp:=fun f=>fv f GX) (ch:=ch) (fun n hn=>by rcases hn with rfl|rfl|rfl|rfl<;>rfl) rfl rfl rfl rfl rfl rfl ha hb hc (s:=s0) (bB _)) G h w xs wr hx
 ·cases hv
theorem Hx {b o t p:List ar} (h:oL b o t=some p):p=t\/p=o:=by
 unfold oL at h
 cases h1:o==b with
 |true=>rw[h1] at h;injection h with h;exact .inl h.symm
 |false=>
  rw[h1] at h
  cases h2:t==b||t==o with
  |true=>rw[h2] at h;injection h with h;exact .inr h.symm
  |false=>rw[h2] at h;cases h
theorem aiq {b:List ar} {p:Nat} {x:ar} (h:x∈kY b p):x∈b:=by
 unfold kY at h
 cases hb:b[p]? with
 |none=>rw[hb] at h;cases h
 |some y=>
  rw[hb] at h
  simp only[p8] at h
  subst h
  exact lX hb
theorem Tt {b o t:List ar}: ∀ {l:List (Nat×Nat×Nat)} {i j k:Nat} {out r:List ar},j5 b o t l i j k out=some r-> ∀x∈r,x∈out\/x∈b\/x∈o\/x∈t
 | [],_,_,_,out,r,h,x,hx=>by injection h with h;subst h;exact .inl hx
 |(p,q,s)::l,i,j,k,out,r,h,x,hx=>by
  simp only[j5] at h
  split at h
  ·cases h
  ·rename_i part hp
   rcases Tt h x hx with h1|h1
   ·rcases List.mem_append.1 h1 with h1|h1
    ·rcases List.mem_append.1 h1 with h1|h1
     ·exact .inl h1
     ·rcases Hx hp with rfl|rfl
      ·exact .inr (.inr (.inr (uB (rH h1))))
      ·exact .inr (.inr (.inl (uB (rH h1))))
    ·exact .inr (.inl (aiq h1))
   ·exact .inr h1
theorem Ts {b o t:List ar}: ∀ {l:List (Nat×Nat×Nat)} {i j k:Nat} {out r:List ar},oA b.length o.length t.length i j k l->out.length<=i+j+k->i<=b.length+1->j<=o.length+1->k<=t.length+1->j5 b o t l i j k out=some r->r.length<=b.length+o.length+t.length+3
 | [],_,_,_,out,r,_,ho,hi,hj,hk,h=>by injection h with h;subst h;omega
 |(p,q,s)::l,i,j,k,out,r,hR,ho,hi,hj,hk,h=>by
  cases hR with
  |cons r1 r2 r3 r4 r5 r6 r7=>
  simp only[j5] at h
  split at h
  ·cases h
  ·rename_i part hp
   have h1:=Rm b p
   have h2:part.length<=(q-j)+(s-k):=by
    rcases Hx hp with rfl|rfl
    ·rw[pZ];omega
    ·rw[pZ];omega
   exact Ts r7 (by rw[dp,dp];omega) (by omega) (by omega) (by omega) h
theorem ak2 {b o t r:List ar} (h:ll b o t=some r):(∀x∈r,x∈b\/x∈o\/x∈t)/\r.length<=b.length+o.length+t.length+3:=by
 unfold ll at h
 cases hl:kI [b,o,t] with
 |true=>rw[hl] at h;cases h
 |false=>
  rw[hl] at h
  have h:j5 b o t (oD b o t) 0 0 0 []=some r:=h
  refine⟨fun x hx=>?_,Ts (G6 b o t) (iB _) (iB _) (iB _) (iB _) h⟩
  rcases Tt h x hx with h1|h1
  ·cases h1
  ·exact h1
theorem Ak {x:ar}: ∀ {l:List cz} {K:List ar},x∈jG l K↔x∈K\/ ∃t∈l,t.1=x
 | [],K=>by simp[jG]
 |t::l,K=>by
  have ih:=Ak (x:=x) (l:=l) (K:=iT t.1 K)
  have h1:jG (t::l) K=jG l (iT t.1 K):=rfl
  rw[h1,ih]
  have h2:x∈iT t.1 K↔x∈K\/x=t.1:=by
   unfold iT
   cases h:K.elem t.1 with
   |true=>
    have:=qP h
    simp only[cT]
    exact⟨.inl,fun h=>h.elim id fun e=>e▸this⟩
   |false=>simp
  rw[h2]
  simp only[List.mem_cons,exists_eq_or_imp]
  constructor
  ·rintro((h|h)|h)
   ·exact .inl h
   ·exact .inr (.inl h.symm)
   ·exact .inr (.inr h)
  ·rintro(h|h|h)
   ·exact .inl (.inl h)
   ·exact .inl (.inr h.symm)
   ·exact .inr h
theorem Fc {x:ar} {b o t:List cz}:x∈jO b o t↔(∃u∈b,u.1=x)\/(∃u∈o,u.1=x)\/ ∃u∈t,u.1=x:=by
 unfold jO
 rw[Ak,Ak,Ak]
 simp only[List.not_mem_nil,false_or,or_assoc]
theorem alK {k v:ar} {xs:List cz} {ys:List ar}:(∀t∈(kS k v xs ys).1,t∈xs\/t=(k,v))/\ ∀y∈(kS k v xs ys).2,y∈ys\/y=k:=by
 unfold kS
 cases v== [] with
 |true=>exact⟨fun _ h=>.inl h,fun _ h=>.inl h⟩
 |false=>
  cases decide (xs.length<60) with
  |true=>exact⟨fun _ h=>by simpa using h,fun _ h=>.inl h⟩
  |false=>
   cases ys.elem k with
   |true=>exact⟨fun _ h=>.inl h,fun _ h=>.inl h⟩
   |false=>exact⟨fun _ h=>.inl h,fun _ h=>by simpa using h⟩
theorem alN {V:ar->List ar} {k:ar} {st:List cz×List ar}:(∀t∈(mE V k st).1,t∈st.1\/t.1=k)/\ ∀y∈(mE V k st).2,y∈st.2\/y=k:=by
 unfold mE
 split
 ·rename_i a b c _
  have h:=alK (k:=k) (v:=(j3 a b c).getD a) (xs:=st.1) (ys:=mD k a b c st.2)
  refine⟨fun t ht=>(h.1 t ht).imp id fun e=>by rw[e],fun y hy=>?_⟩
  rcases h.2 y hy with h2|h2
  ·unfold mD at h2
   cases hp:j3 a b c with
   |some z=>rw[hp] at h2;exact .inl h2
   |none=>rw[hp] at h2;simpa using h2
  ·exact .inr h2
 ·exact⟨fun _ h=>.inl h,fun _ h=>.inl h⟩
theorem T9 {V:ar->List ar}: ∀ {ks:List ar} {st:List cz×List ar},(∀t∈(j6 V ks st).1,t∈st.1\/t.1∈ks)/\ ∀y∈(j6 V ks st).2,y∈st.2\/y∈ks
 | [],st=>⟨fun _ h=>.inl h,fun _ h=>.inl h⟩
 |k::ks,st=>by
  have ih:=T9 (V:=V) (ks:=ks) (st:=mE V k st)
  have h:=alN (V:=V) (k:=k) (st:=st)
  have e:j6 V (k::ks) st=j6 V ks (mE V k st):=rfl
  rw[e]
  refine⟨fun t ht=>?_,fun y hy=>?_⟩
  ·rcases ih.1 t ht with h1|h1
   ·exact(h.1 t h1).imp id fun e=>by simp[e]
   ·exact .inr (by simp[h1])
  ·rcases ih.2 y hy with h1|h1
   ·exact(h.2 y h1).imp id fun e=>by simp[e]
   ·exact .inr (by simp[h1])
theorem T8 {V:ar->List ar}: ∀ {ks:List ar} {st:List cz×List ar},st.1.length<=60->(j6 V ks st).1.length<=60/\(j6 V ks st).2.length<=st.2.length+2*ks.length
 | [],st,h=>⟨h,bB _⟩
 |k::ks,st,h=>by
  have h1:=alM (V:=V) (k:=k) h
  have ih:=T8 (V:=V) (ks:=ks) h1.1
  have e:j6 V (k::ks) st=j6 V ks (mE V k st):=rfl
  rw[e,aP]
  exact⟨ih.1,by omega⟩
theorem Ub {b o t:List cz}:(∀u∈(i8 b o t).1,u.1∈jO b o t)/\(∀y∈(i8 b o t).2,y∈jO b o t):=by
 have h:=T9 (V:=qH b o t) (ks:=fh (jO b o t)) (st:=([],[]))
 have hp:=mz (jO b o t)
 refine⟨fun u hu=>?_,fun y hy=>?_⟩
 ·rcases h.1 u hu with h1|h1
  ·cases h1
  ·exact hp.mem_iff.1 h1
 ·rcases h.2 y hy with h1|h1
  ·cases h1
  ·exact hp.mem_iff.1 h1
theorem Gn (b o t:List cz):(i8 b o t).1.length<=60/\(i8 b o t).2.length<=2*(b.length+o.length+t.length):=by
 have h:=T8 (V:=qH b o t) (ks:=fh (jO b o t)) (st:=([],[])) (iB _)
 have h1:=(mz (jO b o t)).length_eq
 have h2:=tB b []
 have h3:=tB o (jG b [])
 have h4:=tB t (jG o (jG b []))
 simp only[aW] at h2 h
 have h5:(jO b o t).length=(jG t (jG o (jG b []))).length:=rfl
 exact⟨h.1,by have:=h.2;show(j6 _ _ _).2.length<=_;omega⟩
def s8 (o:Obj) (r:List ar):Obj:=⟨o.id,o.kind,o.x,o.y,fR 1 (r.map bu),o.tagsV,r,o.tags⟩
def yp (o:Obj) (p:Int×Int):Obj:=⟨o.id,o.kind,p.1,p.2,o.refsV,o.tagsV,o.refs,o.tags⟩
def Un (o:Obj) (l:List cz):Obj:=⟨o.id,o.kind,o.x,o.y,o.refsV,fR 2 (l.map eC),o.refs,l⟩
def lj (b o t:Obj):Option (List ar):=match ll b.refs o.refs t.refs with
 |some r=>bif iO (s8 b r) then some r else none
 |none=>none
def nf (b o t:Obj):Obj:=match lj b o t with
 |some r=>s8 b r
 |none=>b
def ue (b o t:Obj):Int×Int:=nb (b.x,b.y) (o.x,o.y) (t.x,t.y)
def oO (b o t:Obj):Obj:=Un (yp (nf b o t) (ue b o t)) (i8 b.tags o.tags t.tags).1
def sU:ar:=[114,101,102,115]
def FZ:ar:=[97,116]
def mw (k:ar):ar:=[116,97,103,32]++k
def j4 (b o t:Obj) (C:List Cf):List Cf:=match lj b o t with
 |some _=>C
 |none=>dG (b.id,sU) C
def l5 (b o t:Obj) (C:List Cf):List Cf:=bif oW (b.x,b.y) (o.x,o.y) (t.x,t.y) then dG (b.id,FZ) C else C
def og (id:ar) (ks:List ar) (C:List Cf):List Cf:=ks.foldl (fun C k=>dG (id,mw k) C) C
def mV (b o t:Obj) (C:List Cf):List Cf:=og b.id (i8 b.tags o.tags t.tags).2 (l5 b o t (j4 b o t C))
theorem sH {n:Nat} {α:Type} {enc:α->aj} (l:List α):bC n enc (fR n (l.map enc)) l:=by
 cases l with
 |nil=>exact .inl ⟨rfl,rfl⟩
 |cons a l=>exact .inr ⟨_,rfl⟩
theorem aj5: ∀l:List ar,bP (fR 1 (l.map bu))=true
 | []=>rfl
 |a::l=>by
  show(pures ((a::l).map bu)&&true)=true
  rw[FJ];rfl
theorem SN: ∀l:List cz,pures (l.map eC)=true
 | []=>rfl
 |a::l=>by
  show(bP (eC a)&&pures (l.map eC))=true
  rw[SN l];rfl
theorem aj6: ∀l:List cz,bP (fR 2 (l.map eC))=true
 | []=>rfl
 |a::l=>by
  show(pures ((a::l).map eC)&&true)=true
  rw[SN];rfl
theorem amk {b:Obj} (hb:b.Good) {r:List ar} (h1:r.length<small) (h2: ∀x∈r,x.length<small):(s8 b r).Good:=
 {refs:=sH r,tags:=hb.tags,id:=hb.id,reflen:=h1,ref:=h2,taglen:=hb.taglen,key:=hb.key,pr:=aj5 r,pt:=hb.pt }
theorem Tv {b o t:Obj} (gb:b.Good) (go:o.Good) (gt:t.Good) {r:List ar} (h:ll b.refs o.refs t.refs=some r):(s8 b r).Good:=by
 obtain⟨h1,h2⟩:=ak2 h
 have hl:kI [b.refs,o.refs,t.refs]=false:=by
  cases hl:kI [b.refs,o.refs,t.refs] with
  |false=>rfl
  |true=>simp only[ll,hl,cT] at h;cases h
 simp only[kI,Bool.or_false,rA,lL] at hl
 have l1:=of_decide_eq_false hl.1
 have l2:=of_decide_eq_false hl.2.1
 have l3:=of_decide_eq_false hl.2.2
 have hsm:small=9223372036854775808:=rfl
 refine amk gb (by omega) fun x hx=>?_
 rcases h1 x hx with h|h|h
 ·exact gb.ref x h
 ·exact go.ref x h
 ·exact gt.ref x h
structure Fs (s0 s:St) (x mb mo mt mu md:Nat) (C:List Cf) (cs:List aj):Prop where
 row:s.get [] s0.next=some (.cells cs)
 hx:s.get [] x=some (.cells [.map mb,.map mo,.map mt,.map mu,.map md])
 hd:s.get [] md=some (.map (eW 0 C) C.length)
 old: ∀n,n<s0.next->n≠md->s.get [] n=s0.get [] n
 next:s.next=s0.next+1
 minw:s.minw<=s.next
 ci:s.ci=s0.ci
 lt:md<s0.next/\x<s0.next/\x≠md
section
variable {s0 s:St} {x mb mo mt mu md:Nat} {C:List Cf} {cs:List aj}
theorem Fs.put (f:Fs s0 s x mb mo mt mu md C cs) {s':St} {cs':List aj} (hg: ∀n,s'.get [] n=(s.put s0.next (some (.cells cs'))).get [] n) (hn:s'.next=s.next) (hm:s'.minw<=s'.next) (hc:s'.ci=s.ci):Fs s0 s' x mb mo mt mu md C cs':=by
 obtain⟨l1,l2,l3⟩:=f.lt
 refine⟨by rw[hg,cI,bS];rfl,?_,?_,fun n h1 h2=>?_,hn.trans f.next,hm,hc.trans f.ci,f.lt⟩
 ·rw[hg,cI,beq_eq_false_iff_ne.2 (by omega)];exact f.hx
 ·rw[hg,cI,beq_eq_false_iff_ne.2 (by omega)];exact f.hd
 ·rw[hg,cI,beq_eq_false_iff_ne.2 (by omega)];exact f.old n h1 h2
theorem Fs.note (f:Fs s0 s x mb mo mt mu md C cs) (c:Cf) {s':St} (hg: ∀n,s'.get [] n=(s.put md (some (.map (eW 0 (dG c C)) (dG c C).length))).get [] n) (hn:s'.next=s.next) (hm:s'.minw<=s'.next) (hc:s'.ci=s.ci):Fs s0 s' x mb mo mt mu md (dG c C) cs:=by
 obtain⟨l1,l2,l3⟩:=f.lt
 refine⟨?_,?_,by rw[hg,cI,bS];rfl,fun n h1 h2=>?_,hn.trans f.next,hm,hc.trans f.ci,f.lt⟩
 ·rw[hg,cI,beq_eq_false_iff_ne.2 (by omega)];exact f.row
 ·rw[hg,cI,beq_eq_false_iff_ne.2 (by omega)];exact f.hx
 ·rw[hg,cI,beq_eq_false_iff_ne.2 h2];exact f.old n h1 h2
theorem Fs.obj (f:Fs s0 s x mb mo mt mu md C cs) {C0:List Cf} (h0:s0.get [] md=some (.map (eW 0 C0) C0.length)) {p:Nat} (hp:p<s0.next) {l:List aj} (h:s0.get [] p=some (.cells l)):s.get [] p=some (.cells l):=by
 have:p≠md:=fun e=>by subst e;rw[h0] at h;cases h
 rw[f.old p hp this];exact h
end
section
variable {sp:FuncId->Option (List aj->Option aj)} {ch:Nat->Nat}
theorem Ym (h74:sp 74=some sV) (h36:sp 36=some rj) (h45:sp 45=none) {s0 s:St} {x mb mo mt mu md pb po pt:Nat} {C:List Cf} {b o t:Obj} (f:Fs s0 s x mb mo mt mu md C b.cells) (ob:s.get [] pb=some (.cells b.cells)) (oo:s.get [] po=some (.cells o.cells)) (ot:s.get [] pt=some (.cells t.cells)) (gb:b.Good) (go:o.Good) (gt:t.Good) (hpb:pb<s0.next/\pb≠md)
 {e:bj} {lc:Ag.Loc} {REST:SC} {P:Ex->Fr->St->Prop} (h0:ax e 0= .ptr x 0) (h1:ax e 1= .ptr pb 0) (h2:ax e 2= .ptr po 0) (h3:ax e 3= .ptr pt 0) (h9:ax e 9= .ptr s0.next 0)
 (hk: ∀(e':bj) (s':St),ax e' 0= .ptr x 0->ax e' 1= .ptr pb 0->ax e' 2= .ptr po 0->ax e' 3= .ptr pt 0->ax e' 9= .ptr s0.next 0->Fs s0 s' x mb mo mt mu md (j4 b o t C) (nf b o t).cells->W (QM sp ch) 44 REST ⟨e',107,lc⟩ s' P):
 W (QM sp ch) 44 (.seq (.draw D7 Ol) (.seq (.region zH) (.seq (.seq (.region zI) (.cond (aa 43) (.seq (.region zJ) (.region zK)) .skip)) REST))) ⟨e,107,lc⟩ s P:=by
 have hseq:=ak4 gb.refs go.refs gt.refs gb.pr go.pr gt.pr
 have cb:=gb.refs.clean
 have co:=go.refs.clean
 have ct:=gt.refs.clean
 have ob':s.get [] pb=some (.cells [.str b.id,.int .i64 b.kind,.int .i64 b.x,.int .i64 b.y,b.refsV,b.tagsV]):=ob
 have oo':s.get [] po=some (.cells [.str o.id,.int .i64 o.kind,.int .i64 o.x,.int .i64 o.y,o.refsV,o.tagsV]):=oo
 have ot':s.get [] pt=some (.cells [.str t.id,.int .i64 t.kind,.int .i64 t.x,.int .i64 t.y,t.refsV,t.tagsV]):=ot
 have hrow:s.get [] s0.next=some (.cells [.str b.id,.int .i64 b.kind,.int .i64 b.x,.int .i64 b.y,b.refsV,b.tagsV]):=f.row
 have bad: ∀(e1:bj) (rv:aj) (s1:St),lj b o t=none->Fs s0 s1 x mb mo mt mu md C [.str b.id,.int .i64 b.kind,.int .i64 b.x,.int .i64 b.y,rv,b.tagsV]->ax e1 0= .ptr x 0->ax e1 1= .ptr pb 0->ax e1 2= .ptr po 0->ax e1 3= .ptr pt 0->ax e1 9= .ptr s0.next 0->
  W (QM sp ch) 44 (.seq (.region zJ) (.region zK)) ⟨e1,107,lc⟩ s1 fun y fr s'=>Ex.next P (fun fr s=>W (QM sp ch) 44 REST fr s P) y fr s':=by
  intro e1 rv s1 hno f1 g0 g1 g2 g3 g9
  have hb1:s1.get [] pb=some (.cells [.str b.id,.int .i64 b.kind,.int .i64 b.x,.int .i64 b.y,b.refsV,b.tagsV]):=((f1.old pb hpb.1 hpb.2).trans (f.old pb hpb.1 hpb.2).symm).trans ob
  have hnote:=xT (sp:=sp) (ch:=ch) h45 f1.hx f1.hd b.id sU
  refine aR (gh (fU 5 ?_))
  unfold zJ
  simp only[az,aA,aB,ai,aH,bo,bZ,fI,ak,aw,aq,cT,cF,bF,bN,a7,bO,bS,tA,dc,ah,au,qZ,dH,g0,g1,fG,dv,hb1,du]
  refine fY (g:=45) (args:=[.ptr x 0,.str b.id,.str sU]) ?_ hnote (by decide) ?_
  ·simp only[callee,ai,ak,aK,ff,aD,bk,bm,jB,aq,cS,dW,cT,cF,cq,cH,bS,ah]
   rfl
  refine fX ?_
  obtain⟨s2,hs2⟩: ∃a,a=s1.put md (some (.map (eW 0 (dG (b.id,sU) C)) (dG (b.id,sU) C).length)):=⟨_,rfl⟩
  rw[<-hs2]
  have f2:Fs s0 s2 x mb mo mt mu md (dG (b.id,sU) C) _:=f1.note (b.id,sU) (fun n=>by rw[hs2]) (by rw[hs2];rfl) (by rw[hs2];exact jJ _ _ _ f1.minw) (by rw[hs2];rfl)
  have hb2:s2.get [] pb=some (.cells [.str b.id,.int .i64 b.kind,.int .i64 b.x,.int .i64 b.y,b.refsV,b.tagsV]):=((f2.old pb hpb.1 hpb.2).trans (f.old pb hpb.1 hpb.2).symm).trans ob
  have hr2:=f2.row
  have cell:b.refsV.cells=[b.refsV]:=by rcases gb.refs with⟨h,_⟩|⟨r,h⟩<;>rw[h]<;>rfl
  simp only[az,aU]
  refine b7 ?_
  unfold zK
  simp only[az,aA,ej,aB,ep,ai,aH,bo,ez,bZ,fI,ak,aD,aw,aq,cT,cF,bF,aP,aW,cV,bN,a7,bO,gr,cq,cH,bS,tA,aQ,ah,au,bE,cm,dY,aZ,dl,cj,dT,ma,ic,yk,cb,cell,g1,g9,fG,dv,hb2,hr2,du,kz,ky,aU]
  refine hk _ _ ?_ ?_ ?_ ?_ ?_ ?_
  ·simp only[ai,ah,cF,g0]
  ·simp only[ai,ah,cF,g1]
  ·simp only[ai,ah,cF,g2]
  ·simp only[ai,ah,cF,g3]
  ·simp only[ai,ah,cF,g9]
  ·have e1:j4 b o t C=dG (b.id,sU) C:=by simp only[j4,hno]
   have e2:nf b o t=b:=by simp only[nf,hno]
   rw[e1,e2]
   exact f2.put (fun n=>rfl) rfl (jJ _ _ _ f2.minw) rfl
 refine W.sdrawQ f.minw ?_
 unfold D7
 rcases akr (ll b.refs o.refs t.refs) with⟨r,hr,hres,hrl⟩|⟨hr,hres⟩
 ·rw[hres] at hseq
  have crl:=hrl.clean
  have cell:(fR 1 (r.map bu)).cells=[fR 1 (r.map bu)]:=by cases r<;>rfl
  have gw:=Tv gb go gt hr
  have hobj:=Si gw
  simp only[Obj.val,Obj.cells] at hobj
  simp only[s8] at hobj
  simp only[eJ,eI,eK,isStore,ai,aH,aN,bo,bZ,fI,jD,dK,dI,ak,aD,bk,bm,aw,aq,cT,cF,bF,qS,a7,bO,bS,tA,aQ,ah,au,ma,ic,h1,h2,h3,cb,co,ct,fG,dv,sh,ob',oo',ot',du,h74,hseq,iE,gg,mJ]
  refine aF ?_
  unfold zH
  simp only[az,aA,ej,aB,ep,ai,aH,ez,bZ,ak,aD,aw,aq,cT,cF,bF,aP,aW,cV,bN,a7,gr,cq,cH,bS,tA,aQ,ah,au,bE,cm,dY,aZ,dl,cj,dT,ma,yk,h9,crl,cell,hrow,kz,ky]
  obtain⟨s1,hs1⟩: ∃a,a=s.put s0.next (some (.cells [.str b.id,.int .i64 b.kind,.int .i64 b.x,.int .i64 b.y,fR 1 (r.map bu),b.tagsV])):=⟨_,rfl⟩
  rw[<-hs1]
  have f1:Fs s0 s1 x mb mo mt mu md C [.str b.id,.int .i64 b.kind,.int .i64 b.x,.int .i64 b.y,fR 1 (r.map bu),b.tagsV]:=f.put (fun n=>by rw[hs1]) (by rw[hs1];rfl) (by rw[hs1];exact jJ _ _ _ f.minw) (by rw[hs1];rfl)
  have hr1:=f1.row
  refine aR (aR (b7 ?_))
  unfold zI
  simp only[az,aA,dB,aB,eP,gn,ai,aH,di,bo,hG,dK,dI,ak,aK,aD,bk,bm,bW,dj,d7,aw,hJ,aq,gI,cK,cT,cF,bF,qS,aP,aW,cut,bN,a7,eR,dS,bS,tA,aQ,ah,au,bE,aZ,pR,h9,dv,hr1,du,h36,hobj,aU]
  cases hv:iO (s8 b r) with
  |true=>
   have hv':iO ⟨b.id,b.kind,b.x,b.y,fR 1 (r.map bu),b.tagsV,r,b.tags⟩=true:=hv
   have hM:lj b o t=some r:=by simp only[lj,hr,hv,cT]
   refine bc (t:=false) (by simp only[ak,ai,ah,cT,cF,hv',dS]) (ck ?_)
   simp only[aU]
   refine hk _ _ ?_ ?_ ?_ ?_ ?_ ?_
   ·simp only[ai,ah,cF,h0]
   ·simp only[ai,ah,cF,h1]
   ·simp only[ai,ah,cF,h2]
   ·simp only[ai,ah,cF,h3]
   ·simp only[ai,ah,cF,h9]
   ·have e1:j4 b o t C=C:=by simp only[j4,hM]
    have e2:nf b o t=s8 b r:=by simp only[nf,hM]
    rw[e1,e2]
    exact f1
  |false=>
   have hv':iO ⟨b.id,b.kind,b.x,b.y,fR 1 (r.map bu),b.tagsV,r,b.tags⟩=false:=hv
   have hM:lj b o t=none:=by simp only[lj,hr,hv,cF]
   refine bc (t:=true) (by simp only[ak,ai,ah,cT,cF,hv',gU]) ?_
   refine bad _ _ s1 hM f1 ?_ ?_ ?_ ?_ ?_
   ·simp only[ai,ah,cF,h0]
   ·simp only[ai,ah,cF,h1]
   ·simp only[ai,ah,cF,h2]
   ·simp only[ai,ah,cF,h3]
   ·simp only[ai,ah,cF,h9]
 ·rw[hres] at hseq
  have hM:lj b o t=none:=by simp only[lj,hr]
  simp only[eJ,eI,eK,isStore,ai,aH,aN,bo,bZ,fI,jD,dK,dI,ak,aD,bk,bm,aw,aq,cT,cF,bF,qS,a7,bO,bS,tA,aQ,ah,au,ma,ic,h1,h2,h3,cb,co,ct,fG,dv,sh,ob',oo',ot',du,h74,hseq,iE,gg,mJ]
  refine aF ?_
  unfold zH
  simp only[az,aA,ej,aB,ep,ai,aH,ez,bZ,ak,aD,aw,aq,uX,cT,cF,bF,aP,aW,cV,bN,a7,gr,cq,cH,bS,tA,aQ,ah,au,bE,cm,dY,aZ,dl,cj,dT,ma,yk,h9,wT,hrow,kz,ky]
  obtain⟨s1,hs1⟩: ∃a,a=s.put s0.next (some (.cells [.str b.id,.int .i64 b.kind,.int .i64 b.x,.int .i64 b.y,.nils,b.tagsV])):=⟨_,rfl⟩
  rw[<-hs1]
  have f1:Fs s0 s1 x mb mo mt mu md C [.str b.id,.int .i64 b.kind,.int .i64 b.x,.int .i64 b.y,.nils,b.tagsV]:=f.put (fun n=>by rw[hs1]) (by rw[hs1];rfl) (by rw[hs1];exact jJ _ _ _ f.minw) (by rw[hs1];rfl)
  refine aR (aR (b7 ?_))
  unfold zI
  simp only[az,aA,dB,aB,gp,j8,ai,aH,di,hG,ak,aK,aD,bW,dj,eA,aw,hJ,aq,gI,cT,cF,gU,bS,tA,ah,au,aU]
  refine bc (t:=true) (by simp only[ak,ai,ah,cT,cF]) ?_
  refine bad _ _ s1 hM f1 ?_ ?_ ?_ ?_ ?_
  ·simp only[ai,ah,cF,h0]
  ·simp only[ai,ah,cF,h1]
  ·simp only[ai,ah,cF,h2]
  ·simp only[ai,ah,cF,h3]
  ·simp only[ai,ah,cF,h9]
end
section
variable {sp:FuncId->Option (List aj->Option aj)} {ch:Nat->Nat}
theorem Yl (h75:sp 75=none) (h118:sp 118=some sE) (h45:sp 45=none) {s0 s:St} {x mb mo mt mu md pb po pt:Nat} {C:List Cf} {b o t q:Obj} (f:Fs s0 s x mb mo mt mu md C q.cells) (ob:s.get [] pb=some (.cells b.cells)) (oo:s.get [] po=some (.cells o.cells)) (ot:s.get [] pt=some (.cells t.cells))
 {e:bj} {lc:Ag.Loc} {REST:SC} {P:Ex->Fr->St->Prop} (h0:ax e 0= .ptr x 0) (h1:ax e 1= .ptr pb 0) (h2:ax e 2= .ptr po 0) (h3:ax e 3= .ptr pt 0) (h9:ax e 9= .ptr s0.next 0)
 (hk: ∀(e':bj) (s':St),ax e' 0= .ptr x 0->ax e' 1= .ptr pb 0->ax e' 2= .ptr po 0->ax e' 3= .ptr pt 0->ax e' 9= .ptr s0.next 0->Fs s0 s' x mb mo mt mu md (l5 b o t C) (yp q (ue b o t)).cells->W (QM sp ch) 44 REST ⟨e',107,lc⟩ s' P):
 W (QM sp ch) 44 (.seq (.draw vw Om) REST) ⟨e,107,lc⟩ s P:=by
 have ob':s.get [] pb=some (.cells [.str b.id,.int .i64 b.kind,.int .i64 b.x,.int .i64 b.y,b.refsV,b.tagsV]):=ob
 have oo':s.get [] po=some (.cells [.str o.id,.int .i64 o.kind,.int .i64 o.x,.int .i64 o.y,o.refsV,o.tagsV]):=oo
 have ot':s.get [] pt=some (.cells [.str t.id,.int .i64 t.kind,.int .i64 t.x,.int .i64 t.y,t.refsV,t.tagsV]):=ot
 have hcall: ∃s1,bz (QM sp ch) 75 [.ptr x 0,.str b.id,gN (b.x,b.y),gN (o.x,o.y),gN (t.x,t.y)] s.top (gN (ue b o t)) s1/\s1.next=s.next/\s1.ci=s.ci/\s1.minw<=s1.next/\Fs s0 (s.least s1) x mb mo mt mu md (l5 b o t C) q.cells:=by
  cases hbad:oW (b.x,b.y) (o.x,o.y) (t.x,t.y) with
  |false=>
   refine⟨s.top,ajX h75 (b.x,b.y) (o.x,o.y) (t.x,t.y) hbad s.top,rfl,rfl,bB _,?_⟩
   rw[ml f.minw]
   simp only[l5,hbad,cF]
   exact f
  |true=>
   have hx:s.top.get [] x=some (.cells [.map mb,.map mo,.map mt,.map mu,.map md]):=f.hx
   have hd:s.top.get [] md=some (.map (eW 0 C) C.length):=f.hd
   refine⟨_,ajW h75 h45 h118 hx hd (b.x,b.y) (o.x,o.y) (t.x,t.y) hbad,rfl,rfl,jJ _ _ _ (bB _),?_⟩
   simp only[l5,hbad,cT]
   exact f.note (b.id,FZ) (fun n=>rfl) rfl (E0 f.minw rfl) rfl
 obtain⟨s1,hrun,n1,c1,m1,f1⟩:=hcall
 obtain⟨sL,hsL⟩: ∃a,a=s.least s1:=⟨_,rfl⟩
 have hrow:sL.top.get [] s0.next=some (.cells [.str q.id,.int .i64 q.kind,.int .i64 q.x,.int .i64 q.y,q.refsV,q.tagsV]):=by rw[hsL];exact f1.row
 rw[show vw=vw.take 17++vw.drop 17 from(nr 17 _).symm]
 refine aR (W.drawD (WD.calmOps f.minw (fun _ h=>by cases h) (fun _ h=>by cases h) ?_))
 unfold vw
 simp only[eJ,eI,eK,isStore,ai,aH,bo,bZ,fI,ak,aw,aq,cT,cF,bF,aP,aW,cut,bN,a7,bO,eR,bS,tA,aQ,dc,ah,au,bE,aZ,qZ,vg,dH,jf,h0,h1,h2,h3,fG,dv,sh,ob',oo',ot',du]
 intro rs1 hc1 hi1
 refine WD.loudCall (g:=75) (args:=[.ptr x 0,.str b.id,gN (b.x,b.y),gN (o.x,o.y),gN (t.x,t.y)]) (Wf hc1 hi1) (by decide) ?_ hrun n1 c1 (by decide) (fun rs2 k2=>?_)
 ·simp only[callee,ai,ak,ff,aD,bk,bm,aq,cS,cK,dW,cT,cF,cq,cH,bS,ah]
  rfl
 rw[<-hsL] at f1 ⊢
 refine WD.fullL (v:=.ptr s0.next 2) (lc:=lc) (s1:=sL.top) (fr1:=⟨_,107,lc⟩) (fun r hr=>(k2 r hr).1) (by decide) rfl ?_ rfl (iw.2 ⟨by decide,rfl⟩) (fun rs3 k3=>?_)
 ·simp only[ai,bZ,ak,aw,aq,cF,bF,aQ,ah,vg,h9]
 rw[ml f1.minw]
 refine WD.fullL (v:=ii) (lc:=lc) (s1:=sL.top.put s0.next (some (.cells (yp q (ue b o t)).cells))) (fr1:=⟨_,107,lc⟩) k3 (by decide) rfl ?_ rfl rfl (fun rs5 k5=>?_)
 ·simp only[ai,ez,ak,aD,dC,aq,cK,cT,cF,bF,aP,aW,cV,bN,a7,gr,cq,cH,bS,aQ,ah,au,bE,cm,dY,aZ,dl,cj,dT,ru,kz,hrow,ky,gN]
  rfl
 refine WD.nil ?_
 simp only[aU]
 refine hk _ _ ?_ ?_ ?_ ?_ ?_ (f1.put (fun n=>rfl) rfl (E0 f1.minw rfl) rfl)
 ·simp only[ai,ah,cF,h0]
 ·simp only[ai,ah,cF,h1]
 ·simp only[ai,ah,cF,h2]
 ·simp only[ai,ah,cF,h3]
 ·simp only[ai,ah,cF,h9]
end
theorem Vd (a b:List UInt8):fy Tryz.prog .add 9 (.str a) (.str b)=bif cy (a.length+b.length) 1073741824 then some (.str (a++b)) else none:=by kernel_rfl
theorem Ve {k:ar} (h:k.length<=24):fy Tryz.prog .add 9 (.str [116,97,103,32]) (.str k)=some (.str (mw k)):=by
 have h1:cy ([116,97,103,32]++k:ar).length 1073741824=true:=eL (by rw[dp];show 4+k.length<=_;omega)
 rw[Vd,<-dp,h1];rfl
theorem Sb {k:ar} (h:jP k=true):k.length<=24:=by
 unfold jP at h
 split at h
 ·cases h
 ·simp only[cZ] at h
  exact Nat.le_of_ble_eq_true h.2
theorem Ue: ∀ {l:List cz} {last:ar},pU last l=true-> ∀t∈l,jP t.1=true
 | [],_,_,_,h=>by cases h
 |a::l,last,h,t,ht=>by
  simp only[pU] at h
  cases hb:nj last a with
  |true=>rw[hb] at h;cases h
  |false=>
   rw[hb] at h
   rcases List.mem_cons.1 ht with rfl|ht
   ·simp only[nj,rA,Bool.not_eq_false'] at hb
    exact hb.1.1.1
   ·exact Ue h t ht
theorem Gm {l:List cz} (h:iK l=true): ∀t∈l,jP t.1=true:=by
 simp only[iK,cZ] at h
 exact Ue h.1
theorem Uc {b o t:List cz} (vb:iK b=true) (vo:iK o=true) (vt:iK t=true): ∀k∈jO b o t,jP k=true:=by
 intro k hk
 rcases Fc.1 hk with⟨u,hu,rfl⟩|⟨u,hu,rfl⟩|⟨u,hu,rfl⟩
 ·exact Gm vb u hu
 ·exact Gm vo u hu
 ·exact Gm vt u hu
section
variable {sp:FuncId->Option (List aj->Option aj)} {ch:Nat->Nat}
theorem ahr (h45:sp 45=none) {s0:St} {x mb mo mt mu md pb:Nat} {cs:List aj} {b:Obj} (hpb:pb<s0.next/\pb≠md) (ob:s0.get [] pb=some (.cells b.cells)) {v:aj} {ks:List ar} (hv:bC 1 bu v ks) (hks:ks.length<=1000000) (hkl: ∀k∈ks,k.length<=24): ∀(rest pre:List ar) (e:bj) (lc:Ag.Loc) (s:St) (C:List Cf),ks=pre++rest->Fs s0 s x mb mo mt mu md C cs->
 ax e 0= .ptr x 0->ax e 1= .ptr pb 0->ax e 9= .ptr s0.next 0->ax e 92=v->ax e 93= .int .i64 (ks.length:Nat)->ax e 94= .int .i64 (pre.length:Nat)->
 W (QM sp ch) 44 (.loop zG) ⟨e,107,lc⟩ s fun y fr s'=>y= .exit 0/\ ∃e' lc',fr=⟨e',107,lc'⟩/\ax e' 9= .ptr s0.next 0/\Fs s0 s' x mb mo mt mu md (og b.id rest C) cs:=by
 have hcl:=hv.clean
 intro rest
 induction rest with
 |nil=>
  intro pre e lc s C hpre f h0 h1 h9 h92 h93 h94
  have hl:ks.length=pre.length:=by rw[hpre];simp
  refine cR ?_
  unfold zG
  refine aF ?_
  unfold D6
  simp only[az,aA,aB,aX,ak,aD,aw,cQ,aq,bf,cT,bF,da,tA,au,decide_false,h93,h94,hl,eU]
  refine aR (bc (t:=false) (by simp only[ak,ai,ah,cT]) ?_)
  refine eD ⟨rfl,_,_,rfl,?_,f⟩
  simp only[ai,ah,cF,h9]
 |cons k rest ih=>
  intro pre e lc s C hpre f h0 h1 h9 h92 h93 h94
  have hlt:pre.length<ks.length:=by rw[hpre];simp
  have hat:ks[pre.length]? =some k:=by rw[hpre];simp
  have hia:=fun lc=>hv.at lJ hat lc .i64
  have hwr:IntKind.i64.wrap ((pre.length:Int)+1)=((pre.length+1:Nat):Int):=by rw[ew (by omega) (by omega)];omega
  have ob':s.get [] pb=some (.cells [.str b.id,.int .i64 b.kind,.int .i64 b.x,.int .i64 b.y,b.refsV,b.tagsV]):=(f.old pb hpb.1 hpb.2).trans ob
  have hnote:=xT (sp:=sp) (ch:=ch) h45 f.hx f.hd b.id (mw k)
  have hadd:=Ve (hkl k (by rw[hpre];simp))
  refine cR ?_
  unfold zG
  refine aF ?_
  unfold D6
  simp only[az,aA,aB,aX,ak,aD,aw,cQ,aq,bf,cT,bF,da,tA,au,dT,h93,h94,hlt]
  refine aR (bc (t:=true) (by simp only[ak,ai,ah,cT]) (ck ?_))
  simp only[aU]
  refine aR (cO (aF ?_))
  unfold Ot
  simp only[az,aA,aB,ai,aN,bo,ek,ak,fQ,aw,kV,aq,cT,cF,bF,a7,bO,bS,tA,ah,au,dH,h92,h94,hia,bu,fQ]
  refine gh (fU 7 ?_)
  unfold Ou
  simp only[az,aA,aB,ai,aH,bo,aX,bZ,fI,ak,aK,aD,jB,aw,aq,cS,cT,cF,bF,bN,a7,bO,bS,tA,dc,ah,au,qZ,dH,h0,h1,fG,dv,ob',du,hadd]
  refine fY (g:=45) (args:=[.ptr x 0,.str b.id,.str (mw k)]) ?_ hnote (by decide) ?_
  ·simp only[callee,ai,ak,ff,aD,bk,bm,aq,cS,dW,cT,cF,cq,cH,bS,ah]
  refine fX ?_
  obtain⟨s2,hs2⟩: ∃a,a=s.put md (some (.map (eW 0 (dG (b.id,mw k) C)) (dG (b.id,mw k) C).length)):=⟨_,rfl⟩
  rw[<-hs2]
  have f2:Fs s0 s2 x mb mo mt mu md (dG (b.id,mw k) C) cs:=f.note (b.id,mw k) (fun n=>by rw[hs2]) (by rw[hs2];rfl) (by rw[hs2];exact jJ _ _ _ f.minw) (by rw[hs2];rfl)
  simp only[az,dP,aU]
  refine b7 ?_
  unfold Ov
  simp only[az,aA,aB,ai,aH,aX,ak,aK,aD,bt,aw,dZ,aq,bf,cT,cF,bF,bS,tA,ah,au,h94,hwr,aU]
  refine ih (pre++[k]) _ _ s2 _ (by rw[hpre];simp) f2 ?_ ?_ ?_ ?_ ?_ ?_
  ·simp only[ai,ah,cF,h0]
  ·simp only[ai,ah,cF,h1]
  ·simp only[ai,ah,cF,h9]
  ·simp only[ai,ah,cF,h92]
  ·simp only[ai,ah,cF,h93]
  ·simp only[ai,ah,cT,cF,dp,aP,aW]
theorem Yc (h44:sp 44=none) (h74:sp 74=some sV) (h36:sp 36=some rj) (h45:sp 45=none) (h75:sp 75=none) (h118:sp 118=some sE) (h76:sp 76=some ur) {s0:St} {x mb mo mt mu md pb po pt:Nat} {C:List Cf} {b o t:Obj}
 (hx:s0.get [] x=some (.cells [.map mb,.map mo,.map mt,.map mu,.map md])) (hd:s0.get [] md=some (.map (eW 0 C) C.length)) (hlt:x<s0.next/\md<s0.next) (hm:s0.minw<=s0.next) (ob:s0.get [] pb=some (.cells b.cells)) (oo:s0.get [] po=some (.cells o.cells)) (ot:s0.get [] pt=some (.cells t.cells)) (gb:b.Good) (go:o.Good) (gt:t.Good)
 (hp:pb<s0.next/\po<s0.next/\pt<s0.next) (vb:iK b.tags=true) (vo:iK o.tags=true) (vt:iK t.tags=true):
 ∃s',bz (QM sp ch) 44 [.ptr x 0,.ptr pb 0,.ptr po 0,.ptr pt 0] s0 (.ptr s0.next 0) s'/\Fs s0 s' x mb mo mt mu md (mV b o t C) (oO b o t).cells:=by
 have hxd:x≠md:=fun e=>by subst e;rw[hx] at hd;cases hd
 have hne: ∀ {p:Nat} {l:List aj},s0.get [] p=some (.cells l)->p≠md:=fun h e=>by subst e;rw[hd] at h;cases h
 have ob':s0.get [] pb=some (.cells [.str b.id,.int .i64 b.kind,.int .i64 b.x,.int .i64 b.y,b.refsV,b.tagsV]):=ob
 have crb:=gb.refs.clean
 have ctb:=gb.tags.clean
 have cell: ∀ {n:Nat} {α:Type} {enc:α->aj} {v:aj} {l:List α},bC n enc v l->v.cells=[v]:=fun h=>by rcases h with⟨rfl,_⟩|⟨r,rfl⟩<;>rfl
 have h: ∃v s',bz (QM sp ch) 44 [.ptr x 0,.ptr pb 0,.ptr po 0,.ptr pt 0] s0 v s'/\(v= .ptr s0.next 0/\Fs s0 s' x mb mo mt mu md (mV b o t C) (oO b o t).cells):=by
  refine bz.ofEx aeM aeL aeO aeN h44 ?_
  unfold Oj
  refine aF ?_
  unfold On
  simp only[dt,cY,az,aA,aB,aN,aK,aw,cT,aP,aW,tA,aQ,au,bE,cm,cj,dT,iP]
  refine aF ?_
  unfold Oo
  simp only[az,aA,ej,aB,ep,ai,aH,gZ,bo,ez,fI,ak,aD,jc,aw,bJ,dC,aq,cK,cT,cF,bF,gD,aP,aW,cut,cV,bN,a7,gr,eR,cq,iA,bS,tA,aQ,ah,au,bE,cm,dY,aZ,dl,cj,dT,pR,A6,Bh,Z0,fG,dv,ob',du,kz,ky,df]
  obtain⟨s1,hs1⟩: ∃a,a=(s0.new (.cells [.str [],.int .i64 0,.int .i64 0,.int .i64 0,.nils,.nils])).put s0.next (some (.cells b.cells)):=⟨_,rfl⟩
  have e1: ∀n,s1.get [] n=bif n==s0.next then some (.cells b.cells) else s0.get [] n:=fun n=>by
   rw[hs1,cI,df]
   cases n==s0.next<;>rfl
  have e2: ∀n,n<s0.next->s1.get [] n=s0.get [] n:=fun n h=>by rw[e1,beq_eq_false_iff_ne.2 (by omega)];rfl
  have f1:Fs s0 s1 x mb mo mt mu md C b.cells:=⟨by rw[e1,bS];rfl,(e2 x hlt.1).trans hx,(e2 md hlt.2).trans hd,fun n h _=>e2 n h,by rw[hs1];rfl,by rw[hs1];exact jJ _ _ _ (kC hm),by rw[hs1];rfl,hlt.2,hlt.1,hxd⟩
  have hst:(s0.new (.cells [.str [],.int .i64 0,.int .i64 0,.int .i64 0,.nils,.nils])).put s0.next (some (.cells [.str b.id,.int .i64 b.kind,.int .i64 b.x,.int .i64 b.y,b.refsV,b.tagsV]))=s1:=by rw[hs1];rfl
  rw[hst]
  have hpb:pb<s0.next/\pb≠md:=⟨hp.1,hne ob⟩
  have hpo:po<s0.next/\po≠md:=⟨hp.2.1,hne oo⟩
  have hpt:pt<s0.next/\pt≠md:=⟨hp.2.2,hne ot⟩
  refine Ym h74 h36 h45 f1 ((f1.old pb hpb.1 hpb.2).trans ob) ((f1.old po hpo.1 hpo.2).trans oo) ((f1.old pt hpt.1 hpt.2).trans ot) gb go gt hpb ?_ ?_ ?_ ?_ ?_ ?_
  ·simp only[ai,ah,cT,cF]
  ·simp only[ai,ah,cT,cF]
  ·simp only[ai,ah,cT,cF]
  ·simp only[ai,ah,cT,cF]
  ·simp only[ai,ah,cT,cF]
  intro e2 s2 a0 a1 a2 a3 a9 f2
  refine Yl h75 h118 h45 f2 ((f2.old pb hpb.1 hpb.2).trans ob) ((f2.old po hpo.1 hpo.2).trans oo) ((f2.old pt hpt.1 hpt.2).trans ot) a0 a1 a2 a3 a9 ?_
  intro e3 s3 b0 b1 b2 b3 b9 f3
  have ob3:s3.get [] pb=some (.cells [.str b.id,.int .i64 b.kind,.int .i64 b.x,.int .i64 b.y,b.refsV,b.tagsV]):=(f3.old pb hpb.1 hpb.2).trans ob
  have oo3:s3.get [] po=some (.cells [.str o.id,.int .i64 o.kind,.int .i64 o.x,.int .i64 o.y,o.refsV,o.tagsV]):=(f3.old po hpo.1 hpo.2).trans oo
  have ot3:s3.get [] pt=some (.cells [.str t.id,.int .i64 t.kind,.int .i64 t.x,.int .i64 t.y,t.refsV,t.tagsV]):=(f3.old pt hpt.1 hpt.2).trans ot
  have htag:=alR ⟨gb.tags,vb,gb.key⟩ ⟨go.tags,vo,go.key⟩ ⟨gt.tags,vt,gt.key⟩ gb.pt go.pt gt.pt
  have cto:=go.tags.clean
  have ctt:=gt.tags.clean
  have i1:bC 2 eC (fR 2 ((i8 b.tags o.tags t.tags).1.map eC)) (i8 b.tags o.tags t.tags).1:=sH _
  have i2:bC 1 bu (fR 1 ((i8 b.tags o.tags t.tags).2.map bu)) (i8 b.tags o.tags t.tags).2:=sH _
  have c1:=i1.clean
  have c2:=i2.clean
  have l1:=cell i1
  have hln:=fun mk s=>i2.len iI iW mk s
  have hrow:=f3.row
  simp only[yp,Obj.cells] at hrow
  have hlk:(i8 b.tags o.tags t.tags).2.length<=1000000:=by
   have h1:=(Gn b.tags o.tags t.tags).2
   have h2:b.tags.length<=60:=jZ.len ⟨gb.tags,vb,gb.key⟩
   have h3:o.tags.length<=60:=jZ.len ⟨go.tags,vo,go.key⟩
   have h4:t.tags.length<=60:=jZ.len ⟨gt.tags,vt,gt.key⟩
   omega
  refine W.sdrawQ f3.minw ?_
  unfold Ox
  simp only[eJ,eI,eK,isStore,ai,aH,aN,bo,bZ,fI,jD,dK,dI,ak,aD,bk,bm,aw,aq,cT,cF,bF,qS,a7,bO,bS,tA,aQ,ah,au,tJ,kR,b1,b2,b3,ctb,cto,ctt,fG,dv,sh,ob3,oo3,ot3,du,h76,htag,vT,iE,gg,mJ]
  refine aF ?_
  unfold Oy
  simp only[az,aA,ej,aB,ep,ai,aH,ez,bZ,ak,aD,aw,aq,cT,cF,bF,aP,aW,cV,bN,a7,gr,cq,cH,iA,bS,tA,aQ,ah,au,bE,cm,dY,aZ,dl,cj,dT,tJ,alG,b9,c1,l1,hrow,kz,ky]
  obtain⟨s4,hs4⟩: ∃a,a=s3.put s0.next (some (.cells (oO b o t).cells)):=⟨_,rfl⟩
  have f4:Fs s0 s4 x mb mo mt mu md (l5 b o t (j4 b o t C)) (oO b o t).cells:=f3.put (fun n=>by rw[hs4]) (by rw[hs4];rfl) (by rw[hs4];exact jJ _ _ _ f3.minw) (by rw[hs4];rfl)
  have hs4':s3.put s0.next (some (.cells [.str (nf b o t).id,.int .i64 (nf b o t).kind,.int .i64 (ue b o t).1,.int .i64 (ue b o t).2,(nf b o t).refsV,fR 2 ((i8 b.tags o.tags t.tags).1.map eC)]))=s4:=hs4.symm
  rw[hs4']
  refine aR (aR (b7 ?_))
  unfold Oq
  simp only[az,aA,aB,ai,aH,cJ,ak,aK,aD,bk,bm,bt,aw,bU,cU,bJ,aq,cT,cF,bF,gD,bS,tA,ah,au,aZ,Z1,c2,hln,aU]
  refine cO ?_
  refine ja (ahr h45 hpb ob i2 hlk (fun k hk=>Sb (Uc vb vo vt k (Ub.2 k hk))) (i8 b.tags o.tags t.tags).2 [] _ _ s4 _ rfl f4 ?_ ?_ ?_ ?_ ?_ ?_) ?_
  ·simp only[ai,ah,cF,b0]
  ·simp only[ai,ah,cF,b1]
  ·simp only[ai,ah,cF,b9]
  ·simp only[ai,ah,cT,cF]
  ·simp only[ai,ah,cT,cF]
  ·simp only[ai,ah,cT,cF];rfl
  rintro y fr s5 ⟨rfl,e5,lc5,rfl,g9,f5⟩
  show W (QM sp ch) 44 _ _ _ _
  refine aF ?_
  unfold Ow
  simp only[az,aA,aB,aN,ak,aw,tA,au,g9]
  refine cd ⟨.inr rfl,.ptr s0.next 0,cE ?_ rfl,rfl,f5⟩
  simp only[ai,ah,cT]
 obtain⟨v,s',r1,rfl,r2⟩:=h
 exact⟨s',r1,r2⟩
end
end Go.Proofs.YtbfmdojdemckbaaGreat
