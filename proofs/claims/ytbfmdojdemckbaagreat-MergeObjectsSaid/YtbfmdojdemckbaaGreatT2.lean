/- tag.Merge, whole. -/
import Derived.Test.YtbfmdojdemckbaaGreatT1
import Derived.Test.YtbfmdojdemckbaaGreatS2
namespace Go.Proofs.YtbfmdojdemckbaaGreat
open _root_.Bool renaming and_true→dB,not_false→ff,true_and→iP
open _root_.List renaming cons_append→cq,drop→aR,foldl_cons→ui,head?_cons→bN,length_append→dn,length_cons→aK,length_map→ep,length_nil→aQ,map_cons→fw,nil_append→bT,take→bA
open _root_.Nat renaming add_zero→cY,beq→aY,eq_of_beq_eq_true→ib,le_refl→bv,le_succ_of_le→j8,le_succ→jR,lt_succ_of_lt→mS,lt_succ_self→ic,reduceAdd→bt,reduceBEq→ae,reduceLT→ar,reduceLeDiff→bR,reduceMul→jh,zero_add→aM
open Operand renaming tmp→aa
open _root_.Option renaming bind_some→ak,getD_some→nM
open Go.Ag
def kN (a b c:ax):Option ax:=bif c==b||c==a then some b else bif b==a then some c else none
def mL (k a b c:ax) (ys:List ax):List ax:=match kN a b c with
 |some _=>ys
 |none=>ys++[k]
def kA (k v:ax) (xs:List cH) (ys:List ax):List cH×List ax:=
 bif v== [] then(xs,ys) else bif decide (xs.length<60) then(xs++[(k,v)],ys) else bif ys.elem k then(xs,ys) else(xs,ys++[k])
noncomputable def Pt:SC:=(.seq (.seq (.region D8)
 (.cond (aa 78) .skip (.region D9)))
 (.cond (aa 78) (.region zC) (.seq (.region zD)
 (.cond (aa 99) (.region zE) (.region zB)))))
noncomputable def Pu:SC:=(.seq (.region Ea)
 (.cond (aa 111) .skip (.seq (.region Eb)
 (.cond (aa 114) (.region Ec) (.seq (.region Ed)
 (.cond (aa 124) (.region Ee) .skip))))))
section
variable {sp:FuncId→Option (List ai→Option ai)} {ch:Nat→Nat}
theorem yT (lc:Ag.Loc) (l g o:Nat):iq Tryz.prog lc 197 (.lref l g o) (.int .i64 0)=bif aY (lc.gen l) g then some (.lref l g (o+0*1)) else none:=by rw [CL];rfl
theorem CK (lc:Ag.Loc) (l g o:Nat):iq Tryz.prog lc 197 (.lref l g o) (.int .i64 1)=bif aY (lc.gen l) g then some (.lref l g (o+1*1)) else none:=by rw [CL];rfl
theorem Ic (lc:Ag.Loc) (l g o:Nat):iq Tryz.prog lc 197 (.lref l g o) (.int .i64 2)=bif aY (lc.gen l) g then some (.lref l g (o+2*1)) else none:=by rw [CL];rfl
theorem alf {e:bc} {lc:Ag.Loc} {s:St} {lo g:Nat} {ov cv:ai} {xs:List cH} {ys:List ax} {k a b c:ax} {P:Ex→Fr→St→Prop} (t:kg lo s ov cv xs ys) (hm:s.minw≤s.next) (hlo:lo≤s.next) (hlen:ys.length≤1000)
 (h14:aq e 14=ov) (h15:aq e 15=cv) (h17:aq e 17= .str k) (h18:aq e 18= .lref 18 g 0) (h19:aq e 19= .str a) (hg:lc.gen 18=g) (hl:lc.get 18 g=some [.str a,.str b,.str c])
 (hk: ∀(e':bc) (s':St) (cv':ai),aq e' 9=aq e 9→aq e' 14=ov→aq e' 15=cv'→aq e' 17= .str k→aq e' 19= .str ((kN a b c).getD a)→aq e' 61=aq e 61→aq e' 62=aq e 62→aq e' 63=aq e 63→kg lo s' ov cv' xs (mL k a b c ys)→s'.ci=s.ci→s.next≤s'.next→s'.minw≤s'.next→(∀n,n<lo→s'.get [] n=s.get [] n)→P .normal ⟨e',136,lc⟩ s'):
 W (QM sp ch) 76 Pt ⟨e,136,lc⟩ s P:=by
 have hcc:=t.r.clean
 have hb1: ∀e,aq e 81= .str a→aq e 83= .str b→aq e 85= .str b→fY Tryz.prog 197 [(0,.tmp 81),(1,.tmp 83),(2,.tmp 85)] e=some (.agg [.str a,.str b,.str b]):=fun e p q r=>BA (by rw [aj,p]) (by rw [aj,q]) (by rw [aj,r])
 have hb2: ∀e,aq e 90= .str a→aq e 92= .str b→aq e 94= .str a→fY Tryz.prog 197 [(0,.tmp 90),(1,.tmp 92),(2,.tmp 94)] e=some (.agg [.str a,.str b,.str a]):=fun e p q r=>BA (by rw [aj,p]) (by rw [aj,q]) (by rw [aj,r])
 have hb3: ∀e,aq e 102= .str a→aq e 104= .str a→aq e 106= .str c→fY Tryz.prog 197 [(0,.tmp 102),(1,.tmp 104),(2,.tmp 106)] e=some (.agg [.str a,.str a,.str c]):=fun e p q r=>BA (by rw [aj,p]) (by rw [aj,q]) (by rw [aj,r])
 have hsl: ∀e s,aq e 75= .str k→dR Tryz.prog 37 1 [(0,.tmp 75)] false e s=some (.list 1 [.str k] .full,s):=fun e s h=>GI (by rw [aj,h]) s
 unfold Pt
 refine W.seq (W.seq (W.reg ?_))
 unfold D8
 simp only [az,aA,aB,ah,aJ,kL,bf,aW,ec,aj,aI,aC,bo,bU,aw,ak,bZ,cT,cF,bD,aK,aQ,cut,bA,aR,bN,bS,tA,aM,cY,ae,ar,bt,jh,iP,aU,An,dD,h18,hg,hl,yT,CK,hb1,B3,aN]
 have tail: ∀(e1:bc),aq e1 9=aq e 9→aq e1 14=aq e 14→aq e1 15=aq e 15→aq e1 17=aq e 17→aq e1 18=aq e 18→aq e1 19=aq e 19→aq e1 61=aq e 61→aq e1 62=aq e 62→aq e1 63=aq e 63→aq e1 78= .bool (c==b||c==a)→
  W (QM sp ch) 76 (.cond (aa 78) (.region zC) (.seq (.region zD) (.cond (aa 99) (.region zE) (.region zB)))) ⟨e1,136,lc⟩ s P:=by
  intro e1 g9 g14 g15 g17 g18 g19 g61 g62 g63 g78
  rw [h14] at g14
  rw [h15] at g15
  rw [h17] at g17
  rw [h18] at g18
  rw [h19] at g19
  cases hz:c==b||c==a with
  |true=>
   have hp:kN a b c=some b:=by simp only [kN,hz,cT]
   rw [hz] at g78
   refine W.cond (t:=true) (by rw [aj,g78]) (W.reg ?_)
   unfold zC
   simp only [az,aA,aB,ah,aJ,bf,ec,aj,aI,bo,bU,aw,ak,cT,cF,bD,aR,bN,bS,tA,aM,ae,ar,jh,aU,dD,g18,hg,hl,CK]
   refine hk _ s cv ?_ ?_ ?_ ?_ ?_ ?_ ?_ ?_ (by simp only [mL,hp];exact t) rfl (bv _) hm fun _ _=>rfl
   all_goals simp only [ah,ae,cT,cF,g9,g14,g15,g17,g61,g62,g63,hp,nM]
  |false=>
   rw [hz] at g78
   refine W.cond (t:=false) (by rw [aj,g78]) (W.sreg ?_)
   unfold zD
   simp only [az,aA,aB,ah,aJ,kL,bf,aW,ec,aj,aI,aC,bo,bU,aw,ak,bZ,cT,cF,bD,aK,aQ,cut,bA,aR,bN,bS,tA,aM,cY,ae,ar,bt,jh,iP,dB,aU,An,dD,g18,hg,hl,yT,Ic,hb3,B3]
   cases hy:b==a with
   |true=>
    have hp:kN a b c=some c:=by simp only [kN,hz,hy,cT,cF]
    refine W.cond (t:=true) (by simp only [aj,ah,ae,cT,cF,bS]) (W.reg ?_)
    unfold zE
    simp only [az,aA,aB,ah,aJ,bf,ec,aj,aI,bo,bU,aw,ak,cT,cF,bD,aR,bN,bS,tA,aM,ae,ar,jh,aU,dD,g18,hg,hl,Ic]
    refine hk _ s cv ?_ ?_ ?_ ?_ ?_ ?_ ?_ ?_ (by simp only [mL,hp];exact t) rfl (bv _) hm fun _ _=>rfl
    all_goals simp only [ah,ae,cT,cF,g9,g14,g15,g17,g61,g62,g63,hp,nM]
   |false=>
    have hp:kN a b c=none:=by simp only [kN,hz,hy,cF]
    obtain⟨cv',s',r1,r2,r3,r4,r5,r6,r7⟩:=t.right hm hlo hlen k
    refine W.cond (t:=false) (by simp only [aj,ah,ae,cT,cF]) (W.reg ?_)
    unfold zB
    simp only [az,aA,aB,ah,aE,aJ,kM,cL,aj,aC,be,bh,aw,cd,nZ,bH,ak,i8,cT,cF,bD,gp,bS,tA,ae,ar,aU,u6,g15,g17,hcc,ZS,ZT,hsl,r1]
    refine hk _ s' cv' ?_ ?_ ?_ ?_ ?_ ?_ ?_ ?_ (by simp only [mL,hp];exact r2) r3 r4 r5 r7
    all_goals simp only [ah,ae,cT,cF,g9,g14,g17,g19,g61,g62,g63,hp,Option.getD_none]
 cases hz:c==b with
 |true=>
  refine W.cond (t:=true) (by simp only [aj,ah,ae,cT,cF,bS]) (W.skip ?_)
  simp only [aN]
  refine tail _ ?_ ?_ ?_ ?_ ?_ ?_ ?_ ?_ ?_ ?_
  all_goals simp only [ah,ae,cT,cF,hz,bS,Bool.true_or]
 |false=>
  refine W.cond (t:=false) (by simp only [aj,ah,ae,cT,cF]) (W.reg ?_)
  unfold D9
  simp only [az,aA,aB,ah,aJ,kL,bf,aW,ec,aj,aI,aC,bo,bU,aw,ak,bZ,cT,cF,bD,aK,aQ,cut,bA,aR,bN,bS,tA,aM,cY,ae,ar,bt,jh,iP,aU,An,dD,h18,hg,hl,yT,CK,hb2,B3,aN]
  refine tail _ ?_ ?_ ?_ ?_ ?_ ?_ ?_ ?_ ?_ ?_
  all_goals simp only [ah,ae,cT,cF,hz,bS,Bool.false_or]
end
theorem kg.isR {lo:Nat} {s:St} {ov cv:ai} {xs:List cH} {ys:List ax} (t:kg lo s ov cv xs ys):bu 1 bp cv ys:=by
 rcases t.r with⟨h1,h2⟩|⟨_,k,h1,_⟩
 ·exact .inl ⟨h1,List.map_eq_nil_iff.1 h2⟩
 ·exact .inr ⟨_,h1⟩
theorem kg.isL {lo:Nat} {s:St} {ov cv:ai} {xs:List cH} {ys:List ax} (t:kg lo s ov cv xs ys):bu 2 ek ov xs:=by
 rcases t.l with⟨h1,h2⟩|⟨_,k,h1,_⟩
 ·exact .inl ⟨h1,List.map_eq_nil_iff.1 h2⟩
 ·exact .inr ⟨_,h1⟩
section
variable {sp:FuncId→Option (List ai→Option ai)} {ch:Nat→Nat}
theorem alg (h186:sp 186=none) (h121:sp 121=none) {e:bc} {lc:Ag.Loc} {s:St} {lo:Nat} {ov cv:ai} {xs:List cH} {ys:List ax} {k v:ax} {P:Ex→Fr→St→Prop} (t:kg lo s ov cv xs ys) (hm:s.minw≤s.next) (hlo:lo≤s.next) (hlen:ys.length≤1000) (hlx:xs.length≤60)
 (h14:aq e 14=ov) (h15:aq e 15=cv) (h17:aq e 17= .str k) (h19:aq e 19= .str v)
 (hk: ∀(e':bc) (s':St) (ov' cv':ai),aq e' 9=aq e 9→aq e' 14=ov'→aq e' 15=cv'→aq e' 61=aq e 61→aq e' 62=aq e 62→aq e' 63=aq e 63→kg lo s' ov' cv' (kA k v xs ys).1 (kA k v xs ys).2→s'.ci=s.ci→s.next≤s'.next→s'.minw≤s'.next→(∀n,n<lo→s'.get [] n=s.get [] n)→P .normal ⟨e',136,lc⟩ s'):
 W (QM sp ch) 76 Pu ⟨e,136,lc⟩ s P:=by
 have hcc:=t.r.clean
 have hco:=t.l.clean
 have hln:=fun mk s=>t.isL.len se sd mk s
 have hcon:=V4 (ch:=ch) h186 h121 t.isR (by omega) k s
 have hbd: ∀e,aq e 119= .str k→aq e 120= .str v→fY Tryz.prog 51 [(0,.tmp 119),(1,.tmp 120)] e=some (.agg [.str k,.str v]):=fun e p q=>UT (by rw [aj,p]) (by rw [aj,q])
 have hsl: ∀e s,aq e 130= .str k→dR Tryz.prog 37 1 [(0,.tmp 130)] false e s=some (.list 1 [.str k] .full,s):=fun e s h=>GI (by rw [aj,h]) s
 have hsl2: ∀e s,aq e 121= .agg [.str k,.str v]→dR Tryz.prog 38 1 [(0,.tmp 121)] false e s=some (.list 2 [.agg [.str k,.str v]] .full,s):=fun e s h=>U7 (by rw [aj,h]) s
 unfold Pu
 refine W.sreg ?_
 unfold Ea
 simp only [az,aA,aB,ah,aE,aJ,aW,aj,aI,aC,hQ,aw,iJ,ak,cu,cT,cF,bD,bS,tA,ae,ar,h19]
 cases hv:v== [] with
 |true=>
  have hp:kA k v xs ys=(xs,ys):=by simp only [kA,hv,cT]
  refine W.cond (t:=true) (by simp only [aj,ah,ae,cT,cF]) (W.skip ?_)
  refine hk _ s ov cv ?_ ?_ ?_ ?_ ?_ ?_ (by rw [hp];exact t) rfl (bv _) hm fun _ _=>rfl
  all_goals simp only [ah,ae,cF,h14,h15]
 |false=>
  refine W.cond (t:=false) (by simp only [aj,ah,ae,cT,cF]) (W.sreg ?_)
  unfold Eb
  have hlt:du ((xs.length:Nat):Int) 60=decide (xs.length<60):=cZ xs.length 60
  simp only [az,aA,aB,ah,aE,aJ,aW,cL,aj,aI,aC,be,bh,bo,aw,cd,cQ,da,bH,ak,aZ,cT,cF,bD,gp,bS,tA,ae,ar,aU,h14,hco,ZJ,hln,hlt]
  by_cases h60:xs.length<60
  ·have hp:kA k v xs ys=(xs++[(k,v)],ys):=by simp only [kA,hv,decide_eq_true h60,cT,cF]
   obtain⟨ov',s',r1,r2,r3,r4,r5,r6,r7⟩:=t.left hm hlo (by omega) (k,v)
   refine W.cond (t:=true) (by simp only [aj,ah,ae,cT,cF,decide_eq_true h60]) (W.reg ?_)
   unfold Ec
   simp only [az,aA,aB,ah,aE,aJ,kL,kM,cL,aj,aC,be,bh,aw,cd,nZ,bH,ak,i8,cT,cF,bD,gp,bS,tA,ae,ar,aU,aaH,h14,h17,h19,hco,hbd,ZK,ZL,hsl2,r1]
   refine hk _ s' ov' cv ?_ ?_ ?_ ?_ ?_ ?_ (by rw [hp];exact r2) r3 r4 r5 r7
   all_goals simp only [ah,ae,cT,cF,h15]
  ·refine W.cond (t:=false) (by simp only [aj,ah,ae,cT,cF,decide_eq_false h60]) (W.seq (W.region (fD 2 ?_)))
   unfold Ed
   simp only [az,aA,aB,ah,aE,aj,aw,cF,bA,aR,tA,ae,ar,h15,h17]
   refine fQ (g:=121) (args:=[cv,.str k]) ?_ hcon (by decide) ?_
   ·simp only [callee,ah,aj,eH,aC,be,bh,ak,cu,cT,cF,bT,cq,bS,ae,hcc]
   refine fP ?_
   simp only [az,aA,aB,ah,aJ,eW,aj,aC,aw,eZ,ak,ei,cT,cF,bS,tA,ae,ar,aN]
   cases he:ys.elem k with
   |true=>
    have hp:kA k v xs ys=(xs,ys):=by simp only [kA,hv,decide_eq_false h60,he,cT,cF]
    refine W.cond (t:=false) (by simp only [aj,ah,ae,cT,cF,Bool.not_true]) (W.skip ?_)
    refine hk _ s ov cv ?_ ?_ ?_ ?_ ?_ ?_ (by rw [hp];exact t) rfl (bv _) hm fun _ _=>rfl
    all_goals simp only [ah,ae,cF,h14,h15]
   |false=>
    have hp:kA k v xs ys=(xs,ys++[k]):=by simp only [kA,hv,decide_eq_false h60,he,cF]
    obtain⟨cv',s',r1,r2,r3,r4,r5,r6,r7⟩:=t.right hm hlo hlen k
    refine W.cond (t:=true) (by simp only [aj,ah,ae,cT,cF,ff]) (W.reg ?_)
    unfold Ee
    simp only [az,aA,aB,ah,aE,aJ,kM,cL,aj,aC,be,bh,aw,cd,nZ,bH,ak,i8,cT,cF,bD,gp,ff,bS,tA,ae,ar,aU,u6,h15,h17,hcc,ZN,ZO,hsl,r1]
    refine hk _ s' ov cv' ?_ ?_ ?_ ?_ ?_ ?_ (by rw [hp];exact r2) r3 r4 r5 r7
    all_goals simp only [ah,ae,cT,cF,h14]
end
def pw (V:ax→List ax) (k:ax) (st:List cH×List ax):List cH×List ax:=match V k with
 | [a,b,c]=>kA k ((kN a b c).getD a) st.1 (mL k a b c st.2)
 |_=>st
def lA (V:ax→List ax) (ks:List ax) (st:List cH×List ax):List cH×List ax:=ks.foldl (fun st k=>pw V k st) st
theorem S7 {k v:ax} {xs:List cH} {ys:List ax} (hx:xs.length≤60):(kA k v xs ys).1.length≤60∧(kA k v xs ys).2.length≤ys.length+1:=by
 unfold kA
 cases v== [] with
 |true=>exact⟨hx,jR _⟩
 |false=>
  by_cases h:xs.length<60
  ·simp only [cF,decide_eq_true h,cT,dn,aK,aQ];omega
  ·simp only [cF,decide_eq_false h]
   cases ys.elem k with
   |true=>exact⟨hx,jR _⟩
   |false=>simp only [cF,dn,aK,aQ];omega
theorem ali {V:ax→List ax} {k:ax} {st:List cH×List ax} (hx:st.1.length≤60):(pw V k st).1.length≤60∧(pw V k st).2.length≤st.2.length+2:=by
 unfold pw
 split
 ·rename_i a b c _
  have h:=S7 (k:=k) (v:=(kN a b c).getD a) (ys:=mL k a b c st.2) hx
  have h2:(mL k a b c st.2).length≤st.2.length+1:=by
   unfold mL
   cases kN a b c with
   |none=>simp
   |some _=>exact jR _
  exact⟨h.1,by omega⟩
 ·exact⟨hx,by omega⟩
theorem TM.keep {s s':St} {m lo:Nat} {K:List ax} {V:ax→List ax} (t:TM s m lo K V) (hm:m<s.next) (hg: ∀n,n<s.next→s'.get [] n=s.get [] n) (hn:s.next≤s'.next):TM s' m lo K V:=by
 obtain⟨L,h1,h2,h3,h4⟩:=t.ex
 refine⟨t.len,t.fits,t.noV,L,h1,(hg m hm).trans h2,fun k v hv=>?_,h4⟩
 obtain⟨r,a,b,c,d⟩:=h3 k v hv
 exact⟨r,a,b,by omega,(hg r c).trans d⟩
theorem alx {l:List ax} (h:l.length=3): ∃a b c,l=[a,b,c]:=by
 match l,h with
 | [a,b,c],_=>exact⟨a,b,c,rfl⟩
section
variable {sp:FuncId→Option (List ai→Option ai)} {ch:Nat→Nat}
theorem ag8 (h186:sp 186=none) (h121:sp 121=none) {s0:St} {m lo0 rk:Nat} {K ks:List ax} {V:ax→List ax} (t0:TM s0 m lo0 K V) (hm0:m<s0.next) (hrk:rk<s0.next) (hrow:s0.get [] rk=some (.cells (ks.map bp))) (hks: ∀k∈ks,k∈K) (hlen:ks.length≤300):
 ∀(rest pre:List ax) (e:bc) (lc:Ag.Loc) (s:St) (ov cv:ai) (xs:List cH) (ys:List ax),ks=pre++rest→kg s0.next s ov cv xs ys→xs.length≤60→ys.length≤2*pre.length→s.minw≤s.next→s0.next≤s.next→(∀n,n<s0.next→s.get [] n=s0.get [] n)→
 aq e 9= .map m→aq e 14=ov→aq e 15=cv→aq e 61= .arr 1 rk 0 ks.length ks.length→aq e 62= .int .i64 (ks.length:Nat)→aq e 63= .int .i64 (pre.length:Nat)→
 W (QM sp ch) 76 (.loop xl) ⟨e,136,lc⟩ s fun x fr s'=>x= .exit 4∧ ∃e' lc' ov' cv',fr=⟨e',136,lc'⟩∧aq e' 14=ov'∧aq e' 15=cv'∧kg s0.next s' ov' cv' (lA V rest (xs,ys)).1 (lA V rest (xs,ys)).2∧s'.ci=s.ci:=by
 intro rest
 induction rest with
 |nil=>
  intro pre e lc s ov cv xs ys hpre two hx hy hm hn hold h9 h14 h15 h61 h62 h63
  have hl:ks.length=pre.length:=by rw [hpre];simp
  refine W.loop1 ?_
  unfold xl
  refine W.sreg ?_
  unfold zA
  simp only [az,aA,aB,aW,aj,aC,aw,cQ,ak,aZ,cT,bD,cZ,tA,ar,decide_false,h62,h63,hl,Nat.lt_irrefl]
  refine W.seq (W.cond (t:=false) (by simp only [aj,ah,ae,cT]) ?_)
  refine W.exit ⟨rfl,_,_,ov,cv,rfl,?_,?_,two,rfl⟩
  ·simp only [ah,ae,cF,h14]
  ·simp only [ah,ae,cF,h15]
 |cons k rest ih=>
  intro pre e lc s ov cv xs ys hpre two hx hy hm hn hold h9 h14 h15 h61 h62 h63
  have hlt:pre.length<ks.length:=by rw [hpre];simp
  have hwr:IntKind.i64.wrap ((pre.length:Int)+1)=((pre.length+1:Nat):Int):=by rw [eC (by omega) (by omega)];omega
  have hrd:((ks.map bp).drop pre.length).head?=some (.str k):=by rw [hpre,List.map_append,List.drop_left' (by simp)];rfl
  have hgr:s.get [] rk=some (.cells (ks.map bp)):=(hold rk hrk).trans hrow
  have t:=t0.keep hm0 hold hn
  obtain⟨r,r1,r2,r3,r4,_⟩:=t.row (hks k (by rw [hpre];simp))
  obtain⟨a,b,c,habc⟩:=alx (t0.len k)
  rw [habc] at r3
  simp only [fw,List.map_nil,bp] at r3
  have hst:lA V (k::rest) (xs,ys)=lA V rest (kA k ((kN a b c).getD a) xs (mL k a b c ys)):=by
   simp only [lA,ui,pw,habc]
  have hconf:(mL k a b c ys).length≤ys.length+1:=by
   unfold mL
   cases kN a b c with
   |none=>simp
   |some _=>exact jR _
  have hle:=S7 (k:=k) (v:=(kN a b c).getD a) (ys:=mL k a b c ys) hx
  refine W.loop1 ?_
  unfold xl
  refine W.sreg ?_
  unfold zA
  simp only [az,aA,aB,aW,aj,aC,aw,cQ,ak,aZ,cT,bD,cZ,tA,ar,dT,h62,h63,hlt]
  refine W.seq (W.cond (t:=true) (by simp only [aj,ah,ae,cT]) (W.skip ?_))
  simp only [aN]
  refine W.seq (W.block (W.sreg ?_))
  unfold PF
  simp only [az,aA,aB,ah,aJ,bf,ec,aj,sh,aw,ak,cT,cF,bS,tA,aM,ae,ar,iP,aU,cP,dT,bD,Ig,h61,h63,hlt,Nat.mul_one,dl,hgr,dj,dD,hrd]
  refine W.sreg ?_
  unfold PG
  simp only [az,aA,dH,aB,dI,ah,bI,gQ,aE,fH,bf,dJ,lp,fI,aj,aC,eM,aw,bH,di,fU,ak,cu,bZ,fZ,cT,cF,bD,gp,aK,aQ,cut,cI,bA,aR,List.take_succ_cons,bT,cq,bS,tA,aM,ae,ar,bt,bR,dB,aU,cP,bQ,dT,h9,r4,fG,dl,r3,dj,An,ZP,FY,ak7]
  refine W.sreg ?_
  unfold PH
  simp only [az,aA,aB,ah,cz,bI,aJ,bf,ec,aj,aI,bo,bU,aw,ak,cT,cF,bD,aR,bN,bS,tA,cY,ae,ar,jh,aU,dD,yT]
  refine W.seq (W.block ?_)
  refine alf (g:=lc.gen 18+1) (k:=k) (a:=a) (b:=b) (c:=c) two hm hn (by omega) ?_ ?_ ?_ ?_ ?_ ?_ ?_ ?_
  ·simp only [ah,ae,cF,h14]
  ·simp only [ah,ae,cF,h15]
  ·simp only [ah,ae,cT,cF]
  ·simp only [ah,ae,cT,cF]
  ·simp only [ah,ae,cT,cF]
  ·simp only [cz,ae,cT]
  ·simp only [bI,cT,bS]
  intro e1 s1 cv1 g9 g14 g15 g17 g19 g61 g62 g63 two1 c1 n1 m1 o1
  simp only [ah,ae,cF] at g9 g61 g62 g63
  simp only [dS,aN]
  refine W.block ?_
  refine alg (k:=k) (v:=(kN a b c).getD a) h186 h121 two1 m1 (by omega) (by omega) hx g14 g15 g17 g19 ?_
  intro e2 s2 ov2 cv2 f9 f14 f15 f61 f62 f63 two2 c2 n2 m2 o2
  simp only [dS,aN]
  refine W.reg ?_
  unfold PK
  simp only [az,aA,aB,ah,aE,aW,aj,aI,aC,bo,aw,d8,ak,aZ,cT,bD,bS,tA,ar,f63,g63,h63,hwr,aN]
  refine W.mono (ih (pre++[k]) _ _ s2 ov2 cv2 _ _ (by rw [hpre];simp) two2 hle.1 (by rw [dn,List.length_singleton];omega) m2 (by omega) (fun n hn'=>(o2 n hn').trans ((o1 n hn').trans (hold n hn'))) ?_ ?_ ?_ ?_ ?_ ?_) ?_
  ·simp only [ah,ae,cF,f9,g9,h9]
  ·simp only [ah,ae,cF,f14]
  ·simp only [ah,ae,cF,f15]
  ·simp only [ah,ae,cF,f61,g61,h61]
  ·simp only [ah,ae,cF,f62,g62,h62]
  ·simp only [ah,ae,cT,cF,dn,aK,aQ]
  rintro x fr s' ⟨rfl,e',lc',ov',cv',rfl,q1,q2,q3,q4⟩
  refine⟨rfl,e',lc',ov',cv',rfl,q1,q2,?_,by rw [q4,c2,c1]⟩
  rw [hst]
  exact q3
end
noncomputable def uv (T:eE) (ch:Nat→Nat):ck:=QM (fun f=>eY f T) ch
theorem XU {T:eE} (hT:fV T):Ag.Good (uv T fun _=>0) where
 mixed:=EL
 spec f sp hsp args v hv G hp w xs wr hx:=hT _ (AN hsp) args v hv G hp w xs wr hx
 specH f sp h args v G hp w xs wr hx hv:=by cases h
 specW f sp h:=by
  have h:(bif aY f 48 then some wc else bif aY f 51 then some v8 else none)=some sp:=h
  cases hb:aY f 48 with
  |true=>
   have:=ib hb
   subst this
   rw [hb] at h
   injection h with h;subst h
   exact akQ
  |false=>
   rw [hb] at h
   cases hb2:aY f 51 with
   |true=>
    have:=ib hb2
    subst this
    rw [hb2] at h
    injection h with h;subst h
    exact akP
   |false=>rw [hb2] at h;cases h
 names f fn hf:=by
  have hf:Tryz.prog.funcs[f]? =some fn:=hf
  have:=List.all_eq_true.1 ET fn (by
   rw [←Array.getElem?_toList] at hf
   exact List.mem_of_getElem? hf)
  simpa using this
theorem ST {T:eE} (hT:fV T) {f:FuncId} {args:List ai} {u:ai} (hp:jy args=true) (hr: ∀ch, ∃v s',br (uv T ch) f (dU args) s0 v s'∧jB s'.heap v u) (G:Gh) (h:bq bE) (w:World) (xs:List Value) (wr:WR G h w) (hx:cg G args xs):
 kb Tryz.prog f ⟨xs⟩ w fun y w'=> ∃G',WR G' h w'∧dh G h w G' h w' 0 0∧VR G' u y:=by
 obtain⟨N,hN⟩:=W2 (B:=1000000) (by omega) (fun ch n=> ∃v s',(cG (uv T ch) n).call f (dU args) [] s0=some (v,s')∧jB s'.heap v u)
  (fun ch n m hnm ⟨v,s',h1,h2⟩=>⟨v,s',(lW (uv T ch) hnm).call _ _ _ _ _ h1,h2⟩)
  (fun ch n ⟨v,s',h1,h2⟩=>⟨s'.ci,fun ch' hc=>⟨v,s',(o0 (uv T fun _=>0) n).call f _ [] ch s0 v s' h1 ch' hc,h2⟩⟩)
  (fun ch _=>let⟨v,s',⟨n,h1⟩,h2⟩:=hr ch;⟨n,v,s',h1,h2⟩)
 exact Fy (Q:=uv T fun _=>0) (n:=N) (XU hT) (fun _=>(by decide:0<1000000)) hp (fun ch hi=>hN ch hi) G h w xs wr hx
def jp (b o t:List cH):List cH×List ax:=lA (x5 b o t) (fq (kn b o t)) ([],[])
def vO (r:List cH×List ax):ai:=.tup [fS 2 (r.1.map ek),fS 1 (r.2.map bp)]
theorem td: ∀(l:List cH) (K:List ax),(jC l K).length≤K.length+l.length
 | [],K=>bv _
 |t::l,K=>by
  have h:=td l (iR t.1 K)
  have h2:(iR t.1 K).length≤K.length+1:=by
   unfold iR
   cases K.elem t.1 with
   |true=>exact jR _
   |false=>simp
  simp only [jC,ui,aK] at h ⊢
  omega
theorem wP: ∀(L:List (ax×ai)) (n:Nat),(cK n L).map (·.key)=(L.map (·.1)).map bp
 | [],_=>rfl
 |(a,v)::L,n=>by
  simp only [cK,fw,wP L (n+1)];rfl
theorem qC: ∀(L:List (ax×ai)) (n:Nat),(cK n L).length=L.length
 | [],_=>rfl
 |(a,v)::L,n=>by simp only [cK,aK,qC L (n+1)]
theorem BX: ∀(U:List (ax×ai)) (n:Nat),(cK n U).map (·.born)=List.range' n U.length
 | [],_=>rfl
 |(k,v)::U,n=>by simp only [cK,fw,BX U (n+1),aK,List.range'_succ]
theorem Ho (L:List (ax×ai)):yf (cK 0 L):=by
 refine⟨fun e he=>?_,by rw [BX];exact List.nodup_range'⟩
 have h1:e.born∈(cK 0 L).map (·.born):=List.mem_map.2 ⟨e,he,rfl⟩
 rw [BX,List.mem_range'_1] at h1
 rw [qC];omega
theorem QX (mk:bj) (n m o l c:Nat) (s:St):gG Tryz.prog mk 37 (.arr n m o l c) s=some (.int .i64 (l:Nat)):=by kernel_rfl
section
variable {sp:FuncId→Option (List ai→Option ai)} {ch:Nat→Nat}
theorem agX (h120:sp 120=none) {m:Nat} {s:St}:br (QM sp ch) 120 [.map m] s (.func (.func 185) [] [.ptr s.next 0]) (s.new (.cells [.map m])):=by
 refine br.of2 abr abq abu abt h120 ?_
 unfold Jf
 refine W.sreg ?_
 unfold Jg
 simp only [dg,cM,az,aA,aB,ah,aJ,ja,aj,aI,aC,iA,aw,bH,ak,fZ,cT,gp,aK,aQ,bS,tA,aM,ar,bR,bQ,dT,Yh,iA,ofValue,fk]
 refine W.sreg ?_
 unfold Jh
 simp only [az,aA,aB,ah,aJ,vG,aj,aC,be,bh,aw,ak,dM,cT,cF,bS,tA,ae,ar,oe]
 exact W.ret ⟨rfl,.inr rfl,cp (by simp only [ah,ae,cT,cF]) rfl⟩
theorem XR (h185:sp 185=none) {m cb:Nat} {s0:St} {L:List (ax×ai)} (hmw:s0.minw≤s0.next) (hm:m<s0.next) (hcb:cb<s0.next) (hc:s0.get [] cb=some (.cells [.map m])) (hmm:s0.get [] m=some (.map (cK 0 L) L.length)) (hL:L.length≤1000000):qs (QM sp ch) 1 185 s0 cb (cK 0 L):=by
 intro s bx lo lim lob c ht
 refine agZ (Q:=QM sp ch) rfl rfl (ch:=ch) rfl rfl (Ho L) (fun i=>by rw [qC];exact hL) h185 rfl rfl hmw hm hcb hc (by rw [qC];exact hmm) c ht fun e he=>?_
 have h1:e.key∈(cK 0 L).map (·.key):=List.mem_map.2 ⟨e,he,rfl⟩
 rw [wP] at h1
 obtain⟨b,_,e2⟩:=List.mem_map.1 h1
 exact⟨b,e2.symm⟩
theorem alp (hs: ∀n,n=25∨n=47∨n=78∨n=48→sp n=none) (h76:sp 76=none) (h59:sp 59=some pu) (h120:sp 120=none) (h185:sp 185=none) (h186:sp 186=none) (h121:sp 121=none) {vb vo vt:ai} {b o t:List cH} (hb:jM vb b) (ho:jM vo o) (ht:jM vt t) {s:St} (hm:s.minw≤s.next):
 ∃v s',br (QM sp ch) 76 [vb,vo,vt] s v s'∧jB s'.heap v (vO (jp b o t)):=by
 have cb:=hb.is.clean
 have co:=ho.is.clean
 have ct:=ht.is.clean
 have cell: ∀ {v:ai} {l:List cH},bu 2 ek v l→v.cells=[v]:=fun h=>by rcases h with⟨rfl,_⟩|⟨r,rfl⟩<;>rfl
 have lb:=cell hb.is
 have lo:=cell ho.is
 have lt:=cell ht.is
 have hbd: ∀e,aq e 20=vb→aq e 21=vo→aq e 22=vt→fY Tryz.prog 194 [(0,.tmp 20),(1,.tmp 21),(2,.tmp 22)] e=some (.agg [vb,vo,vt]):=fun e p q r=>by
  rw [UM]
  simp only [TH,ak,dL,evc,ev,p,q,r,cb,co,ct,lb,lo,lt,cT]
  rfl
 refine br.ofEx agj agi agm agl h76 ?_
 unfold Ps
 refine W.sreg ?_
 unfold Pv
 simp only [dg,cM,az,aA,aB,aJ,aI,aw,cT,aK,aQ,tA,aM,ar,bt,bR,bQ,dT,ofValue,fk]
 refine W.sreg ?_
 unfold Pw
 simp only [az,aA,dH,aB,dI,ah,dx,bI,gQ,aE,fH,kL,dJ,aj,aC,eM,aw,bH,di,fU,ak,bZ,cT,cF,bD,gp,aK,aQ,cI,bA,aR,bT,cq,bS,tA,aM,ae,ar,bt,bR,dB,aU,cP,bQ,dT,hbd,ZU,TH,ak6]
 refine W.sreg ?_
 unfold PE
 simp only [az,aA,aB,ah,aJ,vH,aj,aw,cd,cT,cF,bD,bS,tA,ae,ar,air]
 refine W.seq (W.seq (W.reg ?_))
 unfold PJ
 simp only [az,aA,aB,ah,bI,aE,bf,aj,aI,bo,bU,aw,ak,cT,cF,bD,aK,aQ,cut,bA,aR,bS,tA,aM,ae,ar,bt,aU,ajT,aN]
 refine W.block ?_
 refine W.mono (akJ (m:=s.next) h59 hb ho ht (by rw [cW,bS];rfl) (ic _) (j8 hm) ?_ ?_ ?_) ?_
 ·simp only [ah,ae,cT,cF]
 ·simp only [ah,ae,cT,cF]
 ·simp only [ah,ae,cT,cF];rfl
 rintro x fr s1 ⟨rfl,e1,lc1,rfl,g9,t1,o1,n1,m1,c1⟩
 have n1:s.next+1≤s1.next:=n1
 show W (QM sp ch) 76 _ _ _ _
 refine W.sreg ?_
 unfold PB
 simp only [az,aA,aB,aJ,aI,aw,tA,ar,ofValue,fk]
 refine W.sreg ?_
 unfold PC
 simp only [az,aA,aB,aJ,aI,aw,tA,ar,ofValue,fk]
 obtain⟨L,hL1,hL2,_,_⟩:=t1.ex
 have hLl:L.length≤180:=by
  have h1:(L.map (·.1)).length=(kn b o t).length:=congrArg List.length hL1
  rw [ep] at h1
  have h2:=td b []
  have h3:=td o (jC b [])
  have h4:=td t (jC o (jC b []))
  have hb:=hb.len
  have ho:=ho.len
  have ht:=ht.len
  simp only [aQ] at h2
  unfold kn at h1
  omega
 have hg2: ∀n,n<s1.next→(s1.new (.cells [.map s.next])).get [] n=s1.get [] n:=fun n h=>by rw [cW,beq_eq_false_iff_ne.2 (by omega)];rfl
 obtain⟨v,s2,hr,hgot⟩:=SR (Q:=QM sp ch) rfl rfl hs (fun _=>rfl) (fun n hn=>by rcases hn with rfl|rfl|rfl<;>rfl) rfl (g:=185) (cb:=s1.next) (s0:=s1.new (.cells [.map s.next])) (es:=cK 0 L) (ks:=kn b o t) (j8 m1) (by rw [qC];omega) (by rw [wP,hL1]) (by kernel_rfl)
  (XR h185 (m:=s.next) (j8 m1) (mS (by omega)) (ic _) (by rw [cW,bS];rfl) ((hg2 _ (by omega)).trans hL2) (by omega))
 have hvc:=hgot.clean
 refine W.seq (W.seq (W.region (fD 1 ?_)))
 unfold PD
 simp only [az,aA,aB,ah,aE,aj,aw,cF,bA,aR,tA,ae,ar,g9]
 refine fQ (g:=120) (args:=[.map s.next]) ?_ (agX h120) (by decide) ?_
 ·simp only [callee,ah,aj,eH,aC,be,bh,ak,fZ,cT,cF,bT,cq,bS,ae]
 refine fQ (g:=25) (args:=[.func (.func 185) [] [.ptr s1.next 0]]) ?_ hr (by decide) ?_
 ·simp only [callee,ah,aj,eH,aC,be,bh,ak,nc,cT,cF,bT,cq,bS,ae]
 refine fP ?_
 have hnx:s1.next+1≤s2.next:=hgot.next
 have m2:s2.minw≤s2.next:=by
  have h1:=hgot.minw
  have h2:(s1.new (.cells [.map s.next])).minw=s1.minw:=rfl
  omega
 have hold: ∀n,n<s1.next→s2.get [] n=s1.get [] n:=fun n h=>(hgot.old n (mS h)).trans (hg2 n h)
 have t2:=t1.keep (by omega) hold (by omega)
 obtain⟨ks,hks⟩: ∃ks,ks=fq (kn b o t):=⟨_,rfl⟩
 have hperm:=l5 (kn b o t)
 rw [←hks] at hperm hgot
 have hkl:ks.length≤300:=by
  have h1:=hperm.length_eq
  have h2:(L.map (·.1)).length=(kn b o t).length:=congrArg List.length hL1
  rw [ep] at h2
  omega
 have htags:jp b o t=lA (x5 b o t) ks ([],[]):=by rw [hks];rfl
 have hend: ∀(e3:bc) (lc3:Ag.Loc) (ov cv:ai) (s3:St),aq e3 14=ov→aq e3 15=cv→kg s2.next s3 ov cv (jp b o t).1 (jp b o t).2→
  W (QM sp ch) 76 (.seq (.region Ef) .ret) ⟨e3,136,lc3⟩ s3 fun x fr s'=>(x= .normal∨x= .ret)∧ ∃v,(∃vs,gh (QM sp ch) [] fr s' [.tmp 6,.tmp 7]=some vs∧jw vs=v)∧jB s'.heap v (vO (jp b o t)):=by
  intro e3 lc3 ov cv s3 h14 h15 two
  have c1:=two.l.clean
  have c2:=two.r.clean
  refine W.sreg ?_
  unfold Ef
  simp only [az,aA,aB,ah,aE,aJ,aj,aw,cT,cF,bS,tA,ae,ar,h14,h15]
  refine W.ret ⟨.inr rfl,.tup [ov,cv],sq (v:=ov) (w:=cv) ?_ c1 ?_ c2,4,?_⟩
  ·simp only [ah,ae,cT,cF]
  ·simp only [ah,ae,cT,cF]
  have f1:cR s3.heap 3 ov=some (fS 2 ((jp b o t).1.map ek)):=wX two.l (k:=2) fun v hv=>by
   obtain⟨p,_,rfl⟩:=List.mem_map.1 hv
   rfl
  have f2:cR s3.heap 3 cv=some (fS 1 ((jp b o t).2.map bp)):=wX two.r (k:=2) fun v hv=>by
   obtain⟨p,_,rfl⟩:=List.mem_map.1 hv
   rfl
  show(dZ (cR s3.heap 3) [ov,cv]).bind (fun r=>some (ai.tup r))=_
  simp only [dZ,f1,f2,ak,vO]
 rcases hgot.row with⟨rfl,hx⟩|⟨hne,rk,rfl,hk,h4,h5⟩
 ·have hk0:ks=[]:=List.map_eq_nil_iff.1 hx
  simp only [az,aA,aB,ah,aE,cL,aj,aI,aC,be,bh,bo,aw,cd,da,bH,ak,uF,cT,cF,bD,gp,bS,tA,ae,ar,aU,Ia,iT,aN]
  refine W.block (W.loop1 ?_)
  unfold xl
  refine W.sreg ?_
  unfold zA
  have h00:du 0 ((0:Nat):Int)=false:=rfl
  simp only [az,aA,aB,ah,aW,aj,aC,aw,cQ,ak,aZ,cT,cF,bD,bS,tA,ae,ar,h00]
  refine W.seq (W.cond (t:=false) (by simp only [aj,ah,ae,cT,cF]) ?_)
  refine W.exit ?_
  refine hend _ _ .nils .nils s2 ?_ ?_ ?_
  ·simp only [ah,ae,cT,cF]
  ·simp only [ah,ae,cT,cF]
  ·rw [htags,hk0]
   exact⟨.inl ⟨rfl,rfl⟩,.inl ⟨rfl,rfl⟩,fun k h=>(by cases h)⟩
 ·rw [uX] at hk
  simp only [ep]
  have hca: ∀n m o l c:Nat,(ai.arr n m o l c).clean=true:=fun _ _ _ _ _=>rfl
  simp only [az,aA,aB,ah,aE,cL,aj,aI,aC,be,bh,bo,aw,cd,da,bH,ak,cT,cF,bD,gp,bS,tA,ae,ar,aU,Ia,QX,hca,aN]
  refine W.block ?_
  have two0:kg s2.next s2 .nils .nils [] []:=⟨.inl ⟨rfl,rfl⟩,.inl ⟨rfl,rfl⟩,fun k h=>(by cases h)⟩
  have hm2:s.next<s2.next:=by omega
  refine W.mono (ag8 h186 h121 t2 hm2 h5 hk (fun k h=>hperm.mem_iff.1 h) hkl ks [] _ _ s2 .nils .nils [] [] rfl two0 (Nat.zero_le _) (Nat.zero_le _) m2 (bv _) (fun _ _=>rfl) ?_ ?_ ?_ ?_ ?_ ?_) ?_
  ·simp only [ah,ae,cF,g9]
  ·simp only [ah,ae,cT,cF]
  ·simp only [ah,ae,cT,cF]
  ·simp only [ah,ae,cT,cF]
  ·simp only [ah,ae,cT,cF]
  ·simp only [ah,ae,cT,cF];rfl
  rintro x fr s3 ⟨rfl,e3,lc3,ov,cv,rfl,q14,q15,two,_⟩
  rw [←htags] at two
  exact hend e3 lc3 ov cv s3 q14 q15 two
end
def t8:Sp
 | [u,v,w]=>bif pures [u,v,w] then(gN 2 nY u).bind fun b=>(gN 2 nY v).bind fun o=>(gN 2 nY w).bind fun t=>
     bif(iv b&&qf b)&&((iv o&&qf o)&&(iv t&&qf t)) then some (vO (jp b o t)) else none else none
 |_=>none
theorem aln {vb vo vt:ai} {b o t:List cH} (hb:jM vb b) (ho:jM vo o) (ht:jM vt t) (pb:bM vb=true) (po:bM vo=true) (pt:bM vt=true):t8 [vb,vo,vt]=some (vO (jp b o t)):=by
 simp only [t8,pures,pb,po,pt,Bool.and_self,cT,jE rC hb.is,jE rC ho.is,jE rC ht.is,ak,hb.valid,ho.valid,ht.valid,v7 hb.keys,v7 ho.keys,v7 ht.keys]
def Gl:eE:=[(59,pu)]
theorem T8:fV Gl:=.cons S9 .nil
theorem alo:eD Tryz.prog 76 t8:=by
 intro args x hv G h w xs wr hx
 unfold t8 at hv
 split at hv
 ·rename_i u v t
  obtain⟨hp,hv⟩:=bW hv
  simp only [Option.bind_eq_some_iff] at hv
  obtain⟨a,h1,b,h2,c,h3,hv⟩:=hv
  obtain⟨hs,hv⟩:=bW hv
  injection hv with hv;subst hv
  simp only [Bool.and_eq_true] at hs
  obtain⟨⟨v1,s1⟩,⟨v2,s2⟩,v3,s3⟩:=hs
  have ha:jM u a:=⟨iX (fun v a=>rB) h1,v1,v6 s1⟩
  have hb:jM v b:=⟨iX (fun v a=>rB) h2,v2,v6 s2⟩
  have hc:jM t c:=⟨iX (fun v a=>rB) h3,v3,v6 s3⟩
  exact ST T8 (args:=[u,v,t]) (kB hp) (fun ch=>by
   rw [iw hp]
   exact alp (sp:=fun f=>eY f Gl) (ch:=ch) (fun n hn=>by rcases hn with rfl|rfl|rfl|rfl<;>rfl) rfl rfl rfl rfl rfl rfl ha hb hc (s:=s0) (bv _)) G h w xs wr hx
 ·cases hv
end Go.Proofs.YtbfmdojdemckbaaGreat
