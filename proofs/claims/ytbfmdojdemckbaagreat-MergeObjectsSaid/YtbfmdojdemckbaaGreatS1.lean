/- Ranges over functions: maps.Keys, AppendSeq, Collect, Sorted, SortedFunc. -/
import Derived.Test.YtbfmdojdemckbaaGreatZ7
import Derived.Test.YtbfmdojdemckbaaGreatZ1
namespace Go.Proofs.YtbfmdojdemckbaaGreat
open _root_.Bool renaming and_false→uf,and_true→dB,not_true→dP,or_false→oH
open _root_.List renaming all_cons→l8,append_assoc→wn,append_nil→im,cons_append→cq,drop_succ_cons→gl,drop→aR,eq_nil_of_length_eq_zero→ql,filter_cons→yd,getElem?_cons_zero→fe,getElem?_eq_getElem→jf,head?_cons→bN,length_append→dn,length_cons→aK,length_filter_le→qm,length_map→ep,length_nil→aQ,map_cons→fw,map_nil→rf,mem_append_left→A4,mem_singleton→pE,nil_append→bT,nodup_cons→wo,take→bA
open _root_.Nat renaming beq→aY,ble_eq_true_of_le→ew,ble→cr,blt→bP,le_refl→bv,le_succ→jR,le_trans→fX,lt_succ_self→ic,reduceAdd→bt,reduceBEq→ae,reduceLT→ar,reduceLeDiff→bR,reduceMul→jh,zero_add→aM
open _root_.Option renaming bind_some→ak
open Go.Ag
theorem tW {n b:Nat} (hn:n≤1000000) (hb:b≤88):kP n b=true:=by
 unfold kP
 apply ew
 have:(n*2+1024)*b≤2001024*88:=Nat.mul_le_mul (by omega) hb
 omega
theorem BH (a b c d e:Nat):(ai.arr a b c d e).cells=[.arr a b c d e]:=rfl
theorem BJ (a b c d e:Nat):(ai.arr a b c d e).clean=true:=rfl
theorem lY {s:St} {n:Nat} {o:Option bE} (h:s.minw≤n):(s.put n o).minw=s.minw:=by
 show(bif cr s.minw n then s.minw else n)=s.minw
 rw [ew h];rfl
structure gV (sz:Nat) (s0 s:St) (bx lo lim:Nat) (lob:bE) (xs:List ai):Prop where
 old: ∀n,n<s0.next→s.get [] n=s0.get [] n
 lt:s0.next≤bx∧bx<lo∧lo≤lim∧lim<s.next
 minw:s.minw=s0.minw
 box: ∃v,s.get [] bx=some (.cells [v])∧((v= .nils∧xs=[])∨(xs≠ []∧ ∃k,v= .arr sz k 0 xs.length xs.length∧s.get [] k=some (.cells (bO xs))∧lim<k∧k<s.next))
 loop:s.get [] lo=some lob
theorem rM: ∀(a b:List ai),bO (a++b)=bO a++bO b
 | [],b=>rfl
 |x::a,b=>by
  have ih:=rM a b
  show x.cells++bO (a++b)=(x.cells++bO a)++bO b
  rw [ih,wn]
theorem HK {sz:Nat}: ∀ {xs:List ai},(∀x∈xs,x.cells.length=sz)→(bO xs).length=xs.length*sz
 | [],_=>by simp [bO]
 |x::xs,h=>by
  have ih:=HK (xs:=xs) fun y hy=>h y (by simp [hy])
  show(x.cells++bO xs).length=_
  rw [dn,ih,h x (by simp),aK,Nat.add_mul];omega
theorem Gy {t:TypeId} {E:EI} {sz:Nat} (hE:jc Tryz.prog t=some E) (hn:E.n=sz) (hb:E.b≤88) {s0 s:St} {bx lo lim:Nat} {xs:List ai} {x:ai} (hsz: ∀y∈xs++[x],y.cells.length=sz) (hlen:xs.length<1000000) (hm:s0.minw≤s0.next)
 (_h1: ∀n,n<s0.next→s.get [] n=s0.get [] n) (h2:s0.next≤bx∧bx<lo∧lo≤lim∧lim<s.next) (h3:s.minw=s0.minw) {v:ai} (h4:(v= .nils∧xs=[])∨(xs≠ []∧ ∃k,v= .arr sz k 0 xs.length xs.length∧s.get [] k=some (.cells (bO xs))∧lim<k∧k<s.next)):
 ∃s1,jD Tryz.prog [] t v (.list sz [x] .full) true s=some (.arr sz s.next 0 (xs.length+1) (xs.length+1),s1)∧s1.get [] s.next=some (.cells (bO (xs++[x])))∧s1.next=s.next+1∧s1.minw=s0.minw∧(∀n,n≤lim→s1.get [] n=s.get [] n)∧s1.ci=s.ci:=by
 subst hn
 have hr:kP (xs.length+1) E.b=true:=tW (by omega) hb
 rcases h4 with⟨rfl,rfl⟩|⟨hne,k,rfl,hk,hl,hlt⟩
 ·refine⟨s.new (.cells (bO [x])),?_,?_,rfl,h3,fun n hn=>?_,rfl⟩
  ·have hr:kP 1 E.b=true:=hr
   simp only [jD,hE,ak,jO,aU,bS,cT,kY,j2,aK,aQ,aM,hr]
  ·rw [cW,bS];rfl
  ·rw [cW,beq_eq_false_iff_ne.2 (by omega:n≠s.next)];rfl
 ·have hfl:(bO xs).length=xs.length*E.n:=HK fun y hy=>hsz y (by simp [hy])
  have hfx:bO [x]=x.cells:=by show x.cells++bO []=_;simp [bO]
  refine⟨(s.put k none).new (.cells (bO (xs++[x]))),?_,?_,rfl,?_,fun n hn=>?_,rfl⟩
  ·simp only [jD,hE,ak,jO,aU,bS,cT,kY,hk,aK,aQ,aM,hr,hfl,Bool.and_self,List.drop_zero,hfx,rM]
  ·rw [cW,o9,bS];rfl
  ·show(s.put k none).minw=_
   rw [lY (by omega),h3]
  ·rw [cW,o9,beq_eq_false_iff_ne.2 (by omega:n≠s.next),cF,cD,beq_eq_false_iff_ne.2 (by omega:n≠k)];rfl
section
variable {sp:FuncId→Option (List ai→Option ai)} {Q:ck} (hP:Q.P=Tryz.prog) (hh:Q.hint=bB)
include hP hh
theorem akf {s0 s:St} {bx lo lim:Nat} {E:bc} {xs:List ai} {x:ax} (hE:aq E 2= .ptr bx 0) (hsz: ∀y∈xs,y.cells.length=1) (hlen:xs.length<1000000) (hm:s0.minw≤s0.next)
 (c:gV 1 s0 s bx lo lim (.loop 78 E 13 [7] rU rX none) xs):
 ∃s',pH Q lo [.str x] s (.bool true) s'∧gV 1 s0 s' bx lo lim (.loop 78 E 13 [7] rU rX none) (xs++[.str x])∧(∀n,n≤lim→n≠bx→n≠lo→s'.get [] n=s.get [] n)∧s.next≤s'.next:=by
 obtain⟨v,hv,hrow⟩:=c.box
 obtain⟨l1,l2,l3,l4⟩:=c.lt
 have hg1: ∀n,n≠lo→(s.put lo none).get [] n=s.get [] n:=fun n hn=>by rw [cD,beq_eq_false_iff_ne.2 hn];rfl
 have hm1:(s.put lo none).minw=s0.minw:=by rw [lY (by rw [c.minw];omega),c.minw]
 have hrow1:(v= .nils∧xs=[])∨(xs≠ []∧ ∃k,v= .arr 1 k 0 xs.length xs.length∧(s.put lo none).get [] k=some (.cells (bO xs))∧lim<k∧k<(s.put lo none).next):=by
  rcases hrow with h|⟨h1,k,h2,h3,h4,h5⟩
  ·exact .inl h
  ·exact .inr ⟨h1,k,h2,(hg1 k (by omega)).trans h3,h4,h5⟩
 obtain⟨s1,a1,a2,a3,a4,a5,_⟩:=Gy pN rfl (by decide) (x:=.str x) (fun y hy=>by
  rcases List.mem_append.1 hy with hy|hy
  ·exact hsz y hy
  ·simp only [pE] at hy;subst hy;rfl) hlen hm (fun n hn=>(hg1 n (by omega)).trans (c.old n hn)) ⟨l1,l2,l3,l4⟩ hm1 hrow1
 have a3:s1.next=s.next+1:=a3
 have hbx1:s1.get [] bx=some (.cells [v]):=by rw [a5 bx (by omega),hg1 bx (by omega)];exact hv
 have hbx0:(s.put lo none).get [] bx=some (.cells [v]):=(hg1 bx (by omega)).trans hv
 have hvc:v.clean=true:=by rcases hrow with⟨rfl,_⟩|⟨_,k,rfl,_⟩<;>rfl
 refine⟨(s1.put bx (some (.cells [.arr 1 s.next 0 (xs.length+1) (xs.length+1)]))).put lo (some (.loop 78 E 13 [7] rU rX none)),?_,⟨fun n hn=>?_,⟨l1,l2,l3,?_⟩,?_,⟨.arr 1 s.next 0 (xs.length+1) (xs.length+1),?_,.inr ⟨by simp,s.next,?_,?_,l4,?_⟩⟩,?_⟩,fun n hn h1 h2=>?_,?_⟩
 ·refine pH.of (env':=E.set 7 (some (.str x))) c.loop rfl rfl agt agu ?_
  unfold PS
  refine W.reg ?_
  unfold PX
  simp only [az,aA,aB,ah,aJ,aj,aw,cT,bS,tA,ar]
  unfold PT
  refine W.block (W.reg ?_)
  unfold PY
  have hbs: ∀e s,aq e 9= .str x→dR Tryz.prog 37 1 [(0,.tmp 9)] false e s=some (.list 1 [.str x] .full,s):=fun e s p=>by
   simp only [dR,pN,ak,dL,evc,ev,p,ai.clean,cT,gg,ai.cells,aK,aQ,cI,Nat.zero_mul,aM,jh,ie,cut]
   rfl
  simp only [az,aA,dH,aB,dI,ah,aE,kM,bf,dJ,cL,aj,aC,be,bh,aw,cd,nZ,bH,ak,i8,cT,cF,aK,aQ,cI,bA,aR,bN,gl,bT,im,bS,tA,aM,ae,ar,bR,dB,aU,cP,bQ,dT,iE,xX,u6,hP,hh,hE,dl,hbx0,dj,ZW,ZX,hbs,hvc,a1,j7,hbx1,j6,BH,BJ,dS]
  try rfl
 ·rw [cD,beq_eq_false_iff_ne.2 (by omega:n≠lo),cF,cD,beq_eq_false_iff_ne.2 (by omega:n≠bx),cF,a5 n (by omega),hg1 n (by omega)];exact c.old n hn
 ·show lim<s1.next
  omega
 ·rw [lY,lY,a4]
  ·rw [a4];omega
  ·rw [lY (by rw [a4];omega),a4];omega
 ·rw [cD,beq_eq_false_iff_ne.2 (by omega:bx≠lo),cF,cD,bS];rfl
 ·simp only [dn,aK,aQ]
 ·rw [cD,beq_eq_false_iff_ne.2 (by omega:s.next≠lo),cF,cD,beq_eq_false_iff_ne.2 (by omega:s.next≠bx),cF];exact a2
 ·show s.next<s1.next
  omega
 ·rw [cD,bS];rfl
 ·rw [cD,beq_eq_false_iff_ne.2 h2,cF,cD,beq_eq_false_iff_ne.2 h1,cF,a5 n hn,hg1 n h2]
 ·show s.next≤s1.next
  omega
theorem akg {s0 s:St} {bx lo lim:Nat} {E:bc} {xs:List ai} {a b:ax} (hE:aq E 2= .ptr bx 0) (hsz: ∀y∈xs,y.cells.length=2) (hlen:xs.length<1000000) (hm:s0.minw≤s0.next)
 (c:gV 2 s0 s bx lo lim (.loop 81 E 13 [7] rY rZ none) xs):
 ∃s',pH Q lo [.agg [.str a,.str b]] s (.bool true) s'∧gV 2 s0 s' bx lo lim (.loop 81 E 13 [7] rY rZ none) (xs++[.agg [.str a,.str b]])∧(∀n,n≤lim→n≠bx→n≠lo→s'.get [] n=s.get [] n)∧s.next≤s'.next:=by
 obtain⟨v,hv,hrow⟩:=c.box
 obtain⟨l1,l2,l3,l4⟩:=c.lt
 obtain⟨sA,hsA⟩: ∃sA,sA=((s.put lo none).new (.cells [.str [],.str []])).put s.next (some (.cells [.str a,.str b])):=⟨_,rfl⟩
 have nA:sA.next=s.next+1:=by rw [hsA];rfl
 have hg1: ∀n,n≠lo→n≠s.next→sA.get [] n=s.get [] n:=fun n hn hn2=>by
  rw [hsA,cD,beq_eq_false_iff_ne.2 hn2,cF,cW,o9,beq_eq_false_iff_ne.2 hn2,cF,cD,beq_eq_false_iff_ne.2 hn];rfl
 have hm0:(s.put lo none).minw=s0.minw:=by rw [lY (by rw [c.minw];omega),c.minw]
 have hm1:sA.minw=s0.minw:=by
  rw [hsA,lY]
  ·exact hm0
  ·show(s.put lo none).minw≤s.next
   rw [hm0];omega
 have hrow1:(v= .nils∧xs=[])∨(xs≠ []∧ ∃k,v= .arr 2 k 0 xs.length xs.length∧sA.get [] k=some (.cells (bO xs))∧lim<k∧k<sA.next):=by
  rcases hrow with h|⟨h1,k,h2,h3,h4,h5⟩
  ·exact .inl h
  ·exact .inr ⟨h1,k,h2,(hg1 k (by omega) (by omega)).trans h3,h4,by omega⟩
 obtain⟨s1,a1,a2,a3,a4,a5,_⟩:=Gy Hh rfl (by decide) (x:=.agg [.str a,.str b]) (fun y hy=>by
  rcases List.mem_append.1 hy with hy|hy
  ·exact hsz y hy
  ·simp only [pE] at hy;subst hy;rfl) hlen hm (fun n hn=>(hg1 n (by omega) (by omega)).trans (c.old n hn)) ⟨l1,l2,l3,by omega⟩ hm1 hrow1
 rw [nA] at a1 a2 a3
 have hbx1:s1.get [] bx=some (.cells [v]):=by rw [a5 bx (by omega),hg1 bx (by omega) (by omega)];exact hv
 have hbx0:sA.get [] bx=some (.cells [v]):=(hg1 bx (by omega) (by omega)).trans hv
 have hself:sA.get [] s.next=some (.cells [.str a,.str b]):=by rw [hsA,cD,bS];rfl
 have hnew:((s.put lo none).new (.cells [.str [],.str []])).get [] s.next=some (.cells [.str [],.str []]):=by rw [cW,o9,bS];rfl
 have hvc:v.clean=true:=by rcases hrow with⟨rfl,_⟩|⟨_,k,rfl,_⟩<;>rfl
 refine⟨(s1.put bx (some (.cells [.arr 2 (s.next+1) 0 (xs.length+1) (xs.length+1)]))).put lo (some (.loop 81 E 13 [7] rY rZ none)),?_,⟨fun n hn=>?_,⟨l1,l2,l3,?_⟩,?_,⟨.arr 2 (s.next+1) 0 (xs.length+1) (xs.length+1),?_,.inr ⟨by simp,s.next+1,?_,?_,by omega,?_⟩⟩,?_⟩,fun n hn h1 h2=>?_,?_⟩
 ·refine pH.of (env':=E.set 7 (some (.agg [.str a,.str b]))) c.loop rfl rfl agA agB ?_
  unfold P3
  refine W.reg ?_
  unfold P7
  have hpn:(s.put lo none).next=s.next:=rfl
  simp only [az,aA,dH,aB,dI,ah,fH,dJ,aj,aC,iA,bH,di,ak,bZ,cT,cF,aK,aQ,cI,bA,aR,gl,bT,im,bS,tA,aM,ae,ar,bt,bR,dB,aU,cP,bQ,dT,FZ,S5,hP,hh,Z2,j7,hpn,hnew,j6]
  rw [←hsA]
  unfold P4
  refine W.block (W.reg ?_)
  unfold P8
  have hbs: ∀e s,aq e 9= .agg [.str a,.str b]→dR Tryz.prog 27 1 [(0,.tmp 9)] false e s=some (.list 2 [.agg [.str a,.str b]] .full,s):=fun e s p=>by
   simp only [dR,Hh,ak,dL,evc,ev,p,ai.clean,cT,gg,ai.cells,aK,aQ,cI,Nat.zero_mul,aM,bt,jh,ie,cut]
   rfl
  simp only [az,aA,dH,aB,dI,ah,kM,bf,dJ,cL,aj,aC,be,bh,aw,cd,nZ,bH,ak,i8,cT,cF,aK,aQ,cut,cI,bA,aR,bN,gl,List.take_succ_cons,bT,im,bS,and_true,tA,aM,ae,ar,bt,bR,dB,aU,cP,bQ,dT,Sf,Sg,ala,aaG,hP,hh,hE,dl,hbx0,hself,dj,ZZ,Z0,hbs,hvc,a1,j7,hbx1,j6,BH,BJ,dS]
  try rfl
 ·rw [cD,beq_eq_false_iff_ne.2 (by omega:n≠lo),cF,cD,beq_eq_false_iff_ne.2 (by omega:n≠bx),cF,a5 n (by omega),hg1 n (by omega) (by omega)];exact c.old n hn
 ·show lim<s1.next
  omega
 ·rw [lY,lY,a4]
  ·rw [a4];omega
  ·rw [lY (by rw [a4];omega),a4];omega
 ·rw [cD,beq_eq_false_iff_ne.2 (by omega:bx≠lo),cF,cD,bS];rfl
 ·simp only [dn,aK,aQ]
 ·rw [cD,beq_eq_false_iff_ne.2 (by omega:s.next+1≠lo),cF,cD,beq_eq_false_iff_ne.2 (by omega:s.next+1≠bx),cF];exact a2
 ·show s.next+1<s1.next
  omega
 ·rw [cD,bS];rfl
 ·rw [cD,beq_eq_false_iff_ne.2 h2,cF,cD,beq_eq_false_iff_ne.2 h1,cF,a5 n hn,hg1 n h2 (by omega)]
 ·show s.next≤s1.next
  omega
end
section
variable {Q:ck} {f:FuncId} {e:bc} {sz:Nat} {lc:Ag.Loc} {s:St} {d:Option Tmp} {g:SG} {mk:bj}
theorem Aj (t:TypeId) (x:Operand):dN Q f ⟨d,.range t x,g⟩ mk ⟨e,sz,lc⟩ s=(evc e x).bind fun x=>gR (kO Q.P mk t x s) lc:=rfl
theorem pj (x:Operand) (b:Bool):dN Q f ⟨d,.next x b,g⟩ mk ⟨e,sz,lc⟩ s=(evc e x).bind fun it=>gR (j5 mk Q.ch Q.kmax it b s) lc:=rfl
theorem Ai (x:Operand):dN Q f ⟨d,.entry x,g⟩ mk ⟨e,sz,lc⟩ s=(evc e x).bind fun it=>fJ (oS mk it s) lc s:=rfl
end
theorem ajS {s:St} {m c:Nat} {es:List cV} (hs:s.get [] m=some (.map es c)):kO Tryz.prog [] 61 (.map m) s=some (.ptr s.next 0,s.new (.iter (some m) c [] c)):=by
 have h:Tryz.prog.underlying 61=some (.map 9 67):=by kernel_rfl
 simp only [kO,h,ak,hs]
theorem BW: ∀(L:List (ax×ai)) (n:Nat) (e:cV),e∈cK n L→n≤e.born∧e.born<n+L.length
 | [],n,e,h=>by cases h
 |(a,v)::L,n,e,h=>by
  rcases List.mem_cons.1 h with rfl|h
  ·exact⟨bv _,by simp only [aK];omega⟩
  ·have:=BW L (n+1) e h
   simp only [aK];omega
theorem BZ: ∀(L:List (ax×ai)) (n:Nat) (e:cV),e∈cK n L→ ∃k v,e.key= .str k∧e.val=v∧(k,v)∈L
 | [],n,e,h=>by cases h
 |(a,v)::L,n,e,h=>by
  rcases List.mem_cons.1 h with rfl|h
  ·exact⟨a,v,rfl,rfl,by simp⟩
  ·obtain⟨k,u,h1,h2,h3⟩:=BZ L (n+1) e h
   exact⟨k,u,h1,h2,by simp [h3]⟩
theorem Hq: ∀(L:List (ax×ai)) (n:Nat) (k:ax) (v:ai),(k,v)∈L→ ∃e∈cK n L,e.key= .str k
 | [],n,k,v,h=>by cases h
 |(a,u)::L,n,k,v,h=>by
  rcases List.mem_cons.1 h with h|h
  ·cases h;exact⟨_,List.mem_cons_self,rfl⟩
  ·obtain⟨e,h1,h2⟩:=Hq L (n+1) k v h
   exact⟨e,List.mem_cons_of_mem _ h1,h2⟩
theorem yL: ∀(L:List (ax×ai)) (n:Nat) (e:cV),e∈cK n L→qG e.born (cK n L)=some e
 | [],n,e,h=>by cases h
 |(a,v)::L,n,e,h=>by
  simp only [cK,qG]
  rcases List.mem_cons.1 h with rfl|h
  ·simp
  ·have h1:=BW L (n+1) e h
   have:aY n e.born=false:=by
    rw [aU];exact beq_eq_false_iff_ne.2 (by omega)
   rw [this]
   exact yL L (n+1) e h
theorem np {seen:List Nat} {es:List cV} {e:cV}:e∈dq seen es↔e∈es∧e.born ∉ seen:=by
 simp only [dq,List.mem_filter,Bool.not_eq_true',List.any_eq_false]
 constructor
 ·rintro⟨h1,h2⟩
  exact⟨h1,fun hm=>h2 _ hm (by simp)⟩
 ·rintro⟨h1,h2⟩
  refine⟨h1,fun b hb hc=>h2 ?_⟩
  have:=Nat.eq_of_beq_eq_true hc
  subst this;exact hb
theorem AP {seen:List Nat}: ∀ {es:List cV} {e:cV},e∈dq seen es→(dq (seen++[e.born]) es).length<(dq seen es).length:=by
 intro es e h
 have hsub: ∀es:List cV,dq (seen++[e.born]) es=(dq seen es).filter fun x=> !aY x.born e.born:=by
  intro es
  simp only [dq,List.filter_filter]
  congr 1
  funext x
  simp only [List.any_append,List.any_cons,List.any_nil,oH]
  cases seen.any (aY x.born)<;>simp
 rw [hsub]
 refine Nat.lt_of_le_of_ne (qm _ _) fun hc=>?_
 have:=List.length_filter_eq_length_iff.1 hc e h
 simp at this
structure It (s:St) (it m:Nat) (L:List (ax×ai)) (seen:List Nat):Prop where
 hi:s.get [] it=some (.iter (some m) L.length seen L.length)
 hm:s.get [] m=some (.map (cK 0 L) L.length)
theorem It.calm {s:St} {it m:Nat} {L:List (ax×ai)} {seen:List Nat} (c:It s it m L seen) (ch kmax:Nat→Nat):j5 [] ch kmax (.ptr it 0) false s=my ch kmax it m L.length seen L.length (dq seen (cK 0 L)) s:=by
 simp only [j5,c.hi,c.hm,ak,cF]
 have:(!seen.isEmpty&& !(cK 0 L).isEmpty&&(cK 0 L).all fun e=>cr L.length e.born)=false:=by
  cases L with
  |nil=>simp [cK]
  |cons x L=>
   obtain⟨a,v⟩:=x
   have:((cK 0 ((a,v)::L)).all fun e=>cr ((a,v)::L).length e.born)=false:=by
    simp only [cK,l8,aK]
    have:cr (L.length+1) 0=false:=rfl
    rw [this];rfl
   rw [this,uf]
 rw [this];rfl
theorem It.done {s:St} {it m:Nat} {L:List (ax×ai)} {seen:List Nat} (c:It s it m L seen) (ch kmax:Nat→Nat) (h:dq seen (cK 0 L)=[]):j5 [] ch kmax (.ptr it 0) false s=some (.tup [.bool false],s):=by
 rw [c.calm,h];rfl
theorem It.step {s:St} {it m:Nat} {L:List (ax×ai)} {seen:List Nat} (c:It s it m L seen) (ch kmax:Nat→Nat) (hk: ∀i,L.length≤kmax i) (h:dq seen (cK 0 L)≠ []):
 ∃e s',e∈dq seen (cK 0 L)∧j5 [] ch kmax (.ptr it 0) false s=some (.tup [.bool true,e.key,e.val],s')∧(∀n,s'.get [] n=(s.put it (some (.iter (some m) L.length (seen++[e.born]) L.length))).get [] n)∧s'.next=s.next∧s'.minw=(s.put it none).minw∧s'.ci≤s.ci+1:=by
 rw [c.calm]
 have hall: ∀e∈dq seen (cK 0 L),bP e.born L.length=true:=fun e he=>by
  have:=BW L 0 e (np.1 he).1
  exact ew (by omega)
 have hlen:(dq seen (cK 0 L)).length≤L.length:=by
  have h1:(dq seen (cK 0 L)).length≤(cK 0 L).length:=qm _ _
  have h2: ∀(L:List (ax×ai)) n,(cK n L).length=L.length:=by
   intro L
   induction L with
   |nil=>intro n;rfl
   |cons x L ih=>intro n;obtain⟨a,v⟩:=x;simp only [cK,aK,ih]
  rw [h2] at h1;exact h1
 cases hu:dq seen (cK 0 L) with
 |nil=>exact absurd hu h
 |cons e r=>
  rw [hu] at hall hlen
  have hb:((e::r).all fun e=>bP e.born L.length)=true:=List.all_eq_true.2 hall
  cases r with
  |nil=>
   refine⟨e,(oD it m L.length L.length seen e s).2,by simp,?_,fun n=>rfl,rfl,rfl,jR _⟩
   simp only [my,hb,cT];rfl
  |cons e2 r=>
   have hkm:cr (e::e2::r).length (kmax s.ci)=true:=ew (fX hlen (hk _))
   have hlt:ch s.ci % (e::e2::r).length<(e::e2::r).length:=Nat.mod_lt _ (by simp)
   refine⟨(e::e2::r)[ch s.ci % (e::e2::r).length], { (oD it m L.length L.length seen (e::e2::r)[ch s.ci % (e::e2::r).length] s).2 with ci:=s.ci+1 },List.getElem_mem _,?_,fun n=>rfl,rfl,rfl,bv _⟩
   simp only [my,hb,cT,hkm,jf hlt,ak]
   rfl
theorem It.entry {s:St} {it m:Nat} {L:List (ax×ai)} {seen:List Nat} {e:cV} (c:It s it m L (seen++[e.born])) (he:e∈cK 0 L):oS [] (.ptr it 0) s=some (.tup [e.key,e.val]):=by
 simp only [oS,c.hi,c.hm,ak,aU,bS,cT,List.getLast?_append,List.getLast?_singleton,Option.some_or,yL L 0 e he]
structure jL (s:St) (it m:Nat) (es:List cV) (seen:List Nat):Prop where
 hi:s.get [] it=some (.iter (some m) es.length seen es.length)
 hm:s.get [] m=some (.map es es.length)
structure yf (es:List cV):Prop where
 lt: ∀e∈es,e.born<es.length
 nd:(es.map (·.born)).Nodup
theorem HA: ∀ {es:List cV} {e:cV},(es.map (·.born)).Nodup→e∈es→qG e.born es=some e
 | [],_,_,h=>by cases h
 |x::es,e,hn,h=>by
  simp only [fw,wo] at hn
  simp only [qG]
  rcases List.mem_cons.1 h with rfl|h
  ·simp
  ·have:aY x.born e.born=false:=by
    rw [aU]
    exact beq_eq_false_iff_ne.2 fun he=>hn.1 (by rw [he];exact List.mem_map.2 ⟨e,h,rfl⟩)
   rw [this]
   exact HA hn.2 h
theorem Hz {e:cV}: ∀ {l:List cV},(l.map (·.born)).Nodup→e∈l→l.Perm (e::l.filter fun x=> !aY x.born e.born)
 | [],_,h=>by cases h
 |x::l,hn,h=>by
  have hn0:=hn
  simp only [fw,wo] at hn
  rcases List.mem_cons.1 h with rfl|h
  ·have h1:aY e.born e.born=true:=by simp
   have h2:l.filter (fun x=> !aY x.born e.born)=l:=List.filter_eq_self.2 fun y hy=>by
    have:aY y.born e.born=false:=by
     rw [aU]
     exact beq_eq_false_iff_ne.2 fun he=>hn.1 (by rw [←he];exact List.mem_map.2 ⟨y,hy,rfl⟩)
    rw [this];rfl
   rw [yd,h1,h2];exact .refl _
  ·have h1:aY x.born e.born=false:=by
    rw [aU]
    exact beq_eq_false_iff_ne.2 fun he=>hn.1 (by rw [he];exact List.mem_map.2 ⟨e,h,rfl⟩)
   rw [yd,h1]
   exact((Hz hn.2 h).cons x).trans (.swap e x _)
theorem FM {seen:List Nat} {es:List cV} {e:cV} (hn:(es.map (·.born)).Nodup) (h:e∈dq seen es):(dq seen es).Perm (e::dq (seen++[e.born]) es):=by
 have hsub:dq (seen++[e.born]) es=(dq seen es).filter fun x=> !aY x.born e.born:=by
  simp only [dq,List.filter_filter]
  congr 1
  funext x
  simp only [List.any_append,List.any_cons,List.any_nil,oH]
  cases seen.any (aY x.born)<;>simp
 rw [hsub]
 exact Hz (hn.sublist (List.Sublist.map _ List.filter_sublist)) h
section
variable {s:St} {it m:Nat} {es:List cV} {seen:List Nat} (hb:yf es)
include hb
theorem jL.calm (c:jL s it m es seen) (ch kmax:Nat→Nat):j5 [] ch kmax (.ptr it 0) false s=my ch kmax it m es.length seen es.length (dq seen es) s:=by
 simp only [j5,c.hi,c.hm,ak,cF]
 have:(!seen.isEmpty&& !es.isEmpty&&es.all fun e=>cr es.length e.born)=false:=by
  cases hes:es with
  |nil=>simp
  |cons x l=>
   have h0:=hb.lt x (by rw [hes];simp)
   have:cr (x::l).length x.born=false:=by
    cases hc:cr (x::l).length x.born with
    |false=>rfl
    |true=>have:=Nat.le_of_ble_eq_true hc;rw [hes] at h0;omega
   simp only [l8,this,Bool.false_and,uf]
 rw [this];rfl
theorem jL.done (c:jL s it m es seen) (ch kmax:Nat→Nat) (h:dq seen es=[]):j5 [] ch kmax (.ptr it 0) false s=some (.tup [.bool false],s):=by
 rw [c.calm hb,h];rfl
theorem jL.step (c:jL s it m es seen) (ch kmax:Nat→Nat) (hk: ∀i,es.length≤kmax i) (h:dq seen es≠ []):
 ∃e s',e∈dq seen es∧j5 [] ch kmax (.ptr it 0) false s=some (.tup [.bool true,e.key,e.val],s')∧(∀n,s'.get [] n=(s.put it (some (.iter (some m) es.length (seen++[e.born]) es.length))).get [] n)∧s'.next=s.next∧s'.minw=(s.put it none).minw:=by
 rw [c.calm hb]
 have hall: ∀e∈dq seen es,bP e.born es.length=true:=fun e he=>ew (hb.lt e (np.1 he).1)
 have hlen:(dq seen es).length≤es.length:=qm _ _
 cases hu:dq seen es with
 |nil=>exact absurd hu h
 |cons e r=>
  rw [hu] at hall hlen
  have hbb:((e::r).all fun e=>bP e.born es.length)=true:=List.all_eq_true.2 hall
  cases r with
  |nil=>
   refine⟨e,(oD it m es.length es.length seen e s).2,by simp,?_,fun n=>rfl,rfl,rfl⟩
   simp only [my,hbb,cT];rfl
  |cons e2 r=>
   have hkm:cr (e::e2::r).length (kmax s.ci)=true:=ew (fX hlen (hk _))
   have hlt:ch s.ci % (e::e2::r).length<(e::e2::r).length:=Nat.mod_lt _ (by simp)
   refine⟨(e::e2::r)[ch s.ci % (e::e2::r).length], { (oD it m es.length es.length seen (e::e2::r)[ch s.ci % (e::e2::r).length] s).2 with ci:=s.ci+1 },List.getElem_mem _,?_,fun n=>rfl,rfl,rfl⟩
   simp only [my,hbb,cT,hkm,jf hlt,ak]
   rfl
theorem jL.entry {e:cV} (c:jL s it m es (seen++[e.born])) (he:e∈es):oS [] (.ptr it 0) s=some (.tup [e.key,e.val]):=by
 simp only [oS,c.hi,c.hm,ak,aU,bS,cT,List.getLast?_append,List.getLast?_singleton,Option.some_or,HA hb.nd he]
end
theorem gV.step {sz:Nat} {s0 s s2:St} {bx lo lim:Nat} {lob:bE} {xs:List ai} (c:gV sz s0 s bx lo lim lob xs) (hl:lo<lim) (hm:s0.minw≤s0.next) {ob:bE} (hg: ∀n,s2.get [] n=(s.put lim (some ob)).get [] n) (hn:s2.next=s.next) (hw:s2.minw=(s.put lim none).minw):gV sz s0 s2 bx lo lim lob xs:=by
 obtain⟨l1,l2,l3,l4⟩:=c.lt
 have key: ∀n,n≠lim→s2.get [] n=s.get [] n:=fun n h=>by rw [hg,cD,beq_eq_false_iff_ne.2 h];rfl
 refine⟨fun n h=>(key n (by omega)).trans (c.old n h),⟨l1,l2,l3,by omega⟩,?_,?_,(key lo (by omega)).trans c.loop⟩
 ·rw [hw,lY (by rw [c.minw];omega)];exact c.minw
 ·obtain⟨v,h1,h2⟩:=c.box
  refine⟨v,(key bx (by omega)).trans h1,?_⟩
  rcases h2 with h2|⟨h3,k,h4,h5,h6,h7⟩
  ·exact .inl h2
  ·exact .inr ⟨h3,k,h4,(key k (by omega)).trans h5,h6,by omega⟩
def qw (Q:ck) (sz:Nat) (s0:St) (bx lo lim:Nat) (lob:bE) (es:List cV):Prop:=
 ∀(s:St) (xs:List ai) (k:ai),gV sz s0 s bx lo lim lob xs→k∈es.map (·.key)→xs.length<es.length→(∀y∈xs,y∈es.map (·.key))→ ∃s',pH Q lo [k] s (.bool true) s'∧gV sz s0 s' bx lo lim lob (xs++[k])∧(∀n,n≤lim→n≠bx→n≠lo→s'.get [] n=s.get [] n)∧s.next≤s'.next
theorem FU {e:bc} {x:Operand} {av:Array Operand} {ts:Array TypeId} {n:Nat} (h:ev e x=some (.yld n)):yieldee e ⟨.value x,av,ts⟩=(evcs e av.toList).bind fun args=>some (n,args):=by
 simp only [yieldee,h,ak]
theorem Bg {Q:ck} {f:FuncId} {d:Tmp} {x:Operand} {av:Array Operand} {ts:Array TypeId} {l:List au} {e:bc} {sz:Nat} {lc:Ag.Loc} {s s1:St} {n:Nat} {args:List ai} {v:ai} {N:Fr→St→Prop}
 (hc:yieldee e ⟨.value x,av,ts⟩=some (n,args)) (hr:pH Q n args s v s1) (hd:d<sz) (hk:WL Q f l ⟨e.set d (some v),sz,lc⟩ s1 N):
 WL Q f (⟨some d,.call ⟨.value x,av,ts⟩,.aw⟩::l) ⟨e,sz,lc⟩ s N:=
 WL.yld rfl rfl hc hr (ij.2 ⟨hd,rfl⟩) hk
section
variable {Q:ck} (hP:Q.P=Tryz.prog) (hh:Q.hint=bB) {ch kmax:Nat→Nat} (hch:Q.ch=ch) (hkm:Q.kmax=kmax)
 {es:List cV} (hb:yf es) (hkx: ∀i,es.length≤kmax i)
include hP hh hch hkm hb hkx
theorem ag3 {sz:Nat} {s0:St} {bx lo it m:Nat} {lob:bE} (hlo:lo<it) (hm:m<s0.next) (hmw:s0.minw≤s0.next) (ht:qw Q sz s0 bx lo it lob es) (hkey: ∀e∈es, ∃k:ax,e.key= .str k): ∀(n:Nat) (seen:List Nat) (e:bc) (lc:Ag.Loc) (s:St) (xs:List ai),(dq seen es).length≤n→gV sz s0 s bx lo it lob xs→jL s it m es seen→(xs++(dq seen es).map (·.key)).Perm (es.map (·.key))→aq e 5= .ptr it 0→aq e 0= .yld lo→
 W Q 49 (.loop xe) ⟨e,14,lc⟩ s fun x _ s'=>x= .exit 0∧ ∃xs',gV sz s0 s' bx lo it lob xs'∧xs'.Perm (es.map (·.key))∧s.next≤s'.next:=by
 have _:=hP
 have _:=hh
 intro n
 induction n with
 |zero=>
  intro seen e lc s xs hn c i hp h5 h1
  have hu:dq seen es=[]:=ql (Nat.le_zero.1 hn)
  have hd:=i.done hb ch kmax hu
  rw [hu,rf,im] at hp
  refine W.loop1 ?_
  unfold xe
  refine W.sreg ?_
  unfold zr
  simp only [az,aA,aB,ah,ii,aj,aC,aw,cd,ak,dM,cT,bS,tA,ar,pj,h5,hch,hkm,hd,gu,fe]
  refine W.seq (W.cond (t:=false) (by simp only [aj,ah,ae,cT,cF, *]) ?_)
  exact W.exit ⟨rfl,xs,c,hp,bv _⟩
 |succ n ih=>
  intro seen e lc s xs hn c i hp h5 h1
  by_cases hu:dq seen es=[]
  ·have hd:=i.done hb ch kmax hu
   rw [hu,rf,im] at hp
   refine W.loop1 ?_
   unfold xe
   refine W.sreg ?_
   unfold zr
   simp only [az,aA,aB,ah,ii,aj,aC,aw,cd,ak,dM,cT,bS,tA,ar,pj,h5,hch,hkm,hd,gu,fe]
   refine W.seq (W.cond (t:=false) (by simp only [aj,ah,ae,cT,cF, *]) ?_)
   exact W.exit ⟨rfl,xs,c,hp,bv _⟩
  ·obtain⟨en,s2,hen,hnx,hg,hnn,hw⟩:=i.step hb ch kmax hkx hu
   have hmem:=(np.1 hen).1
   obtain⟨l1,l2,l3,l4⟩:=c.lt
   have c2:=c.step hlo hmw hg hnn hw
   have i2:jL s2 it m es (seen++[en.born]):=⟨by rw [hg,cD,bS];rfl,by rw [hg,cD,beq_eq_false_iff_ne.2 (by omega:m≠it)];exact i.hm⟩
   have hent:=i2.entry hb hmem
   have hless:=AP hen
   have hpu:=FM hb.nd hen
   have hlen:xs.length<es.length:=by
    have h2:=hp.length_eq
    have h3:=hpu.length_eq
    simp only [dn,ep,aK] at h2 h3
    omega
   have hxs: ∀y∈xs,y∈es.map (·.key):=fun y hy=>hp.mem_iff.1 (A4 _ hy)
   obtain⟨s3,hy,c3,hg3,hn3⟩:=ht s2 xs en.key c2 (List.mem_map.2 ⟨en,hmem,rfl⟩) hlen hxs
   have i3:jL s3 it m es (seen++[en.born]):=⟨by rw [hg3 it (bv _) (by omega) (by omega)];exact i2.hi,by rw [hg3 m (by omega) (by omega) (by omega)];exact i2.hm⟩
   have hp3:((xs++[en.key])++(dq (seen++[en.born]) es).map (·.key)).Perm (es.map (·.key)):=by
    refine List.Perm.trans ?_ hp
    rw [wn]
    have h9:=(hpu.map (fun e:cV=>e.key)).symm
    rw [fw] at h9
    exact List.Perm.append_left xs h9
   obtain⟨k,hke⟩:=hkey en hmem
   rw [hke] at hnx hent hy c3 hp3
   refine W.loop1 ?_
   unfold xe
   refine W.sreg ?_
   unfold zr
   simp only [az,aA,aB,ah,ii,aj,aC,aw,cd,ak,dM,cT,bS,tA,ar,pj,h5,hch,hkm,hnx,gu,fe]
   refine W.seq (W.cond (t:=true) (by simp only [aj,ah,ae,cT,cF, *]) (W.skip ?_))
   simp only [aN]
   refine W.block (W.sreg ?_)
   unfold NX
   simp only [az,aA,aB,ah,aJ,ii,aj,aC,aw,ak,dM,cT,cF,bS,tA,ae,ar,Ai,h5,hent,gu,fe]
   refine W.seq (W.region (fD 2 ?_))
   unfold NY
   simp only [az,aA,aB,ah,aE,aj,aw,cT,cF,bA,aR,bS,tA,ae,ar,h1]
   refine Bg (n:=lo) (args:=[.str k]) ?_ hy (by decide) ?_
   ·rw [FU (n:=lo) (by simp only [aj,ah,ae,cT,cF])]
    simp only [ah,aj,aC,be,bh,ak,cu,cT,cF,bS,ae]
   refine fP ?_
   simp only [az,aA,aB,ah,eW,aj,aC,aw,eZ,ak,ei,cT,cF,dP,bS,tA,ae,ar,aN]
   refine W.cond (t:=false) (by simp only [aj,ah,ae,cT,cF, *]) (W.skip ?_)
   simp only [dS,aN]
   refine(ih (seen++[en.born]) _ _ s3 _ (by omega) c3 i3 hp3 (by simp only [ah,ae,cF, *]) (by simp only [ah,ae,cF, *])).mono ?_
   rintro x fr s' ⟨rfl,xs',q1,q2,q3⟩
   exact⟨rfl,xs',q1,q2,by omega⟩
theorem ag4 (hsp:Q.spec 49=none) (hsH:Q.specH 49=none) (hsW:Q.specW 49=none) {sz:Nat} {s0 s:St} {bx lo lim m cb:Nat} {lob:bE} (hmw:s0.minw≤s0.next) (hm:m<s0.next) (hcb:cb<s0.next) (hc:s0.get [] cb=some (.cells [.map m])) (hmm:s0.get [] m=some (.map es es.length)) (c:gV sz s0 s bx lo lim lob [])
 (ht:qw Q sz s0 bx lo s.next lob es) (hkey: ∀e∈es, ∃k:ax,e.key= .str k): ∃s',br Q 49 [.yld lo,.ptr cb 0] s (.tup []) s'∧ ∃xs lim',gV sz s0 s' bx lo lim' lob xs∧xs.Perm (es.map (·.key))∧s.next≤s'.next:=by
 obtain⟨l1,l2,l3,l4⟩:=c.lt
 have hr:kO Tryz.prog [] 61 (.map m) s=some (.ptr s.next 0,s.new (.iter (some m) es.length [] es.length)):=by
  have h:Tryz.prog.underlying 61=some (.map 9 67):=by kernel_rfl
  simp only [kO,h,ak,(c.old m hm).trans hmm]
 have hcb2:s.get [] cb=some (.cells [.map m]):=(c.old cb hcb).trans hc
 have hg2: ∀n,n<s.next→(s.new (.iter (some m) es.length [] es.length)).get [] n=s.get [] n:=fun n h=>by rw [cW,beq_eq_false_iff_ne.2 (by omega:n≠s.next)];rfl
 have c2:gV sz s0 (s.new (.iter (some m) es.length [] es.length)) bx lo s.next lob []:=by
  obtain⟨v,b1,b2⟩:=c.box
  refine⟨fun n h=>(hg2 n (by omega)).trans (c.old n h),⟨l1,l2,by omega,ic _⟩,c.minw,⟨v,(hg2 bx (by omega)).trans b1,.inl ?_⟩,(hg2 lo (by omega)).trans c.loop⟩
  rcases b2 with b2|⟨b2,_⟩
  ·exact b2
  ·exact absurd rfl b2
 have i2:jL (s.new (.iter (some m) es.length [] es.length)) s.next m es []:=⟨by rw [cW,bS];rfl,by rw [hg2 m (by omega)];exact(c.old m hm).trans hmm⟩
 have key: ∃u s',br Q 49 [.yld lo,.ptr cb 0] s u s'∧(u= .tup []∧ ∃xs lim',gV sz s0 s' bx lo lim' lob xs∧xs.Perm (es.map (·.key))∧s.next≤s'.next):=by
  refine br.ofEx (by rw [hP];exact aeT) aeS aeV aeU hsp ?_ hsH hsW
  unfold NV
  refine W.sreg ?_
  unfold NW
  simp only [dg,cM,az,aA,aB,ah,bf,aj,aC,aw,cd,ak,fZ,cT,cF,aK,aQ,aR,bN,bS,tA,aM,ae,ar,bt,bR,bQ,dT,mE,hP,dl,hcb2,dj,Aj,hr]
  refine W.block ?_
  refine(ag3 hP hh hch hkm hb hkx (by omega:lo<s.next) hm hmw ht hkey es.length [] _ _ _ [] (qm _ _) c2 i2 ?_ (by simp only [ah,ae,cT,cF, *]) (by simp only [ah,ae,cT,cF, *])).mono ?_
  ·rw [bT]
   have:dq [] es=es:=by simp [dq]
   rw [this]
  rintro x ⟨e,sz',lc⟩ s' ⟨rfl,xs,q1,q2,q3⟩
  exact⟨.inl rfl,.tup [],⟨[],rfl,rfl⟩,rfl,xs,_,q1,q2,fX (jR _) q3⟩
 obtain⟨u,s',k1,rfl,k2⟩:=key
 exact⟨s',k1,k2⟩
theorem agY {sz:Nat} {s0:St} {bx lo it m:Nat} {lob:bE} (hlo:lo<it) (hm:m<s0.next) (hmw:s0.minw≤s0.next) (ht:qw Q sz s0 bx lo it lob es) (hkey: ∀e∈es, ∃k:ax,e.key= .str k): ∀(n:Nat) (seen:List Nat) (e:bc) (lc:Ag.Loc) (s:St) (xs:List ai),(dq seen es).length≤n→gV sz s0 s bx lo it lob xs→jL s it m es seen→(xs++(dq seen es).map (·.key)).Perm (es.map (·.key))→aq e 5= .ptr it 0→aq e 0= .yld lo→
 W Q 185 (.loop xc) ⟨e,14,lc⟩ s fun x _ s'=>x= .exit 0∧ ∃xs',gV sz s0 s' bx lo it lob xs'∧xs'.Perm (es.map (·.key))∧s.next≤s'.next:=by
 have _:=hP
 have _:=hh
 intro n
 induction n with
 |zero=>
  intro seen e lc s xs hn c i hp h5 h1
  have hu:dq seen es=[]:=ql (Nat.le_zero.1 hn)
  have hd:=i.done hb ch kmax hu
  rw [hu,rf,im] at hp
  refine W.loop1 ?_
  unfold xc
  refine W.sreg ?_
  unfold y9
  simp only [az,aA,aB,ah,ii,aj,aC,aw,cd,ak,dM,cT,bS,tA,ar,pj,h5,hch,hkm,hd,gu,fe]
  refine W.seq (W.cond (t:=false) (by simp only [aj,ah,ae,cT,cF, *]) ?_)
  exact W.exit ⟨rfl,xs,c,hp,bv _⟩
 |succ n ih=>
  intro seen e lc s xs hn c i hp h5 h1
  by_cases hu:dq seen es=[]
  ·have hd:=i.done hb ch kmax hu
   rw [hu,rf,im] at hp
   refine W.loop1 ?_
   unfold xc
   refine W.sreg ?_
   unfold y9
   simp only [az,aA,aB,ah,ii,aj,aC,aw,cd,ak,dM,cT,bS,tA,ar,pj,h5,hch,hkm,hd,gu,fe]
   refine W.seq (W.cond (t:=false) (by simp only [aj,ah,ae,cT,cF, *]) ?_)
   exact W.exit ⟨rfl,xs,c,hp,bv _⟩
  ·obtain⟨en,s2,hen,hnx,hg,hnn,hw⟩:=i.step hb ch kmax hkx hu
   have hmem:=(np.1 hen).1
   obtain⟨l1,l2,l3,l4⟩:=c.lt
   have c2:=c.step hlo hmw hg hnn hw
   have i2:jL s2 it m es (seen++[en.born]):=⟨by rw [hg,cD,bS];rfl,by rw [hg,cD,beq_eq_false_iff_ne.2 (by omega:m≠it)];exact i.hm⟩
   have hent:=i2.entry hb hmem
   have hless:=AP hen
   have hpu:=FM hb.nd hen
   have hlen:xs.length<es.length:=by
    have h2:=hp.length_eq
    have h3:=hpu.length_eq
    simp only [dn,ep,aK] at h2 h3
    omega
   have hxs: ∀y∈xs,y∈es.map (·.key):=fun y hy=>hp.mem_iff.1 (A4 _ hy)
   obtain⟨s3,hy,c3,hg3,hn3⟩:=ht s2 xs en.key c2 (List.mem_map.2 ⟨en,hmem,rfl⟩) hlen hxs
   have i3:jL s3 it m es (seen++[en.born]):=⟨by rw [hg3 it (bv _) (by omega) (by omega)];exact i2.hi,by rw [hg3 m (by omega) (by omega) (by omega)];exact i2.hm⟩
   have hp3:((xs++[en.key])++(dq (seen++[en.born]) es).map (·.key)).Perm (es.map (·.key)):=by
    refine List.Perm.trans ?_ hp
    rw [wn]
    have h9:=(hpu.map (fun e:cV=>e.key)).symm
    rw [fw] at h9
    exact List.Perm.append_left xs h9
   obtain⟨k,hke⟩:=hkey en hmem
   rw [hke] at hnx hent hy c3 hp3
   refine W.loop1 ?_
   unfold xc
   refine W.sreg ?_
   unfold y9
   simp only [az,aA,aB,ah,ii,aj,aC,aw,cd,ak,dM,cT,bS,tA,ar,pj,h5,hch,hkm,hnx,gu,fe]
   refine W.seq (W.cond (t:=true) (by simp only [aj,ah,ae,cT,cF, *]) (W.skip ?_))
   simp only [aN]
   refine W.block (W.sreg ?_)
   unfold KF
   simp only [az,aA,aB,ah,aJ,ii,aj,aC,aw,ak,dM,cT,cF,bS,tA,ae,ar,Ai,h5,hent,gu,fe]
   refine W.seq (W.region (fD 2 ?_))
   unfold KG
   simp only [az,aA,aB,ah,aE,aj,aw,cT,cF,bA,aR,bS,tA,ae,ar,h1]
   refine Bg (n:=lo) (args:=[.str k]) ?_ hy (by decide) ?_
   ·rw [FU (n:=lo) (by simp only [aj,ah,ae,cT,cF])]
    simp only [ah,aj,aC,be,bh,ak,cu,cT,cF,bS,ae]
   refine fP ?_
   simp only [az,aA,aB,ah,eW,aj,aC,aw,eZ,ak,ei,cT,cF,dP,bS,tA,ae,ar,aN]
   refine W.cond (t:=false) (by simp only [aj,ah,ae,cT,cF, *]) (W.skip ?_)
   simp only [dS,aN]
   refine(ih (seen++[en.born]) _ _ s3 _ (by omega) c3 i3 hp3 (by simp only [ah,ae,cF, *]) (by simp only [ah,ae,cF, *])).mono ?_
   rintro x fr s' ⟨rfl,xs',q1,q2,q3⟩
   exact⟨rfl,xs',q1,q2,by omega⟩
theorem agZ (hsp:Q.spec 185=none) (hsH:Q.specH 185=none) (hsW:Q.specW 185=none) {sz:Nat} {s0 s:St} {bx lo lim m cb:Nat} {lob:bE} (hmw:s0.minw≤s0.next) (hm:m<s0.next) (hcb:cb<s0.next) (hc:s0.get [] cb=some (.cells [.map m])) (hmm:s0.get [] m=some (.map es es.length)) (c:gV sz s0 s bx lo lim lob [])
 (ht:qw Q sz s0 bx lo s.next lob es) (hkey: ∀e∈es, ∃k:ax,e.key= .str k): ∃s',br Q 185 [.yld lo,.ptr cb 0] s (.tup []) s'∧ ∃xs lim',gV sz s0 s' bx lo lim' lob xs∧xs.Perm (es.map (·.key))∧s.next≤s'.next:=by
 obtain⟨l1,l2,l3,l4⟩:=c.lt
 have hr:kO Tryz.prog [] 195 (.map m) s=some (.ptr s.next 0,s.new (.iter (some m) es.length [] es.length)):=by
  have h:Tryz.prog.underlying 195=some (.map 9 196):=by kernel_rfl
  simp only [kO,h,ak,(c.old m hm).trans hmm]
 have hcb2:s.get [] cb=some (.cells [.map m]):=(c.old cb hcb).trans hc
 have hg2: ∀n,n<s.next→(s.new (.iter (some m) es.length [] es.length)).get [] n=s.get [] n:=fun n h=>by rw [cW,beq_eq_false_iff_ne.2 (by omega:n≠s.next)];rfl
 have c2:gV sz s0 (s.new (.iter (some m) es.length [] es.length)) bx lo s.next lob []:=by
  obtain⟨v,b1,b2⟩:=c.box
  refine⟨fun n h=>(hg2 n (by omega)).trans (c.old n h),⟨l1,l2,by omega,ic _⟩,c.minw,⟨v,(hg2 bx (by omega)).trans b1,.inl ?_⟩,(hg2 lo (by omega)).trans c.loop⟩
  rcases b2 with b2|⟨b2,_⟩
  ·exact b2
  ·exact absurd rfl b2
 have i2:jL (s.new (.iter (some m) es.length [] es.length)) s.next m es []:=⟨by rw [cW,bS];rfl,by rw [hg2 m (by omega)];exact(c.old m hm).trans hmm⟩
 have key: ∃u s',br Q 185 [.yld lo,.ptr cb 0] s u s'∧(u= .tup []∧ ∃xs lim',gV sz s0 s' bx lo lim' lob xs∧xs.Perm (es.map (·.key))∧s.next≤s'.next):=by
  refine br.ofEx (by rw [hP];exact acD) acC acF acE hsp ?_ hsH hsW
  unfold KD
  refine W.sreg ?_
  unfold KE
  simp only [dg,cM,az,aA,aB,ah,bf,aj,aC,aw,cd,ak,fZ,cT,cF,aK,aQ,aR,bN,bS,tA,aM,ae,ar,bt,bR,bQ,dT,ajU,hP,dl,hcb2,dj,Aj,hr]
  refine W.block ?_
  refine(agY hP hh hch hkm hb hkx (by omega:lo<s.next) hm hmw ht hkey es.length [] _ _ _ [] (qm _ _) c2 i2 ?_ (by simp only [ah,ae,cT,cF, *]) (by simp only [ah,ae,cT,cF, *])).mono ?_
  ·rw [bT]
   have:dq [] es=es:=by simp [dq]
   rw [this]
  rintro x ⟨e,sz',lc⟩ s' ⟨rfl,xs,q1,q2,q3⟩
  exact⟨.inl rfl,.tup [],⟨[],rfl,rfl⟩,rfl,xs,_,q1,q2,fX (jR _) q3⟩
 obtain⟨u,s',k1,rfl,k2⟩:=key
 exact⟨s',k1,k2⟩
theorem ag5 {sz:Nat} {s0:St} {bx lo it m:Nat} {lob:bE} (hlo:lo<it) (hm:m<s0.next) (hmw:s0.minw≤s0.next) (ht:qw Q sz s0 bx lo it lob es) (hkey: ∀e∈es, ∃a b:ax,e.key= .agg [.str a,.str b]): ∀(n:Nat) (seen:List Nat) (e:bc) (lc:Ag.Loc) (s:St) (xs:List ai),(dq seen es).length≤n→gV sz s0 s bx lo it lob xs→jL s it m es seen→(xs++(dq seen es).map (·.key)).Perm (es.map (·.key))→aq e 5= .ptr it 0→aq e 0= .yld lo→
 W Q 52 (.loop xf) ⟨e,14,lc⟩ s fun x _ s'=>x= .exit 0∧ ∃xs',gV sz s0 s' bx lo it lob xs'∧xs'.Perm (es.map (·.key))∧s.next≤s'.next:=by
 intro n
 induction n with
 |zero=>
  intro seen e lc s xs hn c i hp h5 h1
  have hu:dq seen es=[]:=ql (Nat.le_zero.1 hn)
  have hd:=i.done hb ch kmax hu
  rw [hu,rf,im] at hp
  refine W.loop1 ?_
  unfold xf
  refine W.sreg ?_
  unfold zt
  simp only [az,aA,aB,ah,ii,aj,aC,aw,cd,ak,dM,cT,bS,tA,ar,pj,h5,hch,hkm,hd,gu,fe]
  refine W.seq (W.cond (t:=false) (by simp only [aj,ah,ae,cT,cF, *]) ?_)
  exact W.exit ⟨rfl,xs,c,hp,bv _⟩
 |succ n ih=>
  intro seen e lc s xs hn c i hp h5 h1
  by_cases hu:dq seen es=[]
  ·have hd:=i.done hb ch kmax hu
   rw [hu,rf,im] at hp
   refine W.loop1 ?_
   unfold xf
   refine W.sreg ?_
   unfold zt
   simp only [az,aA,aB,ah,ii,aj,aC,aw,cd,ak,dM,cT,bS,tA,ar,pj,h5,hch,hkm,hd,gu,fe]
   refine W.seq (W.cond (t:=false) (by simp only [aj,ah,ae,cT,cF, *]) ?_)
   exact W.exit ⟨rfl,xs,c,hp,bv _⟩
  ·obtain⟨en,s2,hen,hnx,hg,hnn,hw⟩:=i.step hb ch kmax hkx hu
   have hmem:=(np.1 hen).1
   obtain⟨l1,l2,l3,l4⟩:=c.lt
   have c2:=c.step hlo hmw hg hnn hw
   have i2:jL s2 it m es (seen++[en.born]):=⟨by rw [hg,cD,bS];rfl,by rw [hg,cD,beq_eq_false_iff_ne.2 (by omega:m≠it)];exact i.hm⟩
   have hent:=i2.entry hb hmem
   have hless:=AP hen
   have hpu:=FM hb.nd hen
   have hlen:xs.length<es.length:=by
    have h2:=hp.length_eq
    have h3:=hpu.length_eq
    simp only [dn,ep,aK] at h2 h3
    omega
   have hxs: ∀y∈xs,y∈es.map (·.key):=fun y hy=>hp.mem_iff.1 (A4 _ hy)
   obtain⟨s3,hy,c3,hg3,hn3⟩:=ht s2 xs en.key c2 (List.mem_map.2 ⟨en,hmem,rfl⟩) hlen hxs
   have i3:jL s3 it m es (seen++[en.born]):=⟨by rw [hg3 it (bv _) (by omega) (by omega)];exact i2.hi,by rw [hg3 m (by omega) (by omega) (by omega)];exact i2.hm⟩
   have hp3:((xs++[en.key])++(dq (seen++[en.born]) es).map (·.key)).Perm (es.map (·.key)):=by
    refine List.Perm.trans ?_ hp
    rw [wn]
    have h9:=(hpu.map (fun e:cV=>e.key)).symm
    rw [fw] at h9
    exact List.Perm.append_left xs h9
   obtain⟨a,b,hke⟩:=hkey en hmem
   rw [hke] at hnx hent hy c3 hp3
   refine W.loop1 ?_
   unfold xf
   refine W.sreg ?_
   unfold zt
   simp only [az,aA,aB,ah,ii,aj,aC,aw,cd,ak,dM,cT,bS,tA,ar,pj,h5,hch,hkm,hnx,gu,fe]
   refine W.seq (W.cond (t:=true) (by simp only [aj,ah,ae,cT,cF, *]) (W.skip ?_))
   simp only [aN]
   refine W.block (W.sreg ?_)
   unfold N6
   simp only [az,aA,dH,aB,dI,ah,bI,gQ,fH,dJ,ii,aj,aC,eM,aw,bH,di,fU,ak,bZ,dM,cT,cF,aK,aQ,cI,bA,aR,bT,cq,bS,tA,aM,ae,ar,bt,bR,dB,aU,cP,bQ,dT,FZ,S5,Y7,hP,hh,Ai,h5,hent,gu,fe]
   refine W.seq (W.region (fD 2 ?_))
   unfold N7
   simp only [az,aA,aB,ah,bI,aE,bf,aj,bU,aw,ak,cT,cF,aK,aQ,cut,bA,aR,bS,tA,aM,ae,ar,bt,aU,Sg,hP,h1]
   refine Bg (n:=lo) (args:=[.agg [.str a,.str b]]) ?_ hy (by decide) ?_
   ·rw [FU (n:=lo) (by simp only [aj,ah,ae,cT,cF])]
    simp only [ah,aj,aC,be,bh,ak,bZ,cT,cF,bS,ae]
   refine fP ?_
   simp only [az,aA,aB,ah,eW,aj,aC,aw,eZ,ak,ei,cT,cF,dP,bS,tA,ae,ar,aN]
   refine W.cond (t:=false) (by simp only [aj,ah,ae,cT,cF, *]) (W.skip ?_)
   simp only [dS,aN]
   refine(ih (seen++[en.born]) _ _ s3 _ (by omega) c3 i3 hp3 (by simp only [ah,ae,cF, *]) (by simp only [ah,ae,cF, *])).mono ?_
   rintro x fr s' ⟨rfl,xs',q1,q2,q3⟩
   exact⟨rfl,xs',q1,q2,by omega⟩
theorem ag6 (hsp:Q.spec 52=none) (hsH:Q.specH 52=none) (hsW:Q.specW 52=none) {sz:Nat} {s0 s:St} {bx lo lim m cb:Nat} {lob:bE} (hmw:s0.minw≤s0.next) (hm:m<s0.next) (hcb:cb<s0.next) (hc:s0.get [] cb=some (.cells [.map m])) (hmm:s0.get [] m=some (.map es es.length)) (c:gV sz s0 s bx lo lim lob [])
 (ht:qw Q sz s0 bx lo s.next lob es) (hkey: ∀e∈es, ∃a b:ax,e.key= .agg [.str a,.str b]): ∃s',br Q 52 [.yld lo,.ptr cb 0] s (.tup []) s'∧ ∃xs lim',gV sz s0 s' bx lo lim' lob xs∧xs.Perm (es.map (·.key))∧s.next≤s'.next:=by
 obtain⟨l1,l2,l3,l4⟩:=c.lt
 have hr:kO Tryz.prog [] 63 (.map m) s=some (.ptr s.next 0,s.new (.iter (some m) es.length [] es.length)):=by
  have h:Tryz.prog.underlying 63=some (.map 31 4):=by kernel_rfl
  simp only [kO,h,ak,(c.old m hm).trans hmm]
 have hcb2:s.get [] cb=some (.cells [.map m]):=(c.old cb hcb).trans hc
 have hg2: ∀n,n<s.next→(s.new (.iter (some m) es.length [] es.length)).get [] n=s.get [] n:=fun n h=>by rw [cW,beq_eq_false_iff_ne.2 (by omega:n≠s.next)];rfl
 have c2:gV sz s0 (s.new (.iter (some m) es.length [] es.length)) bx lo s.next lob []:=by
  obtain⟨v,b1,b2⟩:=c.box
  refine⟨fun n h=>(hg2 n (by omega)).trans (c.old n h),⟨l1,l2,by omega,ic _⟩,c.minw,⟨v,(hg2 bx (by omega)).trans b1,.inl ?_⟩,(hg2 lo (by omega)).trans c.loop⟩
  rcases b2 with b2|⟨b2,_⟩
  ·exact b2
  ·exact absurd rfl b2
 have i2:jL (s.new (.iter (some m) es.length [] es.length)) s.next m es []:=⟨by rw [cW,bS];rfl,by rw [hg2 m (by omega)];exact(c.old m hm).trans hmm⟩
 have key: ∃u s',br Q 52 [.yld lo,.ptr cb 0] s u s'∧(u= .tup []∧ ∃xs lim',gV sz s0 s' bx lo lim' lob xs∧xs.Perm (es.map (·.key))∧s.next≤s'.next):=by
  refine br.ofEx (by rw [hP];exact ae9) ae8 afb afa hsp ?_ hsH hsW
  unfold N4
  refine W.sreg ?_
  unfold N5
  simp only [dg,cM,az,aA,aB,ah,bf,aj,aC,aw,cd,ak,fZ,cT,cF,aK,aQ,aR,bN,bS,tA,aM,ae,ar,bt,bR,bQ,dT,Fe,hP,dl,hcb2,dj,Aj,hr]
  refine W.block ?_
  refine(ag5 hP hh hch hkm hb hkx (by omega:lo<s.next) hm hmw ht hkey es.length [] _ _ _ [] (qm _ _) c2 i2 ?_ (by simp only [ah,ae,cT,cF, *]) (by simp only [ah,ae,cT,cF, *])).mono ?_
  ·rw [bT]
   have:dq [] es=es:=by simp [dq]
   rw [this]
  rintro x ⟨e,sz',lc⟩ s' ⟨rfl,xs,q1,q2,q3⟩
  exact⟨.inl rfl,.tup [],⟨[],rfl,rfl⟩,rfl,xs,_,q1,q2,fX (jR _) q3⟩
 obtain⟨u,s',k1,rfl,k2⟩:=key
 exact⟨s',k1,k2⟩
end
structure mX (sz:Nat) (s0 s:St) (v:ai) (xs:List ai):Prop where
 old: ∀n,n<s0.next→s.get [] n=s0.get [] n
 next:s0.next≤s.next
 minw:s.minw=s0.minw
 row:(v= .nils∧xs=[])∨(xs≠ []∧ ∃k,v= .arr sz k 0 xs.length xs.length∧s.get [] k=some (.cells (bO xs))∧s0.next≤k∧k<s.next)
theorem mX.clean {sz:Nat} {s0 s:St} {v:ai} {xs:List ai} (g:mX sz s0 s v xs):v.clean=true:=by
 rcases g.row with⟨rfl,_⟩|⟨_,k,rfl,_⟩<;>rfl
def rA:List ai→Option (List ax)
 | []=>some []
 | .str a::l=>(rA l).bind fun r=>some (a::r)
 |_=>none
def qy:List ai→Option (List (ax×ax))
 | []=>some []
 | .str a:: .str b::l=>(qy l).bind fun r=>some ((a,b)::r)
 |_=>none
theorem GD: ∀l:List ax,rA (l.map bp)=some l
 | []=>rfl
 |a::l=>by
  show(rA (l.map bp)).bind _=_
  rw [GD l];rfl
theorem wG:(ai.nils).cells=[.nils]:=rfl
theorem uX: ∀l:List ax,bO (l.map bp)=l.map bp
 | []=>rfl
 |a::l=>by
  show(bp a).cells++bO (l.map bp)=_
  rw [uX l];rfl
def de (c:ax×ax):ai:=.agg [.str c.1,.str c.2]
theorem GB: ∀l:List (ax×ax),qy (bO (l.map de))=some l
 | []=>rfl
 |a::l=>by
  show(qy (bO (l.map de))).bind _=_
  rw [GB l];rfl
theorem wU: ∀l:List (ax×ax),(bO (l.map de)).length=l.length*2
 | []=>rfl
 |a::l=>by
  show([ai.str a.1,ai.str a.2]++bO (l.map de)).length=_
  rw [dn,wU l,aK,aK,aK,aQ];omega
def gU (a b:ax×ax):Int:=bif bL (dV a.1 b.1) 0 then dV a.2 b.2 else dV a.1 b.1
def zR (a b:ax×ax):Bool:=du (gU a b) 0
def tC (x:ax×ax):List (ax×ax)→List (ax×ax)
 | []=>[x]
 |y::l=>bif zR y x then y::tC x l else x::y::l
def hZ:List (ax×ax)→List (ax×ax)
 | []=>[]
 |x::l=>tC x (hZ l)
theorem CO (x:ax×ax): ∀l,(tC x l).Perm (x::l)
 | []=>.refl _
 |y::l=>by
  simp only [tC]
  cases zR y x with
  |true=>exact((CO x l).cons y).trans (.swap x y l)
  |false=>exact .refl _
theorem sF: ∀l,(hZ l).Perm l
 | []=>.refl _
 |x::l=>(CO x _).trans ((sF l).cons x)
def wc:List ai→Option s9
 | [.nils]=>some none
 | [.arr 1 m 0 len _]=>some (some (m,fun cs=>bif aY cs.length len&&bP len 1000001 then(rA cs).bind fun l=>some ((fq l).map bp) else none))
 |_=>none
def v8:List ai→Option s9
 | [.nils,.func (.func 30) [] []]=>some none
 | [.arr 2 m 0 len _,.func (.func 30) [] []]=>some (some (m,fun cs=>bif aY cs.length (len*2)&&bP len 1000001 then(qy cs).bind fun l=>some (bO ((hZ l).map de)) else none))
 |_=>none
section
variable {Q:ck} (hP:Q.P=Tryz.prog) (hh:Q.hint=bB)
include hP hh
theorem alt {s0:St} {bx lo lim:Nat} {E:bc} {es:List cV} (hE:aq E 2= .ptr bx 0) (hm:s0.minw≤s0.next) (hes:es.length≤1000000) (hkey: ∀e∈es, ∃k:ax,e.key= .str k):qw Q 1 s0 bx lo lim (.loop 78 E 13 [7] rU rX none) es:=by
 intro s xs k c hk hl hxs
 obtain⟨e,he,rfl⟩:=List.mem_map.1 hk
 obtain⟨b,hb⟩:=hkey e he
 rw [hb]
 refine akf hP hh hE (fun y hy=>?_) (by omega) hm c
 obtain⟨e2,he2,rfl⟩:=List.mem_map.1 (hxs y hy)
 obtain⟨b2,hb2⟩:=hkey e2 he2
 rw [hb2];rfl
theorem alu {s0:St} {bx lo lim:Nat} {E:bc} {es:List cV} (hE:aq E 2= .ptr bx 0) (hm:s0.minw≤s0.next) (hes:es.length≤1000000) (hkey: ∀e∈es, ∃a b:ax,e.key= .agg [.str a,.str b]):qw Q 2 s0 bx lo lim (.loop 81 E 13 [7] rY rZ none) es:=by
 intro s xs k c hk hl hxs
 obtain⟨e,he,rfl⟩:=List.mem_map.1 hk
 obtain⟨a,b,hb⟩:=hkey e he
 rw [hb]
 refine akg hP hh hE (fun y hy=>?_) (by omega) hm c
 obtain⟨e2,he2,rfl⟩:=List.mem_map.1 (hxs y hy)
 obtain⟨a2,b2,hb2⟩:=hkey e2 he2
 rw [hb2];rfl
def qs (Q:ck) (sz g:Nat) (s0:St) (cb:Nat) (es:List cV):Prop:=
 ∀(s:St) (bx lo lim:Nat) (lob:bE),gV sz s0 s bx lo lim lob []→qw Q sz s0 bx lo s.next lob es→ ∃s',br Q g [.yld lo,.ptr cb 0] s (.tup []) s'∧ ∃xs lim',gV sz s0 s' bx lo lim' lob xs∧xs.Perm (es.map (·.key))∧s.next≤s'.next
theorem Uz (h78:Q.spec 78=none) (hH78:Q.specH 78=none) (hW78:Q.specW 78=none) {g cb:Nat} {s0:St} {es:List cV} (hm:s0.minw≤s0.next) (hes:es.length≤1000000) (hkey: ∀e∈es, ∃k:ax,e.key= .str k) (hg:lQ Tryz.prog g=true) (hgv:qs Q 1 g s0 cb es):
 ∃v s',br Q 78 [.nils,.func (.func g) [] [.ptr cb 0]] s0 v s'∧ ∃xs,mX 1 s0 s' v xs∧xs.Perm (es.map (·.key)):=by
 refine br.ofEx (by rw [hP];exact agw) ags agy agx h78 ?_ hH78 hW78
 unfold PR
 refine W.sreg ?_
 unfold PU
 simp only [dg,cM,az,aA,aB,ah,aJ,ja,aj,aI,aC,iA,aw,bH,ak,uF,cT,cF,aK,aQ,bS,tA,aM,ae,ar,bt,bR,bQ,dT,ZY,hh,iA,ofValue,fk,wG]
 refine W.seq (W.sreg ?_)
 unfold PW
 simp only [az,aA,aB,ah,aE,aj,aw,cT,cF,bS,tA,ae,ar]
 have hg1: ∀n o,n<s0.next→((s0.new (.cells [.nils])).new o).get [] n=s0.get [] n:=fun n o h=>by
  rw [cW,i9,beq_eq_false_iff_ne.2 (by omega:n≠s0.next+1),cF,cW,beq_eq_false_iff_ne.2 (by omega:n≠s0.next)];rfl
 have hcol: ∀lob,gV 1 s0 ((s0.new (.cells [.nils])).new lob) s0.next (s0.next+1) (s0.next+1) lob []:=fun lob=>
  ⟨fun n h=>hg1 n lob h,⟨bv _,ic _,bv _,ic _⟩,rfl,⟨.nils,by rw [cW,i9,beq_eq_false_iff_ne.2 (by omega:s0.next≠s0.next+1),cF,cW,bS];rfl,.inl ⟨rfl,rfl⟩⟩,by rw [cW,i9,bS];rfl⟩
 obtain⟨s1,hr,xs,lim',c1,hp,hn1⟩:=hgv _ s0.next (s0.next+1) (s0.next+1) _ (hcol (.loop 78 ((((cM 0 [.nils,.func (.func g) [] [.ptr cb 0]]).set 2 (some (.ptr s0.next 0))).set 4 (some .nils)).set 6 (some (.func (.func g) [] [.ptr cb 0]))) 13 [7] rU rX none)) (alt hP hh (by simp only [ah,ae,cT,cF, *]) hm hes hkey)
 obtain⟨l1,l2,l3,l4⟩:=c1.lt
 obtain⟨v,hv,hrow⟩:=c1.box
 have hvc:v.clean=true:=by rcases hrow with⟨rfl,_⟩|⟨_,k,rfl,_⟩<;>rfl
 have hk1: ∀n,n≠s0.next+1→(s1.put (s0.next+1) none).get [] n=s1.get [] n:=fun n h=>by rw [cD,beq_eq_false_iff_ne.2 h];rfl
 have hbx:(s1.put (s0.next+1) none).get [] s0.next=some (.cells [v]):=(hk1 _ (by omega)).trans hv
 refine W.block (W.rfun (h:=g) (first:=[]) (captured:=[.ptr cb 0]) (v:=.tup []) (s1:=s1) (by simp only [aj,ah,ae,cT,cF]) ?_ hr c1.loop ?_)
 ·rw [hP,hg,agv];rfl
 simp only [tM,dS,aN,i9]
 refine W.sreg ?_
 unfold PZ
 simp only [az,aA,aB,ah,aJ,bf,aj,aw,ak,cT,cF,aR,bN,bS,tA,ae,ar,iE,hP,dl,hbx,dj]
 refine W.ret ⟨.inr rfl,v,cp (by simp only [ah,ae,cT,cF, *]) hvc,xs,⟨fun n h=>(hk1 n (by omega)).trans (c1.old n h),?_,?_,?_⟩,hp⟩
 ·show s0.next≤s1.next
  omega
 ·rw [lY (by rw [c1.minw];omega)];exact c1.minw
 ·rcases hrow with h|⟨h1,k,h2,h3,h4,h5⟩
  ·exact .inl h
  ·exact .inr ⟨h1,k,h2,(hk1 k (by omega)).trans h3,by omega,h5⟩
theorem VU (h78:Q.spec 78=none) (hH78:Q.specH 78=none) (hW78:Q.specW 78=none) (h47:Q.spec 47=none) (hH47:Q.specH 47=none) (hW47:Q.specW 47=none) {g cb:Nat} {s0:St} {es:List cV} (hm:s0.minw≤s0.next) (hes:es.length≤1000000) (hkey: ∀e∈es, ∃k:ax,e.key= .str k) (hg:lQ Tryz.prog g=true) (hgv:qs Q 1 g s0 cb es):
 ∃v s',br Q 47 [.func (.func g) [] [.ptr cb 0]] s0 v s'∧ ∃xs,mX 1 s0 s' v xs∧xs.Perm (es.map (·.key)):=by
 obtain⟨v,s',hr,xs,hgot,hp⟩:=Uz hP hh h78 hH78 hW78 hm hes hkey hg hgv
 have hvc:=hgot.clean
 refine⟨v,s',br.of2 (by rw [hP];exact aeP) aeO aeR aeQ h47 ?_ hH47 hW47,xs,hgot,hp⟩
 unfold NS
 refine W.sreg ?_
 unfold NT
 simp only [dg,cM,az,aA,aB,aJ,aI,aw,cT,aK,aQ,tA,aM,ar,bR,bQ,dT,ofValue,fk]
 refine W.seq (W.region (fD 1 ?_))
 unfold NU
 simp only [az,aA,aB,ah,aE,aj,aw,cT,cF,bA,aR,bS,tA,ae,ar]
 refine fQ (g:=78) (args:=[.nils,.func (.func g) [] [.ptr cb 0]]) ?_ hr (by decide) ?_
 ·simp only [callee,ah,aj,aI,eH,aC,be,bh,ak,uF,nc,cT,cF,bT,cq,bS,ae,ofValue,fk]
 refine fP ?_
 simp only [az,aA,aB,ah,aJ,aj,aw,cT,cF,bS,tA,ae,ar,aN]
 exact W.ret ⟨rfl,.inr rfl,cp (by simp only [ah,ae,cT,cF, *]) hvc⟩
theorem UA (h81:Q.spec 81=none) (hH81:Q.specH 81=none) (hW81:Q.specW 81=none) {g cb:Nat} {s0:St} {es:List cV} (hm:s0.minw≤s0.next) (hes:es.length≤1000000) (hkey: ∀e∈es, ∃a b:ax,e.key= .agg [.str a,.str b]) (hg:lQ Tryz.prog g=true) (hgv:qs Q 2 g s0 cb es):
 ∃v s',br Q 81 [.nils,.func (.func g) [] [.ptr cb 0]] s0 v s'∧ ∃xs,mX 2 s0 s' v xs∧xs.Perm (es.map (·.key)):=by
 refine br.ofEx (by rw [hP];exact agD) agz agF agE h81 ?_ hH81 hW81
 unfold P0
 refine W.sreg ?_
 unfold P5
 simp only [dg,cM,az,aA,aB,ah,aJ,ja,aj,aI,aC,iA,aw,bH,ak,uF,cT,cF,aK,aQ,bS,tA,aM,ae,ar,bt,bR,bQ,dT,Z1,hh,iA,ofValue,fk,wG]
 refine W.seq (W.sreg ?_)
 unfold P6
 simp only [az,aA,aB,ah,aE,aj,aw,cT,cF,bS,tA,ae,ar]
 have hg1: ∀n o,n<s0.next→((s0.new (.cells [.nils])).new o).get [] n=s0.get [] n:=fun n o h=>by
  rw [cW,i9,beq_eq_false_iff_ne.2 (by omega:n≠s0.next+1),cF,cW,beq_eq_false_iff_ne.2 (by omega:n≠s0.next)];rfl
 have hcol: ∀lob,gV 2 s0 ((s0.new (.cells [.nils])).new lob) s0.next (s0.next+1) (s0.next+1) lob []:=fun lob=>
  ⟨fun n h=>hg1 n lob h,⟨bv _,ic _,bv _,ic _⟩,rfl,⟨.nils,by rw [cW,i9,beq_eq_false_iff_ne.2 (by omega:s0.next≠s0.next+1),cF,cW,bS];rfl,.inl ⟨rfl,rfl⟩⟩,by rw [cW,i9,bS];rfl⟩
 obtain⟨s1,hr,xs,lim',c1,hp,hn1⟩:=hgv _ s0.next (s0.next+1) (s0.next+1) _ (hcol (.loop 81 ((((cM 0 [.nils,.func (.func g) [] [.ptr cb 0]]).set 2 (some (.ptr s0.next 0))).set 4 (some .nils)).set 6 (some (.func (.func g) [] [.ptr cb 0]))) 13 [7] rY rZ none)) (alu hP hh (by simp only [ah,ae,cT,cF, *]) hm hes hkey)
 obtain⟨l1,l2,l3,l4⟩:=c1.lt
 obtain⟨v,hv,hrow⟩:=c1.box
 have hvc:v.clean=true:=by rcases hrow with⟨rfl,_⟩|⟨_,k,rfl,_⟩<;>rfl
 have hk1: ∀n,n≠s0.next+1→(s1.put (s0.next+1) none).get [] n=s1.get [] n:=fun n h=>by rw [cD,beq_eq_false_iff_ne.2 h];rfl
 have hbx:(s1.put (s0.next+1) none).get [] s0.next=some (.cells [v]):=(hk1 _ (by omega)).trans hv
 refine W.block (W.rfun (h:=g) (first:=[]) (captured:=[.ptr cb 0]) (v:=.tup []) (s1:=s1) (by simp only [aj,ah,ae,cT,cF]) ?_ hr c1.loop ?_)
 ·rw [hP,hg,agC];rfl
 simp only [tM,dS,aN,i9]
 refine W.sreg ?_
 unfold P9
 simp only [az,aA,aB,ah,aJ,bf,aj,aw,ak,cT,cF,aR,bN,bS,tA,ae,ar,Sf,hP,dl,hbx,dj]
 refine W.ret ⟨.inr rfl,v,cp (by simp only [ah,ae,cT,cF, *]) hvc,xs,⟨fun n h=>(hk1 n (by omega)).trans (c1.old n h),?_,?_,?_⟩,hp⟩
 ·show s0.next≤s1.next
  omega
 ·rw [lY (by rw [c1.minw];omega)];exact c1.minw
 ·rcases hrow with h|⟨h1,k,h2,h3,h4,h5⟩
  ·exact .inl h
  ·exact .inr ⟨h1,k,h2,(hk1 k (by omega)).trans h3,by omega,h5⟩
theorem VV (h81:Q.spec 81=none) (hH81:Q.specH 81=none) (hW81:Q.specW 81=none) (h50:Q.spec 50=none) (hH50:Q.specH 50=none) (hW50:Q.specW 50=none) {g cb:Nat} {s0:St} {es:List cV} (hm:s0.minw≤s0.next) (hes:es.length≤1000000) (hkey: ∀e∈es, ∃a b:ax,e.key= .agg [.str a,.str b]) (hg:lQ Tryz.prog g=true) (hgv:qs Q 2 g s0 cb es):
 ∃v s',br Q 50 [.func (.func g) [] [.ptr cb 0]] s0 v s'∧ ∃xs,mX 2 s0 s' v xs∧xs.Perm (es.map (·.key)):=by
 obtain⟨v,s',hr,xs,hgot,hp⟩:=UA hP hh h81 hH81 hW81 hm hes hkey hg hgv
 have hvc:=hgot.clean
 refine⟨v,s',br.of2 (by rw [hP];exact ae5) ae4 ae7 ae6 h50 ?_ hH50 hW50,xs,hgot,hp⟩
 unfold NZ
 refine W.sreg ?_
 unfold N0
 simp only [dg,cM,az,aA,aB,aJ,aI,aw,cT,aK,aQ,tA,aM,ar,bR,bQ,dT,ofValue,fk]
 refine W.seq (W.region (fD 1 ?_))
 unfold N3
 simp only [az,aA,aB,ah,aE,aj,aw,cT,cF,bA,aR,bS,tA,ae,ar]
 refine fQ (g:=81) (args:=[.nils,.func (.func g) [] [.ptr cb 0]]) ?_ hr (by decide) ?_
 ·simp only [callee,ah,aj,aI,eH,aC,be,bh,ak,uF,nc,cT,cF,bT,cq,bS,ae,ofValue,fk]
 refine fP ?_
 simp only [az,aA,aB,ah,aJ,aj,aw,cT,cF,bS,tA,ae,ar,aN]
 exact W.ret ⟨rfl,.inr rfl,cp (by simp only [ah,ae,cT,cF, *]) hvc⟩
omit hP hh in
theorem ak1 {xs:List ai} {ks:List ax} (h:xs.Perm (ks.map bp)): ∃l:List ax,xs=l.map bp∧l.Perm ks:=by
 have hx: ∃l:List ax,xs=l.map bp:=by
  have: ∀(xs:List ai),(∀x∈xs, ∃b:ax,x=bp b)→ ∃l:List ax,xs=l.map bp:=by
   intro xs
   induction xs with
   |nil=>exact fun _=>⟨[],rfl⟩
   |cons x xs ih=>
    intro hx
    obtain⟨b,rfl⟩:=hx x (by simp)
    obtain⟨l,rfl⟩:=ih fun y hy=>hx y (by simp [hy])
    exact⟨b::l,rfl⟩
  refine this xs fun x hx=>?_
  obtain⟨b,_,e⟩:=List.mem_map.1 (h.mem_iff.1 hx)
  exact⟨b,e.symm⟩
 obtain⟨l,rfl⟩:=hx
 have hinj:Function.Injective bp:=fun a b e=>by
  have e:ai.str a=ai.str b:=e
  injection e
 have key: ∀(l r:List ax),(l.map bp).Perm (r.map bp)→l.Perm r:=by
  intro l r hp
  have h1:=hp.map (fun v=>match v with| .str b=>b|_=>([]:ax))
  have h2: ∀l:List ax,(l.map bp).map (fun v=>match v with| .str b=>b|_=>([]:ax))=l:=by
   intro l
   induction l with
   |nil=>rfl
   |cons a l ih=>
    rw [fw,fw,ih];rfl
  rw [h2,h2] at h1
  exact h1
 exact⟨l,rfl,key l ks h⟩
omit hP hh in
theorem Vv {xs:List ai} {ks:List (ax×ax)} (h:xs.Perm (ks.map de)): ∃l:List (ax×ax),xs=l.map de∧l.Perm ks:=by
 have hx: ∃l:List (ax×ax),xs=l.map de:=by
  have: ∀(xs:List ai),(∀x∈xs, ∃b:ax×ax,x=de b)→ ∃l:List (ax×ax),xs=l.map de:=by
   intro xs
   induction xs with
   |nil=>exact fun _=>⟨[],rfl⟩
   |cons x xs ih=>
    intro hx
    obtain⟨b,rfl⟩:=hx x (by simp)
    obtain⟨l,rfl⟩:=ih fun y hy=>hx y (by simp [hy])
    exact⟨b::l,rfl⟩
  refine this xs fun x hx=>?_
  obtain⟨b,_,e⟩:=List.mem_map.1 (h.mem_iff.1 hx)
  exact⟨b,e.symm⟩
 obtain⟨l,rfl⟩:=hx
 have key: ∀(l r:List (ax×ax)),(l.map de).Perm (r.map de)→l.Perm r:=by
  intro l r hp
  have h1:=hp.map (fun v=>match v with| .agg [.str a,.str b]=>(a,b)|_=>(([],[]):ax×ax))
  have h2: ∀l:List (ax×ax),(l.map de).map (fun v=>match v with| .agg [.str a,.str b]=>(a,b)|_=>(([],[]):ax×ax))=l:=by
   intro l
   induction l with
   |nil=>rfl
   |cons a l ih=>
    rw [fw,fw,ih];rfl
  rw [h2,h2] at h1
  exact h1
 exact⟨l,rfl,key l ks h⟩
theorem SR (hs: ∀n,n=25∨n=47∨n=78∨n=48→Q.spec n=none) (hH: ∀n,Q.specH n=none) (hW: ∀n,n=25∨n=47∨n=78→Q.specW n=none) (hW48:Q.specW 48=some wc) {g cb:Nat} {s0:St} {es:List cV} {ks:List ax} (hm:s0.minw≤s0.next) (hes:es.length≤1000000) (hks:es.map (·.key)=ks.map bp) (hg:lQ Tryz.prog g=true) (hgv:qs Q 1 g s0 cb es):
 ∃v s',br Q 25 [.func (.func g) [] [.ptr cb 0]] s0 v s'∧mX 1 s0 s' v ((fq ks).map bp):=by
 have hkey: ∀e∈es, ∃k:ax,e.key= .str k:=fun e he=>by
  have h1:e.key∈ks.map bp:=by rw [←hks];exact List.mem_map.2 ⟨e,he,rfl⟩
  obtain⟨b,_,e2⟩:=List.mem_map.1 h1
  exact⟨b,e2.symm⟩
 obtain⟨v,s1,hr,xs,hgot,hp⟩:=VU hP hh (hs _ (by simp)) (hH _) (hW _ (by simp)) (hs _ (by simp)) (hH _) (hW _ (by simp)) hm hes hkey hg hgv
 rw [hks] at hp
 obtain⟨l,rfl,hl⟩:=ak1 hp
 have hsl:fq l=fq ks:=SN hl
 have hlen:l.length≤1000000:=by
  have h1:=hl.length_eq
  have h2:=congrArg List.length hks
  simp only [ep] at h2
  omega
 have hvc:=hgot.clean
 have hsort: ∃s2,br Q 48 [v] s1 (.tup []) s2∧mX 1 s0 s2 v ((fq ks).map bp):=by
  rcases hgot.row with⟨rfl,hx⟩|⟨hne,k,rfl,hk,h4,h5⟩
  ·refine⟨s1,br.specW0 (hs _ (by simp)) (hH _) hW48 rfl,hgot.old,hgot.next,hgot.minw,.inl ⟨rfl,?_⟩⟩
   have hl0:l=[]:=List.map_eq_nil_iff.1 hx
   rw [←hsl,hl0];rfl
  ·have hg1: ∀n o,n≠k→(s1.put k o).get [] n=s1.get [] n:=fun n o h=>by rw [cD,beq_eq_false_iff_ne.2 h];rfl
   rw [uX] at hk
   have hsll:(fq l).length=l.length:=(l5 l).length_eq
   refine⟨_,br.specW (n:=k) (cs':=(fq l).map bp) (hs _ (by simp)) (hH _) hW48 rfl hk ?_,fun n h=>(hg1 n _ (by omega)).trans (hgot.old n h),hgot.next,?_,.inr ⟨?_,k,?_,?_,h4,h5⟩⟩
   ·show(bif aY (l.map bp).length (l.map bp).length&&bP (l.map bp).length 1000001 then(rA (l.map bp)).bind fun l=>some ((fq l).map bp) else none)=_
    have:bP (l.map bp).length 1000001=true:=ew (by rw [ep];omega)
    rw [this,aU,bS,GD];rfl
   ·rw [lY (by rw [hgot.minw];omega)];exact hgot.minw
   ·rw [←hsl]
    intro hc
    have hc:=List.map_eq_nil_iff.1 hc
    rw [hc] at hsll
    exact hne (by rw [ql hsll.symm];rfl)
   ·rw [←hsl,ep,ep,hsll]
   ·rw [cD,bS,uX,hsl];rfl
 obtain⟨s2,hr2,hgot2⟩:=hsort
 refine⟨v,s2,br.of2 (by rw [hP];exact ado) adn adq adp (hs _ (by simp)) ?_ (hH _) (hW _ (by simp)),hgot2⟩
 unfold L0
 refine W.sreg ?_
 unfold L1
 simp only [dg,cM,az,aA,aB,aJ,aI,aw,cT,aK,aQ,tA,aM,ar,bR,bQ,dT,ofValue,fk]
 refine W.seq (W.region (fD 1 ?_))
 unfold L2
 simp only [az,aA,aB,ah,aE,aj,aw,cT,cF,bA,aR,bS,tA,ae,ar]
 refine fQ (g:=47) (args:=[.func (.func g) [] [.ptr cb 0]]) ?_ hr (by decide) ?_
 ·simp only [callee,ah,aj,eH,aC,be,bh,ak,nc,cT,cF,bT,cq,bS,ae]
 refine fP ?_
 simp only [az,aA,aB,ah,aJ,aj,aw,cT,cF,bS,tA,ae,ar,aN]
 refine W.seq (W.region (fD 1 ?_))
 unfold L3
 simp only [az,aA,aB,ah,aE,aj,aw,cT,cF,bA,aR,bS,tA,ae,ar]
 refine fQ (g:=48) (args:=[v]) ?_ hr2 (by decide) ?_
 ·simp only [callee,ah,aj,eH,aC,be,bh,ak,cT,cF,bT,cq,bS,ae,hvc]
 refine fP ?_
 simp only [az,aN]
 refine W.sreg ?_
 unfold L4
 simp only [az,aA,aB,ah,aE,aJ,aj,aw,cT,cF,bS,tA,ae,ar]
 exact W.ret ⟨rfl,.inr rfl,cp (by simp only [ah,ae,cT,cF, *]) hvc⟩
theorem akR (hs: ∀n,n=28∨n=50∨n=81∨n=51→Q.spec n=none) (hH: ∀n,Q.specH n=none) (hW: ∀n,n=28∨n=50∨n=81→Q.specW n=none) (hW51:Q.specW 51=some v8) {g cb:Nat} {s0:St} {es:List cV} {ks:List (ax×ax)} (hm:s0.minw≤s0.next) (hes:es.length≤1000000) (hks:es.map (·.key)=ks.map de) (hg:lQ Tryz.prog g=true) (hgv:qs Q 2 g s0 cb es):
 ∃v s',br Q 28 [.func (.func g) [] [.ptr cb 0],.func (.func 30) [] []] s0 v s'∧ ∃l,l.Perm ks∧mX 2 s0 s' v ((hZ l).map de):=by
 have hkey: ∀e∈es, ∃a b:ax,e.key= .agg [.str a,.str b]:=fun e he=>by
  have h1:e.key∈ks.map de:=by rw [←hks];exact List.mem_map.2 ⟨e,he,rfl⟩
  obtain⟨b,_,e2⟩:=List.mem_map.1 h1
  exact⟨b.1,b.2,e2.symm⟩
 obtain⟨v,s1,hr,xs,hgot,hp⟩:=VV hP hh (hs _ (by simp)) (hH _) (hW _ (by simp)) (hs _ (by simp)) (hH _) (hW _ (by simp)) hm hes hkey hg hgv
 rw [hks] at hp
 obtain⟨l,rfl,hl⟩:=Vv hp
 have hlen:l.length≤1000000:=by
  have h1:=hl.length_eq
  have h2:=congrArg List.length hks
  simp only [ep] at h2
  omega
 have hvc:=hgot.clean
 have hsort: ∃s2,br Q 51 [v,.func (.func 30) [] []] s1 (.tup []) s2∧mX 2 s0 s2 v ((hZ l).map de):=by
  rcases hgot.row with⟨rfl,hx⟩|⟨hne,k,rfl,hk,h4,h5⟩
  ·refine⟨s1,br.specW0 (hs _ (by simp)) (hH _) hW51 rfl,hgot.old,hgot.next,hgot.minw,.inl ⟨rfl,?_⟩⟩
   have hl0:l=[]:=List.map_eq_nil_iff.1 hx
   rw [hl0];rfl
  ·have hg1: ∀n o,n≠k→(s1.put k o).get [] n=s1.get [] n:=fun n o h=>by rw [cD,beq_eq_false_iff_ne.2 h];rfl
   have hsll:(hZ l).length=l.length:=(sF l).length_eq
   refine⟨_,br.specW (n:=k) (cs':=bO ((hZ l).map de)) (hs _ (by simp)) (hH _) hW51 rfl hk ?_,fun n h=>(hg1 n _ (by omega)).trans (hgot.old n h),hgot.next,?_,.inr ⟨?_,k,?_,?_,h4,h5⟩⟩
   ·show(bif aY (bO (l.map de)).length ((l.map de).length*2)&&bP (l.map de).length 1000001 then(qy (bO (l.map de))).bind fun l=>some (bO ((hZ l).map de)) else none)=_
    have:bP (l.map de).length 1000001=true:=ew (by rw [ep];omega)
    rw [this,wU,ep,aU,bS,GB];rfl
   ·rw [lY (by rw [hgot.minw];omega)];exact hgot.minw
   ·intro hc
    have hc:=List.map_eq_nil_iff.1 hc
    rw [hc] at hsll
    exact hne (by rw [ql hsll.symm];rfl)
   ·rw [ep,ep,hsll]
   ·rw [cD,bS];rfl
 obtain⟨s2,hr2,hgot2⟩:=hsort
 refine⟨v,s2,br.of2 (by rw [hP];exact adA) adz adC adB (hs _ (by simp)) ?_ (hH _) (hW _ (by simp)),l,hl,hgot2⟩
 unfold Mh
 refine W.sreg ?_
 unfold Mi
 simp only [dg,cM,az,aA,aB,aJ,aI,aw,cT,aK,aQ,tA,aM,ar,bt,bR,bQ,dT,ofValue,fk]
 refine W.seq (W.region (fD 1 ?_))
 unfold Mj
 simp only [az,aA,aB,ah,aE,aj,aw,cT,cF,bA,aR,bS,tA,ae,ar]
 refine fQ (g:=50) (args:=[.func (.func g) [] [.ptr cb 0]]) ?_ hr (by decide) ?_
 ·simp only [callee,ah,aj,eH,aC,be,bh,ak,nc,cT,cF,bT,cq,bS,ae]
 refine fP ?_
 simp only [az,aA,aB,ah,aJ,aj,aw,cT,cF,bS,tA,ae,ar,aN]
 refine W.seq (W.region (fD 2 ?_))
 unfold Ml
 simp only [az,aA,aB,ah,aE,aj,aw,cT,cF,bA,aR,bS,tA,ae,ar]
 refine fQ (g:=51) (args:=[v,.func (.func 30) [] []]) ?_ hr2 (by decide) ?_
 ·simp only [callee,ah,aj,eH,aC,be,bh,ak,nc,cT,cF,bT,cq,bS,ae,hvc]
 refine fP ?_
 simp only [az,aN]
 refine W.sreg ?_
 unfold Mm
 simp only [az,aA,aB,ah,aE,aJ,aj,aw,cT,cF,bS,tA,ae,ar]
 exact W.ret ⟨rfl,.inr rfl,cp (by simp only [ah,ae,cT,cF, *]) hvc⟩
end
end Go.Proofs.YtbfmdojdemckbaaGreat
