/- sequence.Merge, whole. -/
import Derived.Test.YtbfmdojdemckbaaGreatQ2
namespace Go.Proofs.YtbfmdojdemckbaaGreat
open _root_.Bool renaming and_true→dB,not_false→ff,not_true→dP
open _root_.List renaming append_nil→im,cons_append→cq,drop_succ_cons→gl,drop→aR,getElem?_cons_succ→jI,getElem?_cons_zero→fe,head?_cons→bN,length_append→dn,length_cons→aK,length_drop→sT,length_map→ep,length_nil→aQ,length_singleton→oK,length_take→pD,map_append→kC,nil_append→bT,take_succ_cons→eP,take→bA
open _root_.Nat renaming add_zero→cY,beq→aY,eq_of_beq_eq_true→ib,le_refl→bv,lt_irrefl→fL,lt_succ_self→ic,reduceAdd→bt,reduceBEq→ae,reduceLT→ar,reduceLeDiff→bR,reduceMul→jh,zero_add→aM,zero_le→ix,zero_mul→j9
open _root_.Option renaming bind_some→ak
open Go.Ag
def jm (k:Nat):List (Nat×Nat)→Option Nat
 | []=>none
 |(a,b)::l=>bif aY k a then some b else jm k l
def lN (n:Nat):List (Nat×Nat)→List cV
 | []=>[]
 |(a,b)::l=>⟨.int .i64 a,.int .i64 b,n⟩::lN (n+1) l
theorem QG (n:Int):nl Tryz.prog 178 (.int .i64 n)=some (3,3):=by kernel_rfl
theorem Wr (a b:Int):jX Tryz.prog 8 3 (.int .i64 a) (.int .i64 b)=some (bL a b):=by kernel_rfl
theorem aax (a b:Nat):bL (a:Int) (b:Int)=aY a b:=by
 rw [qJ,aU]
theorem Ch (k:Nat): ∀(l:List (Nat×Nat)) (n i:Nat),(jm k l=none→jZ Tryz.prog 3 (.int .i64 k) (lN n l) i=some none)∧ ∀v,jm k l=some v→ ∃j e,jZ Tryz.prog 3 (.int .i64 k) (lN n l) i=some (some (j,e))∧e.val= .int .i64 v
 | [],n,i=>⟨fun _=>rfl,fun v h=>by cases h⟩
 |(a,b)::l,n,i=>by
  obtain⟨h1,h2⟩:=Ch k l (n+1) (i+1)
  simp only [jm,lN,jZ,Wr,aax,ak]
  cases aY k a with
  |true=>exact⟨fun h=>(by cases h),fun v h=>⟨i,_,rfl,(by injection h with h;subst h;rfl)⟩⟩
  |false=>exact⟨h1,h2⟩
theorem Hn: ∀(l r:List (Nat×Nat)) (n:Nat),lN n (l++r)=lN n l++lN (n+l.length) r
 | [],r,n=>rfl
 |(a,b)::l,r,n=>by simp only [cq,lN,Hn l r (n+1),aK];congr 3;omega
theorem alH {s:St} {m:Nat} {l:List (Nat×Nat)} (hs:s.get [] m=some (.map (lN 0 l) l.length)) {k v:Nat} (hk:jm k l=none):
 lB Tryz.prog [] 178 (.map m) (.int .i64 k) (.int .i64 v) s=some (s.put m (some (.map (lN 0 (l++[(k,v)])) (l++[(k,v)]).length))):=by
 simp only [lB,QG,ak,hs,(Ch k l 0 0).1 hk,Hn,lN,aM,dn,aK,aQ]
theorem amd:eK Tryz.prog 3=some (.int .i64 0):=by kernel_rfl
def zP (o:Option Nat):ai:=match o with
 |some v=>.tup [.int .i64 v,.bool true]
 |none=>.tup [.int .i64 0,.bool false]
theorem ah0 {s:St} {m:Nat} {l:List (Nat×Nat)} {c:Nat} (hs:s.get [] m=some (.map (lN 0 l) c)) (k:Nat):lk Tryz.prog [] 178 (.map m) (.int .i64 k) true s=some (zP (jm k l)):=by
 obtain⟨h1,h2⟩:=Ch k l 0 0
 simp only [lk,QG,ak,amd,xu,hs]
 cases h:jm k l with
 |none=>rw [h1 h];rfl
 |some v=>
  obtain⟨j,e,h3,h4⟩:=h2 v h
  rw [h3]
  simp only [ak,cT,h4,zP]
def jo (W:List (Nat×Nat)):List (Nat×Nat)→List (Nat×Nat×Nat)
 | []=>[]
 |(a,b)::l=>match jm a W with
  |some k=>(a,b,k)::jo W l
  |none=>jo W l
inductive nQ (la lb lc:Nat):Nat→Nat→Nat→List (Nat×Nat×Nat)→Prop
 |nil {i j k:Nat}:nQ la lb lc i j k []
 |cons {i j k p q r:Nat} {l:List (Nat×Nat×Nat)}:i≤p→j≤q→k≤r→p≤la→q≤lb→r≤lc→nQ la lb lc (p+1) (q+1) (r+1) l→nQ la lb lc i j k ((p,q,r)::l)
theorem nQ.weak {la lb lc i j k i' j' k':Nat} {l:List (Nat×Nat×Nat)} (h:nQ la lb lc i j k l) (hi:i'≤i) (hj:j'≤j) (hk:k'≤k):nQ la lb lc i' j' k' l:=by
 cases h with
 |nil=>exact .nil
 |cons a b c d e f g=>exact .cons (by omega) (by omega) (by omega) d e f g
theorem xr {la lc:Nat}: ∀ {W:List (Nat×Nat)} {i k:Nat},kf la lc i k W→ ∀ {p r:Nat},jm p W=some r→i≤p∧k≤r∧r<lc
 | [],i,k,_,p,r,h=>by cases h
 |(a,b)::W,i,k,hr,p,r,h=>by
  cases hr with
  |cons h1 h2 h3 h4 h5=>
   simp only [jm] at h
   cases hb:aY p a with
   |true=>
    rw [hb] at h
    have:=ib hb
    injection h with h
    subst this;subst h
    exact⟨h1,h2,h4⟩
   |false=>
    rw [hb] at h
    have:=xr h5 h
    omega
theorem Ra {la lc:Nat}: ∀ {W:List (Nat×Nat)} {i k:Nat},kf la lc i k W→ ∀ {p p' r r':Nat},jm p W=some r→jm p' W=some r'→p<p'→r<r'
 | [],i,k,_,p,p',r,r',h,_,_=>by cases h
 |(a,b)::W,i,k,hr,p,p',r,r',h,h',hp=>by
  cases hr with
  |cons h1 h2 h3 h4 h5=>
   simp only [jm] at h h'
   cases hb':aY p' a with
   |true=>
    have:=ib hb'
    cases hb:aY p a with
    |true=>have:=ib hb;omega
    |false=>rw [hb] at h;have:=xr h5 h;omega
   |false=>
    rw [hb'] at h'
    cases hb:aY p a with
    |true=>
     rw [hb] at h
     injection h with h
     have:=xr h5 h'
     omega
    |false=>rw [hb] at h;exact Ra h5 h h' hp
theorem FB {la lb lc:Nat} {W:List (Nat×Nat)} {i0 k0:Nat} (hW:kf la lc i0 k0 W): ∀ {M:List (Nat×Nat)} {i j k:Nat},kf la lb i j M→(∀p r,i≤p→jm p W=some r→k≤r)→nQ la lb lc i j k (jo W M)
 | [],i,j,k,_,_=>.nil
 |(a,b)::M,i,j,k,hM,hk=>by
  cases hM with
  |cons h1 h2 h3 h4 h5=>
   simp only [jo]
   cases h:jm a W with
   |none=>exact(FB hW h5 fun p r hp hr=>hk p r (by omega) hr).weak (by omega) (by omega) (bv _)
   |some r=>
    refine .cons h1 h2 (hk a r h1 h) (by omega) (by omega) (by have:=(xr hW h).2.2;omega) (FB hW h5 fun p r' hp hr=>?_)
    exact Ra hW h hr (by omega)
theorem Sk {la lb lc:Nat}: ∀ {l:List (Nat×Nat×Nat)} {i j k:Nat},nQ la lb lc i j k l→(∀p q r,(p,q,r)∈l→p<la∧q<lb∧r<lc)→i≤la→j≤lb→k≤lc→nQ la lb lc i j k (l++[(la,lb,lc)])
 | [],i,j,k,_,_,hi,hj,hk=>.cons hi hj hk (bv _) (bv _) (bv _) .nil
 |(p,q,r)::l,i,j,k,h,hl,hi,hj,hk=>by
  cases h with
  |cons a b c d e f g=>
   obtain⟨x1,x2,x3⟩:=hl p q r (by simp)
   exact .cons a b c d e f (Sk g (fun p q r h=>hl p q r (by simp [h])) (by omega) (by omega) (by omega))
theorem Sl {la lb:Nat}: ∀ {M:List (Nat×Nat)} {i j:Nat},kf la lb i j M→ ∀p q,(p,q)∈M→p<la∧q<lb
 | [],i,j,_,p,q,h=>by cases h
 |(a,b)::M,i,j,hM,p,q,h=>by
  cases hM with
  |cons h1 h2 h3 h4 h5=>
   rcases List.mem_cons.1 h with h|h
   ·cases h;exact⟨h3,h4⟩
   ·exact Sl h5 p q h
theorem FA {W:List (Nat×Nat)}: ∀ {M:List (Nat×Nat)} {p q r:Nat},(p,q,r)∈jo W M→(p,q)∈M∧jm p W=some r
 | [],p,q,r,h=>by cases h
 |(a,b)::M,p,q,r,h=>by
  simp only [jo] at h
  cases hl:jm a W with
  |none=>
   rw [hl] at h
   have:=FA h
   exact⟨by simp [this.1],this.2⟩
  |some k=>
   rw [hl] at h
   rcases List.mem_cons.1 h with h|h
   ·cases h;exact⟨by simp,hl⟩
   ·have:=FA h
    exact⟨by simp [this.1],this.2⟩
def qx (b o t:List ax):List (Nat×Nat×Nat):=jo (mw b t) (mw b o)++[(b.length,o.length,t.length)]
theorem Gr (b o t:List ax):nQ b.length o.length t.length 0 0 0 (qx b o t):=by
 refine Sk (FB (tI b t) (tI b o) fun _ _ _ _=>ix _) (fun p q r h=>?_) (ix _) (ix _) (ix _)
 obtain⟨h1,h2⟩:=FA h
 have h3:=Sl (tI b o) p q h1
 exact⟨h3.1,h3.2,(xr (tI b t) h2).2.2⟩
theorem Rb {la lc:Nat}: ∀ {pre:List (Nat×Nat)} {i k p r:Nat} {rest:List (Nat×Nat)},kf la lc i k (pre++(p,r)::rest)→jm p pre=none
 | [],_,_,_,_,_,_=>rfl
 |(a,b)::pre,i,k,p,r,rest,h=>by
  cases h with
  |cons h1 h2 h3 h4 h5=>
   have ih:=Rb h5
   have:a<p:=by
    have: ∀ {l:List (Nat×Nat)} {i k:Nat},kf la lc i k l→ ∀x∈l,i≤x.1:=by
     intro l
     induction l with
     |nil=>intro i k _ x hx;cases hx
     |cons y l ihl=>
      intro i k hr x hx
      cases hr with
      |cons a1 a2 a3 a4 a5=>
       rcases List.mem_cons.1 hx with rfl|hx
       ·exact a1
       ·have:=ihl a5 x hx;omega
    have:=this h5 (p,r) (by simp)
    exact this
   have hb:aY p a=false:=by rw [aU];exact beq_eq_false_iff_ne.2 (by omega)
   simp only [jm,hb,cF,ih]
def sI (p:Nat×Nat×Nat):ai:=.agg [.int .i64 p.1,.int .i64 p.2.1,.int .i64 p.2.2]
theorem GH {e:bc} {x:Operand} {a b c:ai} (h:ev e x=some (.agg [a,b,c])) (s:St):dR Tryz.prog 184 1 [(0,x)] false e s=some (.list 3 [.agg [a,b,c]] .full,s):=by
 simp only [dR,BT,ak,dL,evc,h,ai.clean,cT,gg,ai.cells,aK,aQ,cI,j9,aM,bt,jh,ie,cut]
 rfl
section
variable {sp:FuncId→Option (List ai→Option ai)} {va:ai}
theorem alU {la lc0:Nat} {v:ai} {Wl:List (Nat×Nat)} (hv:bu 2 oA v Wl) (hr:kf la lc0 0 0 Wl) (hW:Wl.length≤2000) {mW:Nat}: ∀(rest pre:List (Nat×Nat)) (e:bc) (lc:Ag.Loc) (s:St),Wl=pre++rest→s.minw≤s.next→mW<s.next→s.get [] mW=some (.map (lN 0 pre) pre.length)→
 aq e 8= .map mW→aq e 34=v→aq e 35= .int .i64 (Wl.length:Nat)→aq e 36= .int .i64 (pre.length:Nat)→
 W (QS sp) 74 (.loop zy) ⟨e,147,lc⟩ s fun x fr s'=>x= .exit 0∧ ∃e' lc',fr=⟨e',147,lc'⟩∧lc'.gen 19=lc.gen 19∧(aq e' 0=aq e 0∧aq e' 1=aq e 1∧aq e' 2=aq e 2∧aq e' 8=aq e 8)∧s'.get [] mW=some (.map (lN 0 Wl) Wl.length)∧s'.next=s.next∧s'.minw≤s'.next∧s'.ci=s.ci:=by
 intro rest
 have hcl:=hv.clean
 induction rest with
 |nil=>
  intro pre e lc s hpre hm hlt hs h8 h34 h35 h36
  have hl:Wl.length=pre.length:=by rw [hpre];simp
  have hpp:pre=Wl:=by rw [hpre];simp
  rw [hpp] at hs
  refine W.loop1 ?_
  unfold zy
  refine W.sreg ?_
  unfold D0
  simp only [az,aA,aB,aW,aj,aC,aw,cQ,ak,aZ,cT,aP,cZ,tA,ar,decide_false,h35,h36,hl,fL]
  refine W.seq (W.cond (t:=false) (by simp only [aj,ah,ae,cT, *]) ?_)
  rw [hl] at hs
  exact W.exit ⟨rfl,_,_,rfl,rfl,⟨by simp only [ah,ae,cF, *],by simp only [ah,ae,cF, *],by simp only [ah,ae,cF, *],by simp only [ah,ae,cF, *]⟩,hs,rfl,hm,rfl⟩
 |cons q rest ih=>
  intro pre e lc s hpre hm hlt hs h8 h34 h35 h36
  obtain⟨p,r⟩:=q
  have hltp:pre.length<Wl.length:=by rw [hpre];simp
  have hat:Wl[pre.length]? =some (p,r):=by rw [hpre];simp
  have hia:=fun lc=>hv.at Ib hat lc .i64
  have hnone:jm p pre=none:=Rb (by rw [hpre] at hr;exact hr)
  have hup:=alH hs (v:=r) hnone
  have hwr:IntKind.i64.wrap ((pre.length:Int)+1)=((pre.length+1:Nat):Int):=by rw [eC (by omega) (by omega)];omega
  refine W.loop1 ?_
  unfold zy
  refine W.sreg ?_
  unfold D0
  simp only [az,aA,aB,aW,aj,aC,aw,cQ,ak,aZ,cT,aP,cZ,tA,ar,dT,h35,h36,hltp]
  refine W.seq (W.cond (t:=true) (by simp only [aj,ah,ae,cT, *]) (W.skip ?_))
  simp only [aN]
  refine W.seq (W.block (W.sreg ?_))
  unfold Pg
  simp only [az,aA,dH,aB,dI,ah,bI,gQ,fH,bf,dJ,ec,aj,aC,eM,eI,aw,bH,di,fU,ak,bZ,cT,cF,aP,bX,aK,aQ,cut,cI,bA,aR,eP,bT,cq,bS,tA,aM,ae,ar,bt,bR,dB,aU,cP,bQ,dT,Sd,S3,FW,Zm,h34,h36,hia,oA]
  refine W.reg ?_
  unfold Ph
  simp only [az,aA,dH,aB,dI,ah,cz,bI,aE,bf,b7,tL,aj,aC,bU,aw,tU,ak,aZ,fZ,cT,cF,aP,aR,bN,bS,tA,aM,cY,ae,ar,aU,fT,yH,Ht,h8,hup,dS,aN]
  refine W.reg ?_
  unfold Pj
  simp only [az,aA,aB,ah,aE,aW,aj,aI,aC,bo,aw,d8,ak,aZ,cT,cF,aP,bS,tA,ae,ar,h36,hwr,aN]
  refine W.mono (ih (pre++[(p,r)]) _ _ _ (by rw [hpre];simp) ?_ hlt ?_ ?_ ?_ ?_ ?_) ?_
  ·exact ju s mW _ hm
  ·rw [cD,bS];rfl
  ·simp only [ah,ae,cF, *]
  ·simp only [ah,ae,cF, *]
  ·simp only [ah,ae,cF, *]
  ·simp only [ah,ae,cT,cF,dn,aK,aQ]
  rintro x fr s' ⟨rfl,e',lc',rfl,g19,⟨g0,g1,g2,g8⟩,q1,q2,q3,q4⟩
  exact⟨rfl,e',lc',rfl,g19.trans (by simp only [cz,ae,cF]),⟨g0.trans (by simp only [ah,ae,cF, *]),g1.trans (by simp only [ah,ae,cF, *]),g2.trans (by simp only [ah,ae,cF, *]),g8.trans (by simp only [ah,ae,cF, *])⟩,q1,q2,q3,q4⟩
theorem akW {_la _lb0:Nat} {v:ai} {M Wt:List (Nat×Nat)} (hv:bu 2 oA v M) (hM:M.length≤2000) {mW lo:Nat} (hmW:mW<lo): ∀(rest pre:List (Nat×Nat)) (e:bc) (lc:Ag.Loc) (s:St) (ov:ai),M=pre++rest→s.minw≤s.next→lo≤s.next→s.get [] mW=some (.map (lN 0 Wt) Wt.length)→gi 3 lo s ov ((jo Wt pre).map sI)→(jo Wt pre).length≤pre.length→
 aq e 8= .map mW→aq e 11=ov→aq e 48=v→aq e 49= .int .i64 (M.length:Nat)→aq e 50= .int .i64 (pre.length:Nat)→
 W (QS sp) 74 (.loop zz) ⟨e,147,lc⟩ s fun x fr s'=>x= .exit 2∧ ∃e' lc' ov',fr=⟨e',147,lc'⟩∧lc'.gen 19=lc.gen 19∧(aq e' 0=aq e 0∧aq e' 1=aq e 1∧aq e' 2=aq e 2∧aq e' 11=ov')∧gi 3 lo s' ov' ((jo Wt M).map sI)∧(jo Wt M).length≤M.length∧s.next≤s'.next∧s'.minw≤s'.next∧s'.ci=s.ci:=by
 have stab_app: ∀(l r:List (Nat×Nat)),jo Wt (l++r)=jo Wt l++jo Wt r:=by
  intro l
  induction l with
  |nil=>intro r;rfl
  |cons a l ih=>
   intro r
   obtain⟨x,y⟩:=a
   simp only [cq,jo,ih]
   cases jm x Wt<;>rfl
 intro rest
 have hcl:=hv.clean
 induction rest with
 |nil=>
  intro pre e lc s ov hpre hm hlo hs hO hlen h8 h11 h48 h49 h50
  have hl:M.length=pre.length:=by rw [hpre];simp
  have hpp:pre=M:=by rw [hpre];simp
  refine W.loop1 ?_
  unfold zz
  refine W.sreg ?_
  unfold DT
  simp only [az,aA,aB,aW,aj,aC,aw,cQ,ak,aZ,cT,aP,cZ,tA,ar,decide_false,h49,h50,hl,fL]
  refine W.seq (W.cond (t:=false) (by simp only [aj,ah,ae,cT, *]) ?_)
  rw [hpp] at hO hlen
  exact W.exit ⟨rfl,_,_,ov,rfl,rfl,⟨by simp only [ah,ae,cF, *],by simp only [ah,ae,cF, *],by simp only [ah,ae,cF, *],by simp only [ah,ae,cF, *]⟩,hO,by first|exact hlen|(rw [←hl];exact hlen)|(rw [hl];exact hlen),bv _,hm,rfl⟩
 |cons q rest ih=>
  intro pre e lc s ov hpre hm hlo hs hO hlen h8 h11 h48 h49 h50
  obtain⟨p,r⟩:=q
  have hltp:pre.length<M.length:=by rw [hpre];simp
  have hat:M[pre.length]? =some (p,r):=by rw [hpre];simp
  have hia:=fun lc=>hv.at Ib hat lc .i64
  have hlk:=ah0 hs p
  have hoc:=hO.clean
  have hwr:IntKind.i64.wrap ((pre.length:Int)+1)=((pre.length+1:Nat):Int):=by rw [eC (by omega) (by omega)];omega
  refine W.loop1 ?_
  unfold zz
  refine W.sreg ?_
  unfold DT
  simp only [az,aA,aB,aW,aj,aC,aw,cQ,ak,aZ,cT,aP,cZ,tA,ar,dT,h49,h50,hltp]
  refine W.seq (W.cond (t:=true) (by simp only [aj,ah,ae,cT, *]) (W.skip ?_))
  simp only [aN]
  refine W.seq (W.block (W.sreg ?_))
  unfold OZ
  simp only [az,aA,dH,aB,dI,ah,bI,gQ,fH,bf,dJ,ec,aj,aC,eM,eI,aw,bH,di,fU,ak,bZ,cT,cF,aP,bX,aK,aQ,cut,cI,bA,aR,eP,bT,cq,bS,tA,aM,ae,ar,bt,bR,dB,aU,cP,bQ,dT,Sd,S3,FW,Zn,h48,h50,hia,oA]
  refine W.sreg ?_
  unfold O0
  cases hz:jm p Wt with
  |none=>
   have hst:jo Wt (pre++[(p,r)])=jo Wt pre:=by
    rw [stab_app]
    simp only [jo,hz,im]
   rw [hz] at hlk
   simp only [zP] at hlk
   simp only [az,aA,aB,ah,cz,bI,aE,aJ,bf,b7,lp,ii,aj,aC,bU,aw,ak,aZ,fZ,cT,cF,aP,aR,bN,bS,tA,cY,ae,ar,aU,fT,yH,h8,hlk,gu,fe,jI]
   refine W.sreg ?_
   unfold DU
   simp only [az,aA,aB,ah,aE,aj,aw,cT,cF,bS,tA,ae,ar]
   refine W.cond (t:=false) (by simp only [aj,ah,ae,cT,cF, *]) (W.skip ?_)
   simp only [dS,aN]
   refine W.reg ?_
   unfold DV
   simp only [az,aA,aB,ah,aE,aW,aj,aI,aC,bo,aw,d8,ak,aZ,cT,cF,aP,bS,tA,ae,ar,h50,hwr,aN]
   refine W.mono (ih (pre++[(p,r)]) _ _ s ov (by rw [hpre];simp) hm hlo hs (by rw [hst];exact hO) (by rw [hst,dn];omega) ?_ ?_ ?_ ?_ ?_) ?_
   ·simp only [ah,ae,cF, *]
   ·simp only [ah,ae,cF, *]
   ·simp only [ah,ae,cF, *]
   ·simp only [ah,ae,cF, *]
   ·simp only [ah,ae,cT,cF,dn,aK,aQ]
   rintro x fr s' ⟨rfl,e',lc',ov',rfl,g19,⟨g0,g1,g2,g8⟩,q1,q2,q3,q4,q5⟩
   exact⟨rfl,e',lc',ov',rfl,g19.trans (by simp only [cz,ae,cF]),⟨g0.trans (by simp only [ah,ae,cF, *]),g1.trans (by simp only [ah,ae,cF, *]),g2.trans (by simp only [ah,ae,cF, *]),g8⟩,q1,q2,q3,q4,q5⟩
  |some k=>
   have hst:jo Wt (pre++[(p,r)])=jo Wt pre++[(p,r,k)]:=by
    rw [stab_app]
    simp only [jo,hz]
   have hbd: ∀e,aq e 64= .int .i64 (p:Nat)→aq e 66= .int .i64 (r:Nat)→aq e 67= .int .i64 (k:Nat)→fY Tryz.prog 186 [(0,.tmp 64),(1,.tmp 66),(2,.tmp 67)] e=some (.agg [.int .i64 (p:Nat),.int .i64 (r:Nat),.int .i64 (k:Nat)]):=fun e p q r=>by
    rw [Bx]
    simp only [yb,ak,dL,evc,ev,p,q,r,aZ,cT]
    rfl
   have hbs: ∀e s,aq e 68= .agg [.int .i64 (p:Nat),.int .i64 (r:Nat),.int .i64 (k:Nat)]→dR Tryz.prog 184 1 [(0,.tmp 68)] false e s=some (.list 3 [.agg [.int .i64 (p:Nat),.int .i64 (r:Nat),.int .i64 (k:Nat)]] .full,s):=fun e s h=>GH (by rw [aj,h]) s
   obtain⟨ov',s',happ,hO',hc',hn',hm',hold,hcell⟩:=wC BT rfl (by decide) (y:=.list 3 [.agg [.int .i64 (p:Nat),.int .i64 (r:Nat),.int .i64 (k:Nat)]] .full) (ys:=[sI (p,r,k)]) hO rfl (by rw [ep,oK];omega) hlo hm
   have hoc':=hO'.clean
   rw [hz] at hlk
   simp only [zP] at hlk
   simp only [az,aA,aB,ah,cz,bI,aE,aJ,bf,b7,lp,ii,aj,aC,bU,aw,ak,aZ,fZ,cT,cF,aP,aR,bN,bS,tA,cY,ae,ar,aU,fT,yH,h8,hlk,gu,fe,jI]
   refine W.sreg ?_
   unfold DU
   simp only [az,aA,aB,ah,aE,aj,aw,cT,cF,bS,tA,ae,ar]
   refine W.cond (t:=true) (by simp only [aj,ah,ae,cT,cF, *]) (W.reg ?_)
   unfold O1
   simp only [az,aA,aB,ah,cz,bI,aE,aJ,kL,kM,bf,b7,cL,aj,aC,be,bh,bU,aw,cd,nZ,bH,ak,i8,cT,cF,aP,bX,aR,bN,bS,tA,aM,cY,ae,ar,aU,fT,yH,Ht,Iq,Zx,Zy,h11,hoc,hbd,hbs,happ,dS,aN]
   refine W.reg ?_
   unfold DV
   simp only [az,aA,aB,ah,aE,aW,aj,aI,aC,bo,aw,d8,ak,aZ,cT,cF,aP,bS,tA,ae,ar,h50,hwr,aN]
   refine W.mono (ih (pre++[(p,r)]) _ _ s' ov' (by rw [hpre];simp) hm' (by omega) ((hold _ hmW).trans hs) (by rw [hst,kC];exact hO') (by rw [hst,dn,dn,oK,oK];omega) ?_ ?_ ?_ ?_ ?_) ?_
   ·simp only [ah,ae,cF, *]
   ·simp only [ah,ae,cT,cF]
   ·simp only [ah,ae,cF, *]
   ·simp only [ah,ae,cF, *]
   ·simp only [ah,ae,cT,cF,dn,aK,aQ]
   rintro x fr s2 ⟨rfl,e',lc',ov2,rfl,g19,⟨g0,g1,g2,g8⟩,q1,q2,q3,q4,q5⟩
   exact⟨rfl,e',lc',ov2,rfl,g19.trans (by simp only [cz,ae,cF]),⟨g0.trans (by simp only [ah,ae,cF, *]),g1.trans (by simp only [ah,ae,cF, *]),g2.trans (by simp only [ah,ae,cF, *]),g8⟩,q1,q2,by omega,q4,q5.trans hc'⟩
end
def rD (b o t:List ax):Option (List ax):=bif o==b then some t else bif t==b||t==o then some o else none
def kJ (b:List ax) (p:Nat):List ax:=match b[p]? with
 |some x=>[x]
 |none=>[]
def kQ (b o t:List ax):List (Nat×Nat×Nat)→Nat→Nat→Nat→List ax→Option (List ax)
 | [],_,_,_,out=>some out
 |(p,q,r)::l,i,j,k,out=>match rD ((b.drop i).take (p-i)) ((o.drop j).take (q-j)) ((t.drop k).take (r-k)) with
  |none=>none
  |some part=>kQ b o t l (p+1) (q+1) (r+1) (out++part++kJ b p)
def nR (s:St) (x:Nat) (l:List ax):Prop:= ∃V,s.get [] x=some (.cells [V])∧bu 1 bp V l∧bM V=true
theorem nR.keep {s s':St} {x:Nat} {l:List ax} (h:nR s x l) (hg:s'.get [] x=s.get [] x):nR s' x l:=by
 obtain⟨V,h1,h2,h3⟩:=h
 exact⟨V,hg.trans h1,h2,h3⟩
theorem Eu {s s1:St} (hm:s.minw≤s.next) (hn:s1.next=s.next) (h1:s1.minw≤s1.next):(s.least s1).minw≤(s.least s1).next:=by
 show(bif Nat.ble s.minw s1.minw then s.minw else s1.minw)≤s1.next
 cases Nat.ble s.minw s1.minw with
 |true=>rw [hn];exact hm
 |false=>exact h1
theorem VG {vb vo vt:ai} {b o t:List ax} (ho:bu 1 bp vo o) (ht:bu 1 bp vt t) (po:bM vo=true) (pt:bM vt=true):
 ∃pv bb,o8 vb vo vt b o t= .tup [pv,.bool bb]∧pv.clean=true∧((bb=true∧ ∃part,rD b o t=some part∧bu 1 bp pv part∧bM pv=true∧(part=t∨part=o))∨(bb=false∧rD b o t=none)):=by
 unfold o8 rD
 cases o==b with
 |true=>exact⟨vt,true,rfl,ht.clean,.inl ⟨rfl,t,rfl,ht,pt,.inl rfl⟩⟩
 |false=>
  cases t==b||t==o with
  |true=>exact⟨vo,true,rfl,ho.clean,.inl ⟨rfl,o,rfl,ho,po,.inr rfl⟩⟩
  |false=>exact⟨.nils,false,rfl,rfl,.inr ⟨rfl,rfl⟩⟩
theorem aaB {sz:Nat} {α:Type} {enc:α→ai} {v:ai} {l:List α} (h:bu sz enc v l) (g:Bool) (s:St):jO [] g sz v s=some (l.map enc):=by
 rcases h with⟨rfl,rfl⟩|⟨r,rfl⟩
 ·rfl
 ·simp only [jO,aU,bS,cT]
structure Fk (e:bc) (lc:Ag.Loc) (x y z g:Nat) (p q r:Int) (i j k:Int):Prop where
 h16:aq e 16= .ptr x 0
 h17:aq e 17= .ptr y 0
 h18:aq e 18= .ptr z 0
 h22:aq e 22= .lref 22 g 0
 g22:lc.gen 22=g
 b22:lc.get 22 g=some [.int .i64 p,.int .i64 q,.int .i64 r]
 h19:aq e 19= .lref 19 1 0
 g19:lc.gen 19=1
 b19:lc.get 19 1=some [.int .i64 i,.int .i64 j,.int .i64 k]
section
variable {sp:FuncId→Option (List ai→Option ai)} (h116:sp 116=none) (h117:sp 117=none) (h37:sp 37=some oT)
include h116 h117 h37
theorem V7 {e:bc} {lc:Ag.Loc} {s:St} {x y z g:Nat} {p q r i j k:Nat} {lx ly lz:List ax} (F:Fk e lc x y z g p q r ((i:Int)-1) ((j:Int)-1) ((k:Int)-1)) (hi:i≤p) (hj:j≤q) (hk:k≤r) (hp:p≤10000) (hq:q≤10000) (hr:r≤10000)
 (hx:nR s x lx) (hy:nR s y ly) (hz:nR s z lz) (hxy:x≠y) (hxz:x≠z) (hyz:y≠z) (nx:p-i≤lx.length) (ny:q-j≤ly.length) (nz:r-k≤lz.length) (sx:lx.length≤10000) (sy:ly.length≤10000) (sz:lz.length≤10000) (hm:s.minw≤s.next) {K:Fr→St→Prop}
 (hK: ∀(e':bc) (s':St) (pv:ai) (bb:Bool),aq e' 23=pv→aq e' 24= .bool bb→(∀u,u<23→aq e' u=aq e u)→aq e' 92=aq e 92→aq e' 93=aq e 93→aq e' 94=aq e 94→pv.clean=true→
  ((bb=true∧ ∃part,rD (lx.take (p-i)) (ly.take (q-j)) (lz.take (r-k))=some part∧bu 1 bp pv part∧bM pv=true∧(part=lz.take (r-k)∨part=ly.take (q-j)))∨(bb=false∧rD (lx.take (p-i)) (ly.take (q-j)) (lz.take (r-k))=none))→
  nR s' x (lx.drop (p-i+1))→nR s' y (ly.drop (q-j+1))→nR s' z (lz.drop (r-k+1))→(∀n,n≠x→n≠y→n≠z→s'.get [] n=s.get [] n)→s'.next=s.next→s'.minw≤s'.next→s'.ci=s.ci→K ⟨e',147,lc⟩ s'):
 WD (QS sp) 74 DS [] 0 mr ⟨e,147,lc⟩ s K:=by
 obtain⟨h16,h17,h18,h22,g22,b22,h19,g19,b19⟩:=F
 obtain⟨Vx,x1,x2,x3⟩:=hx
 obtain⟨Vy,y1,y2,y3⟩:=hy
 obtain⟨Vz,z1,z2,z3⟩:=hz
 have sub1: ∀(p i:Nat),i≤p→p≤10000→IntKind.i64.wrap ((p:Int)-((i:Int)-1))=(p:Int)-i+1:=fun p i a b=>by rw [eC (by omega) (by omega)];omega
 have sub2: ∀(p i:Nat),i≤p→p≤10000→IntKind.i64.wrap ((p:Int)-i+1-1)=((p-i:Nat):Int):=fun p i a b=>by rw [eC (by omega) (by omega)];omega
 have ep1:=sub1 p i hi hp
 have ep2:=sub2 p i hi hp
 have eq1:=sub1 q j hj hq
 have eq2:=sub2 q j hj hq
 have er1:=sub1 r k hk hr
 have er2:=sub2 r k hk hr
 obtain⟨v1,s1,r1,u1,w1,⟨Vx',a1,a2,a3⟩,n1,c1,m1⟩:=BP h117 (s:=s.top) x1 x2 x3 nx (by omega) (bv _)
 obtain⟨sA,hsA⟩: ∃a,a=s.least s1:=⟨_,rfl⟩
 have nA:sA.next=s.next:=by rw [hsA];exact n1
 have mA:sA.minw≤sA.next:=by rw [hsA];exact Eu hm n1 m1
 have gA: ∀n,sA.get [] n=(s.put x (some (.cells [Vx']))).get [] n:=fun n=>by rw [hsA];exact a3 n
 have cA:sA.ci=s.ci:=by rw [hsA];exact c1
 have y1':sA.top.get [] y=some (.cells [Vy]):=by
  show sA.get [] y=_
  rw [gA,cD,beq_eq_false_iff_ne.2 hxy.symm];exact y1
 obtain⟨v2,s2,r2,u2,w2,⟨Vy',b1,b2,b3⟩,n2,c2,m2⟩:=BP h117 (s:=sA.top) y1' y2 y3 ny (by omega) (bv _)
 obtain⟨sB,hsB⟩: ∃a,a=sA.least s2:=⟨_,rfl⟩
 have nB:sB.next=s.next:=by rw [hsB];exact n2.trans nA
 have mB:sB.minw≤sB.next:=by rw [hsB];exact Eu mA n2 m2
 have gB: ∀n,sB.get [] n=(sA.put y (some (.cells [Vy']))).get [] n:=fun n=>by rw [hsB];exact b3 n
 have cB:sB.ci=s.ci:=by rw [hsB];exact c2.trans cA
 have z1':sB.top.get [] z=some (.cells [Vz]):=by
  show sB.get [] z=_
  rw [gB,cD,beq_eq_false_iff_ne.2 hyz.symm,cF,gA,cD,beq_eq_false_iff_ne.2 hxz.symm];exact z1
 obtain⟨v3,s3,r3,u3,w3,⟨Vz',d1,d2,d3⟩,n3,c3,m3⟩:=BP h117 (s:=sB.top) z1' z2 z3 nz (by omega) (bv _)
 obtain⟨sC,hsC⟩: ∃a,a=sB.least s3:=⟨_,rfl⟩
 have nC:sC.next=s.next:=by rw [hsC];exact n3.trans nB
 have mC:sC.minw≤sC.next:=by rw [hsC];exact Eu mB n3 m3
 have gC: ∀n,sC.get [] n=(sB.put z (some (.cells [Vz']))).get [] n:=fun n=>by rw [hsC];exact d3 n
 have cC:sC.ci=s.ci:=by rw [hsC];exact c3.trans cB
 have hsmall:small=9223372036854775808:=rfl
 have r4:=aii (sp:=sp) h116 h37 u1 u2 u3 w1 w2 w3 (by rw [pD];omega) (by rw [pD];omega) sC.top
 obtain⟨pv,bb,hpv,hpc,hcase⟩:=VG (vb:=v1) (b:=lx.take (p-i)) u2 u3 w2 w3
 rw [hpv] at r4
 rw [show mr=mr.take 7++mr.drop 7 from(List.take_append_drop 7 _).symm]
 refine WD.loudOps hm (fun _ h=>by cases h) ?_
 unfold mr DS
 simp only [yu,yq,AI,Co,Cn,yM,Cm,Cq,Cw,Cp,Cv,Cu,yN,isStore,ah,aE,bf,aW,b7,aj,aI,aC,bo,bU,aw,tg,ak,aZ,cT,cF,aP,bX,aK,aQ,bA,aR,bN,gl,bS,tA,aM,cY,ae,ar,bt,aU,fT,B5,h16,h22,g22,b22,h19,g19,b19,ep1,ep2]
 intro rs1 k1
 refine WD.loudCall (g:=117) (args:=[.ptr x 0,.int .i64 ((p-i:Nat):Int)]) k1 (by decide) ?_ r1 n1 c1 (by decide) (fun rs2 k2=>?_)
 ·simp only [callee,ah,aj,eH,aC,be,bh,ak,aZ,dM,cT,cF,bT,cq,bS,ae]
 rw [←hsA]
 refine WD.loudOps (l1:=mr.drop 8|>.take 7) (l2:=mr.drop 15) mA k2 ?_
 unfold mr
 simp only [yu,yq,AI,Co,Cn,yM,Cm,Cq,Cw,Cp,Cv,Cu,yN,isStore,ah,aE,bf,aW,b7,aj,aI,aC,bo,bU,aw,tg,ak,aZ,cT,cF,aP,bX,aK,aQ,bA,aR,bN,gl,eP,bS,tA,aM,ae,ar,bt,aU,fT,WJ,h17,h22,g22,b22,h19,g19,b19,eq1,eq2]
 intro rs3 k3
 refine WD.loudCall (g:=117) (args:=[.ptr y 0,.int .i64 ((q-j:Nat):Int)]) k3 (by decide) ?_ r2 n2 c2 (by decide) (fun rs4 k4=>?_)
 ·simp only [callee,ah,aj,eH,aC,be,bh,ak,aZ,dM,cT,cF,bT,cq,bS,ae]
 rw [←hsB]
 refine WD.loudOps (l1:=mr.drop 16|>.take 7) (l2:=mr.drop 23) mB k4 ?_
 unfold mr
 simp only [yu,yq,AI,Co,Cn,yM,Cm,Cq,Cw,Cp,Cv,Cu,yN,isStore,ah,aE,bf,aW,b7,aj,aI,aC,bo,bU,aw,tg,ak,aZ,cT,cF,aP,bX,aK,aQ,bA,aR,bN,gl,eP,bS,tA,aM,ae,ar,bt,aU,fT,WK,h18,h22,g22,b22,h19,g19,b19,er1,er2]
 intro rs5 k5
 refine WD.loudCall (g:=117) (args:=[.ptr z 0,.int .i64 ((r-k:Nat):Int)]) k5 (by decide) ?_ r3 n3 c3 (by decide) (fun rs6 k6=>?_)
 ·simp only [callee,ah,aj,eH,aC,be,bh,ak,aZ,dM,cT,cF,bT,cq,bS,ae]
 rw [←hsC]
 have e1:=u1.clean
 have e2:=u2.clean
 have e3:=u3.clean
 refine WD.loudCall (g:=116) (args:=[v1,v2,v3]) k6 (by decide) ?_ r4 rfl rfl (by decide) (fun rs7 k7=>?_)
 ·simp only [callee,ah,aj,eH,aC,be,bh,ak,cT,cF,bT,cq,bS,ae,e1,e2,e3]
 rw [lU mC]
 refine WD.loudOps (l1:=mr.drop 25) (l2:=[]) mC k7 ?_
 unfold mr
 simp only [yu,yq,AI,yM,Xu,Xv,yN,isStore,ah,aE,aJ,ii,aj,aw,ak,cT,cF,bX,aK,aQ,aR,gl,bS,tA,aM,ae,ar,bt,gu,fe,jI]
 intro rs8 k8
 refine WD.nil (hK _ sC pv bb ?_ ?_ ?_ ?_ ?_ ?_ hpc hcase ?_ ?_ ?_ ?_ nC mC cC)
 ·simp only [ah,ae,cT,cF, *]
 ·simp only [ah,ae,cT,cF, *]
 ·intro u hu
  have hne: ∀m,23≤m→(u==m)=false:=fun m h=>beq_eq_false_iff_ne.2 (by omega)
  simp only [ah,hne _ (by decide:23≤99),hne _ (by decide:23≤100),hne _ (by decide:23≤101),hne _ (by decide:23≤102),hne _ (by decide:23≤103),hne _ (by decide:23≤104),hne _ (by decide:23≤105),hne _ (by decide:23≤106),hne _ (by decide:23≤107),hne _ (by decide:23≤108),hne _ (by decide:23≤109),hne _ (by decide:23≤110),hne _ (by decide:23≤111),hne _ (by decide:23≤112),hne _ (by decide:23≤113),hne _ (by decide:23≤114),hne _ (by decide:23≤115),hne _ (by decide:23≤116),hne _ (by decide:23≤117),hne _ (by decide:23≤118),hne _ (by decide:23≤119),hne _ (by decide:23≤120),hne _ (by decide:23≤121),hne _ (by decide:23≤122),hne _ (by decide:23≤123),hne _ (by decide:23≤98),hne _ (by decide:23≤124),hne _ (by decide:23≤125),hne _ (by decide:23≤23),hne _ (by decide:23≤24),cF]
 ·simp only [ah,ae,cF, *]
 ·simp only [ah,ae,cF, *]
 ·simp only [ah,ae,cF, *]
 ·refine⟨Vx',?_,a1,a2⟩
  rw [gC,cD,beq_eq_false_iff_ne.2 hxz,cF,gB,cD,beq_eq_false_iff_ne.2 hxy,cF,gA,cD,bS];rfl
 ·refine⟨Vy',?_,b1,b2⟩
  rw [gC,cD,beq_eq_false_iff_ne.2 hyz,cF,gB,cD,bS];rfl
 ·refine⟨Vz',?_,d1,d2⟩
  rw [gC,cD,bS];rfl
 ·intro n hn1 hn2 hn3
  rw [gC,cD,beq_eq_false_iff_ne.2 hn3,cF,gB,cD,beq_eq_false_iff_ne.2 hn2,cF,gA,cD,beq_eq_false_iff_ne.2 hn1];rfl
end
def AD (b o t:List ax):Option (List ax):=kQ b o t (qx b o t) 0 0 0 []
theorem QI (b:List ax) (p:Nat):(kJ b p).length≤1:=by
 unfold kJ
 cases b[p]? <;>simp
section
variable {sp:FuncId→Option (List ai→Option ai)} (h116:sp 116=none) (h117:sp 117=none) (h37:sp 37=some oT)
include h116 h117 h37
theorem VH {vb:ai} {b o t:List ax} (hb:bu 1 bp vb b) (sb:b.length≤2000) (so:o.length≤2000) (st:t.length≤2000) {all:List (Nat×Nat×Nat)} {va:ai} (hva:bu 3 sI va all) (hal:all.length≤10000) {x y z lo:Nat} (hxy:x≠y) (hxz:x≠z) (hyz:y≠z) (hlo:x<lo∧y<lo∧z<lo):
 ∀(rest pre:List (Nat×Nat×Nat)) (i j k:Nat) (e:bc) (lc:Ag.Loc) (s:St) (ov:ai) (out:List ax),all=pre++rest→nQ b.length o.length t.length i j k rest→s.minw≤s.next→lo≤s.next→gi 1 lo s ov (out.map bp)→out.length≤i+j+k→i≤2001→j≤2001→k≤2001→
 nR s x (b.drop i)→nR s y (o.drop j)→nR s z (t.drop k)→aq e 0=vb→aq e 20=ov→aq e 92=va→aq e 93= .int .i64 (all.length:Nat)→aq e 94= .int .i64 (pre.length:Nat)→
 aq e 16= .ptr x 0→aq e 17= .ptr y 0→aq e 18= .ptr z 0→aq e 19= .lref 19 1 0→lc.gen 19=1→lc.get 19 1=some [.int .i64 ((i:Int)-1),.int .i64 ((j:Int)-1),.int .i64 ((k:Int)-1)]→
 W (QS sp) 74 (.loop xj) ⟨e,147,lc⟩ s fun w fr s'=>fr.size=147∧s'.ci=s.ci∧((w= .exit 4∧ ∃out' ov',kQ b o t rest i j k out=some out'∧aq fr.env 20=ov'∧gi 1 lo s' ov' (out'.map bp))∨(w= .ret∧kQ b o t rest i j k out=none∧aq fr.env 6= .nils∧aq fr.env 7= .bool false)):=by
 have cb:=hb.clean
 have ca:=hva.clean
 have hlb:=fun mk s=>hb.len iT jl mk s
 intro rest
 induction rest with
 |nil=>
  intro pre i j k e lc s ov out hpre hR hm hls hO hol hi hj hk hx hy hz h0 h20 h92 h93 h94 h16 h17 h18 h19 g19 b19
  have hl:all.length=pre.length:=by rw [hpre];simp
  refine W.loop1 ?_
  unfold xj
  refine W.sreg ?_
  unfold DW
  simp only [az,aA,aB,aW,aj,aC,aw,cQ,ak,aZ,cT,aP,cZ,tA,ar,decide_false,h93,h94,hl,fL]
  refine W.seq (W.cond (t:=false) (by simp only [aj,ah,ae,cT, *]) ?_)
  exact W.exit ⟨rfl,rfl,.inl ⟨rfl,out,ov,rfl,by simp only [ah,ae,cF, *],hO⟩⟩
 |cons tr rest ih=>
  intro pre i j k e lc s ov out hpre hR hm hls hO hol hi hj hk hx hy hz h0 h20 h92 h93 h94 h16 h17 h18 h19 g19 b19
  obtain⟨p,q,r⟩:=tr
  cases hR with
  |cons r1 r2 r3 r4 r5 r6 r7=>
  have hlt:pre.length<all.length:=by rw [hpre];simp
  have hat:all[pre.length]? =some (p,q,r):=by rw [hpre];simp
  have hia:=fun lc=>hva.at aaj hat lc .i64
  have hwr:IntKind.i64.wrap ((pre.length:Int)+1)=((pre.length+1:Nat):Int):=by rw [eC (by omega) (by omega)];omega
  have hoc:=hO.clean
  refine W.loop1 ?_
  unfold xj
  refine W.sreg ?_
  unfold DW
  simp only [az,aA,aB,aW,aj,aC,aw,cQ,ak,aZ,cT,aP,cZ,tA,ar,dT,h93,h94,hlt]
  refine W.seq (W.cond (t:=true) (by simp only [aj,ah,ae,cT, *]) (W.skip ?_))
  simp only [aN]
  refine W.seq (W.block (W.sreg ?_))
  unfold O8
  simp only [az,aA,dH,aB,dI,ah,bI,gQ,fH,bf,dJ,ec,aj,aC,eM,eI,aw,bH,di,fU,ak,bZ,cT,cF,aP,bX,aK,aQ,cut,cI,bA,aR,eP,bT,cq,bS,tA,aM,ae,ar,bt,bR,dB,aU,cP,bQ,dT,Se,FF,yb,Zt,h92,h94,hia,sI]
  refine W.seq (W.drawD (V7 h116 h117 h37 (g:=lc.gen 22+1) (x:=x) (y:=y) (z:=z) (p:=p) (q:=q) (r:=r) (i:=i) (j:=j) (k:=k) (lx:=b.drop i) (ly:=o.drop j) (lz:=t.drop k) ⟨?_,?_,?_,?_,?_,?_,?_,?_,?_⟩ r1 r2 r3 (by omega) (by omega) (by omega) hx hy hz hxy hxz hyz (by rw [sT];omega) (by rw [sT];omega) (by rw [sT];omega) (by rw [sT];omega) (by rw [sT];omega) (by rw [sT];omega) hm ?_))
  ·simp only [ah,ae,cF, *]
  ·simp only [ah,ae,cF, *]
  ·simp only [ah,ae,cF, *]
  ·simp only [ah,ae,cT,cF, *]
  ·simp only [cz,ae,cT]
  ·simp only [bI,cT,bS]
  ·simp only [ah,ae,cF, *]
  ·simp only [cz,ae,cF,g19]
  ·simp only [bI,ae,cF,b19]
  intro e' s' pv bb q23 q24 qlow q92 q93 q94 hpc hcase hx' hy' hz' hold hn' hm' hc'
  have p0:aq e' 0=vb:=(qlow 0 (by decide)).trans (by simp only [ah,ae,cF, *])
  have p16:aq e' 16= .ptr x 0:=(qlow 16 (by decide)).trans (by simp only [ah,ae,cF, *])
  have p17:aq e' 17= .ptr y 0:=(qlow 17 (by decide)).trans (by simp only [ah,ae,cF, *])
  have p18:aq e' 18= .ptr z 0:=(qlow 18 (by decide)).trans (by simp only [ah,ae,cF, *])
  have p19:aq e' 19= .lref 19 1 0:=(qlow 19 (by decide)).trans (by simp only [ah,ae,cF, *])
  have p20:aq e' 20=ov:=(qlow 20 (by decide)).trans (by simp only [ah,ae,cF, *])
  have p22:aq e' 22= .lref 22 (lc.gen 22+1) 0:=(qlow 22 (by decide)).trans (by simp only [ah,ae,cT,cF, *])
  have p92:aq e' 92=va:=q92.trans (by simp only [ah,ae,cF, *])
  have p93:aq e' 93= .int .i64 (all.length:Nat):=q93.trans (by simp only [ah,ae,cF, *])
  have p94:aq e' 94= .int .i64 (pre.length:Nat):=q94.trans (by simp only [ah,ae,cF, *])
  simp only [aN]
  rcases hcase with⟨rfl,part,hch,hpl,hpp,hpe⟩|⟨rfl,hch⟩
  ·have hpl2:part.length≤(q-j)+(r-k):=by
    rcases hpe with rfl|rfl
    ·rw [pD];omega
    ·rw [pD];omega
   have hseq:kQ b o t ((p,q,r)::rest) i j k out=kQ b o t rest (p+1) (q+1) (r+1) (out++part++kJ b p):=by
    simp only [kQ,hch]
   rw [hseq]
   have hO1:gi 1 lo s' ov (out.map bp):=hO.keep (fun n hn=>hold n (by omega) (by omega) (by omega)) (by omega)
   obtain⟨ov1,s1,happ,hO2,hc1,hn1,hm1,hold1,hcell1⟩:=wC pN rfl (by decide) (y:=pv) (ys:=part.map bp) hO1 (aaB hpl _ _) (by rw [ep,ep];omega) (by omega) hm'
   have hoc1:=hO2.clean
   have fin: ∀(e2:bc) (lc2:Ag.Loc) (s2:St) (ov2:ai),aq e2 0=vb→aq e2 16= .ptr x 0→aq e2 17= .ptr y 0→aq e2 18= .ptr z 0→aq e2 19= .lref 19 1 0→aq e2 20=ov2→aq e2 22= .lref 22 (lc.gen 22+1) 0→aq e2 92=va→aq e2 93= .int .i64 (all.length:Nat)→aq e2 94= .int .i64 (pre.length:Nat)→
    lc2.gen 22=lc.gen 22+1→lc2.get 22 (lc.gen 22+1)=some [.int .i64 (p:Nat),.int .i64 (q:Nat),.int .i64 (r:Nat)]→lc2.gen 19=1→lc2.get 19 1=some [.int .i64 ((i:Int)-1),.int .i64 ((j:Int)-1),.int .i64 ((k:Int)-1)]→
    gi 1 lo s2 ov2 ((out++part++kJ b p).map bp)→s2.minw≤s2.next→s1.next≤s2.next→(∀n,n<lo→s2.get [] n=s1.get [] n)→s2.ci=s.ci→
    W (QS sp) 74 (.region DY) ⟨e2,147,lc2⟩ s2 (fun w fr s3=>w= .normal∧ ∃e3 lc3,fr=⟨e3,147,lc3⟩∧s3=s2∧aq e3 0=vb∧aq e3 16= .ptr x 0∧aq e3 17= .ptr y 0∧aq e3 18= .ptr z 0∧aq e3 19= .lref 19 1 0∧aq e3 20=ov2∧aq e3 92=va∧aq e3 93= .int .i64 (all.length:Nat)∧aq e3 94= .int .i64 (pre.length:Nat)∧lc3.gen 19=1∧lc3.get 19 1=some [.int .i64 (p:Nat),.int .i64 (q:Nat),.int .i64 (r:Nat)]):=by
    intro e2 lc2 s2 ov2 a0 a16 a17 a18 a19 a20 a22 a92 a93 a94 l22 l22' l19 l19' aO am an ag ac
    refine W.reg ?_
    unfold DY
    simp only [az,aA,dH,aB,dI,ah,bf,dJ,aj,aC,bU,aw,di,fU,ak,bZ,cT,cF,aP,aK,aQ,cut,cI,bA,aR,bT,cq,bS,tA,aM,ae,ar,bt,bR,dB,aU,cP,bQ,dT,Se,FF,a22,a19,l22',l19']
    refine⟨_,_,rfl,?_,?_,?_,?_,?_,?_,?_,?_,?_,?_,?_⟩
    ·simp only [ah,ae,cF, *]
    ·simp only [ah,ae,cF, *]
    ·simp only [ah,ae,cF, *]
    ·simp only [ah,ae,cF, *]
    ·simp only [ah,ae,cF, *]
    ·simp only [ah,ae,cF, *]
    ·simp only [ah,ae,cF, *]
    ·simp only [ah,ae,cF, *]
    ·simp only [ah,ae,cF, *]
    ·simp only [cz,ae,cT]
    ·simp only [bI,cT,bS]
   have go: ∀(e3:bc) (lc3:Ag.Loc) (s2:St) (ov2:ai),aq e3 0=vb→aq e3 16= .ptr x 0→aq e3 17= .ptr y 0→aq e3 18= .ptr z 0→aq e3 19= .lref 19 1 0→aq e3 20=ov2→aq e3 92=va→aq e3 93= .int .i64 (all.length:Nat)→aq e3 94= .int .i64 (pre.length:Nat)→lc3.gen 19=1→lc3.get 19 1=some [.int .i64 (p:Nat),.int .i64 (q:Nat),.int .i64 (r:Nat)]→
    gi 1 lo s2 ov2 ((out++part++kJ b p).map bp)→s2.minw≤s2.next→s1.next≤s2.next→(∀n,n<lo→s2.get [] n=s1.get [] n)→s2.ci=s.ci→
    W (QS sp) 74 (.region DZ) ⟨e3,147,lc3⟩ s2 (Ex.next (fun w fr s'=>fr.size=147∧s'.ci=s.ci∧((w= .exit 4∧ ∃out' ov',kQ b o t rest (p+1) (q+1) (r+1) (out++part++kJ b p)=some out'∧aq fr.env 20=ov'∧gi 1 lo s' ov' (out'.map bp))∨(w= .ret∧kQ b o t rest (p+1) (q+1) (r+1) (out++part++kJ b p)=none∧aq fr.env 6= .nils∧aq fr.env 7= .bool false))) fun fr s'=>W (QS sp) 74 (.loop xj) fr s' fun w fr s'=>fr.size=147∧s'.ci=s.ci∧((w= .exit 4∧ ∃out' ov',kQ b o t rest (p+1) (q+1) (r+1) (out++part++kJ b p)=some out'∧aq fr.env 20=ov'∧gi 1 lo s' ov' (out'.map bp))∨(w= .ret∧kQ b o t rest (p+1) (q+1) (r+1) (out++part++kJ b p)=none∧aq fr.env 6= .nils∧aq fr.env 7= .bool false))):=by
    intro e3 lc3 s2 ov2 a0 a16 a17 a18 a19 a20 a92 a93 a94 l19 l19' aO am an ag ac
    have hls1:=QI b p
    refine W.reg ?_
    unfold DZ
    simp only [az,aA,aB,ah,aE,aW,aj,aI,aC,bo,aw,d8,ak,aZ,cT,aP,bS,tA,ar,a94,hwr,aN]
    have hgg: ∀n,n<lo→s2.get [] n=s'.get [] n:=fun n hn=>(ag n hn).trans (hold1 n hn)
    have dd: ∀(l:List ax) (i p:Nat),i≤p→(l.drop i).drop (p-i+1)=l.drop (p+1):=fun l i p h=>by rw [List.drop_drop,show i+(p-i+1)=p+1 by omega]
    refine W.mono (ih (pre++[(p,q,r)]) (p+1) (q+1) (r+1) _ lc3 s2 ov2 (out++part++kJ b p) (by rw [hpre];simp) r7 am (by omega) aO ?_ (by omega) (by omega) (by omega) ?_ ?_ ?_ ?_ ?_ ?_ ?_ ?_ ?_ ?_ ?_ ?_ l19 ?_) ?_
    ·rw [dn,dn];omega
    ·rw [←dd b i p r1];exact hx'.keep (hgg x hlo.1)
    ·rw [←dd o j q r2];exact hy'.keep (hgg y hlo.2.1)
    ·rw [←dd t k r r3];exact hz'.keep (hgg z hlo.2.2)
    ·simp only [ah,ae,cF, *]
    ·simp only [ah,ae,cF, *]
    ·simp only [ah,ae,cF, *]
    ·simp only [ah,ae,cF, *]
    ·simp only [ah,ae,cT,cF,dn,aK,aQ]
    ·simp only [ah,ae,cF, *]
    ·simp only [ah,ae,cF, *]
    ·simp only [ah,ae,cF, *]
    ·simp only [ah,ae,cF, *]
    ·rw [l19']
     have: ∀p:Nat,((p+1:Nat):Int)-1=(p:Int):=fun p=>by omega
     rw [this,this,this]
    rintro w fr s3 ⟨g1,g2,g3⟩
    exact⟨g1,g2.trans ac,g3⟩
   refine W.seq (W.seq (W.reg ?_))
   unfold DX
   simp only [az,aA,aB,ah,aE,eW,aj,aC,aw,eZ,ak,ei,cT,dP,bS,tA,ar,q24,aN]
   refine W.cond (t:=false) (by simp only [aj,ah,ae,cT,cF, *]) (W.skip ?_)
   simp only [aN]
   refine W.seq (W.reg ?_)
   unfold Pa
   simp only [az,aA,aB,ah,aE,aJ,cL,aj,aC,be,bh,aw,cd,nZ,bH,ak,cT,cF,aP,bX,bS,tA,ae,ar,aU,u6,Zo,p20,q23,hoc,hpc,happ,aN]
   refine W.seq (W.seq (W.reg ?_))
   unfold Pb
   simp only [az,aA,aB,ah,cz,bI,aE,bf,aW,b7,cL,aj,aC,be,bh,bU,aw,cd,cQ,da,bH,ak,aZ,cT,cF,aP,bX,aR,bN,cZ,bS,tA,cY,ae,ar,aU,fT,B5,Zp,p0,p22,cb,hlb,cz,bI,aN]
   by_cases hpb:p<b.length
   ·have hv:b[p]? =some b[p]:=List.getElem?_eq_getElem hpb
    have hib:=fun lc=>hb.at mp hv lc .i64
    have hlm:kJ b p=[b[p]]:=by simp only [kJ,hv]
    have hbs: ∀e s,aq e 141= .str b[p]→dR Tryz.prog 37 1 [(0,.tmp 141)] false e s=some (.list 1 [.str b[p]] .full,s):=fun e s p=>by
     simp only [dR,pN,ak,dL,evc,ev,p,ai.clean,cT,gg,ai.cells,aK,aQ,cI,j9,aM,jh,ie,cut]
     rfl
    obtain⟨ov2,s2,happ2,hO3,hc2,hn2,hm2,hold2,hcell2⟩:=wC pN rfl (by decide) (y:=.list 1 [.str b[p]] .full) (ys:=[bp b[p]]) hO2 rfl (by rw [dn,ep,ep,oK];omega) (by omega) hm1
    have hoc2:=hO3.clean
    refine W.cond (t:=true) (by simp only [aj,ah,ae,cT,cF,hpb,dT]) (W.reg ?_)
    unfold Pc
    simp only [az,aA,aB,ah,cz,bI,aE,aJ,kM,bf,b7,ec,cL,aj,aC,be,bh,bU,eI,aw,cd,nZ,bH,kF,ak,i8,cT,cF,aP,bX,aR,bN,bS,tA,cY,ae,ar,aU,fT,dD,B5,u6,Zq,Zr,p0,p22,hib,bp,hoc1,hbs,happ2,cz,bI,aN]
    refine W.mono (fin _ _ s2 ov2 ?_ ?_ ?_ ?_ ?_ ?_ ?_ ?_ ?_ ?_ ?_ ?_ ?_ ?_ ?_ hm2 hn2 hold2 (hc2.trans (hc1.trans hc'))) ?_
    ·simp only [ah,ae,cF, *]
    ·simp only [ah,ae,cF, *]
    ·simp only [ah,ae,cF, *]
    ·simp only [ah,ae,cF, *]
    ·simp only [ah,ae,cF, *]
    ·simp only [ah,ae,cT,cF, *]
    ·simp only [ah,ae,cF, *]
    ·simp only [ah,ae,cF, *]
    ·simp only [ah,ae,cF, *]
    ·simp only [ah,ae,cF, *]
    ·simp only [cz,ae,cT]
    ·simp only [bI,cT,bS]
    ·simp only [cz,ae,cF,g19]
    ·simp only [bI,ae,cF,b19]
    ·rw [hlm,kC,kC];exact hO3
    rintro w fr s3 ⟨rfl,e3,lc3,rfl,rfl,j0,j16,j17,j18,j19,j20,j92,j93,j94,l19,l19'⟩
    simp only [dS,aN]
    exact go e3 lc3 s3 ov2 j0 j16 j17 j18 j19 j20 j92 j93 j94 l19 l19' (by rw [hlm,kC,kC];exact hO3) hm2 hn2 hold2 (hc2.trans (hc1.trans hc'))
   ·have hv:b[p]? =none:=List.getElem?_eq_none (by omega)
    have hlm:kJ b p=[]:=by simp only [kJ,hv]
    refine W.cond (t:=false) (by simp only [aj,ah,ae,cT,cF,hpb,decide_false]) (W.skip ?_)
    simp only [aN]
    refine W.mono (fin _ _ s1 ov1 ?_ ?_ ?_ ?_ ?_ ?_ ?_ ?_ ?_ ?_ ?_ ?_ ?_ ?_ ?_ hm1 (bv _) (fun _ _=>rfl) (hc1.trans hc')) ?_
    ·simp only [ah,ae,cF, *]
    ·simp only [ah,ae,cF, *]
    ·simp only [ah,ae,cF, *]
    ·simp only [ah,ae,cF, *]
    ·simp only [ah,ae,cF, *]
    ·simp only [ah,ae,cT,cF, *]
    ·simp only [ah,ae,cF, *]
    ·simp only [ah,ae,cF, *]
    ·simp only [ah,ae,cF, *]
    ·simp only [ah,ae,cF, *]
    ·simp only [cz,ae,cT]
    ·simp only [bI,cT,bS]
    ·simp only [cz,ae,cF,g19]
    ·simp only [bI,ae,cF,b19]
    ·rw [hlm,im,kC];exact hO2
    rintro w fr s3 ⟨rfl,e3,lc3,rfl,rfl,j0,j16,j17,j18,j19,j20,j92,j93,j94,l19,l19'⟩
    simp only [dS,aN]
    exact go e3 lc3 s3 ov1 j0 j16 j17 j18 j19 j20 j92 j93 j94 l19 l19' (by rw [hlm,im,kC];exact hO2) hm1 (bv _) (fun _ _=>rfl) (hc1.trans hc')
  ·refine W.seq (W.seq (W.reg ?_))
   unfold DX
   simp only [az,aA,aB,ah,aE,eW,aj,aC,aw,eZ,ak,ei,cT,ff,bS,tA,ar,q24,aN]
   refine W.cond (t:=true) (by simp only [aj,ah,ae,cT,cF, *]) (W.sreg ?_)
   unfold O9
   simp only [az,aA,aB,aJ,aI,aw,tA,ar,ofValue,fk]
   exact W.ret ⟨rfl,hc',.inr ⟨rfl,by simp only [kQ,hch],by simp only [ah,ae,cT,cF, *],by simp only [ah,ae,cT,cF, *]⟩⟩
end
def mH (b o t:List ax):Option (List ax):=bif lI [b,o,t] then none else AD b o t
def tT:Option (List ax)→ai
 |some l=>.tup [fS 1 (l.map bp),.bool true]
 |none=>.tup [.nils,.bool false]
theorem U3 {e:bc} {x y z:Operand} {a b c:ai} (hx:ev e x=some a) (hy:ev e y=some b) (hz:ev e z=some c) (ca:a.clean=true) (cb:b.clean=true) (cc:c.clean=true) (la:a.cells=[a]) (lb:b.cells=[b]) (lc:c.cells=[c]) (s:St):dR Tryz.prog 286 3 [(0,x),(1,y),(2,z)] false e s=some (.list 1 [a,b,c] .full,s):=by
 have el:jc Tryz.prog 286=some ⟨1,24,false,.nils⟩:=Wc
 simp only [dR,el,ak,dL,evc,hx,hy,hz,ca,cb,cc,la,lb,lc,cT,gg,wG,aK,aQ,cI,j9,aM,bt,jh,ie,cut]
 rfl
theorem XJ {h:bq bE} {lo:Nat} {s:St} {ov:ai} {l:List ax} (hO:gi 1 lo s ov (l.map bp)):jB h (.tup [ov,.bool true]) (tT (some l)):=by
 refine⟨4,?_⟩
 have h1:cR h 3 ov=some (fS 1 (l.map bp)):=wX hO (k:=2) fun v hv=>by
  obtain⟨p,_,rfl⟩:=List.mem_map.1 hv
  rfl
 show((dZ (cR h 3) [ov,.bool true])).bind (fun r=>some (ai.tup r))=_
 have h2:cR h 3 (.bool true)=some (.bool true):=rfl
 simp only [dZ,h1,h2,ak,tT]
theorem SV (W:List (Nat×Nat)): ∀M:List (Nat×Nat),(jo W M).length≤M.length
 | []=>bv _
 |(a,b)::M=>by
  simp only [jo]
  have:=SV W M
  cases jm a W<;>simp only [aK]<;>omega
theorem akD {sp:FuncId→Option (List ai→Option ai)} (h74:sp 74=none) (h114:sp 114=some vW) (h115:sp 115=some vm) (h116:sp 116=none) (h117:sp 117=none) (h37:sp 37=some oT) {vb vo vt:ai} {b o t:List ax}
 (hb:bu 1 bp vb b) (ho:bu 1 bp vo o) (ht:bu 1 bp vt t) (pb:bM vb=true) (po:bM vo=true) (pt:bM vt=true) {s:St} (hm:s.minw≤s.next):
 ∃v s',br (QS sp) 74 [vb,vo,vt] s v s'∧(jB s'.heap v (tT (mH b o t))∧s'.ci=s.ci):=by
 have cb:=hb.clean
 have co:=ho.clean
 have ct:=ht.clean
 have cell: ∀ {v:ai} {l:List ax},bu 1 bp v l→v.cells=[v]:=fun h=>by rcases h with⟨rfl,_⟩|⟨r,rfl⟩<;>rfl
 have lb:=cell hb
 have lo:=cell ho
 have lt:=cell ht
 have hlb:=fun mk s=>hb.len iT jl mk s
 have hlo:=fun mk s=>ho.len iT jl mk s
 have hlt:=fun mk s=>ht.len iT jl mk s
 have hR:Rows [vb,vo,vt] [b,o,t]:=.cons hb pb (.cons ho po (.cons ht pt .nil))
 have hsh:vW [.list 1 [vb,vo,vt] .full]=some (.bool (!lI [b,o,t])):=by
  have q1:Nat.blt [vb,vo,vt].length 1000=true:=rfl
  simp only [vW,(xN hR).1,ak,q1,cT]
 have hbs: ∀e s,aq e 25=vb→aq e 26=vo→aq e 27=vt→dR Tryz.prog 286 3 [(0,.tmp 25),(1,.tmp 26),(2,.tmp 27)] false e s=some (.list 1 [vb,vo,vt] .full,s):=fun e s p q r=>U3 (by rw [aj,p]) (by rw [aj,q]) (by rw [aj,r]) cb co ct lb lo lt s
 refine br.ofEx agd agc agf age h74 ?_
 unfold OV
 refine W.sreg ?_
 unfold OW
 simp only [dg,cM,az,aA,aB,aJ,aI,aw,cT,aK,aQ,tA,aM,ar,bt,bR,bQ,dT,ofValue,fk]
 refine W.seq (W.seq (W.reg ?_))
 unfold OX
 simp only [az,aA,aB,ah,aE,kM,eW,dc,db,aj,aC,be,bh,aw,cd,eZ,bH,ak,ei,i8,cT,cF,aP,bX,dt,bS,tA,ae,ar,Bool.not_not,aU,Zu,hbs,h114,hsh,aN]
 cases hlong:lI [b,o,t] with
 |true=>
  have hres:mH b o t=none:=by simp only [mH,hlong,cT]
  refine W.cond (t:=true) (by simp only [aj,ah,ae,cT,cF,dP]) (W.sreg ?_)
  unfold O5
  simp only [az,aA,aB,aJ,aI,aw,dP,tA,ar,ofValue,fk]
  refine W.ret ⟨.inr rfl,.tup [.nils,.bool false],sq (v:=.nils) (w:=.bool false) (by simp only [ah,ae,cT,cF, *]) rfl (by simp only [ah,ae,cT,cF, *]) rfl,?_,rfl⟩
  rw [hres]
  exact⟨3,rfl⟩
 |false=>
  have hres:mH b o t=AD b o t:=by simp only [mH,hlong,cF]
  have hl3:nm b=false∧nm o=false∧nm t=false:=by
   simp only [lI,Bool.or_false,Bool.or_eq_false_iff] at hlong
   exact hlong
  have sb:b.length≤2000:=by have:=of_decide_eq_false hl3.1;omega
  have so:o.length≤2000:=by have:=of_decide_eq_false hl3.2.1;omega
  have st:t.length≤2000:=by have:=of_decide_eq_false hl3.2.2;omega
  have hmt:=Ro hb ht pb pt sb st
  have hmo:=Ro hb ho pb po sb so
  have lWt:=(tI b t).length (ix _)
  have lWo:=(tI b o).length (ix _)
  have iWt:=QR (mw b t)
  have iWo:=QR (mw b o)
  have hct:=iWt.clean
  have hco:=iWo.clean
  have hnt:=fun mk s=>iWt.len QW QV mk s
  have hno:=fun mk s=>iWo.len QW QV mk s
  rw [hres]
  refine W.cond (t:=false) (by simp only [aj,ah,ae,cT,cF,ff]) (W.skip ?_)
  simp only [aN]
  refine W.sreg ?_
  unfold Pd
  simp only [az,aA,aB,ah,aJ,vH,aj,aw,cd,cT,cF,aP,ff,bS,tA,ae,ar,EM]
  refine W.seq (W.sreg ?_)
  unfold Pf
  simp only [az,aA,aB,ah,aE,cL,dc,db,aj,aI,aC,be,bh,bo,aw,cd,da,bH,ak,cT,cF,aP,bX,dt,bS,tA,ae,ar,aU,Zv,cb,ct,h115,hmt,hct,hnt]
  refine W.block ?_
  refine W.mono (alU (mW:=s.next) iWt (tI b t) (by omega) (mw b t) [] _ _ (s.new (.map [] 0)) rfl (Nat.le_succ_of_le hm) (ic _) (by rw [cW,bS];rfl) ?_ ?_ ?_ ?_) ?_
  ·simp only [ah,ae,cT,cF, *]
  ·simp only [ah,ae,cT,cF, *]
  ·simp only [ah,ae,cT,cF, *]
  ·simp only [ah,ae,cT,cF];rfl
  rintro x fr s1 ⟨rfl,e1,lc1,rfl,g1,⟨a0,a1,a2,a8⟩,hW1,n1,m1,c1⟩
  have n1:s1.next=s.next+1:=n1
  have c1:s1.ci=s.ci:=c1
  have b0:aq e1 0=vb:=a0.trans (by simp only [ah,ae,cT,cF, *])
  have b1:aq e1 1=vo:=a1.trans (by simp only [ah,ae,cT,cF, *])
  have b2:aq e1 2=vt:=a2.trans (by simp only [ah,ae,cT,cF, *])
  have b8:aq e1 8= .map s.next:=a8.trans (by simp only [ah,ae,cT,cF, *])
  show W (QS sp) 74 _ _ _ _
  refine W.sreg ?_
  unfold Pk
  simp only [az,aA,aB,aJ,aI,aw,tA,ar,ofValue,fk]
  refine W.seq (W.sreg ?_)
  unfold OY
  simp only [az,aA,aB,ah,aE,cL,dc,db,aj,aI,aC,be,bh,bo,aw,cd,da,bH,ak,cT,cF,aP,bX,dt,bS,tA,ae,ar,aU,Zw,b0,b1,cb,co,h115,hmo,hco,hno]
  refine W.block ?_
  refine W.mono (akW (_la:=0) (_lb0:=0) (Wt:=mw b t) iWo (by omega) (mW:=s.next) (lo:=s.next+1) (ic _) (mw b o) [] _ _ s1 .nils rfl m1 (by omega) hW1 (.inl ⟨rfl,rfl⟩) (bv _) ?_ ?_ ?_ ?_ ?_) ?_
  ·simp only [ah,ae,cT,cF, *]
  ·simp only [ah,ae,cT,cF, *]
  ·simp only [ah,ae,cT,cF, *]
  ·simp only [ah,ae,cT,cF, *]
  ·simp only [ah,ae,cT,cF];rfl
  rintro x fr s2 ⟨rfl,e2,lc2,ov2,rfl,g2,⟨d0,d1,d2,d11⟩,hO2,hl2,n2,m2,c2⟩
  have f0:aq e2 0=vb:=d0.trans (by simp only [ah,ae,cT,cF, *])
  have f1:aq e2 1=vo:=d1.trans (by simp only [ah,ae,cT,cF, *])
  have f2:aq e2 2=vt:=d2.trans (by simp only [ah,ae,cT,cF, *])
  have hoc2:=hO2.clean
  have hbd: ∀e,aq e 74= .int .i64 (b.length:Nat)→aq e 76= .int .i64 (o.length:Nat)→aq e 78= .int .i64 (t.length:Nat)→fY Tryz.prog 186 [(0,.tmp 74),(1,.tmp 76),(2,.tmp 78)] e=some (.agg [.int .i64 (b.length:Nat),.int .i64 (o.length:Nat),.int .i64 (t.length:Nat)]):=fun e p q r=>by
   rw [Bx]
   simp only [yb,ak,dL,evc,ev,p,q,r,aZ,cT]
   rfl
  have hbs4: ∀e s,aq e 79= .agg [.int .i64 (b.length:Nat),.int .i64 (o.length:Nat),.int .i64 (t.length:Nat)]→dR Tryz.prog 184 1 [(0,.tmp 79)] false e s=some (.list 3 [.agg [.int .i64 (b.length:Nat),.int .i64 (o.length:Nat),.int .i64 (t.length:Nat)]] .full,s):=fun e s h=>GH (by rw [aj,h]) s
  obtain⟨ov3,s3,happ,hO3,hc3,hn3,hm3,hold3,hcell3⟩:=wC BT rfl (by decide) (y:=.list 3 [.agg [.int .i64 (b.length:Nat),.int .i64 (o.length:Nat),.int .i64 (t.length:Nat)]] .full) (ys:=[sI (b.length,o.length,t.length)]) hO2 rfl (by rw [ep,oK];omega) (by omega) m2
  have hall:gi 3 (s.next+1) s3 ov3 ((qx b o t).map sI):=by rw [qx,kC];exact hO3
  have hoc3:=hO3.clean
  have hva:bu 3 sI ov3 (qx b o t):=by
   rcases hall with⟨h1,h2⟩|⟨_,k,h1,_⟩
   ·exact .inl ⟨h1,List.map_eq_nil_iff.1 h2⟩
   ·exact .inr ⟨_,h1⟩
  have hln:=fun mk s=>hva.len ahq ahp mk s
  have hall_len:(qx b o t).length≤10000:=by rw [qx,dn,oK];have:=SV (mw b t) (mw b o);omega
  show W (QS sp) 74 _ _ _ _
  refine W.sreg ?_
  unfold O2
  simp only [az,aA,aB,ah,aE,aJ,kL,kM,cL,aj,aC,be,bh,aw,cd,da,nZ,bH,ak,i8,cT,cF,aP,bX,bS,tA,ae,ar,aU,Iq,Zz,ZA,ZB,ZC,ZD,f0,f1,f2,d11,cb,co,ct,hlb,hlo,hlt,hoc2,hbd,hbs4,happ]
  have hb82: ∀e,aq e 82=vb→fY Tryz.prog 189 [(0,.tmp 82)] e=some (.agg [vb]):=fun e p=>by
   rw [Bz]
   simp only [FX,ak,dL,evc,ev,p,cb,lb,cT]
   rfl
  have hb85: ∀e,aq e 85=vo→fY Tryz.prog 189 [(0,.tmp 85)] e=some (.agg [vo]):=fun e p=>by
   rw [Bz]
   simp only [FX,ak,dL,evc,ev,p,co,lo,cT]
   rfl
  have hb88: ∀e,aq e 88=vt→fY Tryz.prog 189 [(0,.tmp 88)] e=some (.agg [vt]):=fun e p=>by
   rw [Bz]
   simp only [FX,ak,dL,evc,ev,p,ct,lt,cT]
   rfl
  refine W.sreg ?_
  unfold O3
  simp only [az,aA,aB,ah,aE,aJ,ja,kL,aj,aC,iA,aw,bH,di,ak,bZ,cT,cF,aP,bX,bS,tA,ae,ar,ZE,ZF,ZG,f0,f1,f2,hb82,hb85,hb88,iA,i9]
  obtain⟨s4,hs4⟩: ∃a,a=((s3.new (.cells [vb])).new (.cells [vo])).new (.cells [vt]):=⟨_,rfl⟩
  rw [←hs4]
  have n4:s4.next=s3.next+3:=by rw [hs4];rfl
  have m4:s4.minw≤s4.next:=by rw [n4];have:s4.minw=s3.minw:=by rw [hs4];rfl
                              omega
  have c4:s4.ci=s.ci:=by rw [hs4];exact hc3.trans (c2.trans c1)
  have gx:s4.get [] s3.next=some (.cells [vb]):=by rw [hs4,cW,i9,i9,beq_eq_false_iff_ne.2 (by omega),cF,cW,i9,beq_eq_false_iff_ne.2 (by omega),cF,cW,bS];rfl
  have gy:s4.get [] (s3.next+1)=some (.cells [vo]):=by rw [hs4,cW,i9,i9,beq_eq_false_iff_ne.2 (by omega),cF,cW,i9,bS];rfl
  have gz:s4.get [] (s3.next+1+1)=some (.cells [vt]):=by rw [hs4,cW,i9,i9,bS];rfl
  refine W.sreg ?_
  unfold O4
  have hbd3: ∀e,fY Tryz.prog 186 [(0,.const (.int .i64 (-1))),(1,.const (.int .i64 (-1))),(2,.const (.int .i64 (-1)))] e=some (.agg [.int .i64 (-1),.int .i64 (-1),.int .i64 (-1)]):=fun e=>by
   rw [Bx]
   simp only [yb,ak,dL,evc,ev,ofValue,fk,aZ,cT]
   rfl
  simp only [az,aA,dH,aB,dI,ah,bI,gQ,fH,kL,dJ,aj,aC,eM,aw,bH,di,fU,ak,bZ,cT,cF,aP,bX,aK,aQ,cI,bA,aR,bT,cq,bS,tA,aM,ae,ar,bt,bR,dB,aU,cP,bQ,dT,yb,FF,Zs,hbd3]
  have gz19:lc2.gen 19=0:=g2.trans (g1.trans (by first|rfl|(simp only [cz,ae,cF,dx];try rfl)))
  refine W.sreg ?_
  unfold O6
  simp only [az,aA,aB,aJ,aI,aw,tA,ar,ofValue,fk]
  refine W.seq (W.sreg ?_)
  unfold O7
  simp only [az,aA,aB,ah,aE,cL,aj,aI,aC,be,bh,bo,aw,cd,da,bH,ak,cT,cF,aP,bX,bS,tA,ae,ar,aU,ZH,hoc3,hln]
  refine W.block ?_
  refine W.mono (VH h116 h117 h37 hb sb so st hva hall_len (x:=s3.next) (y:=s3.next+1) (z:=s3.next+1+1) (lo:=s3.next+3) (by omega) (by omega) (by omega) ⟨by omega,by omega,by omega⟩ (qx b o t) [] 0 0 0 _ _ s4 .nils [] rfl (Gr b o t) m4 (by omega) (.inl ⟨rfl,rfl⟩) (bv _) (by omega) (by omega) (by omega) ⟨vb,gx,hb,pb⟩ ⟨vo,gy,ho,po⟩ ⟨vt,gz,ht,pt⟩ ?_ ?_ ?_ ?_ ?_ ?_ ?_ ?_ ?_ ?_ ?_) ?_
  ·simp only [ah,dx,bt,ae,cT,cF, *]
  ·simp only [ah,dx,bt,ae,cT,cF, *]
  ·simp only [ah,dx,bt,ae,cT,cF, *]
  ·simp only [ah,dx,bt,ae,cT,cF, *]
  ·simp only [ah,ae,cT,cF];rfl
  ·simp only [ah,dx,bt,ae,cT,cF, *]
  ·simp only [ah,dx,bt,ae,cT,cF, *]
  ·simp only [ah,dx,bt,ae,cT,cF, *]
  ·simp only [ah,ae,cT,cF,gz19]
  ·simp only [cz,ae,cT,gz19]
  ·simp only [bI,ae,cT,gz19]
   rfl
  rintro w fr s5 ⟨hz,c5,hcase⟩
  have hci:s5.ci=s.ci:=c5.trans c4
  rcases hcase with⟨rfl,out',ov',hq,h20,hO5⟩|⟨rfl,hq,h6,h7⟩
  ·obtain⟨e5,z5,lc5⟩:=fr
   have hz:z5=147:=hz
   subst hz
   have h20:aq e5 20=ov':=h20
   have hoc5:=hO5.clean
   have hr:AD b o t=some out':=hq
   show W (QS sp) 74 _ _ _ _
   refine W.sreg ?_
   unfold Pe
   simp only [az,aA,aB,ah,aE,aJ,aj,aI,aw,cT,bS,tA,ar,ofValue,fk,h20]
   refine W.ret ⟨.inr rfl,.tup [ov',.bool true],sq (v:=ov') (w:=.bool true) (by simp only [ah,ae,cT,cF, *]) hoc5 (by simp only [ah,ae,cT,cF, *]) rfl,?_,hci⟩
   rw [hr]
   exact XJ hO5
  ·refine⟨.inr rfl,.tup [.nils,.bool false],sq (v:=.nils) (w:=.bool false) h6 rfl h7 rfl,?_,hci⟩
   have hr:AD b o t=none:=hq
   rw [hr]
   exact⟨3,rfl⟩
def sD:Sp
 | [u,v,w]=>bif pures [u,v,w] then(gN 1 kZ u).bind fun b=>(gN 1 kZ v).bind fun o=>(gN 1 kZ w).bind fun t=>some (tT (mH b o t)) else none
 |_=>none
theorem akB {vb vo vt:ai} {b o t:List ax} (hb:bu 1 bp vb b) (ho:bu 1 bp vo o) (ht:bu 1 bp vt t) (pb:bM vb=true) (po:bM vo=true) (pt:bM vt=true):sD [vb,vo,vt]=some (tT (mH b o t)):=by
 simp only [sD,pures,pb,po,pt,Bool.and_self,cT,jE nX hb,jE nX ho,jE nX ht,ak]
def Bf:eE:=[(37,oT),(114,vW),(115,vm)]
theorem T7:fV Bf:=.cons Hs (.cons akG (.cons ah5 .nil))
theorem akC:eD Tryz.prog 74 sD:=by
 intro args x hv G h w xs wr hx
 unfold sD at hv
 split at hv
 ·rename_i u v t
  obtain⟨hp,hv⟩:=bW hv
  simp only [Option.bind_eq_some_iff] at hv
  obtain⟨a,h1,b,h2,c,h3,hv⟩:=hv
  injection hv with hv;subst hv
  have ha:=iX (fun v a=>nW) h1
  have hb:=iX (fun v a=>nW) h2
  have hc:=iX (fun v a=>nW) h3
  have hq:bM u=true∧bM v=true∧bM t=true:=by
   simp only [pures,dB,Bool.and_eq_true] at hp
   exact hp
  obtain⟨ov,s',r1,r2,r3⟩:=akD (sp:=fun f=>eY f Bf) rfl rfl rfl rfl rfl rfl ha hb hc hq.1 hq.2.1 hq.2.2 (s:=s0) (bv _)
  exact gJ (Q:=QT Bf) (gD T7) (fun _=>Nat.zero_lt_succ 1) (args:=[u,v,t]) (v:=ov) (s':=s') (kB hp) (by rw [iw hp];exact r1) r3 r2 G h w xs wr hx
 ·cases hv
theorem aj6 (r:Option (List ax)):(∃l,r=some l∧tT r= .tup [fS 1 (l.map bp),.bool true]∧bu 1 bp (fS 1 (l.map bp)) l)∨(r=none∧tT r= .tup [.nils,.bool false]):=by
 cases r with
 |none=>exact .inr ⟨rfl,rfl⟩
 |some l=>
  refine .inl ⟨l,rfl,rfl,?_⟩
  cases l with
  |nil=>exact .inl ⟨rfl,rfl⟩
  |cons a l=>exact .inr ⟨_,rfl⟩
end Go.Proofs.YtbfmdojdemckbaaGreat
