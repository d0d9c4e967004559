/- merger.merge; the loops over names. -/
import Derived.Test.YtbfmdojdemckbaaGreatF1
import Derived.Test.YtbfmdojdemckbaaGreatS1
import Derived.Test.YtbfmdojdemckbaaGreatS2
namespace Go.Proofs.YtbfmdojdemckbaaGreat
open _root_.Bool renaming and_eq_true→cU,false_or→jz,or_self→kU,true_and→iP
open _root_.List renaming cons_append→cq,drop→aR,getElem?_cons_zero→fe,head?_cons→bN,length_cons→aK,length_nil→aQ,map_cons→fw,mem_cons→qp,nil_append→bT,nodup_cons→wo,not_mem_nil→rh,take→bA
open _root_.Nat renaming le_refl→bv,lt_of_lt_of_le→gn,reduceBEq→ae,reduceLT→ar,zero_add→aM
open _root_.Option renaming bind_some→ak
open Go.Ag
def fK:ax:=[111,98,106,101,99,116]
def jt (p q:Option Obj):Option Obj:=match p,q with
 |none,_=>q
 |some o,none=>some o
 |some o,some t=>bif du (qz t o) 0 then some t else some o
def hG (pb po pt:Option Obj):Option Obj:=bif cN po pt||cN pt pb then po else bif cN po pb then pt else match pb,po,pt with
 |some b,some o,some t=>bif bL o.kind b.kind&&bL t.kind b.kind then some (tu b o t) else jt po pt
 |_,_,_=>jt po pt
def gf (k:ax) (pb po pt:Option Obj) (C:List Cf):List Cf:=bif cN po pt||cN pt pb then C else bif cN po pb then C else match pb,po,pt with
 |some b,some o,some t=>bif bL o.kind b.kind&&bL t.kind b.kind then oV b o t C else dC (k,fK) C
 |_,_,_=>dC (k,fK) C
inductive eR (s:St) (lim:Nat):ai→Option Obj→Prop
 |nil:eR s lim .nilp none
 |at_ {p:Nat} {o:Obj}:p<lim→s.get [] p=some (.cells o.cells)→o.Good→eR s lim (.ptr p 0) (some o)
theorem eR.pv {s s':St} {lim:Nat} {a:ai} {q:Option Obj} (h:eR s lim a q) (hs: ∀n,n<lim→s'.get [] n=s.get [] n):PV s' a q:=by
 cases h with
 |nil=>exact .nil
 |at_ h1 h2 h3=>exact .at_ ((hs _ h1).trans h2) h3
structure Mg (s:St) (x mb mo mt mu md:Nat) (B O T U:List (ax×ai)) (C:List Cf):Prop where
 hx:s.get [] x=some (.cells [.map mb,.map mo,.map mt,.map mu,.map md])
 hb:s.get [] mb=some (.map (cK 0 B) B.length)
 ho:s.get [] mo=some (.map (cK 0 O) O.length)
 ht:s.get [] mt=some (.map (cK 0 T) T.length)
 hu:s.get [] mu=some (.map (cK 0 U) U.length)
 hd:s.get [] md=some (.map (eG 0 C) C.length)
 minw:s.minw≤s.next
 ord:mb<mu∧mo<mu∧mt<mu∧mu<md∧md<x∧x<s.next
theorem eR.keep {s s':St} {lim lim' md:Nat} {C:List Cf} {a:ai} {q:Option Obj} (h:eR s lim a q) (hd:s.get [] md=some (.map (eG 0 C) C.length)) (hl:lim≤lim') (hs: ∀n,n<lim→n≠md→s'.get [] n=s.get [] n):eR s' lim' a q:=by
 cases h with
 |nil=>exact .nil
 |at_ h1 h2 h3=>
  refine .at_ (by omega) ((hs _ h1 ?_).trans h2) h3
  intro e;subst e;rw [hd] at h2;cases h2
section
variable {s s':St} {x mb mo mt mu md:Nat} {B O T U:List (ax×ai)} {C C':List Cf}
theorem Mg.grow (M:Mg s x mb mo mt mu md B O T U C) (hd:s'.get [] md=some (.map (eG 0 C') C'.length)) (hs: ∀n,n<s.next→n≠md→s'.get [] n=s.get [] n) (hn:s.next≤s'.next) (hm:s'.minw≤s'.next):Mg s' x mb mo mt mu md B O T U C':=by
 obtain⟨o1,o2,o3,o4,o5,o6⟩:=M.ord
 exact⟨(hs x (by omega) (by omega)).trans M.hx,(hs mb (by omega) (by omega)).trans M.hb,(hs mo (by omega) (by omega)).trans M.ho,(hs mt (by omega) (by omega)).trans M.ht,(hs mu (by omega) (by omega)).trans M.hu,hd,hm,o1,o2,o3,o4,o5,by omega⟩
end
theorem alR {o:Obj} (h:o.Good) (p:Int×Int):(x7 o p).Good:=⟨⟨h.refs,h.tags,h.id,h.reflen,h.ref,h.taglen,h.key⟩,h.pr,h.pt⟩
theorem alT {o:Obj} (h:o.Good) {l:List cH} (h1:l.length<small) (h2: ∀t∈l,t.1.length<small):(Tx o l).Good:=⟨⟨h.refs,vw l,h.id,h.reflen,h.ref,h1,h2⟩,h.pr,ajM l⟩
theorem aj1 {b o t:Obj} (gb:b.Good) (go:o.Good) (gt:t.Good):(nu b o t).Good:=by
 unfold nu
 cases h:lq b o t with
 |none=>exact gb
 |some r=>
  unfold lq at h
  cases hr:mH b.refs o.refs t.refs with
  |none=>rw [hr] at h;cases h
  |some r'=>
   rw [hr] at h
   cases hv:iB (sK b r') with
   |false=>simp only [hv,cF] at h;cases h
   |true=>
    simp only [hv,cT] at h
    injection h with h;subst h
    exact SF gb go gt hr
theorem Hx {b o t:Obj} (gb:b.Good) (go:o.Good) (gt:t.Good) (vb:iv b.tags=true) (vo:iv o.tags=true) (vt:iv t.tags=true):(tu b o t).Good:=by
 have hsm:small=9223372036854775808:=rfl
 refine alT (alR (aj1 gb go gt) _) (by have:=(FJ b.tags o.tags t.tags).1;omega) fun u hu=>?_
 have:=RB (Tp vb vo vt u.1 (Tn.1 u hu))
 omega
theorem QN {p q:Option Obj} (hp: ∀o,p=some o→o.Good) (hq: ∀o,q=some o→o.Good): ∀o,jt p q=some o→o.Good:=by
 intro o h
 cases p with
 |none=>exact hq o h
 |some a=>
  cases q with
  |none=>exact hp o h
  |some c=>
   simp only [jt] at h
   cases hc:du (qz c a) 0 with
   |true=>rw [hc] at h;exact hq o h
   |false=>rw [hc] at h;exact hp o h
theorem QO {s:St} {lim:Nat} {a b:ai} {p q:Option Obj} (ha:eR s lim a p) (hb:eR s lim b q):eR s lim (oZ a b p q) (jt p q):=by
 cases ha with
 |nil=>exact hb
 |at_ h1 h2 h3=>
  cases hb with
  |nil=>exact .at_ h1 h2 h3
  |at_ h4 h5 h6=>
   rename_i o _ t
   simp only [oZ,jt]
   cases du (qz t o) 0 with
   |true=>exact .at_ h4 h5 h6
   |false=>exact .at_ h1 h2 h3
structure uu (sp:FuncId→Option (List ai→Option ai)):Prop where
 h24:sp 24=none
 h43:sp 43=none
 h44:sp 44=none
 h45:sp 45=none
 h46:sp 46=none
 h75:sp 75=none
 h77:sp 77=none
 h16:sp 16=some ow
 h31:sp 31=some ph
 h36:sp 36=some qU
 h74:sp 74=some sD
 h76:sp 76=some t8
 h118:sp 118=some sg
 h119:sp 119=some qa
 h122:sp 122=some oQ
 h123:sp 123=some sG
 h124:sp 124=some sM
structure ut (s s':St) (x mb mo mt mu md:Nat) (B O T U:List (ax×ai)) (C':List Cf) (v:ai) (q:Option Obj):Prop where
 mg:Mg s' x mb mo mt mu md B O T U C'
 pv:eR s' s'.next v q
 old: ∀n,n<s.next→n≠md→s'.get [] n=s.get [] n
 next:s.next≤s'.next
 ci:s'.ci=s.ci
def jQ (p:Option Obj):Prop:= ∀o,p=some o→iv o.tags=true
theorem jQ.len {p:Option Obj} (h:jQ p): ∀o,p=some o→o.tags.length≤400000:=fun o ho=>by
 have h1:=h o ho
 simp only [iv,cU,decide_eq_true_eq] at h1
 omega
theorem eR.out {s:St} {lim:Nat} {v:ai} {q:Option Obj} (h:eR s lim v q):(v= .nilp∧q=none)∨ ∃p o,v= .ptr p 0∧q=some o∧p<lim∧s.get [] p=some (.cells o.cells)∧o.Good:=by
 cases h with
 |nil=>exact .inl ⟨rfl,rfl⟩
 |at_ h1 h2 h3=>exact .inr ⟨_,_,rfl,rfl,h1,h2,h3⟩
section
variable {sp:FuncId→Option (List ai→Option ai)} {ch:Nat→Nat} (hS:uu sp)
include hS
theorem aig {s:St} {x mb mo mt mu md:Nat} {B O T U:List (ax×ai)} {C:List Cf} (M:Mg s x mb mo mt mu md B O T U C) {id:ax} {pb po pt:Option Obj}
 (hb:eR s mu (at_ id B) pb) (ho:eR s mu (at_ id O) po) (ht:eR s mu (at_ id T) pt) (gb:jQ pb) (go:jQ po) (gt:jQ pt): ∃v s',br (QM sp ch) 24 [.ptr x 0,.str id] s v s'∧ut s s' x mb mo mt mu md B O T U (gf id pb po pt C) v (hG pb po pt):=by
 have hm:=M.minw
 obtain⟨o1,o2,o3,o4,o5,o6⟩:=M.ord
 have hx:s.top.get [] x=_:=M.hx
 have lb:=qN (s:=s.top) M.hb id
 have lo:=qN (s:=s.top) M.ho id
 have lt:=qN (s:=s.top) M.ht id
 have vb:=hb.pv fun _ _=>rfl
 have vo:=ho.pv fun _ _=>rfl
 have vt:=ht.pv fun _ _=>rfl
 have cb:=vb.clean
 have co:=vo.clean
 have ct:=vt.clean
 have same: ∀ {v:ai} {q:Option Obj},eR s mu v q→ut s s x mb mo mt mu md B O T U C v q:=fun h=>⟨M,h.keep M.hd (by omega) fun _ _ _=>rfl,fun _ _ _=>rfl,bv _,rfl⟩
 refine br.ofEx adk adj adm adl hS.h24 ?_
 unfold LQ
 refine W.sreg ?_
 unfold LS
 simp only [dg,cM,az,aA,aB,aJ,aI,aw,cT,aK,aQ,tA,aM,ar,Nat.reduceAdd,Nat.reduceLeDiff,bQ,dT,iC]
 refine W.sdrawQ hm ?_
 unfold LU
 simp only [fh,fg,fu,isStore,ah,aE,aJ,bf,b7,lp,fI,aj,aC,aw,ak,cu,fZ,cT,cF,bD,aR,bN,bS,tA,aM,Nat.add_zero,ae,ar,B9,Ca,Cb,mE,fG,dl,hx,dj,lb,lo,lt]
 refine W.seq (W.block (W.seq (W.seq ?_)))
 refine W.region (fD 2 ?_)
 unfold LW
 simp only [az,aA,aB,ah,aE,aj,aw,cT,cF,bA,aR,bS,tA,ae,ar]
 refine fQ (g:=43) (args:=[at_ id O,at_ id T]) ?_ (Ft hS.h43 hS.h16 hm vo vt) (by decide) ?_
 ·simp only [callee,ah,aj,eH,aC,be,bh,ak,cT,cF,bT,cq,bS,ae,co,ct]
 refine fP ?_
 simp only [az,aA,aB,ah,aJ,aj,aw,cT,cF,bS,tA,ae,ar,aN]
 have last: ∀(e':bc) (lc':Ag.Loc),aq e' 6=at_ id O→hG pb po pt=po→gf id pb po pt C=C→W (QM sp ch) 24 (.seq (.region Dp) .ret) ⟨e',83,lc'⟩ s fun y fr s1=>y= .ret∧ ∃v,(∃vs,gh (QM sp ch) [] fr s1 [.tmp 4]=some vs∧jw vs=v)∧ut s s1 x mb mo mt mu md B O T U (gf id pb po pt C) v (hG pb po pt):=by
  intro e' lc' h6 hp hc
  refine W.sreg ?_
  unfold Dp
  simp only [az,aA,aB,ah,aE,aJ,aj,aw,cT,bS,tA,ar,h6]
  refine W.ret ⟨rfl,at_ id O,cp (by simp only [ah,ae,cT,cF]) co,?_⟩
  rw [hp,hc]
  exact same ho
 cases h1:cN po pt with
 |true=>
  have hO:hG pb po pt=po:=by simp only [hG,h1,Bool.true_or,cT]
  have hC:gf id pb po pt C=C:=by simp only [gf,h1,Bool.true_or,cT]
  refine W.cond (t:=true) (by simp only [aj,ah,ae,cT,cF]) (W.skip ?_)
  simp only [aN]
  refine W.cond (t:=true) (by simp only [aj,ah,ae,cT,cF]) ?_
  refine(last _ _ (by simp only [ah,ae,cT,cF]) hO hC).mono ?_
  rintro y fr s' ⟨rfl,h⟩
  exact⟨.inr rfl,h⟩
 |false=>
  refine W.cond (t:=false) (by simp only [aj,ah,ae,cT,cF]) ?_
  refine W.region (fD 2 ?_)
  unfold LX
  simp only [az,aA,aB,ah,aE,aj,aw,cT,cF,bA,aR,bS,tA,ae,ar]
  refine fQ (g:=43) (args:=[at_ id T,at_ id B]) ?_ (Ft hS.h43 hS.h16 hm vt vb) (by decide) ?_
  ·simp only [callee,ah,aj,eH,aC,be,bh,ak,cT,cF,bT,cq,bS,ae,cb,ct]
  refine fP ?_
  simp only [az,aA,aB,ah,aJ,aj,aw,cT,cF,bS,tA,ae,ar,aN]
  cases h2:cN pt pb with
  |true=>
   have hO:hG pb po pt=po:=by simp only [hG,h1,h2,jz,cT]
   have hC:gf id pb po pt C=C:=by simp only [gf,h1,h2,jz,cT]
   refine W.cond (t:=true) (by simp only [aj,ah,ae,cT,cF]) ?_
   refine(last _ _ (by simp only [ah,ae,cT,cF]) hO hC).mono ?_
   rintro y fr s' ⟨rfl,h⟩
   exact⟨.inr rfl,h⟩
  |false=>
   refine W.cond (t:=false) (by simp only [aj,ah,ae,cT,cF]) ?_
   refine W.seq (W.region (fD 2 ?_))
   unfold LY
   simp only [az,aA,aB,ah,aE,aj,aw,cT,cF,bA,aR,bS,tA,ae,ar]
   refine fQ (g:=43) (args:=[at_ id O,at_ id B]) ?_ (Ft hS.h43 hS.h16 hm vo vb) (by decide) ?_
   ·simp only [callee,ah,aj,eH,aC,be,bh,ak,cT,cF,bT,cq,bS,ae,cb,co]
   refine fP ?_
   simp only [az,aA,aB,ah,aJ,aj,aw,cT,cF,bS,tA,ae,ar,aN]
   cases h3:cN po pb with
   |true=>
    have hO:hG pb po pt=pt:=by simp only [hG,h1,h2,h3,jz,cT,cF]
    have hC:gf id pb po pt C=C:=by simp only [gf,h1,h2,h3,jz,cT,cF]
    refine W.cond (t:=true) (by simp only [aj,ah,ae,cT,cF]) (W.sreg ?_)
    unfold LZ
    simp only [az,aA,aB,ah,aE,aJ,aj,aw,cT,cF,bS,tA,ae,ar]
    refine W.ret ⟨.inr rfl,at_ id T,cp (by simp only [ah,ae,cT,cF]) ct,?_⟩
    rw [hO,hC]
    exact same ht
   |false=>
    refine W.cond (t:=false) (by simp only [aj,ah,ae,cT,cF]) ?_
    have conf: ∀(e':bc) (lc':Ag.Loc),aq e' 0= .ptr x 0→aq e' 1= .str id→aq e' 6=at_ id O→aq e' 7=at_ id T→hG pb po pt=jt po pt→gf id pb po pt C=dC (id,fK) C→W (QM sp ch) 24 (.seq (.region Ds) (.seq (.region Dn) .ret)) ⟨e',83,lc'⟩ s fun y fr s1=>(y= .normal∨y= .ret)∧ ∃v,(∃vs,gh (QM sp ch) [] fr s1 [.tmp 4]=some vs∧jw vs=v)∧ut s s1 x mb mo mt mu md B O T U (gf id pb po pt C) v (hG pb po pt):=by
     intro e' lc' h0 h1' h6 h7 hO hC
     have hnote:=xD (sp:=sp) (ch:=ch) hS.h45 M.hx M.hd id fK
     refine W.seq (W.region (fD 2 ?_))
     unfold Ds
     simp only [az,aA,aB,ah,aE,aj,aw,cF,bA,aR,tA,ae,ar,h0,h1']
     refine fQ (g:=45) (args:=[.ptr x 0,.str id,.str fK]) ?_ hnote (by decide) ?_
     ·simp only [callee,ah,aj,aI,eH,aC,be,bh,hQ,ak,cu,dM,cT,cF,bT,cq,bS,ae]
      rfl
     refine fP ?_
     obtain⟨s2,hs2⟩: ∃a,a=s.put md (some (.map (eG 0 (dC (id,fK) C)) (dC (id,fK) C).length)):=⟨_,rfl⟩
     rw [←hs2]
     have e1: ∀n,n<s.next→n≠md→s2.get [] n=s.get [] n:=fun n _ h=>by rw [hs2,cD,beq_eq_false_iff_ne.2 h];rfl
     have e2:s2.next=s.next:=by rw [hs2];rfl
     have e3:s2.minw≤s2.next:=by rw [hs2];exact ju _ _ _ hm
     have e4:s2.get [] md=some (.map (eG 0 (dC (id,fK) C)) (dC (id,fK) C).length):=by rw [hs2,cD,bS];rfl
     have M2:=M.grow e4 e1 (by omega) e3
     have ho2:=ho.keep M.hd (by omega:mu≤s2.next) fun n h1 h2=>e1 n (by omega) h2
     have ht2:=ht.keep M.hd (by omega:mu≤s2.next) fun n h1 h2=>e1 n (by omega) h2
     have hless:=QQ (ch:=ch) hS.h46 hS.h77 hS.h122 hS.h119 hS.h123 hS.h124 hS.h31 e3 (ho2.pv fun _ _=>rfl) (ht2.pv fun _ _=>rfl) go.len gt.len
     have hlv:=QO ho2 ht2
     have cl:=(hlv.pv fun _ _=>rfl).clean
     simp only [az,aN]
     refine W.seq (W.region (fD 2 ?_))
     unfold Dn
     simp only [az,aA,aB,ah,aE,aj,aw,cF,bA,aR,tA,ae,ar,h6,h7]
     refine fQ (g:=46) (args:=[at_ id O,at_ id T]) ?_ hless (by decide) ?_
     ·simp only [callee,ah,aj,eH,aC,be,bh,ak,cT,cF,bT,cq,bS,ae,co,ct]
     refine fP ?_
     simp only [az,aA,aB,ah,aJ,aj,aw,cT,cF,bS,tA,ae,ar,aN]
     refine W.ret ⟨.inr rfl,oZ (at_ id O) (at_ id T) po pt,cp (by simp only [ah,ae,cT,cF]) cl,?_⟩
     rw [hO,hC]
     exact⟨M2,hlv,e1,by omega,by rw [hs2];rfl⟩
    have mid: ∀(e1:bc) (lc1:Ag.Loc) (KK:Ex→Fr→St→Prop),aq e1 0= .ptr x 0→aq e1 1= .str id→aq e1 5=at_ id B→aq e1 6=at_ id O→aq e1 7=at_ id T→
     (∀fr s1,(∃v,(∃vs,gh (QM sp ch) [] fr s1 [.tmp 4]=some vs∧jw vs=v)∧ut s s1 x mb mo mt mu md B O T U (gf id pb po pt C) v (hG pb po pt))→KK .ret fr s1)→
     (∀e',aq e' 0= .ptr x 0→aq e' 1= .str id→aq e' 6=at_ id O→aq e' 7=at_ id T→hG pb po pt=jt po pt→gf id pb po pt C=dC (id,fK) C→KK .normal ⟨e',83,lc1⟩ s)→
     W (QM sp ch) 24 (.seq (.draw Dq LR) (.cond (Operand.tmp 39) (.seq (.region Dr) .ret) .skip)) ⟨e1,83,lc1⟩ s KK:=by
     intro e1 lc1 KK g0 g1 g5 g6 g7 hret hskip
     refine W.sdrawQ hm ?_
     unfold Dq
     rcases ho.out with⟨eo,qo⟩|⟨p2,o2,eo,qo,a1,a2,a3⟩
     ·have hO:hG pb po pt=jt po pt:=by
       simp only [hG,h1,h2,h3,kU,cF]
       rw [qo];cases pb<;>rfl
      have hC:gf id pb po pt C=dC (id,fK) C:=by
       simp only [gf,h1,h2,h3,kU,cF]
       rw [qo];cases pb<;>rfl
      simp only [fh,fg,nT,fu,sJ,isStore,ia,ah,aE,aJ,cw,aW,aj,aI,aC,bJ,cx,dv,aw,ak,cT,cF,bD,bS,tA,ae,ar,g6,eo,iC,iK,tP]
      refine W.cond (t:=false) (by simp only [aj,ah,ae,cT,cF]) (W.skip (hskip _ ?_ ?_ ?_ ?_ hO hC))
      ·simp only [ah,ae,cF,g0]
      ·simp only [ah,ae,cF,g1]
      ·simp only [ah,ae,cF,g6]
      ·simp only [ah,ae,cF,g7]
     rcases ht.out with⟨et,qt⟩|⟨p3,o3,et,qt,b1,b2,b3⟩
     ·have hO:hG pb po pt=jt po pt:=by
       simp only [hG,h1,h2,h3,kU,cF]
       rw [qt];cases pb<;>cases po<;>rfl
      have hC:gf id pb po pt C=dC (id,fK) C:=by
       simp only [gf,h1,h2,h3,kU,cF]
       rw [qt];cases pb<;>cases po<;>rfl
      simp only [fh,fg,nT,fu,qi,sJ,isStore,eA,ia,ah,aE,aJ,cw,aW,aj,aI,aC,bJ,cx,dy,dv,aw,ak,dM,cT,cF,bD,bS,tA,ae,ar,g6,g7,eo,et,iC,iK,tP,qW]
      refine W.cond (t:=false) (by simp only [aj,ah,ae,cT,cF]) (W.skip (hskip _ ?_ ?_ ?_ ?_ hO hC))
      ·simp only [ah,ae,cF,g0]
      ·simp only [ah,ae,cF,g1]
      ·simp only [ah,ae,cF,g6]
      ·simp only [ah,ae,cF,g7]
     rcases hb.out with⟨eb,qb⟩|⟨p1,o1',eb,qb,d1,d2,d3⟩
     ·have hO:hG pb po pt=jt po pt:=by
       simp only [hG,h1,h2,h3,kU,cF]
       rw [qb]
      have hC:gf id pb po pt C=dC (id,fK) C:=by
       simp only [gf,h1,h2,h3,kU,cF]
       rw [qb]
      simp only [fh,fg,nT,fu,qi,sJ,isStore,eA,ia,ah,aE,aJ,cw,aW,aj,aI,aC,bJ,cx,dy,dv,aw,ak,dM,cT,cF,bD,bS,tA,ae,ar,g5,g6,g7,eo,et,eb,iC,iK,tP,qW]
      refine W.cond (t:=false) (by simp only [aj,ah,ae,cT,cF]) (W.skip (hskip _ ?_ ?_ ?_ ?_ hO hC))
      ·simp only [ah,ae,cF,g0]
      ·simp only [ah,ae,cF,g1]
      ·simp only [ah,ae,cF,g6]
      ·simp only [ah,ae,cF,g7]
     have a2':s.get [] p2=some (.cells [.str o2.id,.int .i64 o2.kind,.int .i64 o2.x,.int .i64 o2.y,o2.refsV,o2.tagsV]):=a2
     have b2':s.get [] p3=some (.cells [.str o3.id,.int .i64 o3.kind,.int .i64 o3.x,.int .i64 o3.y,o3.refsV,o3.tagsV]):=b2
     have d2':s.get [] p1=some (.cells [.str o1'.id,.int .i64 o1'.kind,.int .i64 o1'.x,.int .i64 o1'.y,o1'.refsV,o1'.tagsV]):=d2
     cases hk:bL o2.kind o1'.kind&&bL o3.kind o1'.kind with
     |false=>
      have hO:hG pb po pt=jt po pt:=by
       simp only [hG,h1,h2,h3,kU,cF]
       rw [qb,qo,qt]
       simp only [hk,cF]
      have hC:gf id pb po pt C=dC (id,fK) C:=by
       simp only [gf,h1,h2,h3,kU,cF]
       rw [qb,qo,qt]
       simp only [hk,cF]
      cases hk1:bL o2.kind o1'.kind with
      |false=>
       simp only [fh,fg,nT,fu,qi,sJ,isStore,eA,ia,ah,aE,aJ,cw,bf,aW,b7,fI,aj,aI,aC,bJ,cx,dy,dv,aw,jr,ak,aZ,dM,cT,cF,bD,aR,bN,bS,tA,aM,ae,ar,li,fT,g5,g6,g7,eo,et,eb,fG,dl,rP,a2',d2',dj,hk1,iC,iK,qW]
       refine W.cond (t:=false) (by simp only [aj,ah,ae,cT,cF]) (W.skip (hskip _ ?_ ?_ ?_ ?_ hO hC))
       ·simp only [ah,ae,cF,g0]
       ·simp only [ah,ae,cF,g1]
       ·simp only [ah,ae,cF,g6]
       ·simp only [ah,ae,cF,g7]
      |true=>
       have hk2:bL o3.kind o1'.kind=false:=by rw [hk1,iP] at hk;exact hk
       simp only [fh,fg,nT,fu,qi,isStore,eA,ah,aE,aJ,cw,bf,aW,b7,fI,aj,aI,aC,bJ,cx,dy,aw,jr,ak,aZ,dM,cT,cF,bD,aR,bN,bS,tA,aM,ae,ar,li,fT,g5,g6,g7,eo,et,eb,fG,dl,rP,a2',b2',d2',dj,hk1,hk2,iC,iK,qW]
       refine W.cond (t:=false) (by simp only [aj,ah,ae,cT,cF]) (W.skip (hskip _ ?_ ?_ ?_ ?_ hO hC))
       ·simp only [ah,ae,cF,g0]
       ·simp only [ah,ae,cF,g1]
       ·simp only [ah,ae,cF,g6]
       ·simp only [ah,ae,cF,g7]
     |true=>
      have hO:hG pb po pt=some (tu o1' o2 o3):=by
       simp only [hG,h1,h2,h3,kU,cF]
       rw [qb,qo,qt]
       simp only [hk,cT]
      have hC:gf id pb po pt C=oV o1' o2 o3 C:=by
       simp only [gf,h1,h2,h3,kU,cF]
       rw [qb,qo,qt]
       simp only [hk,cT]
      simp only [cU] at hk
      simp only [fh,fg,nT,fu,qi,isStore,eA,ah,aE,aJ,cw,bf,aW,b7,fI,aj,aI,aC,bJ,cx,dy,aw,jr,ak,aZ,dM,cT,cF,bD,aR,bN,bS,tA,aM,ae,ar,li,fT,g5,g6,g7,eo,et,eb,fG,dl,rP,a2',b2',d2',dj,hk.1,hk.2,iC,iK,qW]
      obtain⟨s1,hrun,F⟩:=Xf (sp:=sp) (ch:=ch) hS.h44 hS.h74 hS.h36 hS.h45 hS.h75 hS.h118 hS.h76 M.hx M.hd ⟨by omega,by omega⟩ hm d2 a2 b2 d3 a3 b3 ⟨by omega,by omega,by omega⟩ (gb _ qb) (go _ qo) (gt _ qt)
      refine W.cond (t:=true) (by simp only [aj,ah,ae,cT,cF]) ?_
      refine W.seq (W.region (fD 4 ?_))
      unfold Dr
      simp only [az,aA,aB,ah,aE,aj,aw,cF,bA,aR,tA,ae,ar,g0,g5,g6,g7,eo,et,eb]
      refine fQ (g:=44) (args:=[.ptr x 0,.ptr p1 0,.ptr p2 0,.ptr p3 0]) ?_ hrun (by decide) ?_
      ·simp only [callee,ah,aj,eH,aC,be,bh,ak,dM,cT,cF,bT,cq,bS,ae]
      refine fP ?_
      simp only [az,aA,aB,ah,aJ,aj,aw,cT,cF,bS,tA,ae,ar,aN]
      have hn1:=F.next
      refine W.ret (hret _ _ ⟨.ptr s.next 0,cp (by simp only [ah,ae,cT,cF]) rfl,?_⟩)
      rw [hO,hC]
      exact⟨M.grow F.hd F.old (by omega) F.minw,.at_ (by omega) F.row (Hx d3 a3 b3 (gb _ qb) (go _ qo) (gt _ qt)),F.old,by omega,F.ci⟩
    refine mid _ _ _ ?_ ?_ ?_ ?_ ?_ (fun fr s1 h=>⟨.inr rfl,h⟩) (fun e' f0 f1 f6 f7 hO hC=>conf e' _ f0 f1 f6 f7 hO hC)
    ·simp only [ah,ae,cT,cF]
    ·simp only [ah,ae,cT,cF]
    ·simp only [ah,ae,cT,cF]
    ·simp only [ah,ae,cT,cF]
    ·simp only [ah,ae,cT,cF]
end
def fW (b o t:List Obj) (k:ax):Option Obj:=hG (aX k b) (aX k o) (aX k t)
def js (b o t:List Obj) (k:ax):List Cf:=gf k (aX k b) (aX k o) (aX k t) []
theorem vn {id:ax} {c:Cf}: ∀ {ks:List ax} {C:List Cf},c∈lw id ks C↔c∈C∨c∈lw id ks []
 | [],C=>by simp [lw]
 |k::ks,C=>by
  have h1:lw id (k::ks) C=lw id ks (dC (id,lu k) C):=rfl
  have h2:lw id (k::ks) []=lw id ks (dC (id,lu k) []):=rfl
  rw [h1,h2,vn (C:=dC (id,lu k) C),vn (C:=dC (id,lu k) []),o7,o7]
  simp only [rh,or_false]
  constructor
  ·rintro((h|h)|h)
   ·exact .inr (.inl h)
   ·exact .inl h
   ·exact .inr (.inr h)
  ·rintro(h|h|h)
   ·exact .inl (.inr h)
   ·exact .inl (.inl h)
   ·exact .inr h
theorem ED {b o t:Obj} {c:Cf} {C:List Cf}:c∈lK b o t C↔c∈C∨c∈lK b o t []:=by
 unfold lK
 cases p9 (b.x,b.y) (o.x,o.y) (t.x,t.y) with
 |true=>simp only [cT,o7,rh,or_false];exact Or.comm
 |false=>simp
theorem aif {b o t:Obj} {c:Cf} {C:List Cf}:c∈jP b o t C↔c∈C∨c∈jP b o t []:=by
 unfold jP
 cases lq b o t with
 |none=>simp only [o7,rh,or_false];exact Or.comm
 |some r=>simp
theorem aib {b o t:Obj} {c:Cf} {C:List Cf}:c∈oV b o t C↔c∈C∨c∈oV b o t []:=by
 unfold oV
 rw [vn,ED,aif (C:=C),vn (C:=lK b o t (jP b o t [])),ED (C:=jP b o t [])]
 simp only [or_assoc]
theorem aie {k:ax} {pb po pt:Option Obj} {c:Cf} {C:List Cf}:c∈gf k pb po pt C↔c∈C∨c∈gf k pb po pt []:=by
 have h1:c∈dC (k,fK) C↔c∈C∨c∈dC (k,fK) []:=by simp only [o7,rh,or_false];exact Or.comm
 unfold gf
 cases cN po pt||cN pt pb with
 |true=>simp
 |false=>
  cases cN po pb with
  |true=>simp
  |false=>
   simp only [cF]
   split
   ·rename_i b o t
    cases bL o.kind b.kind&&bL t.kind b.kind with
    |true=>exact aib
    |false=>exact h1
   ·exact h1
theorem Tf {id:ax}: ∀ {ks:List ax} {C:List Cf},C.Nodup→(lw id ks C).Nodup
 | [],_C,h=>h
 |_k::ks,_C,h=>Tf (ks:=ks) (tc h)
theorem Xe {b o t:Obj} {C:List Cf} (h:C.Nodup):(oV b o t C).Nodup:=by
 refine Tf ?_
 have h1:(jP b o t C).Nodup:=by
  unfold jP
  cases lq b o t with
  |none=>exact tc h
  |some _=>exact h
 unfold lK
 cases p9 (b.x,b.y) (o.x,o.y) (t.x,t.y) with
 |true=>exact tc h1
 |false=>exact h1
theorem Ru {k:ax} {pb po pt:Option Obj} {C:List Cf} (h:C.Nodup):(gf k pb po pt C).Nodup:=by
 unfold gf
 cases cN po pt||cN pt pb with
 |true=>exact h
 |false=>
  cases cN po pb with
  |true=>exact h
  |false=>
   simp only [cF]
   split
   ·rename_i b o t
    cases bL o.kind b.kind&&bL t.kind b.kind with
    |true=>exact Xe h
    |false=>exact tc h
   ·exact tc h
structure ww (s1:St) (mu:Nat) (B O T:List (ax×ai)) (b o t:List Obj):Prop where
 pb: ∀k,eR s1 mu (at_ k B) (aX k b)
 po: ∀k,eR s1 mu (at_ k O) (aX k o)
 pt: ∀k,eR s1 mu (at_ k T) (aX k t)
 vb: ∀k,jQ (aX k b)
 vo: ∀k,jQ (aX k o)
 vt: ∀k,jQ (aX k t)
theorem eR.low {s s':St} {lim:Nat} {v:ai} {q:Option Obj} (h:eR s lim v q) (hs: ∀n,n<lim→s'.get [] n=s.get [] n):eR s' lim v q:=by
 cases h with
 |nil=>exact .nil
 |at_ h1 h2 h3=>exact .at_ h1 ((hs _ h1).trans h2) h3
theorem eR.put_map {s s':St} {lim lim' n c:Nat} {es:List cV} {v:ai} {q:Option Obj} (h:eR s lim v q) (hn:s.get [] n=some (.map es c)) (hl:lim≤lim') (hs: ∀m,m<lim→m≠n→s'.get [] m=s.get [] m):eR s' lim' v q:=by
 cases h with
 |nil=>exact .nil
 |at_ h1 h2 h3=>
  refine .at_ (by omega) ((hs _ h1 ?_).trans h2) h3
  intro e;subst e;rw [hn] at h2;cases h2
structure Rs (s1 s:St) (x mb mo mt mu md:Nat) (B O T U:List (ax×ai)) (b o t:List Obj) (D:ax→Prop) (C:List Cf):Prop where
 mg:Mg s x mb mo mt mu md B O T U C
 low: ∀n,n<mu→s.get [] n=s1.get [] n
 val: ∀k v,look k U=some v→ ∃q,fW b o t k=some q∧eR s s.next v (some q)
 dom: ∀k,(look k U).isSome=true↔D k∧(fW b o t k).isSome=true
 nd:(U.map (·.1)).Nodup
 cnd:C.Nodup
 conf: ∀c,c∈C↔ ∃k,D k∧c∈js b o t k
theorem Il (k:ax) (v:ai): ∀(L:List (ax×ai)) (a:ax),a∈(ej k v L).map (·.1)↔a=k∨a∈L.map (·.1)
 | [],a=>by simp [ej]
 |(b,u)::L,a=>by
  simp only [ej]
  cases h:k==b with
  |true=>
   have:k=b:=by simpa using h
   subst this
   simp
  |false=>
   simp only [cF,fw,qp,Il k v L a]
   constructor
   ·rintro(h|h|h)<;>simp [h]
   ·rintro(h|h|h)<;>simp [h]
theorem CQ {k:ax} {v:ai}: ∀ {L:List (ax×ai)},(L.map (·.1)).Nodup→((ej k v L).map (·.1)).Nodup
 | [],_=>by simp [ej]
 |(b,u)::L,h=>by
  simp only [fw,wo] at h
  simp only [ej]
  cases hb:k==b with
  |true=>
   have:k=b:=by simpa using hb
   subst this
   simp only [cT,fw,wo];exact h
  |false=>
   have hne:k≠b:=by simpa using hb
   simp only [cF,fw,wo,Il]
   exact⟨fun hc=>hc.elim (fun e=>hne e.symm) h.1,CQ h.2⟩
section
variable {s1 s s':St} {x mb mo mt mu md it:Nat} {B O T U:List (ax×ai)} {b o t:List Obj} {D D':ax→Prop} {C:List Cf}
theorem Rs.iff (r:Rs s1 s x mb mo mt mu md B O T U b o t D C) (h: ∀k,D k↔D' k):Rs s1 s x mb mo mt mu md B O T U b o t D' C:=by
 have:D=D':=funext fun k=>propext (h k)
 subst this;exact r
theorem Rs.put_it (r:Rs s1 s x mb mo mt mu md B O T U b o t D C) (hit:x<it) {m c:Nat} {seen:List Nat} (hi:s.get [] it=some (.iter (some m) c seen c)) {ob:bE} (hg: ∀n,s'.get [] n=(s.put it (some ob)).get [] n) (hn:s'.next=s.next) (hw:s'.minw=(s.put it none).minw):Rs s1 s' x mb mo mt mu md B O T U b o t D C:=by
 obtain⟨o1,o2,o3,o4,o5,o6⟩:=r.mg.ord
 have key: ∀n,n≠it→s'.get [] n=s.get [] n:=fun n h=>by
  rw [hg,cD,beq_eq_false_iff_ne.2 h];rfl
 have M:=r.mg
 refine⟨⟨(key _ (by omega)).trans M.hx,(key _ (by omega)).trans M.hb,(key _ (by omega)).trans M.ho,(key _ (by omega)).trans M.ht,(key _ (by omega)).trans M.hu,(key _ (by omega)).trans M.hd,?_,o1,o2,o3,o4,o5,by omega⟩,fun n h=>(key n (by omega)).trans (r.low n h),fun k v h=>?_,r.dom,r.nd,r.cnd,r.conf⟩
 ·rw [hw,hn];exact ju s it none M.minw
 ·obtain⟨q,h1,h2⟩:=r.val k v h
  refine⟨q,h1,?_⟩
  cases h2 with
  |at_ a1 a2 a3=>
   refine .at_ (by omega) ((key _ ?_).trans a2) a3
   intro e;subst e;rw [hi] at a2;cases a2
theorem Rs.step (r:Rs s1 s x mb mo mt mu md B O T U b o t D C) {k:ax} {v:ai} (h:ut s s' x mb mo mt mu md B O T U (gf k (aX k b) (aX k o) (aX k t) C) v (fW b o t k)):
 (v= .nilp→fW b o t k=none∧Rs s1 s' x mb mo mt mu md B O T U b o t (fun j=>D j∨j=k) (gf k (aX k b) (aX k o) (aX k t) C))∧
 (∀p,v= .ptr p 0→Rs s1 (s'.put mu (some (.map (cK 0 (ej k v U)) (ej k v U).length))) x mb mo mt mu md B O T (ej k v U) b o t (fun j=>D j∨j=k) (gf k (aX k b) (aX k o) (aX k t) C)):=by
 obtain⟨o1,o2,o3,o4,o5,o6⟩:=r.mg.ord
 have hn:=h.next
 have hval: ∀j u,look j U=some u→ ∃q,fW b o t j=some q∧eR s' s'.next u (some q):=fun j u hj=>by
  obtain⟨q,h1,h2⟩:=r.val j u hj
  exact⟨q,h1,h2.keep r.mg.hd hn fun n a c=>h.old n a c⟩
 have hconf: ∀c,c∈gf k (aX k b) (aX k o) (aX k t) C↔ ∃j,(D j∨j=k)∧c∈js b o t j:=fun c=>by
  rw [aie,r.conf c]
  constructor
  ·rintro(⟨j,h1,h2⟩|h)
   ·exact⟨j,.inl h1,h2⟩
   ·exact⟨k,.inr rfl,h⟩
  ·rintro⟨j,h1|rfl,h2⟩
   ·exact .inl ⟨j,h1,h2⟩
   ·exact .inr h2
 refine⟨fun e=>?_,fun p e=>?_⟩
 ·subst e
  have hnone:fW b o t k=none:=by
   rcases h.pv.out with⟨_,h⟩|⟨p,o,h,_⟩
   ·exact h
   ·cases h
  refine⟨hnone,h.mg,fun n hl=>(h.old n (by omega) (by omega)).trans (r.low n hl),hval,fun j=>?_,r.nd,Ru r.cnd,hconf⟩
  rw [r.dom j]
  constructor
  ·rintro⟨h1,h2⟩;exact⟨.inl h1,h2⟩
  ·rintro⟨h1|rfl,h2⟩
   ·exact⟨h1,h2⟩
   ·rw [hnone] at h2;cases h2
 ·have M:=h.mg
  have key: ∀n ob,n≠mu→(s'.put mu ob).get [] n=s'.get [] n:=fun n ob hne=>by
   rw [cD,beq_eq_false_iff_ne.2 hne];rfl
  have hsome: ∃q,fW b o t k=some q∧eR s' s'.next v (some q):=by
   rcases h.pv.out with⟨h1,_⟩|⟨p',q,h1,h2,h3,h4,h5⟩
   ·rw [e] at h1;cases h1
   ·exact⟨q,h2,by rw [h1];exact .at_ h3 h4 h5⟩
  refine⟨⟨(key _ _ (by omega)).trans M.hx,(key _ _ (by omega)).trans M.hb,(key _ _ (by omega)).trans M.ho,(key _ _ (by omega)).trans M.ht,by rw [cD,bS];rfl,(key _ _ (by omega)).trans M.hd,ju _ _ _ M.minw,o1,o2,o3,o4,o5,gn o6 hn⟩,fun n hl=>(key n _ (by omega)).trans ((h.old n (by omega) (by omega)).trans (r.low n hl)),fun j u hj=>?_,fun j=>?_,CQ r.nd,Ru r.cnd,hconf⟩
  ·rw [lV] at hj
   have tr: ∀ {q:Obj},eR s' s'.next u (some q)→eR (s'.put mu (some (.map (cK 0 (ej k v U)) (ej k v U).length))) s'.next u (some q):=fun hp=>hp.put_map M.hu (bv _) fun m _ hm=>key m _ hm
   cases hjk:j==k with
   |true=>
    rw [hjk] at hj
    injection hj with hj
    subst hj
    have:=eq_of_beq hjk
    subst this
    obtain⟨q,h1,h2⟩:=hsome
    exact⟨q,h1,tr h2⟩
   |false=>
    rw [hjk] at hj
    obtain⟨q,h1,h2⟩:=hval j u hj
    exact⟨q,h1,tr h2⟩
  ·rw [lV]
   cases hjk:j==k with
   |true=>
    have:=eq_of_beq hjk
    subst this
    obtain⟨q,h1,_⟩:=hsome
    simp [h1]
   |false=>
    have hne:j≠k:=beq_eq_false_iff_ne.1 hjk
    simp only [cF,r.dom j,hne,or_false]
end
theorem GP (n:Nat):(ai.map n).cells=[.map n]:=rfl
section
variable {sp:FuncId→Option (List ai→Option ai)} {ch:Nat→Nat} (hS:uu sp)
 {s1:St} {x mb mo mt mu md:Nat} {B O T:List (ax×ai)} {b o t:List Obj} (c:ww s1 mu B O T b o t)
include hS c
theorem aaz {it m:Nat} {L:List (ax×ai)} (hL:L.length≤1000000) (hit:x<it) (hm:m<mu) {lc:Ag.Loc}: ∀(n:Nat) (seen:List Nat) (e:bc) (s:St) (U:List (ax×ai)) (D:ax→Prop) (C:List Cf),(dq seen (cK 0 L)).length≤n→Rs s1 s x mb mo mt mu md B O T U b o t D C→It s it m L seen→it<s.next→aq e 62= .ptr it 0→aq e 8= .ptr x 0→
 W (QM sp ch) 9 (.loop xm) ⟨e,132,lc⟩ s fun y fr s'=>y= .exit 2∧ ∃e',fr=⟨e',132,lc⟩∧(aq e' 6=aq e 6∧aq e' 8= .ptr x 0∧aq e' 55=aq e 55∧aq e' 56=aq e 56∧aq e' 57=aq e 57)∧
   ∃U' C',Rs s1 s' x mb mo mt mu md B O T U' b o t (fun k=>D k∨ ∃en∈dq seen (cK 0 L),en.key= .str k) C':=by
 have hQc:(QM sp ch).ch=ch:=rfl
 have hQk:(QM sp ch).kmax=fun _=>1000000:=rfl
 have fin: ∀(seen:List Nat) (e:bc) (s:St) (U:List (ax×ai)) (D:ax→Prop) (C:List Cf),dq seen (cK 0 L)=[]→Rs s1 s x mb mo mt mu md B O T U b o t D C→It s it m L seen→aq e 62= .ptr it 0→aq e 8= .ptr x 0→
  W (QM sp ch) 9 (.loop xm) ⟨e,132,lc⟩ s fun y fr s'=>y= .exit 2∧ ∃e',fr=⟨e',132,lc⟩∧(aq e' 6=aq e 6∧aq e' 8= .ptr x 0∧aq e' 55=aq e 55∧aq e' 56=aq e 56∧aq e' 57=aq e 57)∧
    ∃U' C',Rs s1 s' x mb mo mt mu md B O T U' b o t (fun k=>D k∨ ∃en∈dq seen (cK 0 L),en.key= .str k) C':=by
  intro seen e s U D C h0 r i h62 h8
  have hd:=i.done ch (fun _=>1000000) h0
  refine W.loop1 ?_
  unfold xm
  refine W.sreg ?_
  unfold Eo
  simp only [az,aA,aB,ah,ii,aj,aC,aw,cd,ak,dM,cT,bS,tA,ar,pj,h62,hQc,hQk,hd,gu,fe]
  refine W.seq (W.cond (t:=false) (by simp only [aj,ah,ae,cT,cF]) ?_)
  refine W.exit ⟨rfl,_,rfl,⟨?_,?_,?_,?_,?_⟩,U,C,r.iff fun k=>?_⟩
  ·simp only [ah,ae,cF]
  ·simp only [ah,ae,cF,h8]
  ·simp only [ah,ae,cF]
  ·simp only [ah,ae,cF]
  ·simp only [ah,ae,cF]
  ·rw [h0];simp
 intro n
 induction n with
 |zero=>
  intro seen e s U D C hn r i _ h62 h8
  exact fin seen e s U D C (List.eq_nil_of_length_eq_zero (Nat.le_zero.1 hn)) r i h62 h8
 |succ n ih=>
  intro seen e s U D C hn r i hits h62 h8
  by_cases h0:dq seen (cK 0 L)=[]
  ·exact fin seen e s U D C h0 r i h62 h8
  ·obtain⟨en,s2,hen,hnx,hg,hnn,hw,hci⟩:=i.step ch (fun _=>1000000) (fun _=>hL) h0
   have r2:=r.put_it hit i.hi hg hnn hw
   have hmem:=(np.1 hen).1
   obtain⟨k,v,hkey,_,_⟩:=BZ L 0 en hmem
   obtain⟨q1,q2,q3,q4,q5,q6⟩:=r.mg.ord
   have i2:It s2 it m L (seen++[en.born]):=⟨by rw [hg,cD,bS];rfl,by rw [hg,cD,beq_eq_false_iff_ne.2 (by omega:m≠it)];exact i.hm⟩
   have hent:=i2.entry hmem
   have hless:=AP hen
   rw [hkey] at hnx hent
   obtain⟨v,s3,hcall,hout⟩:=aig (ch:=ch) hS r2.mg (id:=k) ((c.pb k).low r2.low) ((c.po k).low r2.low) ((c.pt k).low r2.low) (c.vb k) (c.vo k) (c.vt k)
   obtain⟨st1,st2⟩:=r2.step hout
   have hcl:=(hout.pv.pv fun _ _=>rfl).clean
   have n3:=hout.next
   have i3:It s3 it m L (seen++[en.born]):=⟨(hout.old it (by omega) (by omega)).trans i2.hi,(hout.old m (by omega) (by omega)).trans i2.hm⟩
   have hD: ∀j,((D j∨j=k)∨ ∃e'∈dq (seen++[en.born]) (cK 0 L),e'.key= .str j)↔(D j∨ ∃e'∈dq seen (cK 0 L),e'.key= .str j):=fun j=>by
    constructor
    ·rintro((h|rfl)|⟨e',h1,h2⟩)
     ·exact .inl h
     ·exact .inr ⟨en,hen,hkey⟩
     ·refine .inr ⟨e',np.2 ⟨(np.1 h1).1,fun hc=>(np.1 h1).2 (by simp [hc])⟩,h2⟩
    ·rintro(h|⟨e',h1,h2⟩)
     ·exact .inl (.inl h)
     ·by_cases hb:e'.born=en.born
      ·have a1:=yL L 0 e' (np.1 h1).1
       have a2:=yL L 0 en hmem
       rw [hb,a2] at a1
       replace a1:=Option.some.inj a1
       rw [←a1,hkey] at h2
       exact .inl (.inr (ai.str.inj h2).symm)
      ·exact .inr ⟨e',np.2 ⟨(np.1 h1).1,fun hc=>by
        rcases List.mem_append.1 hc with hc|hc
        ·exact(np.1 h1).2 hc
        ·exact hb (by simpa using hc)⟩,h2⟩
   refine W.loop1 ?_
   unfold xm
   refine W.sreg ?_
   unfold Eo
   simp only [az,aA,aB,ah,ii,aj,aC,aw,cd,ak,dM,cT,bS,tA,ar,pj,h62,hQc,hQk,hnx,gu,fe]
   refine W.seq (W.cond (t:=true) (by simp only [aj,ah,ae,cT,cF]) (W.skip ?_))
   simp only [aN]
   refine W.block (W.sreg ?_)
   unfold QD
   simp only [az,aA,aB,ah,aJ,ii,aj,aC,aw,ak,dM,cT,cF,bS,tA,ae,ar,Ai,h62,hent,gu,fe]
   refine W.seq (W.region (fD 2 ?_))
   unfold Qm
   simp only [az,aA,aB,ah,aE,aj,aw,cT,cF,bA,aR,bS,tA,ae,ar,h8]
   refine fQ (g:=24) (args:=[.ptr x 0,.str k]) ?_ hcall (by decide) ?_
   ·simp only [callee,ah,aj,eH,aC,be,bh,ak,cu,dM,cT,cF,bT,cq,bS,ae]
   refine fP ?_
   simp only [az,aA,aB,ah,aJ,aj,aw,cT,cF,bS,tA,ae,ar,aN]
   refine W.sreg ?_
   unfold Qn
   rcases hout.pv.out with⟨ev0,_⟩|⟨p,q,ev0,_⟩
   ·obtain⟨_,r3⟩:=st1 ev0
    simp only [az,aA,aB,ah,aE,aW,aj,aI,aC,aw,ak,cT,cF,bD,bS,tA,ae,ar,ev0,iC,iK,tP]
    refine W.cond (t:=false) (by simp only [aj,ah,ae,cT,cF]) (W.skip ?_)
    simp only [dS,aN]
    refine(ih (seen++[en.born]) _ s3 U _ _ (by omega) r3 i3 (by omega) ?_ ?_).mono ?_
    ·simp only [ah,ae,cF,h62]
    ·simp only [ah,ae,cF,h8]
    rintro y fr s' ⟨rfl,e',rfl,⟨g1,g2,g3,g4,g5⟩,U',C',r'⟩
    refine⟨rfl,e',rfl,⟨g1.trans ?_,g2,g3.trans ?_,g4.trans ?_,g5.trans ?_⟩,U',C',r'.iff hD⟩
    all_goals simp only [ah,ae,cF]
   ·have r3:=st2 p ev0
    have hup:=x4 rK zW hout.mg.hu k v
    have hx3:=hout.mg.hx
    rw [ev0] at hup r3
    have i4:It (s3.put mu (some (.map (cK 0 (ej k (.ptr p 0) U)) (ej k (.ptr p 0) U).length))) it m L (seen++[en.born]):=⟨by rw [cD,beq_eq_false_iff_ne.2 (by omega)];exact i3.hi,by rw [cD,beq_eq_false_iff_ne.2 (by omega)];exact i3.hm⟩
    simp only [az,aA,aB,ah,aE,aW,aj,aI,aC,aw,ak,dM,cT,cF,bD,bS,tA,ae,ar,ev0,iC,iK,qW]
    refine W.cond (t:=true) (by simp only [aj,ah,ae,cT,cF]) (W.reg ?_)
    unfold Qo
    simp only [az,aA,dH,aB,dI,ah,aE,bf,b7,tL,fI,aj,aC,aw,tU,ak,cu,dM,fZ,cT,cF,bD,aR,bN,bS,tA,aM,ae,ar,rL,mE,h8,fG,dl,hx3,dj,hup,dS,aN]
    refine(ih (seen++[en.born]) _ _ (ej k (.ptr p 0) U) _ _ (by omega) r3 i4 (gn (by omega) n3) ?_ ?_).mono ?_
    ·simp only [ah,ae,cF,h62]
    ·simp only [ah,ae,cF,h8]
    rintro y fr s' ⟨rfl,e',rfl,⟨g1,g2,g3,g4,g5⟩,U',C',r'⟩
    refine⟨rfl,e',rfl,⟨g1.trans ?_,g2,g3.trans ?_,g4.trans ?_,g5.trans ?_⟩,U',C',r'.iff hD⟩
    all_goals simp only [ah,ae,cF]
end
section
variable {sp:FuncId→Option (List ai→Option ai)} {ch:Nat→Nat} (hS:uu sp)
 {s1:St} {x mb mo mt mu md:Nat} {B O T:List (ax×ai)} {b o t:List Obj} (c:ww s1 mu B O T b o t)
include hS c
theorem ajx {lc:Ag.Loc} {ms:List (Nat×List (ax×ai))} {rt:fC} (hsm:ms.length≤1000) (hms: ∀p∈ms,p.1<mu∧p.2.length≤1000000∧s1.get [] p.1=some (.map (cK 0 p.2) p.2.length)): ∀(rest pre:List (Nat×List (ax×ai))) (e:bc) (s:St) (U:List (ax×ai)) (D:ax→Prop) (C:List Cf),ms=pre++rest→Rs s1 s x mb mo mt mu md B O T U b o t D C→
 aq e 8= .ptr x 0→aq e 55= .list 1 (ms.map fun p=>.map p.1) rt→aq e 56= .int .i64 (ms.length:Nat)→aq e 57= .int .i64 (pre.length:Nat)→
 W (QM sp ch) 9 (.loop zG) ⟨e,132,lc⟩ s fun y fr s'=>y= .exit 0∧ ∃e',fr=⟨e',132,lc⟩∧(aq e' 6=aq e 6∧aq e' 8= .ptr x 0)∧
   ∃U' C',Rs s1 s' x mb mo mt mu md B O T U' b o t (fun k=>D k∨ ∃p∈rest,k∈p.2.map (·.1)) C':=by
 intro rest
 induction rest with
 |nil=>
  intro pre e s U D C hpre r h8 h55 h56 h57
  have hl:ms.length=pre.length:=by rw [hpre];simp
  refine W.loop1 ?_
  unfold zG
  refine W.sreg ?_
  unfold En
  simp only [az,aA,aB,aW,aj,aC,aw,cQ,ak,aZ,cT,bD,cZ,tA,ar,decide_false,h56,h57,hl,Nat.lt_irrefl]
  refine W.seq (W.cond (t:=false) (by simp only [aj,ah,ae,cT]) ?_)
  refine W.exit ⟨rfl,_,rfl,⟨?_,?_⟩,U,C,r.iff fun k=>by simp⟩
  ·simp only [ah,ae,cF]
  ·simp only [ah,ae,cF,h8]
 |cons p rest ih=>
  intro pre e s U D C hpre r h8 h55 h56 h57
  obtain⟨m,L⟩:=p
  have hlt:pre.length<ms.length:=by rw [hpre];simp
  have hat:(ms.map fun p=>ai.map p.1)[pre.length]? =some (.map m):=by rw [hpre];simp
  obtain⟨hm,hL,hs⟩:=hms (m,L) (by rw [hpre];simp)
  have hm:m<mu:=hm
  have hL:L.length≤1000000:=hL
  have hs:s.get [] m=some (.map (cK 0 L) L.length):=(r.low m hm).trans hs
  have hr:=ajS hs
  have hn:=RE hat
  have hwr:IntKind.i64.wrap ((pre.length:Int)+1)=((pre.length+1:Nat):Int):=by rw [eC (by omega) (by omega)];omega
  obtain⟨o1,o2,o3,o4,o5,o6⟩:=r.mg.ord
  have hg2: ∀n,n<s.next→(s.new (.iter (some m) L.length [] L.length)).get [] n=s.get [] n:=fun n h=>by
   rw [cW,beq_eq_false_iff_ne.2 (by omega:n≠s.next)];rfl
  have M:=r.mg
  have r2:Rs s1 (s.new (.iter (some m) L.length [] L.length)) x mb mo mt mu md B O T U b o t D C:=by
   refine⟨M.grow ((hg2 md (by omega)).trans M.hd) (fun n h _=>hg2 n h) (Nat.le_succ _) (Nat.le_succ_of_le M.minw),fun n h=>(hg2 n (by omega)).trans (r.low n h),fun k v h=>?_,r.dom,r.nd,r.cnd,r.conf⟩
   obtain⟨q,a1,a2⟩:=r.val k v h
   exact⟨q,a1,a2.keep M.hd (Nat.le_succ _) fun n h _=>hg2 n h⟩
  have i2:It (s.new (.iter (some m) L.length [] L.length)) s.next m L []:=⟨by rw [cW,bS];rfl,by rw [hg2 _ (by omega)];exact hs⟩
  have hun: ∀es:List cV,dq [] es=es:=fun es=>by simp [dq]
  refine W.loop1 ?_
  unfold zG
  refine W.sreg ?_
  unfold En
  simp only [az,aA,aB,aW,aj,aC,aw,cQ,ak,aZ,cT,bD,cZ,tA,ar,dT,h56,h57,hlt]
  refine W.seq (W.cond (t:=true) (by simp only [aj,ah,ae,cT]) (W.skip ?_))
  simp only [aN]
  refine W.seq (W.block (W.sreg ?_))
  unfold QB
  simp only [az,aA,aB,ah,aJ,bf,ec,aj,eI,sh,aw,ak,cT,cF,bD,aR,bN,bS,tA,ae,ar,iP,aU,cP,dT,mE,aaq,h55,h57,List.length_map,hlt,hn,GP]
  refine W.sreg ?_
  unfold QC
  simp only [az,aA,aB,ah,aE,aj,aC,aw,cd,ak,fZ,cT,cF,bD,bS,tA,ae,ar,Aj,hr]
  refine W.block ?_
  refine(aaz hS c hL (it:=s.next) o6 hm L.length [] _ _ U D C (by rw [hun,qC];exact bv _) r2 i2 (Nat.lt_succ_self _) ?_ ?_).mono ?_
  ·simp only [ah,ae,cT,cF]
  ·simp only [ah,ae,cF,h8]
  rintro y fr s' ⟨rfl,e',rfl,⟨g1,g2,g3,g4,g5⟩,U',C',r'⟩
  simp only [ah,ae,cF,h55,h56,h57] at g1 g3 g4 g5
  show W (QM sp ch) 9 _ _ _ _
  refine W.reg ?_
  unfold Qp
  simp only [az,aA,aB,ah,aE,aW,aj,aI,aC,bo,aw,d8,ak,aZ,cT,bD,bS,tA,ar,g5,hwr,aN]
  refine(ih (pre++[(m,L)]) _ s' U' _ C' (by rw [hpre];simp) r' ?_ ?_ ?_ ?_).mono ?_
  ·simp only [ah,ae,cF,g2]
  ·simp only [ah,ae,cF,g3]
  ·simp only [ah,ae,cF,g4]
  ·simp only [ah,ae,cT,cF,List.length_append,aK,aQ]
  rintro y fr s'' ⟨rfl,e'',rfl,⟨w1,w2⟩,U'',C'',r''⟩
  refine⟨rfl,e'',rfl,⟨w1.trans ?_,w2⟩,U'',C'',r''.iff fun k=>?_⟩
  ·simp only [ah,ae,cF,g1]
  ·rw [hun]
   have hk:(∃en∈cK 0 L,en.key= .str k)↔k∈L.map (·.1):=by
    constructor
    ·rintro⟨en,h1,h2⟩
     obtain⟨k',v,a1,_,a3⟩:=BZ L 0 en h1
     rw [a1] at h2
     have:=ai.str.inj h2
     subst this
     exact List.mem_map.2 ⟨_,a3,rfl⟩
    ·intro h
     obtain⟨⟨k',v⟩,h1,rfl⟩:=List.mem_map.1 h
     exact Hq L 0 k' v h1
   rw [hk]
   simp only [qp,exists_eq_or_imp,or_assoc]
end
end Go.Proofs.YtbfmdojdemckbaaGreat
