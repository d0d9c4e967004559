/- head() returns true; contracts of the laws. -/
import Derived.Test.YtbfmdojdemckbaaGreatHd0
import Derived.Test.YtbfmdojdemckbaaGreatHdS
namespace Go.Proofs.YtbfmdojdemckbaaGreat
open _root_.Bool renaming and_self→gK,and_true→dB
open _root_.List renaming cons_append→cq,drop→aR,getElem?_cons_succ→jI,getElem?_cons_zero→fe,head?_cons→bN,length_append→dn,length_cons→aK,length_nil→aQ,nil_append→bT,take_succ_cons→eP,take→bA
open _root_.Nat renaming add_zero→cY,lt_irrefl→fL,reduceAdd→bt,reduceBEq→ae,reduceLT→ar,reduceLeDiff→bR,zero_add→aM,zero_lt_succ→gL
open _root_.Option renaming bind_eq_some_iff→aF,bind_some→ak
open _root_.Option.some renaming injEq→a7
open Go.Ag
def t6:ai→ai
 | .agg [.list n xs _]=>.agg [.list n xs .no]
 |v=>v
theorem alN {G:Gh} {v:ai} {y:Value} (h:VR G v y):VR G (t6 v) y:=by
 unfold t6
 split
 ·cases h with
  |agg hs hv=>
   cases hv with
   |cons a b=>
    cases b
    cases a with
    |list p1 p2 p3 p4 p5 p6=>exact .agg rfl (.cons (.list p1 p2 p3 p4 p5 trivial) .nil)
 ·exact h
theorem FN {G:Gh}: ∀ {l:List ai} {ys:List Value},cg G l ys→cg G (l.map t6) ys
 | [],_,.nil=>.nil
 |_::_,_,.cons a b=>.cons (alN a) (FN b)
def HX (l:List ai):Option ai:=
 bif mm (ni 9) l a1 then some r1 else bif mm (ni 9) l a2 then some r2 else bif mm (ni 9) l a3 then some r3 else bif mm (ni 9) l a4 then some r4 else none
def CF:Sp:=fun l=>HX (l.map t6)
def CG:Sp:=fun l=>bif mm (ni 9) (l.map t6) a5 then some r5 else none
theorem one_pos: ∀i,0<pd [] i 1:=fun _=>Nat.zero_lt_one
theorem XW:eD Tryz.prog 9 CF:=by
 intro args u hv G h w xs wr hx
 have hx:=FN hx
 unfold CF HX at hv
 generalize args.map t6=l at hv hx
 cases h1:mm (ni 9) l a1 with
 |true=>
  rw [h1] at hv
  have h1:=rJ (fun a b=>uO 9) h1
  subst h1
  injection hv with hv;subst hv
  exact xz a1 r1 m1 G h w xs wr hx
 |false=>
 rw [h1] at hv
 cases h2:mm (ni 9) l a2 with
 |true=>
  rw [h2] at hv
  have h2:=rJ (fun a b=>uO 9) h2
  subst h2
  injection hv with hv;subst hv
  exact xz a2 r2 m2 G h w xs wr hx
 |false=>
 rw [h2] at hv
 cases h3:mm (ni 9) l a3 with
 |true=>
  rw [h3] at hv
  have h3:=rJ (fun a b=>uO 9) h3
  subst h3
  injection hv with hv;subst hv
  exact xz a3 r3 m3 G h w xs wr hx
 |false=>
 rw [h3] at hv
 cases h4:mm (ni 9) l a4 with
 |false=>rw [h4] at hv;cases hv
 |true=>
  rw [h4] at hv
  have h4:=rJ (fun a b=>uO 9) h4
  subst h4
  injection hv with hv;subst hv
  exact xz a4 r4 m4 G h w xs wr hx
theorem XX:eD Tryz.prog 21 CG:=by
 intro args u hv G h w xs wr hx
 have hx:=FN hx
 unfold CG at hv
 generalize args.map t6=l at hv hx
 obtain⟨h1,hv⟩:=bW hv
 have h1:=rJ (fun a b=>uO 9) h1
 subst h1
 injection hv with hv;subst hv
 refine SU TP (fun i=>?_) (Nat.le_refl 1) m5 (args':=a5) (by kernel_rfl) (by kernel_rfl) G h w xs wr hx
 match i with
 |0=>decide
 |i+1=>exact Nat.zero_lt_one
def F9:eE:=(9,CF)::(21,CG)::HT
theorem TQ:fV F9:=.cons XW (.cons XX TR)
theorem WH:uQ F9 [] [] 3000 7 []=some (.bool true,0):=by kernel_rfl
def yS:Sp
 | []=>some (.bool true)
 |_=>none
theorem XY:eD Tryz.prog 7 yS:=by
 intro args v hv G h w xs wr hx
 cases args with
 |nil=>
  injection hv with hv;subst hv
  exact SU TQ one_pos (Nat.le_refl 0) (fun c hc=>by cases hc;exact WH) (args':=[]) rfl rfl G h w xs wr hx
 |cons _ _=>cases hv
def qF (a b c:List Obj):Bool:=bif jY a 20 then bif jY b 20 then jY c 20 else false else false
theorem Xb {sp:FuncId→Option (List ai→Option ai)} (h8:sp 8=none) (h22:sp 22=some uV) {va vb vc:ai} {a b c:List Obj} (ha:bu 6 Obj.val va a) (hb:bu 6 Obj.val vb b) (hc:bu 6 Obj.val vc c) (ga: ∀q∈a,q.Good) (gb: ∀q∈b,q.Good) (gc: ∀q∈c,q.Good) (sa:a.length<small) (sb:b.length<small) (sc:c.length<small) (s:St):
 br (QS sp) 8 [.agg [va],.agg [vb],.agg [vc]] s (.bool (qF a b c)) s:=by
 have ca:=ha.clean
 have cb:=hb.clean
 have cc:=hc.clean
 have fa:=Cd ha ga sa 20
 have fb:=Cd hb gb sb 20
 have fc:=Cd hc gc sc 20
 refine br.of2 agH agG agJ agI h8 ?_
 unfold k8
 refine W.sreg ?_
 unfold Qa
 simp only [dg,cM,az,aA,aB,ah,dx,cz,aJ,ja,aj,aI,aC,bJ,eM,aw,bH,di,ak,bZ,cT,cF,bX,aK,aQ,bS,tA,aM,ae,ar,bt,bR,bQ,dT,Z3,Z4,Z5]
 refine W.sreg ?_
 unfold Qb
 cases h1:jY a 20 with
 |false=>
  simp only [az,aA,cJ,aB,ee,ia,ah,bI,aE,aJ,cw,bf,dc,db,aj,aI,aC,be,bh,bJ,bo,bU,cx,dv,aw,ak,aZ,bZ,cT,cF,aP,dt,aK,aQ,cut,bA,aR,bS,tA,aM,ae,ar,aU,gj,h22,fa,h1]
  exact W.ret ⟨rfl,.inr rfl,cp (by simp only [ah,ae,cT,cF,qF,h1]) rfl⟩
 |true=>
  cases h2:jY b 20 with
  |false=>
   simp only [az,aA,cJ,aB,dz,ee,eA,ia,ah,bI,aE,aJ,cw,bf,dc,db,aj,aI,aC,be,bh,bJ,bo,bU,cx,dy,dv,aw,ak,aZ,bZ,cT,cF,aP,dt,aK,aQ,cut,bA,aR,bS,tA,aM,ae,ar,aU,gj,h22,fa,h1,fb,h2]
   exact W.ret ⟨rfl,.inr rfl,cp (by simp only [ah,ae,cT,cF,qF,h1,h2]) rfl⟩
  |true=>
   simp only [az,aA,cJ,aB,dz,eA,ah,bI,aE,aJ,cw,bf,dc,db,aj,aI,aC,be,bh,bJ,bo,bU,cx,dy,aw,ak,aZ,bZ,cT,cF,aP,dt,aK,aQ,cut,bA,aR,bS,tA,aM,ae,ar,aU,gj,h22,fa,h1,fb,h2,fc]
   exact W.ret ⟨rfl,.inr rfl,cp (by simp only [ah,ae,cT,cF,qF,h1,h2]) rfl⟩
def uU:Sp
 | [u,v,w]=>(jW u).bind fun a=>(jW v).bind fun b=>(jW w).bind fun c=>some (.bool (qF a b c))
 |_=>none
theorem W5 {va vb vc:ai} {a b c:List Obj} (ha:bu 6 Obj.val va a) (hb:bu 6 Obj.val vb b) (hc:bu 6 Obj.val vc c) (ga: ∀q∈a,q.Good) (gb: ∀q∈b,q.Good) (gc: ∀q∈c,q.Good) (sa:a.length<small) (sb:b.length<small) (sc:c.length<small):uU [.agg [va],.agg [vb],.agg [vc]]=some (.bool (qF a b c)):=by
 simp only [uU,nU ha ga sa,nU hb gb sb,nU hc gc sc,ak]
def FT:eE:=[(22,uV)]
theorem TN:fV FT:=.cons W7 .nil
theorem W6:eD Tryz.prog 8 uU:=by
 intro args x hv G h w xs wr hx
 unfold uU at hv
 split at hv
 ·simp only [aF,a7] at hv
  obtain⟨a,h1,b,h2,c,h3,rfl⟩:=hv
  obtain⟨va,rfl,ha,ga,sa⟩:=lJ h1
  obtain⟨vb,rfl,hb,gb,sb⟩:=lJ h2
  obtain⟨vc,rfl,hc,gc,sc⟩:=lJ h3
  obtain⟨t1,va',w1,ha'⟩:=lZ ha ga
  obtain⟨t2,vb',w2,hb'⟩:=lZ hb gb
  obtain⟨t3,vc',w3,hc'⟩:=lZ hc gc
  have hw:dU [.agg [va],.agg [vb],.agg [vc]]=[.agg [va'],.agg [vb'],.agg [vc']]:=by simp only [dU,w1,w2,w3]
  exact gJ (Q:=QT FT) (gD TN) (fun _=>gL 1) (args:=[.agg [va],.agg [vb],.agg [vc]]) (v:=.bool (qF a b c)) (s':=s0) (by simp only [jy,t1,t2,t3,gK]) (by rw [hw];exact Xb (sp:=fun f=>eY f FT) rfl rfl ha' hb' hc' ga gb gc sa sb sc s0) rfl ⟨1,rfl⟩ G h w xs wr hx
 ·cases hv
theorem Ce {l:List Obj} (h:jY l 20=true):l.length≤64:=by
 unfold jY at h
 cases hb:du 20 (l.length:Nat) with
 |true=>rw [hb] at h;cases h
 |false=>
  have: ¬20<l.length:=by
   rw [show(20:Int)=((20:Nat):Int) from rfl,cZ] at hb
   exact of_decide_eq_false hb
  omega
section
variable {sp:FuncId→Option (List ai→Option ai)}
theorem Wp (h40:sp 40=none) {s:St} {c:Nat} {id:ax} (hc:s.get [] c=some (.cells [.str id])) (o:Obj):br (QS sp) 40 [o.val,.ptr c 0] s (.bool (o.id==id)) s:=by
 refine br.of2 aet aes aev aeu h40 ?_
 unfold Nt
 refine W.sreg ?_
 unfold Nu
 simp only [dg,cM,az,aA,aB,ah,dx,aJ,ja,aj,aI,aC,bJ,eM,aw,bH,di,ak,bZ,cT,cF,bX,aK,aQ,bS,tA,aM,ae,ar,bt,bR,bQ,dT,Y4,Obj.val,Obj.cells]
 trace_state
 refine W.sreg ?_
 unfold Nv
 simp only [az,aA,aB,ah,dx,cz,bI,aJ,bf,aW,b7,aj,aC,bU,aw,iJ,ak,cu,cT,cF,aP,aR,bN,bS,tA,cY,ae,ar,aU,oU,dD,dl,hc,dj]
 exact W.ret ⟨rfl,.inr rfl,cp (by simp only [ah,ae,cT,cF]) rfl⟩
theorem aar (h40:sp 40=none) {s:St} {c:Nat} {id:ax} (hc:s.get [] c=some (.cells [.str id])) {v:ai} {l:List Obj} (hl:bu 6 Obj.val v l) (hs:l.length<small): ∀(rest pre:List Obj) (e:bc) (lc:Ag.Loc),l=pre++rest→
 aq e 0=v→aq e 1= .func (.func 40) [] [.ptr c 0]→aq e 7= .int .i64 (l.length:Nat)→aq e 8= .int .i64 (pre.length:Nat)→
 W (QS sp) 39 (.loop zj) ⟨e,19,lc⟩ s fun x fr s'=>s'=s∧fr.size=19∧((x= .exit 0∧kH id rest pre.length=none)∨(x= .ret∧ ∃k o,kH id rest pre.length=some (k,o)∧aq fr.env 4= .int .i64 (k:Nat))):=by
 intro rest
 have hcl:=hl.clean
 have hsm:small=9223372036854775808:=rfl
 induction rest with
 |nil=>
  intro pre e lc hpre h0 h1 h7 h8
  have hl:l.length=pre.length:=by rw [hpre];simp
  refine W.loop1 ?_
  unfold zj
  refine W.sreg ?_
  unfold DC
  simp only [az,aA,aB,aW,aj,aC,aw,cQ,ak,aZ,cT,aP,cZ,tA,ar,decide_false,h7,h8,hl,fL]
  refine W.seq (W.cond (t:=false) (by simp only [aj,ah,ae,cT]) ?_)
  exact W.exit ⟨rfl,rfl,.inl ⟨rfl,rfl⟩⟩
 |cons o rest ih=>
  intro pre e lc hpre h0 h1 h7 h8
  have hlt:pre.length<l.length:=by rw [hpre];simp
  have hat:l[pre.length]? =some o:=by rw [hpre];simp
  have hia:=fun lc=>hl.at wZ hat lc .i64
  have hrun:=Wp h40 hc o
  simp only [Obj.val,Obj.cells] at hrun
  have hwr:IntKind.i64.wrap ((pre.length:Int)+1)=((pre.length+1:Nat):Int):=by rw [eC (by omega) (by omega)];omega
  refine W.loop1 ?_
  unfold zj
  refine W.sreg ?_
  unfold DC
  simp only [az,aA,aB,aW,aj,aC,aw,cQ,ak,aZ,cT,aP,cZ,tA,ar,dT,h7,h8,hlt]
  refine W.seq (W.cond (t:=true) (by simp only [aj,ah,ae,cT]) (W.skip ?_))
  simp only [aN]
  refine W.seq (W.block (W.sreg ?_))
  unfold Nn
  simp only [az,aA,aB,ah,aE,aJ,aj,aw,cT,cF,bS,tA,ae,ar,h8]
  refine W.seq (W.region (fD 5 ?_))
  unfold Np
  simp only [az,aA,aB,ah,aE,bf,ec,aj,eI,aw,di,ak,cT,cF,aP,aK,aQ,cut,bA,aR,eP,bS,tA,aM,ae,ar,bt,aU,l0,h0,h1,hia,Obj.val,Obj.cells,eI]
  refine fQ (g:=40) (args:=[.agg [.str o.id,.int .i64 o.kind,.int .i64 o.x,.int .i64 o.y,o.refsV,o.tagsV],.ptr c 0]) ?_ hrun (by decide) ?_
  ·simp only [callee,ah,aj,aC,be,bh,ak,bZ,cT,cF,bT,cq,bS,ae]
  refine fP ?_
  simp only [az,aN]
  cases hq:o.id==id with
  |true=>
   refine W.cond (t:=true) (by simp only [aj,ah,ae,cT,cF]) (W.sreg ?_)
   unfold Nq
   simp only [az,aA,aB,ah,aE,aJ,aj,aw,cT,cF,bS,tA,ae,ar]
   refine W.ret ⟨rfl,rfl,.inr ⟨rfl,pre.length,o,by simp only [kH,hq,cT],?_⟩⟩
   simp only [ah,ae,cT,cF]
  |false=>
   refine W.cond (t:=false) (by simp only [aj,ah,ae,cT,cF]) (W.skip ?_)
   simp only [dS,aN]
   refine W.reg ?_
   unfold Nr
   simp only [az,aA,aB,ah,aE,aW,aj,aI,aC,bo,aw,d8,ak,aZ,cT,cF,aP,bS,tA,ae,ar,h8,hwr,aN]
   refine(ih (pre++[o]) _ _ (by rw [hpre];simp) ?_ ?_ ?_ ?_).mono ?_
   ·simp only [ah,ae,cF,h0]
   ·simp only [ah,ae,cF,h1]
   ·simp only [ah,ae,cF,h7]
   ·simp only [ah,ae,cT,cF,dn,aK,aQ]
   intro x fr s' hx
   rw [dn] at hx
   simp only [kH,hq,cF]
   exact hx
theorem Xh (h18:sp 18=none) (h39:sp 39=none) (h40:sp 40=none) {v:ai} {l:List Obj} (hl:bu 6 Obj.val v l) (hs:l.length<small) (id:ax) (s:St):br (QS sp) 18 [.agg [v],.str id] s (.int .i64 (tN (kH id l 0))) (s.new (.cells [.str id])):=by
 have hcl:=hl.clean
 have hln:=fun mk s=>hl.len vj vi mk s
 have hc:(s.new (.cells [.str id])).get [] s.next=some (.cells [.str id]):=by rw [cW,bS];rfl
 have h: ∃w s',br (QS sp) 39 [v,.func (.func 40) [] [.ptr s.next 0]] (s.new (.cells [.str id])) w s'∧(w= .int .i64 (tN (kH id l 0))∧s'=s.new (.cells [.str id])):=by
  refine br.ofEx aeb aea aed aec h39 ?_
  unfold Nk
  refine W.sreg ?_
  unfold Nl
  simp only [dg,cM,az,aA,aB,aJ,aI,bo,aw,cT,aK,aQ,tA,aM,ar,bt,bR,bQ,dT]
  refine W.seq (W.seq (W.reg ?_))
  unfold Nm
  simp only [az,aA,aB,ah,aE,cL,aj,aI,aC,be,bh,bo,aw,cd,da,bH,ak,cT,cF,aP,bX,bS,tA,ae,ar,aU,Y3,hcl,hln,aN]
  refine W.block ?_
  refine(aar h40 hc hl hs l [] _ _ rfl ?_ ?_ ?_ ?_).mono ?_
  ·simp only [ah,ae,cT,cF]
  ·simp only [ah,ae,cT,cF]
  ·simp only [ah,ae,cT,cF]
  ·simp only [ah,ae,cT,cF];rfl
  rintro x fr s' ⟨rfl,hz,⟨rfl,hf⟩|⟨rfl,k,o,hf,h4⟩⟩
  ·obtain⟨e',z,lc'⟩:=fr
   have hz:z=19:=hz
   subst hz
   have hf:kH id l 0=none:=hf
   show W (QS sp) 39 _ _ _ _
   refine W.sreg ?_
   unfold Ns
   simp only [az,aA,aB,aJ,aI,bo,aw,tA,ar]
   refine W.ret ⟨.inr rfl,.int .i64 (-1),cp (by simp only [ah,ae,cT]) rfl,?_,rfl⟩
   rw [hf];rfl
  ·have hf:kH id l 0=some (k,o):=hf
   refine⟨.inr rfl,.int .i64 (k:Nat),cp h4 rfl,?_,rfl⟩
   rw [hf];rfl
 obtain⟨w,s',hrun,rfl,rfl⟩:=h
 refine br.of2 acX acW acZ acY h18 ?_
 unfold Kk
 refine W.sreg ?_
 unfold K9
 simp only [dg,cM,az,aA,aB,ah,dx,aJ,ja,aj,aI,aC,bo,eM,iA,aw,bH,di,kF,ak,cu,bZ,cT,cF,bX,aK,aQ,bS,tA,aM,ae,ar,bt,bR,bQ,dT,YE,YF,iA]
 refine W.seq (W.region (fD 3 ?_))
 unfold La
 simp only [az,aA,aB,ah,dx,cz,bI,bf,b7,vG,aj,aC,be,bh,bU,aw,ak,dM,cT,cF,aP,bA,aR,bN,bS,tA,cY,ae,ar,aU,nj,oC,oe]
 refine fQ (g:=39) (args:=[v,.func (.func 40) [] [.ptr s.next 0]]) ?_ hrun (by decide) ?_
 ·simp only [callee,ah,aj,eH,aC,be,bh,ak,nc,cT,cF,bT,cq,bS,ae,hcl]
 refine fP ?_
 simp only [az,aA,aB,ah,aJ,aj,aw,cT,cF,bS,tA,ae,ar,aN]
 exact W.ret ⟨rfl,.inr rfl,cp (by simp only [ah,ae,cT,cF]) rfl⟩
end
def uW:Sp
 | [u,.str id]=>(jW u).bind fun l=>some (.int .i64 (tN (kH id l 0)))
 |_=>none
theorem Xi {v:ai} {l:List Obj} (h:bu 6 Obj.val v l) (hg: ∀o∈l,o.Good) (hs:l.length<small) (id:ax):uW [.agg [v],.str id]=some (.int .i64 (tN (kH id l 0))):=by
 simp only [uW,nU h hg hs,ak]
theorem Xj:eD Tryz.prog 18 uW:=by
 intro args x hv G h w xs wr hx
 unfold uW at hv
 split at hv
 ·rename_i u id
  simp only [aF,a7] at hv
  obtain⟨l,h1,rfl⟩:=hv
  obtain⟨v,rfl,hl,hg,hs⟩:=lJ h1
  obtain⟨t1,v',w1,hl'⟩:=lZ hl hg
  have hw:dU [.agg [v],.str id]=[.agg [v'],.str id]:=by simp only [dU,w1];rfl
  exact gJ (Q:=QT []) (gD .nil) (fun _=>gL 1) (args:=[.agg [v],.str id]) (v:=.int .i64 (tN (kH id l 0))) (s':=s0.new (.cells [.str id])) (by simp only [jy,t1];rfl) (by rw [hw];exact Xh (sp:=fun f=>eY f []) rfl rfl rfl hl' hs id s0) rfl ⟨1,rfl⟩ G h w xs wr hx
 ·cases hv
theorem HE (id:ax): ∀(l:List Obj) (i:Nat),(kH id l i).map (·.2)=aX id l
 | [],i=>rfl
 |o::l,i=>by
  simp only [kH,aX]
  have:(id==o.id)=(o.id==id):=BEq.comm
  rw [this]
  cases o.id==id with
  |true=>rfl
  |false=>exact HE id l (i+1)
def qI (q:Option Obj):ai:=match q with
 |some o=>.tup [o.val,.bool true]
 |none=>.tup [lD.val,.bool false]
section
variable {sp:FuncId→Option (List ai→Option ai)}
theorem Si {Q:ck} (hP:Q.P=Tryz.prog) {e:bc} {n:Nat} {lc:Ag.Loc} {s:St} {t u:Tmp} {o:Obj} {b:Bool} (h:aq e t= .lref t 1 0) (hl:lc.get t 1=some o.cells) (hu:aq e u= .bool b): ∃vs,gh Q [] ⟨e,n,lc⟩ s [.cell t 40,.tmp u]=some vs∧jw vs= .tup [o.val,.bool b]:=by
 refine⟨[o.val,.bool b],?_,rfl⟩
 have hl':lc.get t 1=some [.str o.id,.int .i64 o.kind,.int .i64 o.x,.int .i64 o.y,o.refsV,o.tagsV]:=hl
 simp only [gh,vQ,h,hP,bU,hl',ak,l0,cut,List.drop_zero,bA,aU,aK,aQ,bS,cT,bZ,evc,ev,hu,ei]
 rfl
theorem XN (h14:sp 14=none) (h18:sp 18=some uW) {v:ai} {l:List Obj} (hl:bu 6 Obj.val v l) (hg: ∀o∈l,o.Good) (hs:l.length<small) (id:ax) (s:St):br (QS sp) 14 [.agg [v],.str id] s (qI (aX id l)) s:=by
 have hcl:=hl.clean
 have hln:=fun mk s=>hl.len vj vi mk s
 have hf:=Xi hl hg hs id
 have hob:=HE id l 0
 refine br.of2 ab6 ab5 ab8 ab7 h14 ?_
 unfold J1
 refine W.sreg ?_
 unfold J2
 simp only [dg,cM,az,aA,aB,ah,dx,cz,aJ,fH,ja,aj,aI,aC,bJ,eM,aw,bH,di,ak,bZ,cT,cF,aP,bX,aK,aQ,bS,tA,aM,ae,ar,bt,bR,bQ,dT,Ys,Yt,nG]
 refine W.sreg ?_
 unfold J3
 simp only [az,aA,aB,ah,bI,aE,aJ,bf,dc,db,aj,aC,be,bh,bU,aw,ak,cu,bZ,cT,cF,aP,dt,aK,aQ,cut,bA,aR,bS,tA,aM,ae,ar,aU,gj,h18,hf]
 refine W.seq (W.seq (W.reg ?_))
 unfold J4
 cases hfo:kH id l 0 with
 |none=>
  rw [hfo] at hob
  have hob:aX id l=none:=hob.symm
  have hlt:du (-1) 0=true:=rfl
  simp only [az,aA,cJ,aB,ee,iG,ah,aE,cw,aW,aj,aI,aC,bJ,bo,cx,dy,aw,cQ,ak,aZ,cT,cF,aP,bS,tA,ae,ar,tN,hlt,aN]
  refine W.cond (t:=true) (by simp only [aj,ah,ae,cT,cF]) (W.sreg ?_)
  unfold J5
  have hb0: ∀e,fY Tryz.prog 40 [] e=some lD.val:=fun e=>by rw [UR];simp only [nG,ak,dL];rfl
  simp only [az,aA,dH,aB,dI,ah,bI,gQ,aJ,kL,dJ,aj,aI,aC,bJ,aw,di,fU,ak,bZ,cT,cF,aP,aK,aQ,cI,bA,aR,bT,cq,bS,tA,aM,ae,ar,bt,bR,dB,aU,cP,bQ,dT,hb0,nF,lD,Obj.val,Obj.cells]
  refine W.ret ⟨rfl,.inr rfl,?_⟩
  rw [hob]
  exact Si (o:=lD) rfl (by simp only [ah,ae,cT,cF]) (by simp only [bI,bS,cT];rfl) (by simp only [ah,ae,cT,cF])
 |some r=>
  obtain⟨k,o⟩:=r
  rw [hfo] at hob
  have hob:aX id l=some o:=hob.symm
  obtain⟨_,hat,_⟩:=HD hfo
  rw [Nat.sub_zero] at hat
  have hia:=fun lc=>hl.at wZ hat lc .i64
  have hklt:k<l.length:=by
   rcases Nat.lt_or_ge k l.length with h1|h1
   ·exact h1
   ·rw [List.getElem?_eq_none h1] at hat;cases hat
  have hlt:du ((k:Nat):Int) 0=false:=by
   have:=cZ k 0
   rw [show((0:Nat):Int)=0 from rfl] at this
   rw [this];exact decide_eq_false (by omega)
  have hge:ig ((l.length:Nat):Int) (k:Nat)=false:=by rw [qK];exact decide_eq_false (by omega)
  simp only [az,aA,cJ,aB,dz,e7,ah,dx,cz,bI,aE,cw,bf,aW,b7,cL,aj,aI,aC,be,bh,bJ,bo,bU,cx,dv,aw,cd,cQ,mh,da,bH,ak,aZ,cT,cF,aP,bX,aR,bN,bS,tA,cY,ae,ar,aU,tN,hlt,nj,oC,hcl,Yr,hln,hge,aN]
  refine W.cond (t:=false) (by simp only [aj,ah,ae,cT,cF]) (W.skip ?_)
  simp only [aN]
  refine W.sreg ?_
  unfold J6
  simp only [az,aA,dH,aB,dI,ah,dx,cz,bI,gQ,aE,aJ,bf,dJ,b7,ec,aj,aI,aC,bJ,bU,eI,aw,di,fU,ak,bZ,cT,cF,aP,aK,aQ,cut,cI,bA,aR,bN,eP,bT,cq,bS,tA,aM,cY,ae,ar,bt,bR,dB,aU,cP,bQ,dT,nj,oC,l0,nF,hia,Obj.val,Obj.cells,eI]
  refine W.ret ⟨rfl,.inr rfl,?_⟩
  rw [hob]
  exact Si (o:=o) rfl (by simp only [ah,ae,cT,cF]) (by simp only [bI,bS,cT];rfl) (by simp only [ah,ae,cT,cF])
end
def rO:Sp
 | [u,.str id]=>(jW u).bind fun l=>some (qI (aX id l))
 |_=>none
theorem tz {v:ai} {l:List Obj} (h:bu 6 Obj.val v l) (hg: ∀o∈l,o.Good) (hs:l.length<small) (id:ax):rO [.agg [v],.str id]=some (qI (aX id l)):=by
 simp only [rO,nU h hg hs,ak]
theorem TG:lD.Good:=(uz (v:=lD.val) (by kernel_rfl)).2
theorem XM (h:bq bE) {q:Option Obj} (hg: ∀o,q=some o→o.Good):jB h (qI q) (qI q):=by
 refine⟨6,?_⟩
 cases q with
 |none=>
  show((dZ (cR h 5) [lD.val,.bool false])).bind (fun r=>some (ai.tup r))=_
  have h1:cR h 5 lD.val=some lD.val:=CB h TG 1
  have h2:cR h 5 (.bool false)=some (.bool false):=rfl
  simp only [dZ,h1,h2,ak,qI]
 |some o=>
  show((dZ (cR h 5) [o.val,.bool true])).bind (fun r=>some (ai.tup r))=_
  have h1:cR h 5 o.val=some o.val:=CB h (hg o rfl) 1
  have h2:cR h 5 (.bool true)=some (.bool true):=rfl
  simp only [dZ,h1,h2,ak,qI]
def Bd:eE:=[(18,uW)]
theorem TY:fV Bd:=.cons Xj .nil
theorem HV:eD Tryz.prog 14 rO:=by
 intro args x hv G h w xs wr hx
 unfold rO at hv
 split at hv
 ·rename_i u id
  simp only [aF,a7] at hv
  obtain⟨l,h1,rfl⟩:=hv
  obtain⟨v,rfl,hl,hg,hs⟩:=lJ h1
  obtain⟨t1,v',w1,hl'⟩:=lZ hl hg
  have hw:dU [.agg [v],.str id]=[.agg [v'],.str id]:=by simp only [dU,w1];rfl
  exact gJ (Q:=QT Bd) (gD TY) (fun _=>gL 1) (args:=[.agg [v],.str id]) (v:=qI (aX id l)) (s':=s0) (by simp only [jy,t1];rfl) (by rw [hw];exact XN (sp:=fun f=>eY f Bd) rfl rfl hl' hg hs id s0) rfl (XM _ fun o ho=>hg o (ku ho).1) G h w xs wr hx
 ·cases hv
theorem BB (a b:Bool):fR Tryz.prog .eql 4 (.bool a) (.bool b)=some (.bool (a==b)):=by kernel_rfl
def hJ (q:Option Obj):Obj:=q.getD lD
theorem CD (q:Option Obj):qI q= .tup [(hJ q).val,.bool q.isSome]:=by cases q<;>rfl
theorem z6 {q:Option Obj} (hg: ∀o,q=some o→o.Good):(hJ q).Good:=by
 cases q with
 |none=>exact TG
 |some o=>exact hg o rfl
section
variable {sp:FuncId→Option (List ai→Option ai)}
theorem aky (h15:sp 15=none) (h14:sp 14=some rO) (h16:sp 16=some ow) {v u:ai} {l r:List Obj} (hl:bu 6 Obj.val v l) (hg: ∀o∈l,o.Good) (hs:l.length<small) (hr:bu 6 Obj.val u r) (hg2: ∀o∈r,o.Good) (hs2:r.length<small) (id:ax) (s:St):br (QS sp) 15 [.agg [v],.agg [u],.str id] s (.bool (cN (aX id l) (aX id r))) s:=by
 have hcl:=hl.clean
 have hcr:=hr.clean
 have f1:=tz hl hg hs id
 have f2:=tz hr hg2 hs2 id
 rw [CD] at f1 f2
 have g1:(hJ (aX id l)).Good:=z6 fun o ho=>hg o (ku ho).1
 have g2:(hJ (aX id r)).Good:=z6 fun o ho=>hg2 o (ku ho).1
 have hos:=E7 g1 g2
 simp only [Obj.val,Obj.cells] at hos f1 f2
 have ce: ∀(v:ai) {n:Nat} {α:Type} {enc:α→ai} {l:List α},bu n enc v l→v.cells=[v]:=fun v n α enc l h=>by rcases h with⟨rfl,_⟩|⟨r,rfl⟩<;>rfl
 refine br.of2 aca ab9 acd acb h15 ?_
 unfold J7
 refine W.sreg ?_
 unfold J8
 simp only [dg,cM,az,aA,aB,ah,dx,cz,aJ,ja,aj,aI,aC,eM,aw,bH,di,ak,bZ,cT,cF,bX,aK,aQ,bS,tA,aM,ae,ar,bt,bR,bQ,dT,Yu,Yv,ofValue,fk]
 refine W.sreg ?_
 unfold J9
 simp only [az,aA,dH,aB,dI,ah,dx,cz,bI,gQ,aE,aJ,fH,bf,dJ,ii,dc,db,aj,aC,be,bh,eM,bU,aw,bH,di,fU,ak,cu,bZ,cT,cF,aP,bX,dt,aK,aQ,cut,cI,bA,aR,bT,cq,bS,tA,aM,ae,ar,bt,bR,dB,aU,cP,bQ,dT,gj,nG,nF,Yw,h14,f1,gu,fe,jI]
 refine W.sreg ?_
 unfold Ka
 simp only [az,aA,dH,aB,dI,ah,dx,cz,bI,gQ,aE,aJ,fH,bf,dJ,ii,dc,db,aj,aC,be,bh,eM,bU,aw,bH,di,fU,ak,cu,bZ,cT,cF,aP,bX,dt,aK,aQ,cut,cI,bA,aR,bT,cq,bS,tA,aM,ae,ar,bt,bR,dB,aU,cP,bQ,dT,gj,nG,nF,Yx,h14,f2,gu,fe,jI]
 refine W.sreg ?_
 unfold Kb
 have hres:cN (aX id l) (aX id r)=((aX id l).isSome==(aX id r).isSome&&kx (hJ (aX id l)) (hJ (aX id r))):=by
  cases aX id l<;>cases aX id r
  ·rfl
  ·rfl
  ·rfl
  ·simp [cN,hJ]
 cases hz:(aX id l).isSome==(aX id r).isSome with
 |false=>
  simp only [az,aA,cJ,aB,ee,ia,ah,aE,aJ,cw,aW,aj,aI,aC,bJ,cx,dv,aw,ak,ei,cT,cF,aP,bS,tA,ae,ar,BB,hz]
  refine W.ret ⟨rfl,.inr rfl,cp ?_ rfl⟩
  simp only [ah,ae,cT,cF]
  rw [hres,hz];rfl
 |true=>
  simp only [az,aA,cJ,aB,dz,eA,ah,bI,aE,aJ,cw,bf,aW,dc,db,aj,aI,aC,be,bh,bJ,bU,cx,dy,aw,ak,ei,bZ,cT,cF,aP,dt,aK,aQ,cut,bA,aR,bS,tA,aM,ae,ar,bt,aU,BB,hz,l0,h16,hos]
  refine W.ret ⟨rfl,.inr rfl,cp ?_ rfl⟩
  simp only [ah,ae,cT,cF]
  rw [hres,hz];rfl
end
def vU:Sp
 | [u,v,.str id]=>(jW u).bind fun l=>(jW v).bind fun r=>some (.bool (cN (aX id l) (aX id r)))
 |_=>none
theorem qY {v u:ai} {l r:List Obj} (hl:bu 6 Obj.val v l) (hg: ∀o∈l,o.Good) (hs:l.length<small) (hr:bu 6 Obj.val u r) (hg2: ∀o∈r,o.Good) (hs2:r.length<small) (id:ax):vU [.agg [v],.agg [u],.str id]=some (.bool (cN (aX id l) (aX id r))):=by
 simp only [vU,nU hl hg hs,nU hr hg2 hs2,ak]
def Be:eE:=[(14,rO),(16,ow)]
theorem T6:fV Be:=.cons HV (.cons Ah .nil)
theorem akx:eD Tryz.prog 15 vU:=by
 intro args x hv G h w xs wr hx
 unfold vU at hv
 split at hv
 ·rename_i u1 u2 id
  simp only [aF,a7] at hv
  obtain⟨l,h1,r,h2,rfl⟩:=hv
  obtain⟨v,rfl,hl,hg,hs⟩:=lJ h1
  obtain⟨u,rfl,hr,hg2,hs2⟩:=lJ h2
  obtain⟨t1,v',w1,hl'⟩:=lZ hl hg
  obtain⟨t2,u',w2,hr'⟩:=lZ hr hg2
  have hw:dU [.agg [v],.agg [u],.str id]=[.agg [v'],.agg [u'],.str id]:=by simp only [dU,w1,w2];rfl
  exact gJ (Q:=QT Be) (gD T6) (fun _=>gL 1) (args:=[.agg [v],.agg [u],.str id]) (v:=.bool (cN (aX id l) (aX id r))) (s':=s0) (by simp only [jy,t1,t2];rfl) (by rw [hw];exact aky (sp:=fun f=>eY f Be) rfl rfl rfl hl' hg hs hr' hg2 hs2 id s0) rfl ⟨1,rfl⟩ G h w xs wr hx
 ·cases hv
def gZ (id what:ax) (c:Cf):Bool:=c.1==id&&(what== []||c.2==what)
section
variable {sp:FuncId→Option (List ai→Option ai)}
theorem VZ {v:ai} {l:List Cf} (hl:bu 2 de v l) (hs:l.length≤1000000) {id what:ax} {s:St}: ∀(rest pre:List Cf) (e:bc) (lc:Ag.Loc),l=pre++rest→
 aq e 0=v→aq e 1= .str id→aq e 2= .str what→aq e 7= .int .i64 (pre.length:Nat)→
 W (QS sp) 17 (.loop xb) ⟨e,34,lc⟩ s fun x fr s'=>s'=s∧fr.size=34∧((x= .exit 0∧rest.any (gZ id what)=false)∨(x= .ret∧rest.any (gZ id what)=true∧aq fr.env 6= .bool true)):=by
 intro rest
 have hcl:=hl.clean
 have hln:=fun mk s=>hl.len ahs ahr mk s
 induction rest with
 |nil=>
  intro pre e lc hpre h0 h1 h2 h7
  have hll:l.length=pre.length:=by rw [hpre];simp
  refine W.loop1 ?_
  unfold xb
  refine W.seq (W.seq (W.reg ?_))
  unfold Dc
  simp only [az,aA,aB,ah,aE,aW,cL,aj,aC,be,bh,aw,cd,cQ,da,bH,ak,aZ,cT,cF,aP,bX,cZ,bS,tA,ae,ar,aU,decide_false,h0,h7,hcl,H3,hln,hll,fL,aN]
  refine W.cond (t:=false) (by simp only [aj,ah,ae,cT,cF]) ?_
  exact W.exit ⟨rfl,rfl,.inl ⟨rfl,rfl⟩⟩
 |cons c rest ih=>
  intro pre e lc hpre h0 h1 h2 h7
  obtain⟨a,w⟩:=c
  have hlt:pre.length<l.length:=by rw [hpre];simp
  have hat:l[pre.length]? =some (a,w):=by rw [hpre];simp
  have hia:=fun lc=>hl.at aal hat lc .i64
  have hwr:IntKind.i64.wrap ((pre.length:Int)+1)=((pre.length+1:Nat):Int):=by rw [eC (by omega) (by omega)];omega
  have hce:(de (a,w)).cells=[.str a,.str w]:=rfl
  refine W.loop1 ?_
  unfold xb
  refine W.seq (W.seq (W.reg ?_))
  unfold Dc
  simp only [az,aA,aB,ah,aE,aW,cL,aj,aC,be,bh,aw,cd,cQ,da,bH,ak,aZ,cT,cF,aP,bX,cZ,bS,tA,ae,ar,aU,dT,h0,h7,hcl,H3,hln,hlt,aN]
  refine W.cond (t:=true) (by simp only [aj,ah,ae,cT,cF]) (W.skip ?_)
  simp only [aN]
  have tail: ∀(e1:bc) (b:Bool) (KK:Ex→Fr→St→Prop),aq e1 33= .bool b→(b=true→ ∀e',aq e' 6= .bool true→KK .ret ⟨e',34,lc⟩ s)→(b=false→KK .normal ⟨e1,34,lc⟩ s)→W (QS sp) 17 (.cond (Operand.tmp 33) (.seq (.region De) .ret) .skip) ⟨e1,34,lc⟩ s KK:=by
   intro e1 b KK h33 ht hf
   cases b with
   |true=>
    refine W.cond (t:=true) (by rw [aj,h33]) (W.sreg ?_)
    unfold De
    simp only [az,aA,aB,aJ,aI,bJ,aw,tA,ar]
    exact W.ret (ht rfl _ (by simp only [ah,ae,cT]))
   |false=>exact W.cond (t:=false) (by rw [aj,h33]) (W.skip (hf rfl))
  have hyes:gZ id what (a,w)=true→((a,w)::rest).any (gZ id what)=true:=fun h=>by rw [List.any_cons,h];rfl
  have hno:gZ id what (a,w)=false→((a,w)::rest).any (gZ id what)=rest.any (gZ id what):=fun h=>by rw [List.any_cons,h];rfl
  have next: ∀e1:bc,gZ id what (a,w)=false→aq e1 0=v→aq e1 1= .str id→aq e1 2= .str what→aq e1 7= .int .i64 ((pre.length+1:Nat):Int)→
   W (QS sp) 17 (.loop xb) ⟨e1,34,lc⟩ s fun x fr s'=>s'=s∧fr.size=34∧((x= .exit 0∧((a,w)::rest).any (gZ id what)=false)∨(x= .ret∧((a,w)::rest).any (gZ id what)=true∧aq fr.env 6= .bool true)):=by
   intro e1 hc g0 g1 g2 g7
   rw [hno hc]
   exact ih (pre++[(a,w)]) e1 lc (by rw [hpre];simp) g0 g1 g2 (by rw [g7,dn];rfl)
  refine W.seq (W.block (W.sreg ?_))
  unfold Ki
  cases hid:a==id with
  |false=>
   have hc:gZ id what (a,w)=false:=by simp only [gZ,hid,Bool.false_and]
   simp only [az,aA,cJ,aB,ee,ia,x6,ah,aE,cw,bf,aW,b7,ec,aj,aI,aC,bJ,eI,cx,dv,aw,iJ,ak,cu,cT,cF,aP,aR,bN,bS,tA,ae,ar,h0,h1,h7,hia,hce,yI,dD,eI,hid]
   refine tail _ false _ (by simp only [ah,ae,cT,cF]) (fun h=>by cases h) (fun _=>?_)
   simp only [dS,aN]
   refine W.reg ?_
   unfold Dd
   simp only [az,aA,aB,ah,aE,aJ,aW,aj,aI,aC,bo,aw,d8,ak,aZ,cT,cF,aP,bS,tA,ae,ar,h7,hwr,aN]
   refine next _ hc ?_ ?_ ?_ ?_
   ·simp only [ah,ae,cF,h0]
   ·simp only [ah,ae,cF,h1]
   ·simp only [ah,ae,cF,h2]
   ·simp only [ah,ae,cT,cF]
  |true=>
   cases hw:what== [] with
   |true=>
    have hc:gZ id what (a,w)=true:=by simp only [gZ,hid,hw,Bool.true_or,gK]
    simp only [az,aA,cJ,aB,dz,ee,eA,iG,ah,aE,cw,bf,aW,b7,ec,aj,aI,aC,bJ,hQ,eI,cx,dy,aw,iJ,ak,cu,cT,cF,aP,aR,bN,bS,tA,ae,ar,h0,h1,h2,h7,hia,hce,yI,dD,eI,hid,hw]
    refine tail _ true _ (by simp only [ah,ae,cT,cF]) (fun _ e' h6=>⟨rfl,rfl,.inr ⟨rfl,hyes hc,h6⟩⟩) (fun h=>by cases h)
   |false=>
    cases hww:w==what with
    |true=>
     have hc:gZ id what (a,w)=true:=by simp only [gZ,hid,hww,Bool.or_true,gK]
     simp only [az,aA,cJ,aB,dz,eA,e7,ah,aE,cw,bf,aW,b7,ec,aj,aI,aC,bJ,hQ,eI,cx,dy,dv,aw,iJ,ak,cu,cT,cF,aP,aR,bN,bS,tA,ae,ar,h0,h1,h2,h7,hia,hce,yI,Hu,dD,eI,hid,hw,hww]
     refine tail _ true _ (by simp only [ah,ae,cT,cF]) (fun _ e' h6=>⟨rfl,rfl,.inr ⟨rfl,hyes hc,h6⟩⟩) (fun h=>by cases h)
    |false=>
     have hc:gZ id what (a,w)=false:=by simp only [gZ,hid,hw,hww,Bool.or_self,Bool.and_false]
     simp only [az,aA,cJ,aB,dz,eA,e7,ah,aE,cw,bf,aW,b7,ec,aj,aI,aC,bJ,hQ,eI,cx,dy,dv,aw,iJ,ak,cu,cT,cF,aP,aR,bN,bS,tA,ae,ar,h0,h1,h2,h7,hia,hce,yI,Hu,dD,eI,hid,hw,hww]
     refine tail _ false _ (by simp only [ah,ae,cT,cF]) (fun h=>by cases h) (fun _=>?_)
     simp only [dS,aN]
     refine W.reg ?_
     unfold Dd
     simp only [az,aA,aB,ah,aE,aJ,aW,aj,aI,aC,bo,aw,d8,ak,aZ,cT,cF,aP,bS,tA,ae,ar,h7,hwr,aN]
     refine next _ hc ?_ ?_ ?_ ?_
     ·simp only [ah,ae,cF,h0]
     ·simp only [ah,ae,cF,h1]
     ·simp only [ah,ae,cF,h2]
     ·simp only [ah,ae,cT,cF]
theorem V0 (h17:sp 17=none) {v:ai} {l:List Cf} (hl:bu 2 de v l) (hs:l.length≤1000000) (id what:ax) (s:St):br (QS sp) 17 [v,.str id,.str what] s (.bool (l.any (gZ id what))) s:=by
 have hcl:=hl.clean
 refine br.of2 acj aci acl ack h17 ?_
 unfold Kf
 refine W.sreg ?_
 unfold Kg
 simp only [dg,cM,az,aA,aB,aJ,aI,aw,cT,aK,aQ,tA,aM,ar,bt,bR,bQ,dT,ofValue,fk]
 refine W.seq (W.seq (W.reg ?_))
 unfold Kh
 simp only [az,aA,aB,aJ,aI,bo,aw,tA,ar,aN]
 refine W.block ?_
 refine(VZ (id:=id) (what:=what) hl hs l [] _ _ rfl ?_ ?_ ?_ ?_).mono ?_
 ·simp only [ah,ae,cT,cF]
 ·simp only [ah,ae,cT,cF]
 ·simp only [ah,ae,cT,cF]
 ·simp only [ah,ae,cT,cF];rfl
 rintro x fr s' ⟨rfl,hz,⟨rfl,hf⟩|⟨rfl,hf,h6⟩⟩
 ·obtain⟨e',z,lc'⟩:=fr
  have hz:z=34:=hz
  subst hz
  show W (QS sp) 17 _ _ _ _
  refine W.sreg ?_
  unfold Kj
  simp only [az,aA,aB,aJ,aI,aw,tA,ar,ofValue,fk]
  refine W.ret ⟨rfl,.inr rfl,cp ?_ rfl⟩
  simp only [ah,ae,cT,hf]
 ·exact⟨rfl,.inr rfl,cp (by rw [h6,hf]) rfl⟩
end
end Go.Proofs.YtbfmdojdemckbaaGreat
