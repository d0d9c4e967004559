/- Contracts of object.Valid and atlas.Valid. -/
import Derived.Test.YtbfmdojdemckbaaGreatZ3
namespace Go.Proofs.YtbfmdojdemckbaaGreat
open _root_.Bool renaming and_eq_true→cU,and_false→uf,and_self→gK,and_true→dB,false_and→pB,false_or→jz,not_false→ff,not_true→dP,true_and→iP
open _root_.List renaming append_nil→im,cons_append→cq,drop_succ_cons→gl,drop→aR,head?_cons→bN,length_append→dn,length_cons→aK,length_nil→aQ,mem_of_getElem?→nK,nil_append→bT,take_succ_cons→eP,take→bA
open _root_.Nat renaming add_zero→cY,ble_eq_true_of_le→ew,blt→bP,le_of_ble_eq_true→io,lt_irrefl→fL,reduceAdd→bt,reduceBEq→ae,reduceLT→ar,reduceLeDiff→bR,zero_add→aM,zero_lt_succ→gL
open _root_.Option renaming bind_eq_some_iff→aF,bind_some→ak
open _root_.Option.some renaming injEq→a7
open Go.Ag
def wf (kind:Int) (last:ax) (seen:List ax) (r:ax):Bool:=((bL kind 2&&(r==last))||(bL kind 3&&seen.contains r))|| !jF r
structure kW (s:St) (o:Obj) (po pl ps m:Nat) (last:ax) (seen:List ax):Prop where
 ho:s.get [] po=some (.cells o.cells)
 hl:s.get [] pl=some (.cells [.str last])
 hs:s.get [] ps=some (.cells [.map m])
 hm:s.get [] m=some (.map (cK 0 (qe seen)) (qe seen).length)
 d1:(pl==m)=false
 d2:(po==m)=false
 d3:(po==pl)=false
 d4:(ps==m)=false
 d5:(ps==pl)=false
 d6:(m==pl)=false
noncomputable def kW.next (s:St) (pl m:Nat) (seen:List ax) (r:ax):St:=(s.put m (some (.map (cK 0 (qe (rz r seen))) (qe (rz r seen)).length))).put pl (some (.cells [.str r]))
theorem kW.after {s:St} {o:Obj} {po pl ps m:Nat} {last:ax} {seen:List ax} (c:kW s o po pl ps m last seen) (r:ax):kW (kW.next s pl m seen r) o po pl ps m r (rz r seen):=by
 refine⟨?_,?_,?_,?_,c.d1,c.d2,c.d3,c.d4,c.d5,c.d6⟩<;>simp only [kW.next,cD,c.d1,c.d2,c.d3,c.d4,c.d5,c.d6,bS,cT,cF,c.ho,c.hs]
section
variable {sp:FuncId→Option (List ai→Option ai)} (h94:sp 58=some pX)
include h94
theorem al7 (h97:sp 61=none) {s:St} {o:Obj} {po pl ps m:Nat} {last:ax} {seen:List ax} (c:kW s o po pl ps m last seen) {r:ax} (hr:r.length<small):
 br (QS sp) 61 [.str r,.ptr po 0,.ptr pl 0,.ptr ps 0] s (.bool (wf o.kind last seen r)) (kW.next s pl m seen r):=by
 have hns:=ER hr
 have hlk:=EA rK Rz ame c.hm r
 rw [ahZ] at hlk
 have hup:=x4 rK Rz c.hm r (.bool true)
 rw [Io] at hup
 have ho:=c.ho
 have hl:=c.hl
 have hs:=c.hs
 have d1:=c.d1
 refine br.of2 afy afx afA afz h97 ?_
 unfold OL
 refine W.sreg ?_
 unfold OM
 simp only [dg,cM,az,aA,aB,aJ,aI,bJ,aw,cT,aK,aQ,tA,aM,ar,bt,bR,bQ,dT]
 refine W.sreg ?_
 unfold ON
 have two: ∀e b,aq e 0= .str r→aq e 1= .ptr po 0→aq e 2= .ptr pl 0→aq e 3= .ptr ps 0→aq e 6= .bool b→b=((bL o.kind 2&&(r==last))||(bL o.kind 3&&seen.contains r))→W (QS sp) 61 (.seq (.region DQ) (.seq (.region DR) .ret)) ⟨e,34,[]⟩ s fun x fr' s1=>s1=kW.next s pl m seen r∧(x= .normal∨x= .ret)∧ ∃vs,gh (QS sp) [] fr' s1 [.tmp 5]=some vs∧jw vs= .bool (wf o.kind last seen r):=by
  intro e b h0 h1 h2 h3 h6 hb
  refine W.sreg ?_
  unfold DQ
  simp only [az,aA,dH,aB,dI,ah,aE,bf,dJ,tL,aj,aI,aC,bJ,aw,tU,kF,ak,ei,cu,fZ,cT,cF,aP,aK,aQ,cI,bA,aR,bN,gl,bT,im,bS,tA,aM,ae,ar,bR,dB,aU,cP,bQ,dT,Fd,FH,dl,dj,j7,j6,cD,h0,h2,h3,hs,hl,hup,d1]
  refine W.sreg ?_
  unfold DR
  cases b with
  |true=>
   simp only [az,aA,cJ,aB,ee,iG,ah,aE,aJ,cw,aj,aI,bJ,cx,dy,aw,ak,cT,cF,bS,tA,ae,ar,h6]
   refine W.ret ⟨rfl,.inr rfl,cp ?_ rfl⟩
   simp only [ah,ae,cT,cF, *]
   simp only [wf,←hb,Bool.true_or]
  |false=>
   simp only [az,aA,cJ,aB,dz,e7,ah,aE,aJ,cw,eW,dc,db,aj,aI,aC,be,bh,bJ,cx,dv,aw,eZ,ak,ei,cu,cT,cF,dt,bS,tA,ae,ar,h0,h6,h94,hns]
   refine W.ret ⟨rfl,.inr rfl,cp ?_ rfl⟩
   simp only [ah,ae,cT,cF, *]
   simp only [wf,←hb,jz]
 cases hk2:bL o.kind 2 with
 |true=>
  cases he:r==last with
  |true=>
   simp only [az,aA,cJ,aB,dz,ee,eA,iG,x6,ah,aE,aJ,cw,bf,aW,b7,aj,aI,aC,bJ,bo,cx,dy,aw,jr,iJ,ak,aZ,cu,cT,cF,aP,aR,bN,bS,tA,aM,ae,ar,fT,dD,li,dl,dj,ho,hl,Obj.cells,hk2,he]
   refine two _ true ?_ ?_ ?_ ?_ ?_ (by simp only [hk2,he,gK,Bool.true_or])<;>simp only [ah,ae,cT,cF, *]
  |false=>
   cases hk3:bL o.kind 3 with
   |true=>
    simp only [az,aA,cJ,aB,dz,eA,e7,ah,aE,aJ,cw,bf,aW,b7,lp,aj,aI,aC,bJ,bo,cx,dy,dv,aw,jr,iJ,ak,aZ,cu,fZ,cT,cF,aP,aR,bN,bS,tA,aM,ae,ar,fT,dD,Fd,li,dl,dj,ho,hs,hl,Obj.cells,hk2,he,hk3,hlk]
    refine two _ (seen.contains r) ?_ ?_ ?_ ?_ ?_ (by simp only [hk2,he,hk3,uf,jz,iP])<;>simp only [ah,ae,cT,cF, *]
   |false=>
    simp only [az,aA,cJ,aB,dz,ee,eA,ia,e7,ah,aE,aJ,cw,bf,aW,b7,aj,aI,aC,bJ,bo,cx,dy,dv,aw,jr,iJ,ak,aZ,cu,cT,cF,aP,aR,bN,bS,tA,aM,ae,ar,fT,dD,li,dl,dj,ho,hl,Obj.cells,hk2,he,hk3]
    refine two _ false ?_ ?_ ?_ ?_ ?_ (by simp only [hk2,he,hk3,uf,jz,pB])<;>simp only [ah,ae,cT,cF, *]
 |false=>
  cases hk3:bL o.kind 3 with
  |true=>
   simp only [az,aA,cJ,aB,dz,ee,eA,ia,e7,ah,aE,aJ,cw,bf,aW,b7,lp,aj,aI,aC,bJ,bo,cx,dy,dv,aw,jr,ak,aZ,cu,fZ,cT,cF,aP,aR,bN,bS,tA,aM,ae,ar,fT,Fd,li,dl,dj,ho,hs,Obj.cells,hk2,hk3,hlk]
   refine two _ (seen.contains r) ?_ ?_ ?_ ?_ ?_ (by simp only [hk2,hk3,pB,jz,iP])<;>simp only [ah,ae,cT,cF, *]
  |false=>
   simp only [az,aA,cJ,aB,dz,ee,ia,e7,ah,aE,aJ,cw,bf,aW,b7,aj,aI,aC,bJ,bo,cx,dv,aw,jr,ak,aZ,cT,cF,aP,aR,bN,bS,tA,aM,ae,ar,fT,li,dl,dj,ho,Obj.cells,hk2,hk3]
   refine two _ false ?_ ?_ ?_ ?_ ?_ (by simp only [hk2,hk3,jz,pB])<;>simp only [ah,ae,cT,cF, *]
end
theorem br.ofEx {Q:ck} {f:FuncId} {fn:Func} {sc:SC} {n:Nat} {rs:List ResultVar} {args:List ai} {s:St} {R:ai→St→Prop} (hf:Q.P.funcs[f]? =some fn) (hc:fn.body.map cy=some sc) (hn:fn.ntmps=n) (hr:fn.results.toList=rs) (hsp:Q.spec f=none)
 (h:W Q f sc (dg n args) s fun x fr' s1=>(x= .normal∨x= .ret)∧ ∃v,(∃vs,gh Q [] fr' s1 rs=some vs∧jw vs=v)∧R v s1) (hH:Q.specH f=none:=by rfl) (hW:Q.specW f=none:=by rfl): ∃v s',br Q f args s v s'∧R v s':=by
 obtain⟨x,fr',s1,h1,h2,v,h3,h4⟩:=h
 exact⟨v,s1,br.of2 hf hc hn hr hsp ⟨x,fr',s1,h1,rfl,h2,h3⟩ hH hW,h4⟩
def pJ (kind:Int):ax→List ax→List ax→Bool
 |_,_,[]=>false
 |last,seen,r::rs=>wf kind last seen r||pJ kind r (rz r seen) rs
def uG (po pl ps:Nat):ai:=.func (.func 61) [] [.ptr po 0,.ptr pl 0,.ptr ps 0]
theorem GW (po pl ps:Nat):(uG po pl ps).clean=true:=rfl
section
variable {sp:FuncId→Option (List ai→Option ai)} (h94:sp 58=some pX) (h97:sp 61=none)
include h94 h97
theorem aas {v:ai} {l:List ax} (hl:bu 1 bp v l) (hk: ∀r∈l,r.length<small) (hsmall:l.length<small) {o:Obj} {po pl ps m:Nat}: ∀(rest pre:List ax) (e:bc) (lc:Ag.Loc) (s:St) (last:ax) (seen:List ax),l=pre++rest→kW s o po pl ps m last seen→
 aq e 0=v→aq e 1=uG po pl ps→aq e 7= .int .i64 (l.length:Nat)→aq e 8= .int .i64 (pre.length:Nat)→
 W (QS sp) 90 (.loop zF) ⟨e,19,lc⟩ s fun x fr s'=>(∃last' seen',kW s' o po pl ps m last' seen')∧s'.ci=s.ci∧fr.size=19∧((x= .exit 0∧pJ o.kind last seen rest=false)∨(x= .ret∧(∃i:Nat,aq fr.env 4= .int .i64 (i:Int))∧pJ o.kind last seen rest=true)):=by
 intro rest
 induction rest with
 |nil=>
  intro pre e lc s last seen hpre c h0 h1 h7 h8
  have hlen:l.length=pre.length:=by rw [hpre];simp
  refine W.loop1 ?_
  unfold zF
  refine W.sreg ?_
  unfold Ei
  simp only [az,aA,aB,aW,aj,aC,aw,cQ,ak,aZ,cT,aP,cZ,tA,ar,decide_false,h7,h8,hlen,fL]
  refine W.seq (W.cond (t:=false) (by simp only [aj,ah,ae,cT, *]) ?_)
  exact W.exit ⟨⟨last,seen,c⟩,rfl,rfl,.inl ⟨rfl,rfl⟩⟩
 |cons r rest ih=>
  intro pre e lc s last seen hpre c h0 h1 h7 h8
  have hlt:pre.length<l.length:=by rw [hpre];simp
  have hat:l[pre.length]? =some r:=by rw [hpre];simp
  have hia:=fun lc=>hl.at mp hat lc .i64
  have hcl:=hl.clean
  have hr:=hk r (nK hat)
  have hsm:small=9223372036854775808:=rfl
  have hwr:IntKind.i64.wrap ((pre.length:Int)+1)=((pre.length+1:Nat):Int):=by rw [eC (by omega) (by omega)];omega
  refine W.loop1 ?_
  unfold zF
  refine W.sreg ?_
  unfold Ei
  simp only [az,aA,aB,aW,aj,aC,aw,cQ,ak,aZ,cT,aP,cZ,tA,ar,dT,h7,h8,hlt]
  refine W.seq (W.cond (t:=true) (by simp only [aj,ah,ae,cT, *]) (W.skip ?_))
  refine W.seq (W.block ?_)
  refine W.sreg ?_
  unfold Qf
  simp only [az,aA,aB,ah,aE,aJ,aj,aw,cT,cF,bS,tA,ae,ar,h8]
  refine W.seq (W.region (fD 5 ?_))
  unfold Qg
  simp only [az,aA,aB,ah,aE,bf,ec,aj,eI,aw,kF,ak,cT,cF,aP,bA,aR,bN,bS,tA,ae,ar,dD,h0,h1,hia,bp]
  refine fQ (g:=61) (args:=[.str r,.ptr po 0,.ptr pl 0,.ptr ps 0]) ?_ (al7 h94 h97 c hr) (by decide) ?_
  ·simp only [callee,uG,ah,aj,aC,be,bh,ak,cu,cT,cF,bT,cq,bS,ae]
  refine fP ?_
  simp only [az,aN]
  cases hw:wf o.kind last seen r with
  |true=>
   refine W.cond (t:=true) (by simp only [aj,ah,ae,cT,cF]) (W.sreg ?_)
   unfold Qh
   simp only [az,aA,aB,ah,aE,aJ,aj,aw,cT,cF,bS,tA,ae,ar]
   refine W.ret ⟨⟨_,_,c.after r⟩,rfl,rfl,.inr ⟨rfl,⟨pre.length,?_⟩,by simp [pJ,hw]⟩⟩
   simp only [ah,ae,cT,cF, *]
  |false=>
   refine W.cond (t:=false) (by simp only [aj,ah,ae,cT,cF]) (W.skip ?_)
   simp only [dS,aN]
   refine W.reg ?_
   unfold Qi
   simp only [az,aA,aB,ah,aE,aW,aj,aI,aC,bo,aw,d8,ak,aZ,cT,cF,aP,bS,tA,ae,ar,h8,hwr,aN]
   refine(ih (pre++[r]) _ _ _ r (rz r seen) (by rw [hpre];simp) (c.after r) (by simp only [ah,ae,cF, *]) (by simp only [ah,ae,cF, *]) (by simp only [ah,ae,cF, *]) (by simp only [ah,ae,cT,cF,dn,aK,aQ])).mono ?_
   simp only [pJ,hw,jz]
   exact fun _ _ _ h=>h
theorem aat (h157:sp 90=none) {v:ai} {l:List ax} (hl:bu 1 bp v l) (hk: ∀r∈l,r.length<small) (hsmall:l.length<small) {o:Obj} {po pl ps m:Nat} {s:St} {last:ax} {seen:List ax} (c:kW s o po pl ps m last seen):
 ∃u s',br (QS sp) 90 [v,uG po pl ps] s u s'∧((∃last' seen',kW s' o po pl ps m last' seen')∧s'.ci=s.ci∧ ∃z:Int,u= .int .i64 z∧ig 0 z=pJ o.kind last seen l):=by
 have hlen:=fun mk s=>hl.len iT jl mk s
 have hcl:=hl.clean
 refine br.ofEx agL agK agN agM h157 ?_
 unfold Qc
 refine W.sreg ?_
 unfold Qd
 simp only [dg,cM,az,aA,aB,aJ,aI,bo,aw,cT,aK,aQ,tA,aM,ar,bt,bR,bQ,dT]
 refine W.seq (W.sreg ?_)
 unfold Qe
 simp only [az,aA,aB,ah,aE,cL,aj,aI,aC,be,bh,bo,aw,cd,da,bH,ak,cT,cF,aP,bX,bS,tA,ae,ar,aU,hcl,hlen]
 refine W.block ?_
 refine(aas h94 h97 hl hk hsmall l [] _ _ s last seen rfl c (by simp only [ah,ae,cT,cF, *]) (by simp only [ah,ae,cT,cF, *]) (by simp only [ah,ae,cT,cF, *]) (by simp only [ah,ae,cT,cF];rfl)).mono ?_
 rintro x ⟨e,sz,lc⟩ s' ⟨hc,hci,hs,⟨rfl,hok⟩|⟨rfl,⟨i,h4⟩,hok⟩⟩
 ·have hs:sz=19:=hs
  subst hs
  show W (QS sp) 90 _ _ _ _
  refine W.sreg ?_
  unfold Qj
  simp only [az,aA,aB,aJ,aI,bo,aw,tA,ar]
  refine W.ret ⟨.inr rfl,.int .i64 (-1),cp ?_ rfl,hc,hci, -1,rfl,by rw [hok];rfl⟩
  simp only [ah,ae,cT, *]
 ·exact⟨.inr rfl,.int .i64 i,cp h4 rfl,hc,hci,i,rfl,by rw [hok];simp [ig]⟩
theorem XV (h157:sp 90=none) (h98:sp 62=none) {v:ai} {l:List ax} (hl:bu 1 bp v l) (hk: ∀r∈l,r.length<small) (hsmall:l.length<small) {o:Obj} {po pl ps m:Nat} {s:St} {last:ax} {seen:List ax} (c:kW s o po pl ps m last seen):
 ∃u s',br (QS sp) 62 [v,uG po pl ps] s u s'∧((∃last' seen',kW s' o po pl ps m last' seen')∧s'.ci=s.ci∧u= .bool (pJ o.kind last seen l)):=by
 obtain⟨u,s1,hr,hc,hci,z,rfl,hz⟩:=aat h94 h97 h157 hl hk hsmall c
 have hcl:=hl.clean
 refine br.ofEx afC afB afE afD h98 ?_
 unfold OO
 refine W.sreg ?_
 unfold OP
 simp only [dg,cM,az,aA,aB,aJ,aI,bJ,aw,cT,aK,aQ,tA,aM,ar,bt,bR,bQ,dT]
 refine W.seq (W.region (fD 2 ?_))
 unfold OQ
 simp only [az,aA,aB,ah,aE,aj,aw,cT,cF,bA,aR,bS,tA,ae,ar]
 refine fQ (g:=90) ?_ hr (by decide) ?_
 ·simp only [callee,hcl,GW,ah,aj,eH,aC,be,bh,ak,cT,cF,bT,cq,bS,ae]
 refine fP ?_
 simp only [az,aA,aB,ah,aJ,aW,aj,aI,aC,bo,aw,mh,ak,aZ,cT,cF,aP,bS,tA,ae,ar,hz,aN]
 refine W.ret ⟨.inr rfl,_,cp (v:=.bool (pJ o.kind last seen l)) ?_ rfl,hc,hci,rfl⟩
 simp only [ah,ae,cT,cF, *]
end
def pP (o:Obj):Bool:=(lC o.kind== [])|| !jF o.id|| !iv o.tags||decide (o.refs.length<pT o.kind)||decide (2000<o.refs.length)
def ya (o:Obj):Bool:=bL o.x 0&&bL o.y 0
def iB (o:Obj):Bool:=bif pP o then false else bif pJ o.kind [] [] o.refs then false else bif bL o.kind 1 then(o.refs.length==0)&&pg o.x o.y else bif bL o.kind 5 then(o.refs.length==3)&&ya o else ya o
theorem Us (P:Program) (t:TypeId) (a b:List ai):fR P .eql t (.agg a) (.agg b)=(rI P t (.agg a) (.agg b)).bind fun b=>some (.bool b):=rfl
theorem Ut (P:Program) (t:TypeId) (a b:List ai):fR P .neq t (.agg a) (.agg b)=(rI P t (.agg a) (.agg b)).bind fun b=>some (.bool !b):=rfl
theorem pm (a b c d:Int):fR Tryz.prog .eql 36 (.agg [.int .i64 a,.int .i64 b]) (.agg [.int .i64 c,.int .i64 d])=some (.bool (bif bL a c then bif bL b d then true else false else false)):=by
 have h:rI Tryz.prog 36 (.agg [.int .i64 a,.int .i64 b]) (.agg [.int .i64 c,.int .i64 d])=(some (bL a c)).bind fun r=>bif r then(some (bL b d)).bind fun r=>bif r then some true else some false else some false:=by kernel_rfl
 rw [Us,h]
 cases bL a c<;>cases bL b d<;>rfl
theorem R3 (a b:Int):(bif bL a 0 then bif bL b 0 then true else false else false)=(bL a 0&&bL b 0):=by
 cases bL a 0<;>cases bL b 0<;>rfl
theorem alW {k:Int} (h:(lC k== [])=false):(ig 0 k&&du k 6)=true:=by
 by_cases h1:0≤k∧k<6
 ·simp [ig,du,h1.1,h1.2]
 ·have hw:lC k=[]:=by
   simp only [lC,pQ (show k≠1 by omega),pQ (show k≠2 by omega),pQ (show k≠3 by omega),pQ (show k≠4 by omega),pQ (show k≠5 by omega),cF]
  rw [hw] at h;cases h
theorem u0 (s:St) (mk:bj) (n:Nat):s.top.get mk n=s.get mk n:=rfl
theorem ahg {k:Int} (h:(ig 0 k&&du k 6)=true):vh [.int .i64 k]=some (.int .i64 (pT k:Nat)):=by
 simp only [vh,h,cT]
section
variable {sp:FuncId→Option (List ai→Option ai)} (h93:sp 57=some x8) (h94:sp 58=some pX) (h95:sp 59=some pu) (h96:sp 60=some vh) (h99:sp 63=some xG) (h97:sp 61=none) (h98:sp 62=none) (h157:sp 90=none)
include h93 h94 h95 h96 h99 h97 h98 h157
theorem aiK (h48:sp 36=none) {o:Obj} (ho:o.Ok): ∃v s',br (QS sp) 36 [o.val] s0 v s'∧(v= .bool (iB o)∧s'.ci=0):=by
 have hns:=ER ho.id
 have hts:=S8 ho.tags ho.taglen ho.key
 have hws:x8 [.int .i64 o.kind]=some (.str (lC o.kind)):=rfl
 have hlen:=fun mk s=>ho.refs.len iT jl mk s
 have hcr:=ho.refs.clean
 have hct:=ho.tags.clean
 refine br.ofEx adX adW adZ adY h48 ?_
 unfold MF
 refine W.sreg ?_
 unfold MG
 simp only [dg,cM,az,aA,aB,ah,aJ,ja,aj,aI,aC,bJ,iA,aw,bH,di,ak,bZ,cT,bX,aK,aQ,bS,tA,aM,ar,bR,bQ,dT,YU,Obj.val]
 have hn0:s0.next=0:=rfl
 have hs1: ∃s1,s0.new (.cells o.cells)=s1∧s1.get [] 0=some (.cells o.cells)∧s1.minw≤s1.next∧s1.next=1∧s1.ci=0:=⟨_,rfl,by rw [cW];rfl,Nat.zero_le _,rfl,rfl⟩
 obtain⟨s1,e1,g1,m1,n1,c1⟩:=hs1
 rw [e1,hn0]
 refine W.seq (W.sdrawQ m1 ?_)
 have fin: ∀e lc,aq e 36= .bool true→W (QS sp) 36 (.cond (Operand.tmp 36) (.seq (.region Dz) .ret) .skip) ⟨e,72,lc⟩ s1 fun x fr s'=>x= .ret∧s'=s1∧aq fr.env 2= .bool false:=by
  intro e lc h
  refine W.cond (t:=true) (by simp only [aj,h]) (W.sreg ?_)
  unfold Dz
  simp only [az,aA,aB,aJ,aI,bJ,aw,tA,ar]
  exact W.ret ⟨rfl,rfl,by simp only [ah,ae,cT, *]⟩
 unfold MH
 cases hb1:lC o.kind== [] with
 |true=>
  simp only [fh,fg,nT,fu,sJ,isStore,iG,ah,aE,cw,bf,aW,b7,dc,db,aj,aI,aC,be,bh,bJ,hQ,cx,dy,aw,iJ,ak,aZ,cu,cT,cF,aP,dt,aR,bN,bS,tA,aM,ae,ar,fT,li,dl,dj,u0,g1,Obj.cells,h93,hws,hb1]
  refine(fin _ _ ?_).mono ?_
  ·simp only [ah,ae,cT,cF, *]
  ·rintro x fr s' ⟨rfl,rfl,h⟩
   exact⟨.inr rfl,_,cp h rfl,by simp [iB,pP,hb1],c1⟩
 |false=>
 have hk:=alW hb1
 have hls:=ahg hk
 cases hb2:jF o.id with
 |false=>
  simp only [fh,fg,nT,fu,qi,sJ,isStore,iG,e7,ah,aE,cw,bf,aW,eW,b7,dc,db,aj,aI,aC,be,bh,bJ,hQ,cx,dy,dv,aw,iJ,eZ,ak,ei,aZ,cu,cT,cF,aP,dt,aR,bN,ff,bS,tA,aM,cY,ae,ar,fT,dD,qD,li,dl,dj,u0,g1,Obj.cells,h93,hws,hb1,h94,hns,hb2]
  refine(fin _ _ ?_).mono ?_
  ·simp only [ah,ae,cT,cF, *]
  ·rintro x fr s' ⟨rfl,rfl,h⟩
   exact⟨.inr rfl,_,cp h rfl,by simp [iB,pP,hb2],c1⟩
 |true=>
 cases hb3:iv o.tags with
 |false=>
  simp only [fh,fg,nT,fu,qi,sJ,isStore,iG,e7,ah,aE,cw,bf,aW,eW,b7,dc,db,aj,aI,aC,be,bh,bJ,hQ,cx,dy,dv,aw,iJ,eZ,ak,ei,aZ,cu,cT,cF,aP,dt,aR,bN,dP,ff,bS,tA,aM,cY,ae,ar,fT,dD,mD,qD,li,tn,dl,dj,u0,g1,Obj.cells,h93,hws,hb1,h94,hns,hb2,h95,hts,hct,hb3]
  refine(fin _ _ ?_).mono ?_
  ·simp only [ah,ae,cT,cF, *]
  ·rintro x fr s' ⟨rfl,rfl,h⟩
   exact⟨.inr rfl,_,cp h rfl,by simp [iB,pP,hb3],c1⟩
 |true=>
 cases hb4:decide (o.refs.length<pT o.kind) with
 |true=>
  simp only [fh,fg,nT,fu,qi,sJ,isStore,iG,e7,ah,aE,cw,bf,aW,eW,b7,cL,dc,db,aj,aI,aC,be,bh,bJ,hQ,cx,dy,dv,aw,cd,cQ,iJ,eZ,da,bH,ak,ei,aZ,cu,cT,cF,aP,bX,dt,aR,bN,cZ,dP,bS,tA,aM,cY,ae,ar,aU,fT,dD,iE,mD,qD,li,lP,tn,dl,dj,u0,g1,Obj.cells,h93,hws,hb1,h94,hns,hb2,h95,hts,hct,hb3,hcr,hlen,h96,hls,hb4]
  refine(fin _ _ ?_).mono ?_
  ·simp only [ah,ae,cT,cF, *]
  ·rintro x fr s' ⟨rfl,rfl,h⟩
   exact⟨.inr rfl,_,cp h rfl,by simp [iB,pP,hb4],c1⟩
 |false=>
 have hil:du 2000 (o.refs.length:Nat)=decide (2000<o.refs.length):=cZ 2000 _
 cases hb5:decide (2000<o.refs.length) with
 |true=>
  simp only [fh,fg,nT,fu,qi,isStore,e7,ah,aE,cw,bf,aW,eW,b7,cL,dc,db,aj,aI,aC,be,bh,bJ,bo,hQ,cx,dv,aw,cd,cQ,lL,iJ,eZ,da,bH,ak,ei,aZ,cu,cT,cF,aP,bX,dt,aR,bN,cZ,dP,bS,tA,aM,cY,ae,ar,aU,fT,dD,iE,mD,qD,li,lP,tn,dl,dj,u0,g1,Obj.cells,h93,hws,hb1,h94,hns,hb2,h95,hts,hct,hb3,hcr,hlen,h96,hls,hb4,hil,hb5]
  refine(fin _ _ ?_).mono ?_
  ·simp only [ah,ae,cT,cF, *]
  ·rintro x fr s' ⟨rfl,rfl,h⟩
   exact⟨.inr rfl,_,cp h rfl,by simp [iB,pP,hb5],c1⟩
 |false=>
 have hgood:pP o=false:=by simp only [pP,hb1,hb2,hb3,hb4,hb5];rfl
 simp only [fh,fg,nT,fu,qi,isStore,e7,ah,aE,cw,bf,aW,eW,b7,cL,dc,db,aj,aI,aC,be,bh,bJ,bo,hQ,cx,dv,aw,cd,cQ,lL,iJ,eZ,da,bH,ak,ei,aZ,cu,cT,cF,aP,bX,dt,aR,bN,cZ,dP,bS,tA,aM,cY,ae,ar,aU,fT,dD,iE,mD,qD,li,lP,tn,dl,dj,u0,g1,Obj.cells,h93,hws,hb1,h94,hns,hb2,h95,hts,hct,hb3,hcr,hlen,h96,hls,hb4,hil,hb5]
 refine W.cond (t:=false) (by simp only [aj,ah,ae,cT,cF, *]) (W.skip ?_)
 simp only [aN]
 refine W.sreg ?_
 unfold MO
 simp only [az,aA,dH,aB,dI,ah,fH,dJ,vH,aj,aC,iA,cd,bH,ak,fZ,cT,cF,aP,bX,aK,aQ,cI,bA,aR,gl,bT,im,bS,tA,aM,ae,ar,bt,bR,dB,aU,cP,bQ,dT,ak3,al8,YV,lX,j7,cW,i9,n1,j6,ai.cells]
 refine W.sreg ?_
 unfold MP
 simp only [az,aA,dH,aB,dI,ah,fH,dJ,aj,aI,aC,hQ,iA,bH,kF,ak,cu,cT,cF,aP,bX,aK,aQ,cI,bA,aR,gl,bT,im,bS,tA,aM,ae,ar,bt,bR,dB,aU,cP,bQ,dT,FH,amh,YW,j7,cW,cD,i9,o9,n1,j6]
 refine W.sreg ?_
 unfold MQ
 simp only [az,aA,aB,ah,aJ,vG,aj,aC,be,bh,aw,ak,dM,cT,cF,bS,tA,ae,ar,oe]
 have hs2: ∃s2,((((s1.new (.map [] 0)).new (.cells [.nilm])).put 2 (some (.cells [.map 1]))).new (.cells [.str []])).put 3 (some (.cells [.str []]))=s2∧kW s2 o 0 3 2 1 [] []∧s2.ci=0:=by
  refine⟨_,rfl,⟨?_,?_,?_,?_,rfl,rfl,rfl,rfl,rfl,rfl⟩,c1⟩<;>simp only [cW,cD,i9,o9,n1,g1,ae,bt,cT,cF]<;>rfl
 obtain⟨s2,e2,hclo,c2⟩:=hs2
 rw [e2]
 obtain⟨u,s3,hr,⟨last3,seen3,c3⟩,hci3,rfl⟩:=XV h94 h97 h157 h98 ho.refs ho.ref ho.reflen hclo
 have g2:=hclo.ho
 have g3:=c3.ho
 have hci3:s3.ci=0:=hci3.trans c2
 have harg:ai.func (.func 61) [] [.ptr 0 0,.ptr 3 0,.ptr 2 0]=uG 0 3 2:=rfl
 rw [harg]
 refine W.seq (W.seq (W.region (fD 3 ?_)))
 unfold MR
 simp only [az,aA,aB,ah,aE,bf,b7,aj,aw,ak,cT,cF,aP,bA,aR,bN,bS,tA,aM,ae,ar,iE,lP,dl,dj,g2,Obj.cells]
 refine fQ (g:=62) ?_ hr (by decide) ?_
 ·simp only [db,hcr,GW,ah,db,aj,aC,be,bh,ak,cT,cF,bS,ae]
 refine fP ?_
 simp only [az,aN]
 cases hw:pJ o.kind [] [] o.refs with
 |true=>
  refine W.cond (t:=true) (by simp only [aj,ah,ae,cT,cF]) (W.sreg ?_)
  unfold MS
  simp only [az,aA,aB,aJ,aI,bJ,aw,tA,ar]
  refine W.ret ⟨.inr rfl,_,cp (v:=.bool false) ?_ rfl,?_,hci3⟩
  ·simp only [ah,ae,cT,cF, *]
  ·simp [iB,hgood,hw]
 |false=>
 refine W.cond (t:=false) (by simp only [aj,ah,ae,cT,cF]) (W.skip ?_)
 simp only [aN]
 refine W.seq (W.sreg ?_)
 unfold MT
 simp only [az,aA,aB,ah,bf,b7,aj,aw,ak,cT,cF,aP,aR,bN,bS,tA,aM,ae,ar,fT,li,dl,dj,g3,Obj.cells]
 refine W.block (W.sreg ?_)
 unfold MU
 simp only [az,aA,aB,ah,aJ,aW,aj,aI,aC,bo,aw,jr,ak,aZ,cT,cF,aP,bS,tA,ae,ar]
 have e0:bL (o.refs.length:Int) 0=(o.refs.length==0):=qJ _ 0
 have e3:bL (o.refs.length:Int) 3=(o.refs.length==3):=qJ _ 3
 cases hk1:bL o.kind 1 with
 |true=>
  refine W.cond (t:=true) (by simp only [aj,ah,ae,cT,cF, *]) (W.sreg ?_)
  unfold MI
  have hon:xG [.agg [.int .i64 o.x,.int .i64 o.y]]=some (.bool (pg o.x o.y)):=rfl
  cases hz:o.refs.length==0 with
  |true=>
   simp only [az,aA,cJ,aB,dz,eA,ah,aE,aJ,cw,bf,aW,b7,cL,dc,db,aj,aI,aC,be,bh,bJ,bo,cx,dy,aw,cd,jr,da,bH,ak,aZ,bZ,cT,cF,aP,bX,dt,aK,aQ,cut,bA,aR,bN,eP,bS,tA,aM,ae,ar,bt,aU,iE,jb,uS,lP,dl,dj,g3,Obj.cells,hcr,hlen,e0,hz,h99,hon]
   refine W.ret ⟨.inr rfl,_,cp (v:=.bool (pg o.x o.y)) ?_ rfl,?_,hci3⟩
   ·simp only [ah,ae,cT,cF, *]
   ·simp [iB,hgood,hw,hk1,hz]
  |false=>
   simp only [az,aA,cJ,aB,ee,ia,ah,aE,aJ,cw,bf,aW,b7,cL,aj,aI,aC,be,bh,bJ,bo,cx,dv,aw,cd,jr,da,bH,ak,aZ,cT,cF,aP,bX,aR,bN,bS,tA,aM,ae,ar,aU,iE,lP,dl,dj,g3,Obj.cells,hcr,hlen,e0,hz]
   refine W.ret ⟨.inr rfl,_,cp (v:=.bool false) ?_ rfl,?_,hci3⟩
   ·simp only [ah,ae,cT,cF, *]
   ·simp [iB,hgood,hw,hk1,hz]
 |false=>
  refine W.cond (t:=false) (by simp only [aj,ah,ae,cT,cF, *]) (W.sreg ?_)
  unfold MJ
  simp only [az,aA,aB,ah,aJ,aW,aj,aI,aC,bo,aw,jr,ak,aZ,cT,cF,aP,bS,tA,ae,ar]
  cases hk5:bL o.kind 5 with
  |true=>
   refine W.cond (t:=true) (by simp only [aj,ah,ae,cT,cF, *]) (W.sreg ?_)
   unfold MM
   cases hz:o.refs.length==3 with
   |true=>
    simp only [az,aA,cJ,aB,dz,eA,ah,aE,aJ,cw,kL,bf,aW,b7,cL,aj,aI,aC,be,bh,bJ,bo,cx,dy,aw,cd,jr,da,bH,di,ak,aZ,bZ,cT,cF,aP,bX,aK,aQ,cut,bA,aR,bN,eP,bS,tA,aM,ae,ar,bt,aU,GF,iE,jb,wg,uS,lP,dl,dj,g3,Obj.cells,hcr,hlen,e3,hz,dL,pm,R3]
    refine W.ret ⟨.inr rfl,_,cp (v:=.bool (bL o.x 0&&bL o.y 0)) ?_ rfl,?_,hci3⟩
    ·simp only [ah,ae,cT,cF, *]
    ·simp [iB,hgood,hw,hk1,hk5,hz,ya]
   |false=>
    simp only [az,aA,cJ,aB,ee,ia,ah,aE,aJ,cw,bf,aW,b7,cL,aj,aI,aC,be,bh,bJ,bo,cx,dv,aw,cd,jr,da,bH,ak,aZ,cT,cF,aP,bX,aR,bN,bS,tA,aM,ae,ar,aU,iE,lP,dl,dj,g3,Obj.cells,hcr,hlen,e3,hz]
    refine W.ret ⟨.inr rfl,_,cp (v:=.bool false) ?_ rfl,?_,hci3⟩
    ·simp only [ah,ae,cT,cF, *]
    ·simp [iB,hgood,hw,hk1,hk5,hz]
  |false=>
   refine W.cond (t:=false) (by simp only [aj,ah,ae,cT,cF, *]) (W.skip ?_)
   simp only [dS,aN]
   refine W.sreg ?_
   unfold MN
   simp only [az,aA,aB,ah,aJ,kL,bf,aW,b7,aj,aC,aw,di,ak,bZ,cT,cF,aP,aK,aQ,cut,bA,aR,eP,bS,tA,aM,ae,ar,bt,aU,GF,jb,wg,uS,dl,dj,g3,Obj.cells,dL,pm,R3]
   refine W.ret ⟨.inr rfl,_,cp (v:=.bool (bL o.x 0&&bL o.y 0)) ?_ rfl,?_,hci3⟩
   ·simp only [ah,ae,cT,cF, *]
   ·simp [iB,hgood,hw,hk1,hk5,ya]
end
def vZ:List ax→Bool
 | []=>true
 |t::l=>bP t.length small&&vZ l
theorem SL: ∀ {l:List ax},vZ l=true→ ∀t∈l,t.length<small
 | [],_,_,h=>by cases h
 |a::l,h,t,ht=>by
  simp only [vZ,cU] at h
  rcases List.mem_cons.1 ht with rfl|ht
  ·exact io h.1
  ·exact SL h.2 t ht
theorem SM: ∀ {l:List ax},(∀t∈l,t.length<small)→vZ l=true
 | [],_=>rfl
 |a::l,h=>by
  simp only [vZ,cU]
  exact⟨ew (h a (by simp)),SM fun t ht=>h t (by simp [ht])⟩
def zV (id:ax) (k x y:Int) (rv tv:ai) (rs:List ax) (ts:List cH):Option Obj:=
 bif bM rv&&bM tv&&bP id.length small&&bP rs.length small&&vZ rs&&bP ts.length small&&qf ts then some ⟨id,k,x,y,rv,tv,rs,ts⟩ else none
def nV:ai→Option Obj
 | .agg [.str id,.int .i64 k,.int .i64 x,.int .i64 y,rv,tv]=>(gN 1 kZ rv).bind fun rs=>(gN 2 nY tv).bind fun ts=>zV id k x y rv tv rs ts
 |_=>none
structure Obj.Good (o:Obj):Prop extends o.Ok where
 pr:bM o.refsV=true
 pt:bM o.tagsV=true
theorem uz {v:ai} {o:Obj} (h:nV v=some o):v=o.val∧o.Good:=by
 unfold nV at h
 split at h
 ·simp only [aF] at h
  obtain⟨rs,h1,ts,h2,h⟩:=h
  unfold zV at h
  obtain⟨h3,h⟩:=bW h
  simp only [cU] at h3
  obtain⟨⟨⟨⟨⟨⟨p1,p2⟩,p3⟩,p4⟩,p5⟩,p6⟩,p7⟩:=h3
  injection h with h
  subst h
  exact⟨rfl,⟨⟨iX (fun v a=>nW) h1,iX (fun v a=>rB) h2,io p3,io p4,SL p5,io p6,v6 p7⟩,p1,p2⟩⟩
 ·cases h
theorem yz {o:Obj} (h:o.Good):nV o.val=some o:=by
 show((gN 1 kZ o.refsV).bind fun rs=>(gN 2 nY o.tagsV).bind fun ts=>zV o.id o.kind o.x o.y o.refsV o.tagsV rs ts)=_
 rw [jE nX h.refs,ak,jE rC h.tags,ak]
 unfold zV
 have q1:bP o.id.length small=true:=ew h.id
 have q2:bP o.refs.length small=true:=ew h.reflen
 have q3:bP o.tags.length small=true:=ew h.taglen
 rw [h.pr,h.pt,q1,q2,q3,SM h.ref,v7 h.key]
 rfl
theorem Obj.Good.pure {o:Obj} (h:o.Good):bM o.val=true:=by
 simp only [Obj.val,Obj.cells,bM,pures,h.pr,h.pt,gK]
mutual
theorem alz: ∀ {v:ai},bM v=true→jd v=true
 | .agg cs,h=>by simp only [jd];exact kB (by simpa only [bM] using h)
 | .tup cs,h=>by simp only [jd];exact kB (by simpa only [bM] using h)
 | .list _ xs r,h=>by
   simp only [bM,cU] at h
   simp only [jd];exact h.1
 | .bool _,_=>rfl
 | .int _ _,_=>rfl
 | .str _,_=>rfl
 | .nilp,_=>rfl
 | .ptr _ _,h=>by simp [bM] at h
 | .lref _ _ _,h=>by simp [bM] at h
 | .ro cs,h=>by simpa only [jd] using h
 | .nils,_=>rfl
 | .arr _ _ _ _ _,h=>by simp [bM] at h
 | .nilm,_=>rfl
 | .map _,h=>by simp [bM] at h
 | .nilf,_=>rfl
 | .func _ _ _,h=>by simpa only [jd] using h
 | .nili,_=>rfl
 | .iface _ _,h=>by simpa only [jd] using h
theorem kB: ∀ {l:List ai},pures l=true→jy l=true
 | [],_=>rfl
 |v::l,h=>by
  simp only [pures,cU] at h
  simp only [jy,alz h.1,kB h.2,gK]
end
def qU:Sp
 | [v]=>(nV v).bind fun o=>some (.bool (iB o))
 |_=>none
theorem RI {o:Obj} (h:o.Good):qU [o.val]=some (.bool (iB o)):=by
 show(nV o.val).bind _=_
 rw [yz h];rfl
theorem RJ:eD Tryz.prog 36 qU:=by
 intro args u hv G h w xs wr hx
 unfold qU at hv
 split at hv
 ·rename_i v
  simp only [aF,a7] at hv
  obtain⟨o,ho,rfl⟩:=hv
  obtain⟨rfl,hg⟩:=uz ho
  obtain⟨v,s',hr,rfl,hci⟩:=aiK (sp:=fun f=>eY f T4) rfl rfl rfl rfl rfl rfl rfl rfl rfl hg.toOk
  have hw:dU [o.val]=[o.val]:=iw (by simp only [pures,hg.pure,gK])
  refine gJ (Q:=QT T4) (gD Gi) (fun _=>gL 1) (args:=[o.val]) (v:=.bool (iB o)) (s':=s') ?_ (by rw [hw];exact hr) hci ⟨1,rfl⟩ G h w xs wr hx
  exact kB (by simp only [pures,hg.pure,gK])
 ·cases hv
def pf:ax→List Obj→Bool
 |_,[]=>true
 |last,o::r=>bif !iB o||Ag.leBytes o.id last then false else pf o.id r
def j4 (l:List Obj):Bool:=pf [] l&&decide (l.length≤1000000)
section
variable {sp:FuncId→Option (List ai→Option ai)} (h48:sp 36=some qU)
include h48
theorem ah2 {v:ai} {l:List Obj} (hl:bu 6 Obj.val v l) (hk: ∀o∈l,o.Good) (hsmall:l.length<small) {s:St}: ∀(rest pre:List Obj) (e:bc) (lc:Ag.Loc) (last:ax),l=pre++rest→
 aq e 1= .lref 1 1 0→lc.gen 1=1→lc.get 1 1=some [v]→aq e 7=v→aq e 8= .int .i64 (l.length:Nat)→aq e 9= .int .i64 (pre.length:Nat)→aq e 3= .str last→
 W (QS sp) 13 (.loop y7) ⟨e,29,lc⟩ s fun x fr s'=>s'=s∧fr.size=29∧((x= .exit 0∧aq fr.env 1= .lref 1 1 0∧fr.loc.gen 1=1∧fr.loc.get 1 1=some [v]∧pf last rest=true)∨(x= .ret∧aq fr.env 2= .bool false∧pf last rest=false)):=by
 intro rest
 induction rest with
 |nil=>
  intro pre e lc last hpre h1 hg hb h7 h8 h9 h3
  have hlen:l.length=pre.length:=by rw [hpre];simp
  refine W.loop1 ?_
  unfold y7
  refine W.sreg ?_
  unfold Da
  simp only [az,aA,aB,aW,aj,aC,aw,cQ,ak,aZ,cT,aP,cZ,tA,ar,decide_false,h8,h9,hlen,fL]
  refine W.seq (W.cond (t:=false) (by simp only [aj,ah,ae,cT, *]) ?_)
  refine W.exit ⟨rfl,rfl,.inl ⟨rfl,?_,hg,hb,rfl⟩⟩
  simp only [ah,ae,cF, *]
 |cons o rest ih=>
  intro pre e lc last hpre h1 hg hb h7 h8 h9 h3
  have hlt:pre.length<l.length:=by rw [hpre];simp
  have hat:l[pre.length]? =some o:=by rw [hpre];simp
  have hia:=fun lc=>hl.at wZ hat lc .i64
  have hcl:=hl.clean
  have hos:=RI (hk o (nK hat))
  have hsm:small=9223372036854775808:=rfl
  have hwr:IntKind.i64.wrap ((pre.length:Int)+1)=((pre.length+1:Nat):Int):=by rw [eC (by omega) (by omega)];omega
  simp only [Obj.val,Obj.cells] at hos
  refine W.loop1 ?_
  unfold y7
  refine W.sreg ?_
  unfold Da
  simp only [az,aA,aB,aW,aj,aC,aw,cQ,ak,aZ,cT,aP,cZ,tA,ar,dT,h8,h9,hlt]
  refine W.seq (W.cond (t:=true) (by simp only [aj,ah,ae,cT, *]) (W.skip ?_))
  simp only [aN]
  refine W.seq (W.block ?_)
  refine W.sreg ?_
  unfold JW
  simp only [az,aA,dH,aB,dI,ah,bI,gQ,fH,bf,dJ,ec,aj,aC,eM,eI,aw,bH,di,fU,ak,bZ,cT,cF,aP,bX,aK,aQ,cut,cI,bA,aR,eP,bT,cq,bS,tA,aM,ae,ar,bt,bR,dB,aU,cP,bQ,dT,l0,nF,nG,Yq,h7,h9,hia,Obj.val,Obj.cells]
  refine W.seq (W.sreg ?_)
  unfold JX
  have fin: ∀e' lc',aq e' 21= .bool true→W (QS sp) 13 (.cond (Operand.tmp 21) (.seq (.region Db) .ret) .skip) ⟨e',29,lc'⟩ s fun x fr s'=>x= .ret∧s'=s∧fr.size=29∧aq fr.env 2= .bool false:=by
   intro e' lc' h
   refine W.cond (t:=true) (by simp only [aj,h]) (W.sreg ?_)
   unfold Db
   simp only [az,aA,aB,aJ,aI,bJ,aw,tA,ar]
   exact W.ret ⟨rfl,rfl,rfl,by simp only [ah,ae,cT, *]⟩
  cases hb1:iB o with
  |false=>
   simp only [az,aA,cJ,aB,ee,iG,ah,bI,aE,cw,bf,eW,dc,db,aj,aI,aC,be,bh,bJ,bU,cx,dy,aw,eZ,ak,ei,bZ,cT,cF,aP,dt,aK,aQ,cut,bA,aR,ff,bS,tA,aM,ae,ar,bt,aU,l0,h48,hos,hb1]
   refine(fin _ _ ?_).mono ?_
   ·simp only [ah,ae,cT,cF, *]
   ·rintro x fr s' ⟨rfl,rfl,hs,h⟩
    exact⟨rfl,hs,.inr ⟨rfl,h,by simp [pf,hb1]⟩⟩
  |true=>
  cases hb2:Ag.leBytes o.id last with
  |true=>
   simp only [az,aA,cJ,aB,dz,e7,ah,cz,bI,aE,cw,bf,aW,eW,b7,dc,db,aj,aI,aC,be,bh,bJ,bU,cx,dv,aw,uD,eZ,ak,ei,cu,bZ,cT,cF,aP,dt,aK,aQ,cut,bA,aR,bN,dP,bS,tA,aM,cY,ae,ar,bt,aU,dD,l0,oU,h48,hos,hb1,hb2,h3]
   refine(fin _ _ ?_).mono ?_
   ·simp only [ah,ae,cT,cF, *]
   ·rintro x fr s' ⟨rfl,rfl,hs,h⟩
    exact⟨rfl,hs,.inr ⟨rfl,h,by simp [pf,hb2]⟩⟩
  |false=>
   simp only [az,aA,cJ,aB,dz,e7,ah,cz,bI,aE,cw,bf,aW,eW,b7,dc,db,aj,aI,aC,be,bh,bJ,bU,cx,dv,aw,uD,eZ,ak,ei,cu,bZ,cT,cF,aP,dt,aK,aQ,cut,bA,aR,bN,dP,bS,tA,aM,cY,ae,ar,bt,aU,dD,l0,oU,h48,hos,hb1,hb2,h3]
   refine W.cond (t:=false) (by simp only [aj,ah,ae,cT,cF, *]) (W.skip ?_)
   simp only [aN]
   refine W.reg ?_
   unfold JY
   simp only [az,aA,aB,ah,cz,bI,aJ,bf,b7,aj,bU,aw,ak,cT,cF,aP,aR,bN,bS,tA,cY,ae,ar,aU,dD,oU,aN,dS]
   refine W.reg ?_
   unfold JZ
   simp only [az,aA,aB,ah,aE,aW,aj,aI,aC,bo,aw,d8,ak,aZ,cT,cF,aP,bS,tA,ae,ar,h9,hwr,aN]
   refine(ih (pre++[o]) _ _ o.id (by rw [hpre];simp) (by simp only [ah,ae,cF, *]) (by simp only [cz,ae,cF,hg]) (by simp only [bI,ae,cF,hb]) (by simp only [ah,ae,cF, *]) (by simp only [ah,ae,cF, *]) (by simp only [ah,ae,cT,cF,dn,aK,aQ]) (by simp only [ah,ae,cT,cF, *])).mono ?_
   simp only [pf,hb1,hb2,dP,jz,cF]
   exact fun _ _ _ h=>h
theorem ah4 (h23:sp 13=none) {v:ai} {l:List Obj} (hl:bu 6 Obj.val v l) (hk: ∀o∈l,o.Good) (hsmall:l.length<small) (s:St):br (QS sp) 13 [.agg [v]] s (.bool (j4 l)) s:=by
 have hlen:=fun mk s=>hl.len vj vi mk s
 have hcl:=hl.clean
 refine br.of2 ab2 ab1 ab4 ab3 h23 ?_
 unfold JS
 refine W.sreg ?_
 unfold JT
 simp only [dg,cM,az,aA,aB,ah,dx,aJ,ja,aj,aI,aC,bJ,eM,aw,bH,di,ak,bZ,cT,bX,aK,aQ,bS,tA,aM,ar,bR,bQ,dT,Yp]
 refine W.sreg ?_
 unfold JU
 simp only [az,aA,aB,aJ,aI,hQ,aw,tA,ar]
 refine W.seq (W.sreg ?_)
 unfold JV
 simp only [az,aA,aB,ah,dx,cz,bI,aE,bf,b7,cL,aj,aI,aC,be,bh,bo,bU,aw,cd,da,bH,ak,cT,cF,aP,bX,aR,bN,bS,tA,cY,ae,ar,aU,oC,nj,hcl,hlen]
 refine W.block ?_
 refine(ah2 h48 hl hk hsmall l [] _ _ [] rfl (by simp only [ah,ae,cT,cF, *]) (by simp only [dx,cz,ae,cT]) (by simp only [bI,ae,cT]) (by simp only [ah,ae,cT,cF, *]) (by simp only [ah,ae,cT,cF, *]) (by simp only [ah,ae,cT,cF];rfl) (by simp only [ah,ae,cT,cF, *])).mono ?_
 rintro x ⟨e,sz,lc⟩ s' ⟨rfl,hs,⟨rfl,h1,hg,hb,hok⟩|⟨rfl,h2,hok⟩⟩
 ·have hs:sz=29:=hs
  subst hs
  have h1:aq e 1= .lref 1 1 0:=h1
  have hg:lc.gen 1=1:=hg
  have hb:lc.get 1 1=some [v]:=hb
  show W (QS sp) 13 _ _ _ _
  refine W.sreg ?_
  unfold J0
  simp only [az,aA,aB,ah,aJ,bf,aW,b7,cL,aj,aI,aC,be,bh,bo,bU,aw,cd,BC,da,bH,ak,aZ,cT,cF,aP,bX,aR,bN,bS,tA,cY,ae,ar,aU,oC,nj,h1,hg,hb,hcl,hlen]
  refine W.ret ⟨rfl,.inr rfl,cp ?_ rfl⟩
  simp only [ah,ae,cT,cF,j4,hok,iP]
  exact congrArg ai.bool (qK l.length 1000000)
 ·exact⟨rfl,.inr rfl,cp (by rw [h2];simp [j4,hok]) rfl⟩
end
def jW:ai→Option (List Obj)
 | .agg [v]=>(gN 6 nV v).bind fun l=>bif bP l.length small then some l else none
 |_=>none
theorem Ri: ∀ {xs:List ai} {l:List Obj},j3 nV xs=some l→(∀o∈l,o.Good)
 | [],l,h=>by simp only [j3,a7] at h;subst h;intro o ho;cases ho
 |x::xs,l,h=>by
  simp only [j3,aF,a7] at h
  obtain⟨a,h1,r,h2,rfl⟩:=h
  intro o ho
  rcases List.mem_cons.1 ho with rfl|ho
  ·exact(uz h1).2
  ·exact Ri h2 o ho
theorem Rj: ∀ {l:List Obj},(∀o∈l,o.Good)→j3 nV (l.map Obj.val)=some l
 | [],_=>rfl
 |o::l,h=>by
  have ih:=Rj (l:=l) fun o ho=>h o (List.mem_cons_of_mem _ ho)
  simp only [List.map_cons,j3,yz (h o List.mem_cons_self),ak,ih]
theorem lJ {u:ai} {l:List Obj} (h:jW u=some l): ∃v,u= .agg [v]∧bu 6 Obj.val v l∧(∀o∈l,o.Good)∧l.length<small:=by
 unfold jW at h
 split at h
 ·rename_i v
  simp only [aF] at h
  obtain⟨l',h1,h⟩:=h
  obtain⟨h2,h⟩:=bW h
  injection h with h;subst h
  refine⟨v,rfl,iX (fun v a h=>(uz h).1) h1,?_,io h2⟩
  unfold gN at h1
  split at h1
  ·injection h1 with h1;subst h1;intro o ho;cases ho
  ·obtain⟨_,h1⟩:=bW h1
   exact Ri h1
  ·cases h1
 ·cases h
theorem nU {v:ai} {l:List Obj} (h:bu 6 Obj.val v l) (hg: ∀o∈l,o.Good) (hs:l.length<small):jW (.agg [v])=some l:=by
 have:gN 6 nV v=some l:=by
  rcases h with⟨rfl,rfl⟩|⟨r,rfl⟩
  ·rfl
  ·simp only [gN,Rj hg,aU,bS,cT]
 have q:bP l.length small=true:=ew hs
 simp only [jW,this,ak,q,cT]
theorem R5 {l:List Obj} (hg: ∀o∈l,o.Good):pures (l.map Obj.val)=true:=by
 rw [tQ]
 intro v hv
 obtain⟨o,ho,rfl⟩:=List.mem_map.1 hv
 exact(hg o ho).pure
theorem lZ {v:ai} {l:List Obj} (h:bu 6 Obj.val v l) (hg: ∀o∈l,o.Good):jd (.agg [v])=true∧ ∃v',weak (.agg [v])= .agg [v']∧bu 6 Obj.val v' l:=by
 rcases h with⟨rfl,rfl⟩|⟨r,rfl⟩
 ·exact⟨rfl,.nils,rfl,.inl ⟨rfl,rfl⟩⟩
 ·refine⟨by simp only [jd,jy,R5 hg,gK],.list 6 (l.map Obj.val) (match r with| .own _=>.no|r=>r),?_,.inr ⟨_,rfl⟩⟩
  simp only [weak,dU,iw (R5 hg)]
  cases r<;>rfl
def qO:Sp
 | [v]=>(jW v).bind fun l=>some (.bool (j4 l))
 |_=>none
theorem vk {v:ai} {l:List Obj} (h:bu 6 Obj.val v l) (hg: ∀o∈l,o.Good) (hs:l.length<small):qO [.agg [v]]=some (.bool (j4 l)):=by
 simp only [qO,nU h hg hs,ak]
def T5:eE:=(36,qU)::T4
theorem Gj:fV T5:=.cons RJ Gi
theorem EB:eD Tryz.prog 13 qO:=by
 intro args u hv G h w xs wr hx
 unfold qO at hv
 split at hv
 ·rename_i v
  simp only [aF,a7] at hv
  obtain⟨l,hl,rfl⟩:=hv
  obtain⟨v,rfl,hl,hg,hs⟩:=lJ hl
  obtain⟨ht,v',hw,hl'⟩:=lZ hl hg
  have hw:dU [.agg [v]]=[.agg [v']]:=by simp only [dU,hw]
  exact gJ (Q:=QT T5) (gD Gj) (fun _=>gL 1) (args:=[.agg [v]]) (v:=.bool (j4 l)) (s':=s0) (by simp only [jy,ht,gK]) (by rw [hw];exact ah4 (sp:=fun f=>eY f T5) rfl rfl hl' hg hs s0) rfl ⟨1,rfl⟩ G h w xs wr hx
 ·cases hv
end Go.Proofs.YtbfmdojdemckbaaGreat
