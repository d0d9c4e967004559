/- head() returns true; contracts of the laws; MergeNeeds: the plain law, the walk; its arguments as values. -/
import Derived.Test.YtbfmdojdemckbaaGreatM1
import Derived.Test.YtbfmdojdemckbaaGreatHdS
import Derived.ProofKit
open Bool renaming and_eq_true→df,and_self→fL,and_true→dX,false_or→jI,not_eq_false'→pP,not_false→ej,not_true→dg,or_eq_false_iff→mj,true_or→lh
open List renaming cons_append→cP,drop_succ_cons→gZ,drop_zero→nH,drop→aZ,getElem?_cons_succ→lO,getElem?_cons_zero→gj,getElem?_eq_getElem→j2,getElem?_eq_none→jS,getElem?_map→vk,getElem?_of_mem→B6,head?_cons→bE,length_append→dw,length_cons→aR,length_map→fw,length_nil→aY,map_cons→fS,mem_of_getElem?→kE,nil_append→cy,take_succ_cons→e7,take_zero→xf,take→bO
open List.cons renaming injEq→od
open Nat renaming add_zero→cQ,eq_zero_or_pos→uc,le_refl→bK,le_trans→gN,lt_irrefl→ff,lt_or_ge→iJ,reduceAdd→bJ,reduceBEq→ah,reduceLT→ar,reduceLeDiff→ck,zero_add→aQ,zero_lt_succ→fG
open Go.Op renaming bytesLess→iE
open Go.Operand renaming tmp→aa
open Option renaming bind_eq_some_iff→aN,bind_some→aq,getD_some→oh,map_some→rI,none_or→sQ
open Option.some renaming injEq→bp
open Go.Ag.bv renaming of2→dZ
open Go.Ag.W renaming block→cR,cond→bc,exit→eL,loop1→cY,reg→cp,ret→bP,seq→aV,skip→b7,sreg→aF
namespace Go.Proofs.YtbfmdojdemckbaaGreat
open Go.Ag
def u4:aj->aj
 | .agg [.list n xs _]=>.agg [.list n xs .no]
 |v=>v
theorem ap4 {G:Gh} {v:aj} {y:Value} (h:VR G v y):VR G (u4 v) y:=by
 unfold u4
 split
 ·cases h with
  |agg hs hv=>
   cases hv with
   |cons a b=>
    cases b
    cases a with
    |list p1 p2 p3 p4 p5 p6=>exact .agg rfl (.cons (.list p1 p2 p3 p4 p5 trivial) .nil)
 ·exact h
theorem Hl {G:Gh}: ∀ {l:List aj} {ys:List Value},cU G l ys->cU G (l.map u4) ys
 | [],_,.nil=>.nil
 |_::_,_,.cons a b=>.cons (ap4 a) (Hl b)
def Jx (l:List aj):Option aj:=
 bif nQ (oL 9) l a1 then some r1 else bif nQ (oL 9) l a2 then some r2 else bif nQ (oL 9) l a3 then some r3 else bif nQ (oL 9) l a4 then some r4 else none
def DN:Sp:=fun l=>Jx (l.map u4)
def DP:Sp:=fun l=>bif nQ (oL 9) (l.map u4) a5 then some r5 else none
theorem one_pos: ∀i,0<qv [] i 1:=fun _=>Nat.zero_lt_one
theorem abd:ek Tryz.prog 9 DN:=by
 intro args u hv G h w xs wr hx
 have hx:=Hl hx
 unfold DN Jx at hv
 generalize args.map u4=l at hv hx
 cases h1:nQ (oL 9) l a1 with
 |true=>
  rw[h1] at hv
  have h1:=te (fun a b=>vR 9) h1
  subst h1
  injection hv with hv;subst hv
  exact yn a1 r1 m1 G h w xs wr hx
 |false=>
 rw[h1] at hv
 cases h2:nQ (oL 9) l a2 with
 |true=>
  rw[h2] at hv
  have h2:=te (fun a b=>vR 9) h2
  subst h2
  injection hv with hv;subst hv
  exact yn a2 r2 m2 G h w xs wr hx
 |false=>
 rw[h2] at hv
 cases h3:nQ (oL 9) l a3 with
 |true=>
  rw[h3] at hv
  have h3:=te (fun a b=>vR 9) h3
  subst h3
  injection hv with hv;subst hv
  exact yn a3 r3 m3 G h w xs wr hx
 |false=>
 rw[h3] at hv
 cases h4:nQ (oL 9) l a4 with
 |false=>rw[h4] at hv;cases hv
 |true=>
  rw[h4] at hv
  have h4:=te (fun a b=>vR 9) h4
  subst h4
  injection hv with hv;subst hv
  exact yn a4 r4 m4 G h w xs wr hx
theorem abe:ek Tryz.prog 21 DP:=by
 intro args u hv G h w xs wr hx
 have hx:=Hl hx
 unfold DP at hv
 generalize args.map u4=l at hv hx
 obtain⟨h1,hv⟩:=cq hv
 have h1:=te (fun a b=>vR 9) h1
 subst h1
 injection hv with hv;subst hv
 refine Wf Xb (fun i=>?_) (bK 1) m5 (args':=a5) (by kernel_rfl) (by kernel_rfl) G h w xs wr hx
 match i with
 |0=>decide
 |i+1=>exact Nat.zero_lt_one
def HC:fh:=(9,DN)::(21,DP)::HT
theorem Xc:fI HC:=.cons abd (.cons abe Xd)
theorem Z0:vT HC [] [] 3000 7 []=some (.bool true,0):=by kernel_rfl
def zF:Sp
 | []=>some (.bool true)
 |_=>none
theorem abf:ek Tryz.prog 7 zF:=by
 intro args v hv G h w xs wr hx
 cases args with
 |nil=>
  injection hv with hv;subst hv
  exact Wf Xc one_pos (bK 0) (fun c hc=>by cases hc;exact Z0) (args':=[]) rfl rfl G h w xs wr hx
 |cons _ _=>cases hv
def sd (a b c:List Obj):Bool:=bif kM a 20 then bif kM b 20 then kM c 20 else false else false
theorem aap {sp:FuncId->Option (List aj->Option aj)} (h8:sp 8=none) (h22:sp 22=some v7) {va vb vc:aj} {a b c:List Obj} (ha:bH 6 Obj.val va a) (hb:bH 6 Obj.val vb b) (hc:bH 6 Obj.val vc c) (ga: ∀q∈a,q.Good) (gb: ∀q∈b,q.Good) (gc: ∀q∈c,q.Good) (sa:a.length<small) (sb:b.length<small) (sc:c.length<small) (s:St):
 bv (QS sp) 8 [.agg [va],.agg [vb],.agg [vc]] s (.bool (sd a b c)) s:=by
 have ca:=ha.clean
 have cb:=hb.clean
 have cc:=hc.clean
 have fa:=Dl ha ga sa 20
 have fb:=Dl hb gb sb 20
 have fc:=Dl hc gc sc 20
 refine dZ akx akw akz aky h8 ?_
 unfold k8
 refine aF ?_
 unfold Tg
 simp only[dr,cZ,aw,az,aA,ai,dp,cJ,aM,iA,ak,aH,aD,bF,fv,au,bG,dj,aq,cu,cT,cF,bW,aR,aY,bS,tA,aQ,ah,ar,bJ,ck,cd,dT,adt,adu,adv]
 refine aF ?_
 unfold Tk
 cases h1:kM a 20 with
 |false=>
  simp only[aw,az,de,aA,eH,fR,ai,bU,aG,aM,cz,bn,dc,da,ak,aH,aD,bh,bk,bF,bm,bT,cD,du,au,aq,a7,cu,cT,cF,aP,dq,aR,aY,cut,bO,aZ,bS,tA,aQ,ah,ar,aX,iY,h22,fa,h1]
  exact bP ⟨rfl,.inr rfl,bV (by simp only[ai,ah,cT,cF,sd,h1]) rfl⟩
 |true=>
  cases h2:kM b 20 with
  |false=>
   simp only[aw,az,de,aA,dQ,eH,eW,fR,ai,bU,aG,aM,cz,bn,dc,da,ak,aH,aD,bh,bk,bF,bm,bT,cD,dB,du,au,aq,a7,cu,cT,cF,aP,dq,aR,aY,cut,bO,aZ,bS,tA,aQ,ah,ar,aX,iY,h22,fa,h1,fb,h2]
   exact bP ⟨rfl,.inr rfl,bV (by simp only[ai,ah,cT,cF,sd,h1,h2]) rfl⟩
  |true=>
   simp only[aw,az,de,aA,dQ,eW,ai,bU,aG,aM,cz,bn,dc,da,ak,aH,aD,bh,bk,bF,bm,bT,cD,dB,au,aq,a7,cu,cT,cF,aP,dq,aR,aY,cut,bO,aZ,bS,tA,aQ,ah,ar,aX,iY,h22,fa,h1,fb,h2,fc]
   exact bP ⟨rfl,.inr rfl,bV (by simp only[ai,ah,cT,cF,sd,h1,h2]) rfl⟩
def v6:Sp
 | [u,v,w]=>(jK u).bind fun a=>(jK v).bind fun b=>(jK w).bind fun c=>some (.bool (sd a b c))
 |_=>none
theorem aaj {va vb vc:aj} {a b c:List Obj} (ha:bH 6 Obj.val va a) (hb:bH 6 Obj.val vb b) (hc:bH 6 Obj.val vc c) (ga: ∀q∈a,q.Good) (gb: ∀q∈b,q.Good) (gc: ∀q∈c,q.Good) (sa:a.length<small) (sb:b.length<small) (sc:c.length<small):v6 [.agg [va],.agg [vb],.agg [vc]]=some (.bool (sd a b c)):=by
 simp only[v6,mq ha ga sa,mq hb gb sb,mq hc gc sc,aq]
def FT:fh:=[(22,v7)]
theorem Xa:fI FT:=.cons aal .nil
theorem aak:ek Tryz.prog 8 v6:=by
 intro args x hv G h w xs wr hx
 unfold v6 at hv
 split at hv
 ·simp only[aN,bp] at hv
  obtain⟨a,h1,b,h2,c,h3,rfl⟩:=hv
  obtain⟨va,rfl,ha,ga,sa⟩:=kK h1
  obtain⟨vb,rfl,hb,gb,sb⟩:=kK h2
  obtain⟨vc,rfl,hc,gc,sc⟩:=kK h3
  obtain⟨t1,va',w1,ha'⟩:=kS ha ga
  obtain⟨t2,vb',w2,hb'⟩:=kS hb gb
  obtain⟨t3,vc',w3,hc'⟩:=kS hc gc
  have hw:eX [.agg [va],.agg [vb],.agg [vc]]=[.agg [va'],.agg [vb'],.agg [vc']]:=by simp only[eX,w1,w2,w3]
  exact fD (Q:=QT FT) (fB Xa) (fun _=>fG 1) (args:=[.agg [va],.agg [vb],.agg [vc]]) (v:=.bool (sd a b c)) (s':=s0) (by simp only[jv,t1,t2,t3,fL]) (by rw[hw];exact aap (sp:=fun f=>eR f FT) rfl rfl ha' hb' hc' ga gb gc sa sb sc s0) rfl ⟨1,rfl⟩ G h w xs wr hx
 ·cases hv
theorem Dm {l:List Obj} (h:kM l 20=true):l.length<=64:=by
 unfold kM at h
 cases hb:di 20 (l.length:Nat) with
 |true=>rw[hb] at h;cases h
 |false=>
  have: ¬20<l.length:=by
   rw[show(20:Int)=((20:Nat):Int) from rfl,cN] at hb
   exact of_decide_eq_false hb
  omega
section
variable {sp:FuncId->Option (List aj->Option aj)}
theorem Zz (h40:sp 40=none) {s:St} {c:Nat} {id:aB} (hc:s.get [] c=some (.cells [.str id])) (o:Obj):bv (QS sp) 40 [o.val,.ptr c 0] s (.bool (o.id==id)) s:=by
 refine dZ ahS ahR ahU ahT h40 ?_
 unfold Pw
 refine aF ?_
 unfold Px
 simp only[dr,cZ,aw,az,aA,ai,dp,aM,iA,ak,aH,aD,bF,fv,au,bG,dj,aq,cu,cT,cF,bW,aR,aY,bS,tA,aQ,ah,ar,bJ,ck,cd,dT,acs,Obj.val,Obj.cells]
 trace_state
 refine aF ?_
 unfold Py
 simp only[aw,az,aA,ai,dp,cJ,bU,aM,bn,aU,bN,ak,aD,bT,au,jr,aq,cw,cT,cF,aP,aZ,bE,bS,tA,cQ,ah,ar,aX,mF,dv,dH,hc,dG]
 exact bP ⟨rfl,.inr rfl,bV (by simp only[ai,ah,cT,cF]) rfl⟩
theorem adR (h40:sp 40=none) {s:St} {c:Nat} {id:aB} (hc:s.get [] c=some (.cells [.str id])) {v:aj} {l:List Obj} (hl:bH 6 Obj.val v l) (hs:l.length<small): ∀(rest pre:List Obj) (e:bq) (lc:Ag.Loc),l=pre++rest->
 ay e 0=v->ay e 1= .func (.func 40) [] [.ptr c 0]->ay e 7= .int .i64 (l.length:Nat)->ay e 8= .int .i64 (pre.length:Nat)->
 W (QS sp) 39 (.loop Aa) ⟨e,19,lc⟩ s fun x fr s'=>s'=s/\fr.size=19/\((x= .exit 0/\hZ id rest pre.length=none)\/(x= .ret/\ ∃k o,hZ id rest pre.length=some (k,o)/\ay fr.env 4= .int .i64 (k:Nat))):=by
 intro rest
 have hcl:=hl.clean
 have hsm:small=9223372036854775808:=rfl
 induction rest with
 |nil=>
  intro pre e lc hpre h0 h1 h7 h8
  have hl:l.length=pre.length:=by rw[hpre];simp
  refine cY ?_
  unfold Aa
  refine aF ?_
  unfold EK
  simp only[aw,az,aA,aU,ak,aD,au,cE,aq,a7,cT,aP,cN,tA,ar,decide_false,h7,h8,hl,ff]
  refine aV (bc (t:=false) (by simp only[ak,ai,ah,cT]) ?_)
  exact eL ⟨rfl,rfl,.inl ⟨rfl,rfl⟩⟩
 |cons o rest ih=>
  intro pre e lc hpre h0 h1 h7 h8
  have hlt:pre.length<l.length:=by rw[hpre];simp
  have hat:l[pre.length]? =some o:=by rw[hpre];simp
  have hia:=fun lc=>hl.at qg hat lc .i64
  have hrun:=Zz h40 hc o
  simp only[Obj.val,Obj.cells] at hrun
  have hwr:IntKind.i64.wrap ((pre.length:Int)+1)=((pre.length+1:Nat):Int):=by rw[eh (by omega) (by omega)];omega
  refine cY ?_
  unfold Aa
  refine aF ?_
  unfold EK
  simp only[aw,az,aA,aU,ak,aD,au,cE,aq,a7,cT,aP,cN,tA,ar,dT,h7,h8,hlt]
  refine aV (bc (t:=true) (by simp only[ak,ai,ah,cT]) (b7 ?_))
  simp only[aW]
  refine aV (cR (aF ?_))
  unfold Pr
  simp only[aw,az,aA,ai,aG,aM,ak,au,cT,cF,bS,tA,ah,ar,h8]
  refine aV (W.region (gd 5 ?_))
  unfold Ps
  simp only[aw,az,aA,ai,aG,bn,dI,ak,dR,au,dj,aq,cT,cF,aP,aR,aY,cut,bO,aZ,e7,bS,tA,aQ,ah,ar,bJ,aX,kT,h0,h1,hia,Obj.val,Obj.cells,dR]
  refine gq (g:=40) (args:=[.agg [.str o.id,.int .i64 o.kind,.int .i64 o.x,.int .i64 o.y,o.refsV,o.tagsV],.ptr c 0]) ?_ hrun (by decide) ?_
  ·simp only[callee,ai,ak,aD,bh,bk,aq,cu,cT,cF,cy,cP,bS,ah]
  refine gp ?_
  simp only[aw,aW]
  cases hq:o.id==id with
  |true=>
   refine bc (t:=true) (by simp only[ak,ai,ah,cT,cF]) (aF ?_)
   unfold Pt
   simp only[aw,az,aA,ai,aG,aM,ak,au,cT,cF,bS,tA,ah,ar]
   refine bP ⟨rfl,rfl,.inr ⟨rfl,pre.length,o,by simp only[hZ,hq,cT],?_⟩⟩
   simp only[ai,ah,cT,cF]
  |false=>
   refine bc (t:=false) (by simp only[ak,ai,ah,cT,cF]) (b7 ?_)
   simp only[dM,aW]
   refine cp ?_
   unfold Pu
   simp only[aw,az,aA,ai,aG,aU,ak,aH,aD,bm,au,dW,aq,a7,cT,cF,aP,bS,tA,ah,ar,h8,hwr,aW]
   refine(ih (pre++[o]) _ _ (by rw[hpre];simp) ?_ ?_ ?_ ?_).mono ?_
   ·simp only[ai,ah,cF,h0]
   ·simp only[ai,ah,cF,h1]
   ·simp only[ai,ah,cF,h7]
   ·simp only[ai,ah,cT,cF,dw,aR,aY]
   intro x fr s' hx
   rw[dw] at hx
   simp only[hZ,hq,cF]
   exact hx
theorem aaw (h18:sp 18=none) (h39:sp 39=none) (h40:sp 40=none) {v:aj} {l:List Obj} (hl:bH 6 Obj.val v l) (hs:l.length<small) (id:aB) (s:St):bv (QS sp) 18 [.agg [v],.str id] s (.int .i64 (nr (hZ id l 0))) (s.new (.cells [.str id])):=by
 have hcl:=hl.clean
 have hln:=fun mk s=>hl.len qm ql mk s
 have hc:(s.new (.cells [.str id])).get [] s.next=some (.cells [.str id]):=by rw[dy,bS];rfl
 have h: ∃w s',bv (QS sp) 39 [v,.func (.func 40) [] [.ptr s.next 0]] (s.new (.cells [.str id])) w s'/\(w= .int .i64 (nr (hZ id l 0))/\s'=s.new (.cells [.str id])):=by
  refine bv.ofEx ahA ahz ahC ahB h39 ?_
  unfold Po
  refine aF ?_
  unfold Pp
  simp only[dr,cZ,aw,az,aA,aM,aH,bm,au,cT,aR,aY,tA,aQ,ar,bJ,ck,cd,dT]
  refine aV (aV (cp ?_))
  unfold Pq
  simp only[aw,az,aA,ai,aG,cG,ak,aH,aD,bh,bk,bm,au,bZ,cW,bG,aq,cT,cF,aP,bW,bS,tA,ah,ar,aX,acr,hcl,hln,aW]
  refine cR ?_
  refine(adR h40 hc hl hs l [] _ _ rfl ?_ ?_ ?_ ?_).mono ?_
  ·simp only[ai,ah,cT,cF]
  ·simp only[ai,ah,cT,cF]
  ·simp only[ai,ah,cT,cF]
  ·simp only[ai,ah,cT,cF];rfl
  rintro x fr s' ⟨rfl,hz,⟨rfl,hf⟩|⟨rfl,k,o,hf,h4⟩⟩
  ·obtain⟨e',z,lc'⟩:=fr
   have hz:z=19:=hz
   subst hz
   have hf:hZ id l 0=none:=hf
   show W (QS sp) 39 _ _ _ _
   refine aF ?_
   unfold Pv
   simp only[aw,az,aA,aM,aH,bm,au,tA,ar]
   refine bP ⟨.inr rfl,.int .i64 (-1),bV (by simp only[ai,ah,cT]) rfl,?_,rfl⟩
   rw[hf];rfl
  ·have hf:hZ id l 0=some (k,o):=hf
   refine⟨.inr rfl,.int .i64 (k:Nat),bV h4 rfl,?_,rfl⟩
   rw[hf];rfl
 obtain⟨w,s',hrun,rfl,rfl⟩:=h
 refine dZ aga af9 agc agb h18 ?_
 unfold L5
 refine aF ?_
 unfold MT
 simp only[dr,cZ,aw,az,aA,ai,dp,aM,iA,ak,aH,aD,bm,fv,i9,au,bG,dj,ji,aq,cw,cu,cT,cF,bW,aR,aY,bS,tA,aQ,ah,ar,bJ,ck,cd,dT,abY,abZ,i9]
 refine aV (W.region (gd 3 ?_))
 unfold MU
 simp only[aw,az,aA,ai,dp,cJ,bU,bn,bN,wJ,ak,aD,bh,bk,bT,au,aq,ez,cT,cF,aP,bO,aZ,bE,bS,tA,cQ,ah,ar,aX,iz,iG,pz]
 refine gq (g:=39) (args:=[v,.func (.func 40) [] [.ptr s.next 0]]) ?_ hrun (by decide) ?_
 ·simp only[callee,ai,ak,fA,aD,bh,bk,aq,oG,cT,cF,cy,cP,bS,ah,hcl]
 refine gp ?_
 simp only[aw,az,aA,ai,aM,ak,au,cT,cF,bS,tA,ah,ar,aW]
 exact bP ⟨rfl,.inr rfl,bV (by simp only[ai,ah,cT,cF]) rfl⟩
end
def tj:Sp
 | [u,.str id]=>(jK u).bind fun l=>some (.int .i64 (nr (hZ id l 0)))
 |_=>none
theorem Ja {v:aj} {l:List Obj} (h:bH 6 Obj.val v l) (hg: ∀o∈l,o.Good) (hs:l.length<small) (id:aB):tj [.agg [v],.str id]=some (.int .i64 (nr (hZ id l 0))):=by
 simp only[tj,mq h hg hs,aq]
theorem Jb:ek Tryz.prog 18 tj:=by
 intro args x hv G h w xs wr hx
 unfold tj at hv
 split at hv
 ·rename_i u id
  simp only[aN,bp] at hv
  obtain⟨l,h1,rfl⟩:=hv
  obtain⟨v,rfl,hl,hg,hs⟩:=kK h1
  obtain⟨t1,v',w1,hl'⟩:=kS hl hg
  have hw:eX [.agg [v],.str id]=[.agg [v'],.str id]:=by simp only[eX,w1];rfl
  exact fD (Q:=QT []) (fB .nil) (fun _=>fG 1) (args:=[.agg [v],.str id]) (v:=.int .i64 (nr (hZ id l 0))) (s':=s0.new (.cells [.str id])) (by simp only[jv,t1];rfl) (by rw[hw];exact aaw (sp:=fun f=>eR f []) rfl rfl rfl hl' hs id s0) rfl ⟨1,rfl⟩ G h w xs wr hx
 ·cases hv
theorem Jf (id:aB): ∀(l:List Obj) (i:Nat),(hZ id l i).map (·.2)=br id l
 | [],i=>rfl
 |o::l,i=>by
  simp only[hZ,br]
  have:(id==o.id)=(o.id==id):=BEq.comm
  rw[this]
  cases o.id==id with
  |true=>rfl
  |false=>exact Jf id l (i+1)
def sg (q:Option Obj):aj:=match q with
 |some o=>.tup [o.val,.bool true]
 |none=>.tup [mS.val,.bool false]
section
variable {sp:FuncId->Option (List aj->Option aj)}
theorem VG {Q:cI} (hP:Q.P=Tryz.prog) {e:bq} {n:Nat} {lc:Ag.Loc} {s:St} {t u:Tmp} {o:Obj} {b:Bool} (h:ay e t= .lref t 1 0) (hl:lc.get t 1=some o.cells) (hu:ay e u= .bool b): ∃vs,gL Q [] ⟨e,n,lc⟩ s [.cell t 40,.tmp u]=some vs/\jO vs= .tup [o.val,.bool b]:=by
 refine⟨[o.val,.bool b],?_,rfl⟩
 have hl':lc.get t 1=some [.str o.id,.int .i64 o.kind,.int .i64 o.x,.int .i64 o.y,o.refsV,o.tagsV]:=hl
 simp only[gL,wP,h,hP,bT,hl',aq,kT,cut,nH,bO,aX,aR,aY,bS,cT,cu,evc,ev,hu,eJ]
 rfl
theorem aa4 (h14:sp 14=none) (h18:sp 18=some tj) {v:aj} {l:List Obj} (hl:bH 6 Obj.val v l) (hg: ∀o∈l,o.Good) (hs:l.length<small) (id:aB) (s:St):bv (QS sp) 14 [.agg [v],.str id] s (sg (br id l)) s:=by
 have hcl:=hl.clean
 have hln:=fun mk s=>hl.len qm ql mk s
 have hf:=Ja hl hg hs id
 have hob:=Jf id l 0
 refine dZ afm afl afo afn h14 ?_
 unfold LP
 refine aF ?_
 unfold LQ
 simp only[dr,cZ,aw,az,aA,ai,dp,cJ,aM,gY,iA,ak,aH,aD,bF,fv,au,bG,dj,aq,cu,cT,cF,aP,bW,aR,aY,bS,tA,aQ,ah,ar,bJ,ck,cd,dT,abL,abM,rA]
 refine aF ?_
 unfold LR
 simp only[aw,az,aA,ai,bU,aG,aM,bn,dc,da,ak,aD,bh,bk,bT,au,aq,cw,cu,cT,cF,aP,dq,aR,aY,cut,bO,aZ,bS,tA,aQ,ah,ar,aX,iY,h18,hf]
 refine aV (aV (cp ?_))
 unfold LS
 cases hfo:hZ id l 0 with
 |none=>
  rw[hfo] at hob
  have hob:br id l=none:=hob.symm
  have hlt:di (-1) 0=true:=rfl
  simp only[aw,az,de,aA,eH,ip,ai,aG,cz,aU,ak,aH,aD,bF,bm,cD,dB,au,cE,aq,a7,cT,cF,aP,bS,tA,ah,ar,nr,hlt,aW]
  refine bc (t:=true) (by simp only[ak,ai,ah,cT,cF]) (aF ?_)
  unfold LU
  have hb0: ∀e,gQ Tryz.prog 40 [] e=some mS.val:=fun e=>by rw[X9];simp only[rA,aq,ee];rfl
  simp only[aw,az,eD,aA,eE,ai,bU,iW,aM,lK,eN,ak,aH,aD,bF,au,dj,ik,aq,cu,cT,cF,aP,aR,aY,dl,bO,aZ,cy,cP,bS,tA,aQ,ah,ar,bJ,ck,dX,aX,dA,cd,dT,hb0,rm,mS,Obj.val,Obj.cells]
  refine bP ⟨rfl,.inr rfl,?_⟩
  rw[hob]
  exact VG (o:=mS) rfl (by simp only[ai,ah,cT,cF]) (by simp only[bU,bS,cT];rfl) (by simp only[ai,ah,cT,cF])
 |some r=>
  obtain⟨k,o⟩:=r
  rw[hfo] at hob
  have hob:br id l=some o:=hob.symm
  obtain⟨_,hat,_⟩:=Dq hfo
  rw[Nat.sub_zero] at hat
  have hia:=fun lc=>hl.at qg hat lc .i64
  have hklt:k<l.length:=by
   rcases iJ k l.length with h1|h1
   ·exact h1
   ·rw[jS h1] at hat;cases hat
  have hlt:di ((k:Nat):Int) 0=false:=by
   have:=cN k 0
   rw[show((0:Nat):Int)=0 from rfl] at this
   rw[this];exact decide_eq_false (by omega)
  have hge:gX ((l.length:Nat):Int) (k:Nat)=false:=by rw[oN];exact decide_eq_false (by omega)
  simp only[aw,az,de,aA,dQ,eG,ai,dp,cJ,bU,aG,cz,bn,aU,bN,cG,ak,aH,aD,bh,bk,bF,bm,bT,cD,du,au,bZ,cE,j7,cW,bG,aq,a7,cT,cF,aP,bW,aZ,bE,bS,tA,cQ,ah,ar,aX,nr,hlt,iz,iG,hcl,abK,hln,hge,aW]
  refine bc (t:=false) (by simp only[ak,ai,ah,cT,cF]) (b7 ?_)
  simp only[aW]
  refine aF ?_
  unfold LW
  simp only[aw,az,eD,aA,eE,ai,dp,cJ,bU,iW,aG,aM,bn,eN,bN,dI,ak,aH,aD,bF,bT,dR,au,dj,ik,aq,cu,cT,cF,aP,aR,aY,cut,dl,bO,aZ,bE,e7,cy,cP,bS,tA,aQ,cQ,ah,ar,bJ,ck,dX,aX,dA,cd,dT,iz,iG,kT,rm,hia,Obj.val,Obj.cells,dR]
  refine bP ⟨rfl,.inr rfl,?_⟩
  rw[hob]
  exact VG (o:=o) rfl (by simp only[ai,ah,cT,cF]) (by simp only[bU,bS,cT];rfl) (by simp only[ai,ah,cT,cF])
end
def tm:Sp
 | [u,.str id]=>(jK u).bind fun l=>some (sg (br id l))
 |_=>none
theorem zD {v:aj} {l:List Obj} (h:bH 6 Obj.val v l) (hg: ∀o∈l,o.Good) (hs:l.length<small) (id:aB):tm [.agg [v],.str id]=some (sg (br id l)):=by
 simp only[tm,mq h hg hs,aq]
theorem W2:mS.Good:=(rP (v:=mS.val) (by kernel_rfl)).2
theorem aa3 (h:bD bR) {q:Option Obj} (hg: ∀o,q=some o->o.Good):j5 h (sg q) (sg q):=by
 refine⟨6,?_⟩
 cases q with
 |none=>
  show((eU (dt h 5) [mS.val,.bool false])).bind (fun r=>some (aj.tup r))=_
  have h1:dt h 5 mS.val=some mS.val:=DK h W2 1
  have h2:dt h 5 (.bool false)=some (.bool false):=rfl
  simp only[eU,h1,h2,aq,sg]
 |some o=>
  show((eU (dt h 5) [o.val,.bool true])).bind (fun r=>some (aj.tup r))=_
  have h1:dt h 5 o.val=some o.val:=DK h (hg o rfl) 1
  have h2:dt h 5 (.bool true)=some (.bool true):=rfl
  simp only[eU,h1,h2,aq,sg]
def Ck:fh:=[(18,tj)]
theorem Xn:fI Ck:=.cons Jb .nil
theorem Ju:ek Tryz.prog 14 tm:=by
 intro args x hv G h w xs wr hx
 unfold tm at hv
 split at hv
 ·rename_i u id
  simp only[aN,bp] at hv
  obtain⟨l,h1,rfl⟩:=hv
  obtain⟨v,rfl,hl,hg,hs⟩:=kK h1
  obtain⟨t1,v',w1,hl'⟩:=kS hl hg
  have hw:eX [.agg [v],.str id]=[.agg [v'],.str id]:=by simp only[eX,w1];rfl
  exact fD (Q:=QT Ck) (fB Xn) (fun _=>fG 1) (args:=[.agg [v],.str id]) (v:=sg (br id l)) (s':=s0) (by simp only[jv,t1];rfl) (by rw[hw];exact aa4 (sp:=fun f=>eR f Ck) rfl rfl hl' hg hs id s0) rfl (aa3 _ fun o ho=>hg o (ju ho).1) G h w xs wr hx
 ·cases hv
theorem Ia (a b:Bool):gf Tryz.prog .eql 4 (.bool a) (.bool b)=some (.bool (a==b)):=by kernel_rfl
def uK (q:Option Obj):Obj:=q.getD mS
theorem Jv (q:Option Obj):sg q= .tup [(uK q).val,.bool q.isSome]:=by cases q<;>rfl
theorem UU {q:Option Obj} (hg: ∀o,q=some o->o.Good):(uK q).Good:=by
 cases q with
 |none=>exact W2
 |some o=>exact hg o rfl
section
variable {sp:FuncId->Option (List aj->Option aj)}
theorem aoK (h15:sp 15=none) (h14:sp 14=some tm) (h16:sp 16=some rb) {v u:aj} {l r:List Obj} (hl:bH 6 Obj.val v l) (hg: ∀o∈l,o.Good) (hs:l.length<small) (hr:bH 6 Obj.val u r) (hg2: ∀o∈r,o.Good) (hs2:r.length<small) (id:aB) (s:St):bv (QS sp) 15 [.agg [v],.agg [u],.str id] s (.bool (dz (br id l) (br id r))) s:=by
 have hcl:=hl.clean
 have hcr:=hr.clean
 have f1:=zD hl hg hs id
 have f2:=zD hr hg2 hs2 id
 rw[Jv] at f1 f2
 have g1:(uK (br id l)).Good:=UU fun o ho=>hg o (ju ho).1
 have g2:(uK (br id r)).Good:=UU fun o ho=>hg2 o (ju ho).1
 have hos:=Ve g1 g2
 simp only[Obj.val,Obj.cells] at hos f1 f2
 have ce: ∀(v:aj) {n:Nat} {α:Type} {enc:α->aj} {l:List α},bH n enc v l->v.cells=[v]:=fun v n α enc l h=>by rcases h with⟨rfl,_⟩|⟨r,rfl⟩<;>rfl
 refine dZ afq afp afs afr h15 ?_
 unfold LX
 refine aF ?_
 unfold LY
 simp only[dr,cZ,aw,az,aA,ai,dp,cJ,aM,iA,ak,aH,aD,fv,au,bG,dj,aq,cu,cT,cF,bW,aR,aY,bS,tA,aQ,ah,ar,bJ,ck,cd,dT,abN,abO,ofValue,gD]
 refine aF ?_
 unfold LZ
 simp only[aw,az,eD,aA,eE,ai,dp,cJ,bU,iW,aG,aM,gY,bn,eN,jm,dc,da,ak,aD,bh,bk,fv,bT,au,bG,dj,ik,aq,cw,cu,cT,cF,aP,bW,dq,aR,aY,cut,dl,bO,aZ,cy,cP,bS,tA,aQ,ah,ar,bJ,ck,dX,aX,dA,cd,dT,iY,rA,rm,abP,h14,f1,iy,gj,lO]
 refine aF ?_
 unfold L0
 simp only[aw,az,eD,aA,eE,ai,dp,cJ,bU,iW,aG,aM,gY,bn,eN,jm,dc,da,ak,aD,bh,bk,fv,bT,au,bG,dj,ik,aq,cw,cu,cT,cF,aP,bW,dq,aR,aY,cut,dl,bO,aZ,cy,cP,bS,tA,aQ,ah,ar,bJ,ck,dX,aX,dA,cd,dT,iY,rA,rm,abQ,h14,f2,iy,gj,lO]
 refine aF ?_
 unfold L1
 have hres:dz (br id l) (br id r)=((br id l).isSome==(br id r).isSome&&np (uK (br id l)) (uK (br id r))):=by
  cases br id l<;>cases br id r
  ·rfl
  ·rfl
  ·rfl
  ·simp[dz,uK]
 cases hz:(br id l).isSome==(br id r).isSome with
 |false=>
  simp only[aw,az,de,aA,eH,fR,ai,aG,aM,cz,aU,ak,aH,aD,bF,cD,du,au,aq,eJ,cT,cF,aP,bS,tA,ah,ar,Ia,hz]
  refine bP ⟨rfl,.inr rfl,bV ?_ rfl⟩
  simp only[ai,ah,cT,cF]
  rw[hres,hz];rfl
 |true=>
  simp only[aw,az,de,aA,dQ,eW,ai,bU,aG,aM,cz,bn,aU,dc,da,ak,aH,aD,bh,bk,bF,bT,cD,dB,au,aq,eJ,cu,cT,cF,aP,dq,aR,aY,cut,bO,aZ,bS,tA,aQ,ah,ar,bJ,aX,Ia,hz,kT,h16,hos]
  refine bP ⟨rfl,.inr rfl,bV ?_ rfl⟩
  simp only[ai,ah,cT,cF]
  rw[hres,hz];rfl
end
def wT:Sp
 | [u,v,.str id]=>(jK u).bind fun l=>(jK v).bind fun r=>some (.bool (dz (br id l) (br id r)))
 |_=>none
theorem GU {v u:aj} {l r:List Obj} (hl:bH 6 Obj.val v l) (hg: ∀o∈l,o.Good) (hs:l.length<small) (hr:bH 6 Obj.val u r) (hg2: ∀o∈r,o.Good) (hs2:r.length<small) (id:aB):wT [.agg [v],.agg [u],.str id]=some (.bool (dz (br id l) (br id r))):=by
 simp only[wT,mq hl hg hs,mq hr hg2 hs2,aq]
def Cl:fh:=[(14,tm),(16,rb)]
theorem Xq:fI Cl:=.cons Ju (.cons GA .nil)
theorem aoJ:ek Tryz.prog 15 wT:=by
 intro args x hv G h w xs wr hx
 unfold wT at hv
 split at hv
 ·rename_i u1 u2 id
  simp only[aN,bp] at hv
  obtain⟨l,h1,r,h2,rfl⟩:=hv
  obtain⟨v,rfl,hl,hg,hs⟩:=kK h1
  obtain⟨u,rfl,hr,hg2,hs2⟩:=kK h2
  obtain⟨t1,v',w1,hl'⟩:=kS hl hg
  obtain⟨t2,u',w2,hr'⟩:=kS hr hg2
  have hw:eX [.agg [v],.agg [u],.str id]=[.agg [v'],.agg [u'],.str id]:=by simp only[eX,w1,w2];rfl
  exact fD (Q:=QT Cl) (fB Xq) (fun _=>fG 1) (args:=[.agg [v],.agg [u],.str id]) (v:=.bool (dz (br id l) (br id r))) (s':=s0) (by simp only[jv,t1,t2];rfl) (by rw[hw];exact aoK (sp:=fun f=>eR f Cl) rfl rfl rfl hl' hg hs hr' hg2 hs2 id s0) rfl ⟨1,rfl⟩ G h w xs wr hx
 ·cases hv
theorem Bi {p q:Option Obj}:dz p q=true↔(p=none/\q=none)\/ ∃a b,p=some a/\q=some b/\a.Eqv b:=by
 cases p<;>cases q<;>simp[dz,amL]
theorem W7 {a b:Obj} (h:a.Eqv b):b.Eqv a:=⟨h.id.symm,h.kind.symm,h.x.symm,h.y.symm,h.refs.symm,h.tags.symm⟩
theorem W8 {a b c:Obj} (h:a.Eqv b) (g:b.Eqv c):a.Eqv c:=⟨g.id.trans h.id,g.kind.trans h.kind,g.x.trans h.x,g.y.trans h.y,g.refs.trans h.refs,g.tags.trans h.tags⟩
theorem Gy (p:Option Obj):dz p p=true:=by
 rw[Bi]
 cases p with
 |none=>exact .inl ⟨rfl,rfl⟩
 |some a=>exact .inr ⟨a,a,rfl,rfl,.rfl⟩
theorem anu {p q:Option Obj} (h:dz p q=true):dz q p=true:=by
 rw[Bi] at h ⊢
 rcases h with⟨h1,h2⟩|⟨a,b,h1,h2,h3⟩
 ·exact .inl ⟨h2,h1⟩
 ·exact .inr ⟨b,a,h2,h1,W7 h3⟩
theorem anv {p q r:Option Obj} (h:dz p q=true) (g:dz q r=true):dz p r=true:=by
 rw[Bi] at h g ⊢
 rcases h with⟨rfl,rfl⟩|⟨a,b,rfl,rfl,h3⟩
 ·rcases g with⟨_,rfl⟩|⟨a,b,h1,_⟩
  ·exact .inl ⟨rfl,rfl⟩
  ·cases h1
 ·rcases g with⟨h1,_⟩|⟨c,d,h1,rfl,h4⟩
  ·cases h1
  ·have h1:=Option.some.inj h1
   subst h1
   exact .inr ⟨a,d,rfl,rfl,W8 h3 h4⟩
theorem yc {p q:Option Obj}:js p q=p\/js p q=q:=by
 cases p with
 |none=>exact .inr rfl
 |some a=>
  cases q with
  |none=>exact .inl rfl
  |some b=>
   simp only[js]
   cases di (rS b a) 0 with
   |true=>exact .inr rfl
   |false=>exact .inl rfl
theorem amc {k:aB} {pb po pt:Option Obj} (hb: ∀o,pb=some o->o.id=k) (ho: ∀o,po=some o->o.id=k) (ht: ∀o,pt=some o->o.id=k): ∀q,ig pb po pt=some q->q.id=k:=by
 have hl: ∀q,js po pt=some q->q.id=k:=fun q h=>by
  rcases yc (p:=po) (q:=pt) with e|e
  ·rw[e] at h;exact ho q h
  ·rw[e] at h;exact ht q h
 intro q h
 unfold ig at h
 cases h1:dz po pt||dz pt pb with
 |true=>rw[h1] at h;exact ho q h
 |false=>
  rw[h1] at h
  cases h2:dz po pb with
  |true=>rw[h2] at h;exact ht q h
  |false=>
   rw[h2] at h
   simp only[cF] at h
   split at h
   ·rename_i b o t
    cases h3:bz o.kind b.kind&&bz t.kind b.kind with
    |true=>
     rw[h3] at h
     have h:=Option.some.inj h
     rw[<-h]
     have hid:(jb b o t).id=b.id:=by
      unfold jb
      cases kd b o t<;>rfl
     exact hid.trans (hb b rfl)
    |false=>rw[h3] at h;exact hl q h
   ·exact hl q h
theorem ap2 {b o t:List Obj} {k:aB} {q:Obj} (h:fU b o t k=some q):q.id=k:=by
 unfold fU at h
 cases hm:gu b o t k with
 |some q'=>
  rw[hm] at h
  have h:=Option.some.inj h
  rw[<-h]
  exact amc (fun _ h=>(ju h).2) (fun _ h=>(ju h).2) (fun _ h=>(ju h).2) q' hm
 |none=>
  rw[hm] at h
  simp only[io] at h
  cases hb:br k b with
  |some q'=>
   rw[hb] at h
   have h:=Option.some.inj h
   rw[<-h]
   exact(ju hb).2
  |none=>
   rw[hb] at h
   rcases yc (p:=br k o) (q:=br k t) with e|e
   ·have h:js (br k o) (br k t)=some q:=h
    rw[e] at h;exact(ju h).2
   ·have h:js (br k o) (br k t)=some q:=h
    rw[e] at h;exact(ju h).2
theorem jq.some {b o t:List Obj} {k:aB} (h:jq b o t k): ∃q,fU b o t k=some q:=by
 rcases h with h|h
 ·obtain⟨q,hq⟩:=Option.isSome_iff_exists.1 h
  exact⟨q,by simp only[fU,hq]⟩
 ·obtain⟨q,hq⟩:=Option.isSome_iff_exists.1 h.no.2
  exact⟨q,by simp only[fU,h.no.1,hq]⟩
theorem Vf {b o t:List Obj} {k:aB} (h:jq b o t k):(nq b o t k).id=k:=by
 obtain⟨q,hq⟩:=h.some
 simp only[nq,hq,oh]
 exact ap2 hq
theorem UT {f:aB->Obj} {k:aB}: ∀ {ks:List aB},(∀j∈ks,(f j).id=j)->(k∈ks->br k (ks.map f)=some (f k))/\(k ∉ ks->br k (ks.map f)=none)
 | [],_=>⟨fun h=>(by cases h),fun _=>rfl⟩
 |a::ks,h=>by
  obtain⟨h1,h2⟩:=UT (f:=f) (k:=k) (ks:=ks) fun j hj=>h j (by simp[hj])
  have ha:=h a (by simp)
  simp only[fS,br,ha]
  cases hk:k==a with
  |true=>
   have:=eq_of_beq hk
   subst this
   exact⟨fun _=>rfl,fun hn=>absurd (List.mem_cons_self) hn⟩
  |false=>
   have hne:k≠a:=beq_eq_false_iff_ne.1 hk
   exact⟨fun hm=>h1 ((List.mem_cons.1 hm).resolve_left hne),fun hn=>h2 fun hm=>hn (List.mem_cons_of_mem _ hm)⟩
theorem amK {b o t:List Obj} {k:aB}:(jq b o t k->br k (jt b o t)=fU b o t k)/\(¬jq b o t k->br k (jt b o t)=none):=by
 have hmem: ∀j,j∈fC (oT b o t)↔jq b o t j:=fun j=>(kU _).mem_iff.trans ym
 have h:=UT (f:=nq b o t) (k:=k) (ks:=fC (oT b o t)) fun j hj=>Vf ((hmem j).1 hj)
 refine⟨fun hi=>?_,fun hn=>h.2 fun hm=>hn ((hmem k).1 hm)⟩
 obtain⟨q,hq⟩:=hi.some
 have h1:br k (jt b o t)=some (nq b o t k):=h.1 ((hmem k).2 hi)
 rw[h1,hq]
 simp only[nq,hq,oh]
theorem Wz {id:aB} {c:Cf}: ∀ {ks:List aB},c∈mQ id ks []->c.1=id
 | [],h=>by cases h
 |k::ks,h=>by
  have h1:mQ id (k::ks) []=mQ id ks (dU (id,mO k) []):=rfl
  rw[h1,ww,qp] at h
  rcases h with(rfl|h)|h
  ·rfl
  ·cases h
  ·exact Wz h
theorem aar {b o t:Obj} {c:Cf} (h:c∈qd b o t []):c.1=b.id:=by
 unfold qd at h
 rw[ww,F9] at h
 rcases h with(h|h)|h
 ·unfold kA at h
  cases hr:kd b o t with
  |none=>
   rw[hr] at h
   rcases qp.1 h with rfl|h
   ·rfl
   ·cases h
  |some _=>rw[hr] at h;cases h
 ·unfold m7 at h
  cases hp:re (b.x,b.y) (o.x,o.y) (t.x,t.y) with
  |true=>
   rw[hp] at h
   have h:c∈dU (b.id,BC) []:=h
   rcases qp.1 h with rfl|h
   ·rfl
   ·cases h
  |false=>rw[hp] at h;cases h
 ·exact Wz h
theorem YI {b o t:List Obj} {k:aB} {c:Cf} (h:c∈j9 b o t k):c.1=k:=by
 have h1:c∈dU (k,gG) []->c.1=k:=fun h=>by
  rcases qp.1 h with rfl|h
  ·rfl
  ·cases h
 unfold j9 gR at h
 cases h2:dz (br k o) (br k t)||dz (br k t) (br k b) with
 |true=>rw[h2] at h;cases h
 |false=>
  rw[h2] at h
  cases h3:dz (br k o) (br k b) with
  |true=>rw[h3] at h;cases h
  |false=>
   rw[h3] at h
   simp only[cF] at h
   split at h
   ·rename_i q1 q2 q3 e1 e2 e3
    cases h4:bz q2.kind q1.kind&&bz q3.kind q1.kind with
    |true=>rw[h4] at h;exact(aar h).trans (ju e1).2
    |false=>rw[h4] at h;exact h1 h
   ·exact h1 h
theorem al0 {b o t:List Obj} {c:Cf}:c∈pn b o t↔(∃k,c∈j9 b o t k)\/ ∃k,Reach b o t k/\c=(k,gG):=(tS _).mem_iff.trans UC
def BG (b o t:List Obj) (id:aB):Option Obj:=bif dz (br id o) (br id b) then br id t else br id o
theorem aoU {b o t:List Obj} {id:aB} (h:(dz (br id o) (br id b)||(dz (br id t) (br id b)||dz (br id o) (br id t)))=true):dz (gu b o t id) (BG b o t id)=true/\j9 b o t id=[]:=by
 unfold gu ig j9 gR BG
 cases h1:dz (br id o) (br id t) with
 |true=>
  simp only[lh,cT]
  refine⟨?_,trivial⟩
  cases h2:dz (br id o) (br id b) with
  |true=>exact h1
  |false=>exact Gy _
 |false=>
  cases h3:dz (br id t) (br id b) with
  |true=>
   simp only[jI,cT]
   refine⟨?_,trivial⟩
   cases h2:dz (br id o) (br id b) with
   |true=>rw[anv h2 (anu h3)] at h1;cases h1
   |false=>exact Gy _
  |false=>
   rw[h1,h3] at h
   simp only[Bool.or_false] at h
   rw[h]
   simp only[Bool.or_self,cF,cT]
   exact⟨Gy _,trivial⟩
theorem ant {p q:Option Obj} (h:dz p q=true):p.isSome=q.isSome:=by
 rcases Bi.1 h with⟨rfl,rfl⟩|⟨a,b,rfl,rfl,_⟩<;>rfl
theorem amb {pb po pt:Option Obj} (gb: ∀o,pb=some o->o.Good) (go: ∀o,po=some o->o.Good) (gt: ∀o,pt=some o->o.Good) (vb:kC pb) (vo:kC po) (vt:kC pt): ∀q,ig pb po pt=some q->q.Good:=by
 intro q h
 have hl:=T6 go gt
 unfold ig at h
 cases h1:dz po pt||dz pt pb with
 |true=>rw[h1] at h;exact go q h
 |false=>
  rw[h1] at h
  cases h2:dz po pb with
  |true=>rw[h2] at h;exact gt q h
  |false=>
   rw[h2] at h
   simp only[cF] at h
   split at h
   ·rename_i b o t
    cases h3:bz o.kind b.kind&&bz t.kind b.kind with
    |true=>
     rw[h3] at h
     have h:=Option.some.inj h
     rw[<-h]
     exact I7 (gb b rfl) (go o rfl) (gt t rfl) (vb b rfl) (vo o rfl) (vt t rfl)
    |false=>rw[h3] at h;exact hl q h
   ·exact hl q h
theorem ow.ga {b o t:List Obj} (h:ow b o t) (k:aB):(∀q,br k b=some q->q.Good)/\(∀q,br k o=some q->q.Good)/\(∀q,br k t=some q->q.Good):=⟨fun q hq=>h.gb q (ju hq).1,fun q hq=>h.go q (ju hq).1,fun q hq=>h.gt q (ju hq).1⟩
theorem ap1 {b o t:List Obj} (h:ow b o t) {k:aB} {q:Obj} (hq:fU b o t k=some q):q.Good:=by
 obtain⟨g1,g2,g3⟩:=h.ga k
 unfold fU at hq
 cases hm:gu b o t k with
 |some q'=>
  rw[hm] at hq
  have hq:=Option.some.inj hq
  rw[<-hq]
  exact amb g1 g2 g3 (sk h.vb k) (sk h.vo k) (sk h.vt k) q' hm
 |none=>
  rw[hm] at hq
  simp only[io] at hq
  cases hb:br k b with
  |some q'=>rw[hb] at hq;have hq:=Option.some.inj hq;rw[<-hq];exact g1 q' hb
  |none=>rw[hb] at hq;exact T6 g2 g3 q hq
theorem al8 {b o t:List Obj} (h:ow b o t): ∀q∈jt b o t,q.Good:=by
 intro q hq
 obtain⟨k,hk,rfl⟩:=List.mem_map.1 hq
 have hi:jq b o t k:=ym.1 ((kU _).mem_iff.1 hk)
 obtain⟨q,hq⟩:=hi.some
 simp only[nq,hq,oh]
 exact ap1 h hq
theorem UD {b o t:List Obj} (h:ow b o t):(jt b o t).length<=900:=by
 have h1:=anB b o t
 have h2:(eV b o t).length=b.length+(o.length+t.length):=by simp[eV]
 have h3:=(kU (oT b o t)).length_eq
 have:=h.lb
 have:=h.lo
 have:=h.lt
 unfold jt
 rw[fw];omega
theorem Zf {b o t:List Obj} (h:ow b o t):(pn b o t).length<=1000000:=by
 have h1:=IJ (sk h.vb) (sk h.vo) (sk h.vt)
 have h2:(eV b o t).length=b.length+(o.length+t.length):=by simp[eV]
 have h3:=(tS (rT b o t)).length_eq
 have:=h.lb
 have:=h.lo
 have:=h.lt
 unfold pn
 omega
theorem Gr {b o t:List Obj} {k:aB} (h:br k b≠none\/br k o≠none\/br k t≠none):(io b o t k).isSome=true:=by
 unfold io
 cases hb:br k b with
 |some q=>rfl
 |none=>
  show(js (br k o) (br k t)).isSome=true
  cases ho:br k o with
  |none=>
   cases ht:br k t with
   |none=>rw[hb,ho,ht] at h;simp at h
   |some q=>rfl
  |some q=>
   cases ht:br k t with
   |none=>rfl
   |some q'=>
    simp only[js]
    cases di (rS q' q) 0<;>rfl
theorem aoc {b o t:Obj}: ∀k∈(jb b o t).refs,k∈b.refs\/k∈o.refs\/k∈t.refs:=by
 intro k hk
 unfold jb at hk
 cases h:kd b o t with
 |none=>rw[h] at hk;exact .inl hk
 |some r=>
  rw[h] at hk
  unfold kd at h
  cases hr:mP b.refs o.refs t.refs with
  |none=>rw[hr] at h;cases h
  |some r'=>
   rw[hr] at h
   cases hv:eK (rr b r') with
   |false=>simp only[hv,cF] at h;cases h
   |true=>
    simp only[hv,cT] at h
    have h:=Option.some.inj h
    subst h
    exact(V2 hr).1 k hk
theorem amd {pb po pt:Option Obj} {R:aB->Prop} (hb: ∀o,pb=some o-> ∀k∈o.refs,R k) (ho: ∀o,po=some o-> ∀k∈o.refs,R k) (ht: ∀o,pt=some o-> ∀k∈o.refs,R k): ∀q,ig pb po pt=some q-> ∀k∈q.refs,R k:=by
 have hl: ∀q,js po pt=some q-> ∀k∈q.refs,R k:=fun q h=>by
  rcases yc (p:=po) (q:=pt) with e|e
  ·rw[e] at h;exact ho q h
  ·rw[e] at h;exact ht q h
 intro q h
 unfold ig at h
 cases h1:dz po pt||dz pt pb with
 |true=>rw[h1] at h;exact ho q h
 |false=>
  rw[h1] at h
  cases h2:dz po pb with
  |true=>rw[h2] at h;exact ht q h
  |false=>
   rw[h2] at h
   simp only[cF] at h
   split at h
   ·rename_i b o t
    cases h3:bz o.kind b.kind&&bz t.kind b.kind with
    |true=>
     rw[h3] at h
     have h:=Option.some.inj h
     rw[<-h]
     intro k hk
     rcases aoc k hk with h|h|h
     ·exact hb b rfl k h
     ·exact ho o rfl k h
     ·exact ht t rfl k h
    |false=>rw[h3] at h;exact hl q h
   ·exact hl q h
theorem WO {b o t:List Obj} {R:Obj->Prop} (hb: ∀q∈b,R q) (ho: ∀q∈o,R q) (ht: ∀q∈t,R q) {k:aB} (hm: ∀q,gu b o t k=some q->R q): ∀q,fU b o t k=some q->R q:=by
 intro q h
 unfold fU at h
 cases hk:gu b o t k with
 |some q'=>
  rw[hk] at h
  have h:=Option.some.inj h
  rw[<-h]
  exact hm q' hk
 |none=>
  rw[hk] at h
  simp only[io] at h
  cases hbk:br k b with
  |some q'=>
   rw[hbk] at h
   have h:=Option.some.inj h
   rw[<-h]
   exact hb q' (ju hbk).1
  |none=>
   rw[hbk] at h
   have h:js (br k o) (br k t)=some q:=h
   rcases yc (p:=br k o) (q:=br k t) with e|e
   ·rw[e] at h;exact ho q (ju h).1
   ·rw[e] at h;exact ht q (ju h).1
theorem UE {b o t:List Obj} {q:Obj} (hq:q∈jt b o t): ∃k,jq b o t k/\fU b o t k=some q:=by
 obtain⟨k,hk,rfl⟩:=List.mem_map.1 hq
 have hi:jq b o t k:=ym.1 ((kU _).mem_iff.1 hk)
 obtain⟨q,hq⟩:=hi.some
 exact⟨k,hi,by simp only[nq,hq,oh]⟩
def Ci (l:List Obj):Prop:= ∀q∈l, ∀k∈q.refs,br k l≠none
theorem amC {b o t:List Obj} (cb:Ci b) (co:Ci o) (ct:Ci t): ∀q∈jt b o t, ∀k∈q.refs,br k (jt b o t)≠none:=by
 intro q hq k hk
 obtain⟨j,hj,hv⟩:=UE hq
 have hb: ∀q∈b, ∀k∈q.refs,(io b o t k).isSome=true:=fun q hq k hk=>Gr (.inl (cb q hq k hk))
 have ho: ∀q∈o, ∀k∈q.refs,(io b o t k).isSome=true:=fun q hq k hk=>Gr (.inr (.inl (co q hq k hk)))
 have ht: ∀q∈t, ∀k∈q.refs,(io b o t k).isSome=true:=fun q hq k hk=>Gr (.inr (.inr (ct q hq k hk)))
 have hn:(io b o t k).isSome=true:=WO (R:=fun q=> ∀k∈q.refs,(io b o t k).isSome=true) hb ho ht (k:=j) (amd (fun q h=>hb q (ju h).1) (fun q h=>ho q (ju h).1) (fun q h=>ht q (ju h).1)) q hv k hk
 have hi:jq b o t k:=by
  cases hm:gu b o t k with
  |some q'=>exact .inl (by rw[hm];rfl)
  |none=>exact .inr (hj.next hv hk hm hn)
 rw[amK.1 hi]
 obtain⟨q',hq'⟩:=hi.some
 rw[hq'];simp
theorem US {k:aB}: ∀(l:List Obj) (i:Nat),br k l≠none->hZ k l i≠none
 | [],_,h=>absurd rfl h
 |o::r,i,h=>by
  simp only[br] at h
  simp only[hZ]
  cases hb:k==o.id with
  |true=>
   have:(o.id==k)=true:=by rw[eq_of_beq hb];exact bS _
   rw[this];simp
  |false=>
   have:(o.id==k)=false:=beq_eq_false_iff_ne.2 fun e=>(beq_eq_false_iff_ne.1 hb) e.symm
   rw[hb] at h
   rw[this]
   exact US r (i+1) h
theorem amD {b o t:List Obj} {c:Cf} (hc:c∈pn b o t) (h:(dz (br c.1 o) (br c.1 b)||(dz (br c.1 t) (br c.1 b)||dz (br c.1 o) (br c.1 t)))=true):c.2=gG/\((br c.1 o).isSome&&(br c.1 t).isSome)=false:=by
 obtain⟨hm,hn⟩:=aoU h
 rcases al0.1 hc with⟨k,hk⟩|⟨k,hk,rfl⟩
 ·have e:=YI hk
  rw[e] at hn
  rw[hn] at hk;cases hk
 ·refine⟨rfl,?_⟩
  have hs:=ant hm
  show((br k o).isSome&&(br k t).isSome)=false
  have hs:(gu b o t k).isSome=(BG b o t k).isSome:=hs
  rw[hk.no.1] at hs
  unfold BG at hs
  cases h1:dz (br k o) (br k b) with
  |true=>
   rw[h1] at hs
   have hs:false=(br k t).isSome:=hs
   rw[<-hs,Bool.and_false]
  |false=>
   rw[h1] at hs
   have hs:false=(br k o).isSome:=hs
   rw[<-hs,Bool.false_and]
theorem Wm {l:List aB} (h1:l.Pairwise fun a b=>ky a b=true) (h2:l.Nodup):l.Pairwise fun a b=>iE a b=true:=by
 refine(h1.and h2).imp ?_
 rintro a b ⟨h,hne⟩
 rw[Go.Proofs.bytesLess_eq,decide_eq_true_eq]
 simp only[ky,decide_eq_true_eq] at h
 exact Classical.byContradiction fun hc=>hne (List.le_antisymm h (List.not_lt.1 hc))
theorem T8 {k:aB} (h:gS k=true):iE [] k=true:=by
 cases k with
 |nil=>cases h
 |cons a k=>rw[Go.Proofs.bytesLess_eq,decide_eq_true_eq];exact List.nil_lt_cons a k
theorem not_le {a b:aB} (h:iE a b=true):Ag.leBytes b a=false:=by
 rw[yd] at h
 simpa using h
theorem WI: ∀(l:List cM) (last:aB),(∀t∈l,gS t.1=true/\t.2≠ []/\t.2.length<=200)->(∀k∈l.map (·.1),iE last k=true)->(l.map (·.1)).Pairwise (fun a b=>iE a b=true)->ma last l=true
 | [],_,_,_,_=>rfl
 |t::r,last,h,h1,h2=>by
  obtain⟨n,v,s⟩:=h t (by simp)
  rw[fS,List.pairwise_cons] at h2
  have hb:kX last t=false:=by
   have hs: ¬200<t.2.length:=by omega
   have hv:(t.2== [])=false:=beq_eq_false_iff_ne.2 v
   simp only[kX,n,not_le (h1 t.1 (by simp)),hv,decide_eq_false hs];rfl
  simp only[ma,hb,cF]
  exact WI r t.1 (fun u hu=>h u (by simp[hu])) h2.1 h2.2
theorem BP: ∀(l:List cM) (last:aB),ma last l=true-> ∀t∈l,t.2.length<=200
 | [],_,_,t,ht=>by cases ht
 |u::r,last,h,t,ht=>by
  simp only[ma] at h
  cases hb:kX last u with
  |true=>rw[hb] at h;cases h
  |false=>
   rw[hb] at h
   rcases List.mem_cons.1 ht with rfl|ht
   ·simp only[kX,mj] at hb
    have:=of_decide_eq_false hb.2
    omega
   ·exact BP r u.1 h t ht
theorem zj: ∀(l:List cM) (K:List aB),K.Nodup->(jT l K).Nodup
 | [],_,h=>h
 |t::r,K,h=>zj r (jh t.1 K) (HR h)
def y5 (P:aB->Prop) (V:aB->List aB):Prop:= ∀k, ∀x∈V k,P x
theorem Bp {P:aB->Prop} {i:Nat}: ∀(l:List cM) (V:aB->List aB),(∀t∈l,P t.2)->y5 P V->y5 P (uR i l V)
 | [],_,_,h=>h
 |t::r,V,hl,h=>by
  refine Bp r (qA t.1 i t.2 V) (fun u hu=>hl u (by simp[hu])) fun k x hx=>?_
  unfold qA at hx
  cases hk:k==t.1 with
  |false=>rw[hk] at hx;exact h k x hx
  |true=>
   rw[hk] at hx
   rcases List.mem_or_eq_of_mem_set hx with hx|rfl
   ·exact h k x hx
   ·exact hl t (by simp)
theorem Wx {V:aB->List aB} {k:aB} {st:List cM×List aB}:(l9 V k st).1=st.1\/ ∃v,(l9 V k st).1=st.1++[(k,v)]/\v≠ []/\v∈V k:=by
 unfold l9
 split
 ·rename_i a b c hV
  have hm:(kz a b c).getD a∈V k:=by
   rw[hV]
   unfold kz
   cases c==b||c==a with
   |true=>simp
   |false=>cases b==a<;>simp
  generalize (kz a b c).getD a=v at hm ⊢
  unfold kY
  cases hv:v== [] with
  |true=>exact .inl rfl
  |false=>
   have hne:v≠ []:=beq_eq_false_iff_ne.1 hv
   cases decide (st.1.length<60) with
   |true=>exact .inr ⟨v,rfl,hne,hm⟩
   |false=>cases (nD k a b c st.2).elem k<;>exact .inl rfl
 ·exact .inl rfl
theorem WF {V:aB->List aB}: ∀(ks:List aB) (st:List cM×List aB), ∃sub,sub.Sublist ks/\(jQ V ks st).1.map (·.1)=st.1.map (·.1)++sub
 | [],st=>⟨[],.slnil,by simp[jQ]⟩
 |k::ks,st=>by
  obtain⟨sub,h1,h2⟩:=WF (V:=V) ks (l9 V k st)
  have e:jQ V (k::ks) st=jQ V ks (l9 V k st):=rfl
  rw[e,h2]
  rcases Wx (V:=V) (k:=k) (st:=st) with h|⟨v,h,_⟩
  ·rw[h];exact⟨sub,h1.cons k,rfl⟩
  ·rw[h];exact⟨k::sub,h1.cons_cons k,by simp⟩
theorem WG {V:aB->List aB} {P:aB->Prop} (hV:y5 P V): ∀(ks:List aB) (st:List cM×List aB),(∀t∈st.1,t.2≠ []/\P t.2)-> ∀t∈(jQ V ks st).1,t.2≠ []/\P t.2
 | [],st,h=>h
 |k::ks,st,h=>by
  have e:jQ V (k::ks) st=jQ V ks (l9 V k st):=rfl
  rw[e]
  refine WG hV ks _ fun t ht=>?_
  rcases Wx (V:=V) (k:=k) (st:=st) with h1|⟨v,h1,h2,h3⟩
  ·rw[h1] at ht;exact h t ht
  ·rw[h1] at ht
   rcases List.mem_append.1 ht with ht|ht
   ·exact h t ht
   ·rw[List.mem_singleton.1 ht];exact⟨h2,hV k v h3⟩
theorem apE {b o t:List cM} (vb:gM b=true) (vo:gM o=true) (vt:gM t=true):gM (jp b o t).1=true:=by
 have hn:=Hg vb vo vt
 have hk:=(Hf (b:=b) (o:=o) (t:=t)).1
 have hl:=(BO b o t).1
 simp only[gM,df] at vb vo vt ⊢
 have hV:y5 (fun x=>x.length<=200) (u7 b o t):=by
  refine Bp t _ (BP t _ vt.1) (Bp o _ (BP o _ vo.1) (Bp b _ (BP b _ vb.1) fun k x hx=>?_))
  simp only[List.mem_cons,List.not_mem_nil,or_false,or_self] at hx
  subst hx
  exact Nat.zero_le _
 have hs:(fC (kb b o t)).Pairwise fun a b=>iE a b=true:=Wm (BH _) ((kU _).nodup_iff.2 (zj _ _ (zj _ _ (zj _ _ List.nodup_nil))))
 obtain⟨sub,h1,h2⟩:=WF (V:=u7 b o t) (fC (kb b o t)) ([],[])
 have h2:(jp b o t).1.map (·.1)=sub:=h2
 refine⟨WI _ _ (fun u hu=>?_) (fun k hm=>?_) ?_,decide_eq_true hl⟩
 ·obtain⟨p,q⟩:=WG hV (fC (kb b o t)) ([],[]) (fun t h=>by cases h) u hu
  exact⟨hn u.1 (hk u hu),p,q⟩
 ·obtain⟨u,hu,rfl⟩:=List.mem_map.1 hm
  exact T8 (hn u.1 (hk u hu))
 ·rw[h2];exact hs.sublist h1
theorem yu {q:Obj}:eK q=true↔lV q=false/\nM q.kind [] [] q.refs=false/\(bif bz q.kind 1 then(q.refs.length==0)&&jN q.x q.y else bif bz q.kind 5 then(q.refs.length==3)&&rz q else rz q)=true:=by
 unfold eK
 cases lV q with
 |true=>simp
 |false=>cases nM q.kind [] [] q.refs<;>simp
theorem H9 {q:Obj} (h:eK q=true):(bz q.kind 1=true->jN q.x q.y=true)/\(bz q.kind 1=false->(bz q.x 0&&bz q.y 0)=true):=by
 obtain⟨_,_,h3⟩:=yu.1 h
 refine⟨fun e=>?_,fun e=>?_⟩
 ·rw[e] at h3
  simp only[cT,df] at h3
  exact h3.2
 ·rw[e] at h3
  cases h5:bz q.kind 5 with
  |true=>
   rw[h5] at h3
   simp only[cT,cF,df] at h3
   have:=h3.2
   unfold rz at this
   exact this
  |false=>rw[h5] at h3;exact h3
theorem aod {b o t:Obj} (vb:eK b=true):eK (jb b o t)=true:=by
 unfold jb
 cases h:kd b o t with
 |none=>exact vb
 |some r=>
  unfold kd at h
  cases hr:mP b.refs o.refs t.refs with
  |none=>rw[hr] at h;cases h
  |some r'=>
   rw[hr] at h
   cases hv:eK (rr b r') with
   |false=>simp only[hv,cF] at h;cases h
   |true=>
    simp only[hv,cT] at h
    have h:=Option.some.inj h
    subst h
    exact hv
theorem aob {b o t:Obj}:(jb b o t).kind=b.kind:=by
 unfold jb
 cases kd b o t<;>rfl
theorem anN (b o t:Int×Int):nW b o t=o\/nW b o t=t:=by
 unfold nW qr
 cases ns o t||ns t b with
 |true=>exact .inl rfl
 |false=>
  cases ns o b with
  |true=>exact .inr rfl
  |false=>
   cases di (oH t o) 0 with
   |true=>exact .inr rfl
   |false=>exact .inl rfl
theorem aau {b o t:Obj} (vb:eK b=true) (vo:eK o=true) (vt:eK t=true) (ko:o.kind=b.kind) (kt:t.kind=b.kind) (tg:gM (jp b.tags o.tags t.tags).1=true):eK (th b o t)=true:=by
 obtain⟨h1,h2,h3⟩:=yu.1 (aod (o:=o) (t:=t) vb)
 have hk:=aob (b:=b) (o:=o) (t:=t)
 have at1:(bz (jb b o t).kind 1=true->jN (lM b o t).1 (lM b o t).2=true)/\(bz (jb b o t).kind 1=false->(bz (lM b o t).1 0&&bz (lM b o t).2 0)=true):=by
  rw[hk]
  have ho:=H9 vo
  have ht:=H9 vt
  rw[ko] at ho
  rw[kt] at ht
  rcases anN (b.x,b.y) (o.x,o.y) (t.x,t.y) with e|e
  ·rw[show lM b o t=(o.x,o.y) from e];exact ho
  ·rw[show lM b o t=(t.x,t.y) from e];exact ht
 refine yu.2 ⟨?_,h2,?_⟩
 ·unfold lV at h1 ⊢
  simp only[mj,pP] at h1 ⊢
  exact⟨⟨⟨⟨h1.1.1.1.1,h1.1.1.1.2⟩,tg⟩,h1.1.2⟩,h1.2⟩
 ·show(bif bz (jb b o t).kind 1 then((jb b o t).refs.length==0)&&jN (lM b o t).1 (lM b o t).2 else bif bz (jb b o t).kind 5 then((jb b o t).refs.length==3)&&(bz (lM b o t).1 0&&bz (lM b o t).2 0) else(bz (lM b o t).1 0&&bz (lM b o t).2 0))=true
  cases e1:bz (jb b o t).kind 1 with
  |true=>
   rw[e1] at h3
   simp only[cT,df] at h3 ⊢
   exact⟨h3.1,at1.1 e1⟩
  |false=>
   rw[e1] at h3
   simp only[cF] at h3 ⊢
   rw[at1.2 e1]
   cases e5:bz (jb b o t).kind 5 with
   |true=>
    rw[e5] at h3
    simp only[cT,df] at h3 ⊢
    exact⟨h3.1,trivial⟩
   |false=>rfl
theorem A9: ∀(l:List Obj) (last:aB),l0 last l=true-> ∀q∈l,eK q=true
 | [],_,_,q,h=>by cases h
 |o::r,last,h,q,hq=>by
  simp only[l0] at h
  cases hb:(!eK o||Ag.leBytes o.id last) with
  |true=>rw[hb] at h;cases h
  |false=>
   rw[hb] at h
   rcases List.mem_cons.1 hq with rfl|hq
   ·simp only[mj,pP] at hb
    exact hb.1
   ·exact A9 r o.id h q hq
theorem UX: ∀(l:List Obj) (last:aB),(∀q∈l,eK q=true)->(∀k∈l.map (·.id),iE last k=true)->(l.map (·.id)).Pairwise (fun a b=>iE a b=true)->l0 last l=true
 | [],_,_,_,_=>rfl
 |o::r,last,h,h1,h2=>by
  rw[fS,List.pairwise_cons] at h2
  have hb:(!eK o||Ag.leBytes o.id last)=false:=by
   rw[h o (by simp),not_le (h1 o.id (by simp))];rfl
  simp only[l0,hb,cF]
  exact UX r o.id (fun q hq=>h q (by simp[hq])) h2.1 h2.2
theorem Hk {q:Obj} (h:eK q=true):gM q.tags=true:=by
 have h1:=(yu.1 h).1
 simp only[lV,mj,pP] at h1
 exact h1.1.1.2
theorem ap3 {q:Obj} (h:eK q=true):gS q.id=true:=by
 have h1:=(yu.1 h).1
 simp only[lV,mj,pP] at h1
 exact h1.1.1.1.2
theorem ame {pb po pt:Option Obj} (hb: ∀o,pb=some o->eK o=true) (ho: ∀o,po=some o->eK o=true) (ht: ∀o,pt=some o->eK o=true): ∀q,ig pb po pt=some q->eK q=true:=by
 have hl: ∀q,js po pt=some q->eK q=true:=fun q h=>by
  rcases yc (p:=po) (q:=pt) with e|e
  ·rw[e] at h;exact ho q h
  ·rw[e] at h;exact ht q h
 intro q h
 unfold ig at h
 cases h1:dz po pt||dz pt pb with
 |true=>rw[h1] at h;exact ho q h
 |false=>
  rw[h1] at h
  cases h2:dz po pb with
  |true=>rw[h2] at h;exact ht q h
  |false=>
   rw[h2] at h
   simp only[cF] at h
   split at h
   ·rename_i b o t
    cases h3:bz o.kind b.kind&&bz t.kind b.kind with
    |true=>
     rw[h3] at h
     have h:=Option.some.inj h
     rw[<-h]
     simp only[df] at h3
     have vb:=hb b rfl
     have vo:=ho o rfl
     have vt:=ht t rfl
     exact aau vb vo vt (by simpa[bz] using h3.1) (by simpa[bz] using h3.2) (apE (Hk vb) (Hk vo) (Hk vt))
    |false=>rw[h3] at h;exact hl q h
   ·exact hl q h
theorem ama {b o t:List Obj} (h:ow b o t):jV (jt b o t)=true:=by
 have vb:=h.vb
 have vo:=h.vo
 have vt:=h.vt
 simp only[jV,df] at vb vo vt
 have hb:=A9 b [] vb.1
 have ho:=A9 o [] vo.1
 have ht:=A9 t [] vt.1
 have hv: ∀q∈jt b o t,eK q=true:=fun q hq=>by
  obtain⟨k,_,hk⟩:=UE hq
  exact WO (R:=fun q=>eK q=true) hb ho ht (ame (fun q h=>hb q (ju h).1) (fun q h=>ho q (ju h).1) (fun q h=>ht q (ju h).1)) q hk
 have hid:(jt b o t).map (·.id)=fC (oT b o t):=by
  unfold jt
  rw[List.map_map]
  refine(List.map_congr_left fun k hk=>?_).trans (List.map_id _)
  exact Vf (ym.1 ((kU _).mem_iff.1 hk))
 simp only[jV,df]
 refine⟨UX _ _ hv (fun k hk=>?_) ?_,decide_eq_true (by have:=UD h;omega)⟩
 ·obtain⟨q,hq,rfl⟩:=List.mem_map.1 hk
  exact T8 (ap3 (hv q hq))
 ·rw[hid]
  exact Wm (BH _) ((kU _).nodup_iff.2 (Vg b o t))
structure L6 (sp:FuncId->Option (List aj->Option aj)):Prop where
 h9:sp 9=some pA
 h12:sp 12=some vI
 h13:sp 13=some si
 h14:sp 14=some tm
 h15:sp 15=some wT
 h18:sp 18=some tj
 h7:sp 7=some zF
 h8:sp 8=some v6
structure N6 (vb vo vt mv cv:aj) (e:bq) (lc:Ag.Loc):Prop where
 h3:ay e 3= .lref 3 1 0
 h4:ay e 4= .lref 4 1 0
 h5:ay e 5= .lref 5 1 0
 h7:ay e 7= .bool true
 h8:ay e 8= .lref 8 1 0
 h9:ay e 9=cv
 g3:lc.gen 3=1
 g4:lc.gen 4=1
 g5:lc.gen 5=1
 g8:lc.gen 8=1
 b3:lc.get 3 1=some [vb]
 b4:lc.get 4 1=some [vo]
 b5:lc.get 5 1=some [vt]
 b8:lc.get 8 1=some [mv]
section
variable {sp:FuncId->Option (List aj->Option aj)} (hS:L6 sp) {vb vo vt mv cv:aj}
include hS
theorem an7 {l:List Obj} (hl:bH 6 Obj.val mv l) (hk: ∀q∈l,q.Good) (hsmall:l.length<small) {q:Obj} {i:Nat} (hq:l[i]? =some q) {s:St} (hm:s.minw<=s.next) {lc:Ag.Loc}: ∀(rest pre:List aB) (e:bq),q.refs=pre++rest->(∀k∈rest,br k l≠none)->
 N6 vb vo vt mv cv e lc->ay e 10= .int .i64 (i:Nat)->ay e 11= .int .i64 (pre.length:Nat)->
 W (QS sp) 6 (.loop Aq) ⟨e,137,lc⟩ s fun x fr s'=>s'=s/\x= .exit 2/\ ∃e',fr=⟨e',137,lc⟩/\N6 vb vo vt mv cv e' lc/\ay e' 10= .int .i64 (i:Nat):=by
 intro rest
 have ho:=hk q (kE hq)
 have hlen:=fun mk s=>ho.refs.len iV jl mk s
 have hcl:=ho.refs.clean
 have hmc:=hl.clean
 have hsm:small=9223372036854775808:=rfl
 have hrl:=ho.reflen
 have hia:=fun lc=>hl.at qg hq lc .i64
 induction rest with
 |nil=>
  intro pre e hpre _ I h10 h11
  obtain⟨h3,h4,h5,h7,h8,h9,g3,g4,g5,g8,b3,b4,b5,b8⟩:=I
  have hlen':q.refs.length=pre.length:=by rw[hpre];simp
  refine cY ?_
  unfold Aq
  refine aV (aV (cp ?_))
  unfold Fa
  simp only[aw,az,aA,ai,aG,bn,aU,bN,dI,cG,ak,aD,bh,bk,bT,dR,au,bZ,cE,cW,bG,dj,aq,a7,cT,cF,aP,bW,aZ,bE,cN,bS,tA,cQ,ah,ar,aX,decide_false,iG,fT,iz,Dg,JF,h8,g8,b8,Obj.val,Obj.cells,h10,h11,hcl,hia,hlen,hlen',ff,aW]
  refine bc (t:=false) (by simp only[ak,ai,ah,cT,cF]) ?_
  refine eL ⟨rfl,rfl,_,rfl,⟨?_,?_,?_,?_,?_,?_,g3,g4,g5,g8,b3,b4,b5,b8⟩,?_⟩
  all_goals simp only[ai,ah,cF,h3,h4,h5,h7,h8,h9,h10]
 |cons r rest ih=>
  intro pre e hpre hall I h10 h11
  obtain⟨h3,h4,h5,h7,h8,h9,g3,g4,g5,g8,b3,b4,b5,b8⟩:=I
  have hlt:pre.length<q.refs.length:=by rw[hpre];simp
  have hat:q.refs[pre.length]? =some r:=by rw[hpre];simp
  have hir:=fun lc=>ho.refs.at lF hat lc .i64
  have hfs:=Ja hl hk hsmall r
  have hwr:IntKind.i64.wrap ((pre.length:Int)+1)=((pre.length+1:Nat):Int):=by rw[eh (by omega) (by omega)];omega
  have hfo:=US l 0 (hall r (by simp))
  obtain⟨kq,hf⟩:=Option.ne_none_iff_exists'.1 hfo
  obtain⟨k,q'⟩:=kq
  have hpv:nr (some (k,q'))=((k:Nat):Int):=rfl
  rw[hf,hpv] at hfs
  have hi:di ((k:Nat):Int) 0=false:=by rw[show(0:Int)=((0:Nat):Int) from rfl,cN];simp
  refine cY ?_
  unfold Aq
  refine aV (aV (cp ?_))
  unfold Fa
  simp only[aw,az,aA,ai,aG,bn,aU,bN,dI,cG,ak,aD,bh,bk,bT,dR,au,bZ,cE,cW,bG,dj,aq,a7,cT,cF,aP,bW,aZ,bE,cN,bS,tA,cQ,ah,ar,aX,dT,iG,fT,iz,Dg,JF,h8,g8,b8,Obj.val,Obj.cells,h10,h11,hcl,hia,hlen,hlt,aW]
  refine bc (t:=true) (by simp only[ak,ai,ah,cT,cF]) (b7 ?_)
  simp only[aW]
  refine aV (cR (W.sdrawQ hm ?_))
  unfold Q5
  simp only[d8,d7,ec,isStore,ai,aG,bn,aU,bN,dI,dc,da,ak,aH,aD,bh,bk,bm,bT,dR,au,cE,dj,ji,aq,a7,cw,cu,cT,cF,aP,dq,aR,aY,cut,bO,aZ,bE,bS,tA,aQ,cQ,ah,ar,aX,dv,iG,iY,fT,iz,Dg,h8,g8,b8,Obj.val,Obj.cells,h10,h11,hia,hir,bB,hS.h18,hfs,hi]
  refine bc (t:=false) (by simp only[ak,ai,ah,cT,cF]) (b7 ?_)
  simp only[dM,aW]
  refine cp ?_
  unfold Q0
  simp only[aw,az,aA,ai,aG,aM,aU,ak,aH,aD,bm,au,dW,aq,a7,cT,cF,aP,bS,tA,ah,ar,h11,hwr,aW]
  refine ih (pre++[r]) _ (by rw[hpre];simp) (fun k hk=>hall k (by simp[hk])) ⟨?_,?_,?_,?_,?_,?_,g3,g4,g5,g8,b3,b4,b5,b8⟩ ?_ ?_
  all_goals simp only[ai,ah,cT,cF,h3,h4,h5,h7,h8,h9,h10,dw,aR,aY]
theorem amJ {l:List Obj} (hl:bH 6 Obj.val mv l) (hk: ∀q∈l,q.Good) (hsmall:l.length<small) (hall: ∀q∈l, ∀k∈q.refs,br k l≠none) {s:St} (hm:s.minw<=s.next) {lc:Ag.Loc}: ∀(rest pre:List Obj) (e:bq),l=pre++rest->
 N6 vb vo vt mv cv e lc->ay e 10= .int .i64 (pre.length:Nat)->
 W (QS sp) 6 (.loop Ar) ⟨e,137,lc⟩ s fun x fr s'=>s'=s/\x= .exit 0/\ ∃e',fr=⟨e',137,lc⟩/\N6 vb vo vt mv cv e' lc:=by
 intro rest
 have hlen:=fun mk s=>hl.len qm ql mk s
 have hmc:=hl.clean
 have hsm:small=9223372036854775808:=rfl
 induction rest with
 |nil=>
  intro pre e hpre I h10
  obtain⟨h3,h4,h5,h7,h8,h9,g3,g4,g5,g8,b3,b4,b5,b8⟩:=I
  have hlen':l.length=pre.length:=by rw[hpre];simp
  refine cY ?_
  unfold Ar
  refine aV (aV (cp ?_))
  unfold E8
  simp only[aw,az,aA,ai,aG,bn,aU,bN,cG,ak,aD,bh,bk,bT,au,bZ,cE,cW,bG,aq,a7,cT,cF,aP,bW,aZ,bE,cN,bS,tA,cQ,ah,ar,aX,decide_false,iG,iz,JE,h8,g8,b8,h10,hmc,hlen,hlen',ff,aW]
  refine bc (t:=false) (by simp only[ak,ai,ah,cT,cF]) ?_
  refine eL ⟨rfl,rfl,_,rfl,⟨?_,?_,?_,?_,?_,?_,g3,g4,g5,g8,b3,b4,b5,b8⟩⟩
  all_goals simp only[ai,ah,cF,h3,h4,h5,h7,h8,h9]
 |cons q rest ih=>
  intro pre e hpre I h10
  obtain⟨h3,h4,h5,h7,h8,h9,g3,g4,g5,g8,b3,b4,b5,b8⟩:=I
  have hlt:pre.length<l.length:=by rw[hpre];simp
  have hat:l[pre.length]? =some q:=by rw[hpre];simp
  have hwr:IntKind.i64.wrap ((pre.length:Int)+1)=((pre.length+1:Nat):Int):=by rw[eh (by omega) (by omega)];omega
  refine cY ?_
  unfold Ar
  refine aV (aV (cp ?_))
  unfold E8
  simp only[aw,az,aA,ai,aG,bn,aU,bN,cG,ak,aD,bh,bk,bT,au,bZ,cE,cW,bG,aq,a7,cT,cF,aP,bW,aZ,bE,cN,bS,tA,cQ,ah,ar,aX,dT,iG,iz,JE,h8,g8,b8,h10,hmc,hlen,hlt,aW]
  refine bc (t:=true) (by simp only[ak,ai,ah,cT,cF]) (b7 ?_)
  simp only[aW]
  refine aV (cR (aF ?_))
  unfold Rg
  simp only[aw,az,aA,aM,aH,bm,au,tA,ar]
  refine cR ?_
  refine(an7 (vb:=vb) (vo:=vo) (vt:=vt) (cv:=cv) hS hl hk hsmall hat hm q.refs [] _ rfl (hall q (kE hat)) ⟨?_,?_,?_,?_,?_,?_,g3,g4,g5,g8,b3,b4,b5,b8⟩ ?_ ?_).mono ?_
  ·simp only[ai,ah,cF,h3]
  ·simp only[ai,ah,cF,h4]
  ·simp only[ai,ah,cF,h5]
  ·simp only[ai,ah,cF,h7]
  ·simp only[ai,ah,cF,h8]
  ·simp only[ai,ah,cF,h9]
  ·simp only[ai,ah,cF,h10]
  ·simp only[ai,ah,cT];rfl
  rintro x fr s' ⟨rfl,rfl,e',rfl,I',h10'⟩
  obtain⟨f3,f4,f5,f7,f8,f9,_,_,_,_,_,_,_,_⟩:=I'
  show W (QS sp) 6 (.region E9) ⟨e',137,lc⟩ s' _
  refine cp ?_
  unfold E9
  simp only[aw,az,aA,ai,aG,aM,aU,ak,aH,aD,bm,au,dW,aq,a7,cT,cF,aP,bS,tA,ah,ar,h10',hwr,aW]
  refine ih (pre++[q]) _ (by rw[hpre];simp) ⟨?_,?_,?_,?_,?_,?_,g3,g4,g5,g8,b3,b4,b5,b8⟩ ?_
  all_goals simp only[ai,ah,cT,cF,f3,f4,f5,f7,f8,f9,dw,aR,aY]
theorem Zd {b o t:List Obj} {L:List Cf} (hcv:bH 2 dP cv L) (hb:bH 6 Obj.val vb b) (ho:bH 6 Obj.val vo o) (ht:bH 6 Obj.val vt t) (gb: ∀q∈b,q.Good) (go: ∀q∈o,q.Good) (gt: ∀q∈t,q.Good) (sb:b.length<small) (so:o.length<small) (st:t.length<small) {c:Cf} {i:Nat} (hat:L[i]? =some c)
 (hc:(dz (br c.1 o) (br c.1 b)||(dz (br c.1 t) (br c.1 b)||dz (br c.1 o) (br c.1 t)))=true->c.2=gG/\((br c.1 o).isSome&&(br c.1 t).isSome)=false)
 {e:bq} {lc:Ag.Loc} {s:St} (I:N6 vb vo vt mv cv e lc) (h12:ay e 12= .int .i64 (i:Nat)) (h13:ay e 13= .str c.1) (h15:ay e 15= .bool (br c.1 o).isSome) (h17:ay e 17= .bool (br c.1 t).isSome) {KK:Ex->Fr->St->Prop}
 (hK: ∀e',N6 vb vo vt mv cv e' lc->ay e' 12= .int .i64 (i:Nat)->KK .normal ⟨e',137,lc⟩ s):
 W (QS sp) 6 (.seq (.region E6) (.seq (.region Av) (.cond (aa 131) (.seq (.region Aw) .ret) .skip))) ⟨e,137,lc⟩ s KK:=by
 obtain⟨h3,h4,h5,h7,h8,h9,g3,g4,g5,g8,b3,b4,b5,b8⟩:=I
 have cb:=hb.clean
 have co:=ho.clean
 have ct:=ht.clean
 have ccv:=hcv.clean
 have hia:=fun lc=>hcv.at JP hat lc .i64
 have hce:(dP c).cells=[.str c.1,.str c.2]:=rfl
 have s1:=GU ho go so hb gb sb c.1
 have s2:=GU ht gt st hb gb sb c.1
 have s3:=GU ho go so ht gt st c.1
 have last: ∀e1:bq,ay e1 18= .bool (dz (br c.1 o) (br c.1 b)||(dz (br c.1 t) (br c.1 b)||dz (br c.1 o) (br c.1 t)))->ay e1 3=ay e 3->ay e1 4=ay e 4->ay e1 5=ay e 5->ay e1 7=ay e 7->ay e1 8=ay e 8->ay e1 9=ay e 9->ay e1 12=ay e 12->ay e1 15=ay e 15->ay e1 17=ay e 17->
  W (QS sp) 6 (.seq (.region Av) (.cond (aa 131) (.seq (.region Aw) .ret) .skip)) ⟨e1,137,lc⟩ s KK:=by
  intro e1 f18 f3 f4 f5 f7 f8 f9 f12 f15 f17
  rw[h3] at f3
  rw[h4] at f4
  rw[h5] at f5
  rw[h7] at f7
  rw[h8] at f8
  rw[h9] at f9
  rw[h12] at f12
  rw[h15] at f15
  rw[h17] at f17
  have done: ∀e2:bq,ay e2 131= .bool false->ay e2 3=ay e1 3->ay e2 4=ay e1 4->ay e2 5=ay e1 5->ay e2 7=ay e1 7->ay e2 8=ay e1 8->ay e2 9=ay e1 9->ay e2 12=ay e1 12->W (QS sp) 6 (.cond (aa 131) (.seq (.region Aw) .ret) .skip) ⟨e2,137,lc⟩ s KK:=by
   intro e2 q131 q3 q4 q5 q7 q8 q9 q12
   exact bc (t:=false) (by rw[ak,q131]) (b7 (hK e2 ⟨q3.trans f3,q4.trans f4,q5.trans f5,q7.trans f7,q8.trans f8,q9.trans f9,g3,g4,g5,g8,b3,b4,b5,b8⟩ (q12.trans f12)))
  refine aF ?_
  unfold Av
  cases ha:(dz (br c.1 o) (br c.1 b)||(dz (br c.1 t) (br c.1 b)||dz (br c.1 o) (br c.1 t))) with
  |false=>
   rw[ha] at f18
   simp only[aw,az,de,aA,eH,fR,pN,ai,aG,cz,ak,aH,bF,cD,du,au,aq,cT,cF,bS,tA,ah,ar,f18]
   refine done _ ?_ ?_ ?_ ?_ ?_ ?_ ?_ ?_
   all_goals simp only[ai,ah,cT,cF]
  |true=>
   rw[ha] at f18
   obtain⟨hw,hno⟩:=hc ha
   have hne:(gG==([111,98,106,101,99,116]:aB))=true:=rfl
   have hofs:ofValue (.string {data:= #[111,98,106,101,99,116] })=some (.str [111,98,106,101,99,116]):=by kernel_rfl
   rw[hw] at hce
   cases hi:(br c.1 o).isSome with
   |false=>
    rw[hi] at f15
    simp only[aw,az,de,aA,dQ,eH,eW,fR,eG,ai,aG,cz,bn,aU,bN,dI,ak,aH,aD,bF,dR,cD,dB,du,au,qM,aq,cw,cT,cF,aP,aZ,bE,dg,bS,tA,ah,ar,dv,I3,f18,f15,f9,f12,hia,hce,hofs,hne]
    refine done _ ?_ ?_ ?_ ?_ ?_ ?_ ?_ ?_
    all_goals simp only[ai,ah,cT,cF]
   |true=>
    rw[hi,Bool.true_and] at hno
    rw[hi] at f15
    rw[hno] at f17
    simp only[aw,az,de,aA,dQ,eW,eG,ai,aG,cz,bn,aU,bN,dI,ak,aH,aD,bF,dR,cD,dB,du,au,qM,aq,cw,cT,cF,aP,aZ,bE,dg,bS,tA,ah,ar,dv,I3,f18,f15,f17,f9,f12,hia,hce,hofs,hne]
    refine done _ ?_ ?_ ?_ ?_ ?_ ?_ ?_ ?_
    all_goals simp only[ai,ah,cT,cF]
 refine aF ?_
 unfold E6
 cases x1:dz (br c.1 o) (br c.1 b) with
 |true=>
  rw[x1] at s1 last
  simp only[aw,az,de,aA,eH,ip,ai,aG,aM,cz,bn,dc,da,ak,aH,aD,bh,bk,bF,bT,cD,dB,au,aq,cw,cu,cT,cF,aP,dq,aR,aY,cut,bO,aZ,bS,tA,aQ,ah,ar,aX,iY,h3,h4,h13,b3,b4,hS.h15,s1]
  refine last _ ?_ ?_ ?_ ?_ ?_ ?_ ?_ ?_ ?_ ?_
  all_goals simp only[ai,ah,cT,cF,lh]
 |false=>
  rw[x1] at s1 last
  cases x2:dz (br c.1 t) (br c.1 b) with
  |true=>
   rw[x2] at s2 last
   simp only[aw,az,de,aA,dQ,eH,ip,eG,ai,aG,aM,cz,bn,dc,da,ak,aH,aD,bh,bk,bF,bT,cD,dB,du,au,aq,cw,cu,cT,cF,aP,dq,aR,aY,cut,bO,aZ,bS,tA,aQ,ah,ar,aX,iY,h3,h4,h5,h13,b3,b4,b5,hS.h15,s1,s2]
   refine last _ ?_ ?_ ?_ ?_ ?_ ?_ ?_ ?_ ?_ ?_
   all_goals simp only[ai,ah,cT,cF,lh,jI]
  |false=>
   rw[x2] at s2 last
   simp only[aw,az,de,aA,dQ,eG,ai,aG,aM,cz,bn,dc,da,ak,aH,aD,bh,bk,bF,bT,cD,du,au,aq,cw,cu,cT,cF,aP,dq,aR,aY,cut,bO,aZ,bS,tA,aQ,ah,ar,aX,iY,h3,h4,h5,h13,b3,b4,b5,hS.h15,s1,s2,s3]
   refine last _ ?_ ?_ ?_ ?_ ?_ ?_ ?_ ?_ ?_ ?_
   all_goals simp only[ai,ah,cT,cF,jI]
end
section
variable {sp:FuncId->Option (List aj->Option aj)} (hS:L6 sp) {vb vo vt mv cv:aj}
include hS
theorem Zc {b o t:List Obj} {L:List Cf} (hcv:bH 2 dP cv L) (hb:bH 6 Obj.val vb b) (ho:bH 6 Obj.val vo o) (ht:bH 6 Obj.val vt t) (gb: ∀q∈b,q.Good) (go: ∀q∈o,q.Good) (gt: ∀q∈t,q.Good) (sb:b.length<small) (so:o.length<small) (st:t.length<small) (hL:L.length<=1000000)
 (hc: ∀c∈L,(dz (br c.1 o) (br c.1 b)||(dz (br c.1 t) (br c.1 b)||dz (br c.1 o) (br c.1 t)))=true->c.2=gG/\((br c.1 o).isSome&&(br c.1 t).isSome)=false) {s:St}:
 ∀(rest pre:List Cf) (e:bq) (lc:Ag.Loc),L=pre++rest->N6 vb vo vt mv cv e lc->ay e 12= .int .i64 (pre.length:Nat)->
 W (QS sp) 6 (.loop Au) ⟨e,137,lc⟩ s fun x fr s'=>s'=s/\x= .exit 4/\ ∃e' lc',fr=⟨e',137,lc'⟩/\N6 vb vo vt mv cv e' lc':=by
 intro rest
 have hlen:=fun mk s=>hcv.len alc alb mk s
 have ccv:=hcv.clean
 have co:=ho.clean
 have ct:=ht.clean
 induction rest with
 |nil=>
  intro pre e lc hpre I h12
  obtain⟨h3,h4,h5,h7,h8,h9,g3,g4,g5,g8,b3,b4,b5,b8⟩:=I
  have hlen':L.length=pre.length:=by rw[hpre];simp
  refine cY ?_
  unfold Au
  refine aV (aV (cp ?_))
  unfold E5
  simp only[aw,az,aA,ai,aG,aU,cG,ak,aD,bh,bk,au,bZ,cE,cW,bG,aq,a7,cT,cF,aP,bW,cN,bS,tA,ah,ar,aX,decide_false,JG,h9,h12,ccv,hlen,hlen',ff,aW]
  refine bc (t:=false) (by simp only[ak,ai,ah,cT,cF]) ?_
  refine eL ⟨rfl,rfl,_,_,rfl,⟨?_,?_,?_,?_,?_,?_,g3,g4,g5,g8,b3,b4,b5,b8⟩⟩
  all_goals simp only[ai,ah,cF,h3,h4,h5,h7,h8,h9]
 |cons c rest ih=>
  intro pre e lc hpre I h12
  obtain⟨h3,h4,h5,h7,h8,h9,g3,g4,g5,g8,b3,b4,b5,b8⟩:=I
  have hlt:pre.length<L.length:=by rw[hpre];simp
  have hat:L[pre.length]? =some c:=by rw[hpre];simp
  have hia:=fun lc=>hcv.at JP hat lc .i64
  have hce:(dP c).cells=[.str c.1,.str c.2]:=rfl
  have hwr:IntKind.i64.wrap ((pre.length:Int)+1)=((pre.length+1:Nat):Int):=by rw[eh (by omega) (by omega)];omega
  have f2:=zD ho go so c.1
  have f3:=zD ht gt st c.1
  rw[Jv] at f2 f3
  simp only[Obj.val,Obj.cells] at f2 f3
  refine cY ?_
  unfold Au
  refine aV (aV (cp ?_))
  unfold E5
  simp only[aw,az,aA,ai,aG,aU,cG,ak,aD,bh,bk,au,bZ,cE,cW,bG,aq,a7,cT,cF,aP,bW,cN,bS,tA,ah,ar,aX,dT,JG,h9,h12,ccv,hlen,hlt,aW]
  refine bc (t:=true) (by simp only[ak,ai,ah,cT,cF]) (b7 ?_)
  simp only[aW]
  refine aV (cR (aF ?_))
  unfold Q8
  simp only[aw,az,aA,ai,aG,aM,bn,bN,dI,ak,dR,au,aq,cT,cF,aP,aZ,bE,bS,tA,ah,ar,h9,h12,hia,hce,Z5,dv,dR]
  refine aF ?_
  unfold Q9
  simp only[aw,az,eD,aA,eE,ai,bU,iW,aG,aM,gY,bn,eN,jm,dc,da,ak,aD,bh,bk,fv,bT,au,bG,dj,ik,aq,cw,cu,cT,cF,aP,bW,dq,aR,aY,cut,dl,bO,aZ,cy,cP,bS,tA,aQ,ah,ar,bJ,ck,dX,aX,dA,cd,dT,acC,iY,rA,rm,h4,b4,hS.h14,f2,iy,gj,lO]
  refine aF ?_
  unfold Ra
  simp only[aw,az,eD,aA,eE,ai,cJ,bU,iW,aG,aM,gY,bn,eN,jm,dc,da,ak,aD,bh,bk,fv,bT,au,bG,dj,ik,aq,cw,cu,cT,cF,aP,bW,dq,aR,aY,cut,dl,bO,aZ,cy,cP,bS,tA,aQ,ah,ar,bJ,ck,dX,aX,dA,cd,dT,acD,iY,rA,rm,h5,b5,hS.h14,f3,iy,gj,lO]
  refine Zd (vb:=vb) (vo:=vo) (vt:=vt) (mv:=mv) hS hcv hb ho ht gb go gt sb so st hat (hc c (kE hat)) ⟨?_,?_,?_,?_,?_,?_,?_,?_,?_,?_,?_,?_,?_,?_⟩ ?_ ?_ ?_ ?_ ?_
  case refine_19=>
   intro e' I' h12'
   simp only[dM,aW]
   refine cp ?_
   unfold Q7
   simp only[aw,az,aA,ai,aG,aM,aU,ak,aH,aD,bm,au,dW,aq,a7,cT,cF,aP,bS,tA,ah,ar,h12',hwr,aW]
   obtain⟨q3,q4,q5,q7,q8,q9,p3,p4,p5,p8,r3,r4,r5,r8⟩:=I'
   refine ih (pre++[c]) _ _ (by rw[hpre];simp) ⟨?_,?_,?_,?_,?_,?_,p3,p4,p5,p8,r3,r4,r5,r8⟩ ?_
   all_goals simp only[ai,ah,cT,cF,q3,q4,q5,q7,q8,q9,dw,aR,aY]
  all_goals simp only[ai,cJ,bU,ah,cT,cF,h3,h4,h5,h7,h8,h9,h12,g3,g4,g5,g8,b3,b4,b5,b8]
theorem akY (h6:sp 6=none) {b o t:List Obj} (hb:bH 6 Obj.val vb b) (ho:bH 6 Obj.val vo o) (ht:bH 6 Obj.val vt t) (gb: ∀q∈b,q.Good) (go: ∀q∈o,q.Good) (gt: ∀q∈t,q.Good) (sb:b.length<small) (so:o.length<small) (st:t.length<small) {s:St} (hm:s.minw<=s.next):
 bv (QS sp) 6 [.agg [vb],.agg [vo],.agg [vt]] s (.bool true) s:=by
 have cb:=hb.clean
 have co:=ho.clean
 have ct:=ht.clean
 have hhd:zF []=some (.bool true):=rfl
 have hfew:=aaj hb ho ht gb go gt sb so st
 have v1:=CQ hb gb sb
 have v2:=CQ ho go so
 have v3:=CQ ht gt st
 refine dZ ajC ajB ajF ajE h6 ?_
 unfold k6
 refine aF ?_
 unfold QY
 simp only[dr,cZ,aw,az,aA,ai,dp,cJ,aM,iA,ak,aH,aD,fv,au,bG,dj,aq,cu,cT,cF,bW,aR,aY,bS,tA,aQ,ah,ar,bJ,ck,cd,dT,acE,acF,acG,ofValue,gD]
 refine aF ?_
 unfold QZ
 simp only[aw,az,aA,ai,aM,dc,da,ak,bh,au,aq,cT,cF,dq,bS,tA,ah,ar,hS.h7,hhd]
 have done: ∀(e':bq) (lc':Ag.Loc) (KK:Ex->Fr->St->Prop),ay e' 39= .bool true->ay e' 7= .bool true->(∀e2,ay e2 6= .bool true->KK .ret ⟨e2,137,lc'⟩ s)->W (QS sp) 6 (.cond (aa 39) (.seq (.region E7) .ret) .skip) ⟨e',137,lc'⟩ s KK:=by
  intro e' lc' KK h39 h7 hk
  refine bc (t:=true) (by simp only[ak,h39]) (aF ?_)
  unfold E7
  simp only[aw,az,aA,ai,aG,aM,ak,au,cT,bS,tA,ar,h7]
  exact bP (hk _ (by simp only[ai,ah,cT,cF]))
 refine aV (aV (cp ?_))
 unfold Rb
 cases h1:sd b o t with
 |false=>
  rw[h1] at hfew
  simp only[aw,az,de,aA,eH,ip,ai,bU,aG,cz,bn,fp,dc,da,ak,aH,aD,bh,bk,bF,bT,cD,dB,au,fq,aq,eJ,cu,cT,cF,aP,dq,aR,aY,cut,bO,aZ,ej,bS,tA,aQ,ah,ar,aX,iY,hS.h8,hfew,aW]
  exact done _ _ _ (by simp only[ai,ah,cT,cF]) (by simp only[ai,ah,cT,cF]) (fun e2 h8=>⟨rfl,.inr rfl,bV h8 rfl⟩)
 |true=>
 rw[h1] at hfew
 cases h2:pm b with
 |false=>
  rw[h2] at v1
  simp only[aw,az,de,aA,dQ,eH,ip,eG,ai,bU,aG,cz,bn,fp,dc,da,ak,aH,aD,bh,bk,bF,bT,cD,dB,du,au,fq,aq,eJ,cu,cT,cF,aP,dq,aR,aY,cut,bO,aZ,dg,ej,bS,tA,aQ,ah,ar,aX,iY,hS.h8,hfew,hS.h12,v1,aW]
  exact done _ _ _ (by simp only[ai,ah,cT,cF]) (by simp only[ai,ah,cT,cF]) (fun e2 h8=>⟨rfl,.inr rfl,bV h8 rfl⟩)
 |true=>
 rw[h2] at v1
 cases h3:pm o with
 |false=>
  rw[h3] at v2
  simp only[aw,az,de,aA,dQ,eH,ip,eG,ai,bU,aG,cz,bn,fp,dc,da,ak,aH,aD,bh,bk,bF,bT,cD,dB,du,au,fq,aq,eJ,cu,cT,cF,aP,dq,aR,aY,cut,bO,aZ,dg,ej,bS,tA,aQ,ah,ar,aX,iY,hS.h8,hfew,hS.h12,v1,v2,aW]
  exact done _ _ _ (by simp only[ai,ah,cT,cF]) (by simp only[ai,ah,cT,cF]) (fun e2 h8=>⟨rfl,.inr rfl,bV h8 rfl⟩)
 |true=>
 rw[h3] at v2
 cases h4:pm t with
 |false=>
  rw[h4] at v3
  simp only[aw,az,de,aA,dQ,eG,ai,bU,aG,cz,bn,fp,dc,da,ak,aH,aD,bh,bk,bF,bT,cD,du,au,fq,aq,eJ,cu,cT,cF,aP,dq,aR,aY,cut,bO,aZ,dg,ej,bS,tA,aQ,ah,ar,aX,iY,hS.h8,hfew,hS.h12,v1,v2,v3,aW]
  exact done _ _ _ (by simp only[ai,ah,cT,cF]) (by simp only[ai,ah,cT,cF]) (fun e2 h8=>⟨rfl,.inr rfl,bV h8 rfl⟩)
 |true=>
 rw[h4] at v3
 simp only[aw,az,de,aA,dQ,eG,ai,bU,aG,cz,bn,fp,dc,da,ak,aH,aD,bh,bk,bF,bT,cD,du,au,fq,aq,eJ,cu,cT,cF,aP,dq,aR,aY,cut,bO,aZ,dg,bS,tA,aQ,ah,ar,aX,iY,hS.h8,hfew,hS.h12,v1,v2,v3,aW]
 refine bc (t:=false) (by simp only[ak,ai,ah,cT,cF]) (b7 ?_)
 simp only[aW]
 have hfb:kM b 20=true/\kM o 20=true/\kM t 20=true:=by
  unfold sd at h1
  cases e1:kM b 20 with
  |false=>rw[e1] at h1;cases h1
  |true=>
   rw[e1] at h1
   cases e2:kM o 20 with
   |false=>rw[e2] at h1;cases h1
   |true=>rw[e2] at h1;exact⟨rfl,rfl,h1⟩
 have lb:=Dm hfb.1
 have lo:=Dm hfb.2.1
 have lt:=Dm hfb.2.2
 obtain⟨m1,c1⟩:=CR h2
 obtain⟨m2,c2⟩:=CR h3
 obtain⟨m3,c3⟩:=CR h4
 have hi:ow b o t:=⟨m1,m2,m3,gb,go,gt,by omega,by omega,by omega⟩
 have hall:=amC c1 c2 c3
 have hmg:=amf hb ho ht hi
 have hmL:bH 6 Obj.val (gK 6 ((jt b o t).map Obj.val)) (jt b o t):=wD _
 have hcv:bH 2 dP (gK 2 ((pn b o t).map dP)) (pn b o t):=wD _
 have gm:=al8 hi
 have lm:=UD hi
 have lc:=Zf hi
 have hsm:small=9223372036854775808:=rfl
 have cm:=hmL.clean
 have ccv:=hcv.clean
 have cem:(gK 6 ((jt b o t).map Obj.val)).cells=[gK 6 ((jt b o t).map Obj.val)]:=by rcases hmL with⟨h,_⟩|⟨r,h⟩<;>rw[h]<;>rfl
 have hva:=AX hmL gm (by omega)
 rw[ama hi] at hva
 simp only[uT] at hmg
 generalize hmv:gK 6 ((jt b o t).map Obj.val)=mv at*
 generalize hcv':gK 2 ((pn b o t).map dP)=cv at*
 refine aF ?_
 unfold Re
 simp only[aw,az,eD,aA,eE,ai,dp,cJ,bU,iW,aG,aM,gY,bn,eN,jm,dc,da,ak,aD,bh,bk,fv,bT,au,bG,dj,ik,aq,cu,cT,cF,aP,bW,dq,aR,aY,cut,dl,bO,aZ,cy,cP,bS,tA,aQ,ah,ar,ck,dX,aX,dA,cd,dT,acH,iY,Hv,Wq,hS.h9,hmg,iy,gj,lO]
 refine aV (aF ?_)
 unfold Rf
 simp only[aw,az,aA,aM,aH,bm,au,tA,ar]
 refine cR ?_
 refine(amJ (vb:=vb) (vo:=vo) (vt:=vt) (cv:=cv) hS hmL gm (by omega) hall hm (jt b o t) [] _ rfl ⟨?_,?_,?_,?_,?_,?_,?_,?_,?_,?_,?_,?_,?_,?_⟩ ?_).mono ?_
 case refine_16=>
  rintro x fr s' ⟨rfl,rfl,e',rfl,I⟩
  show W (QS sp) 6 _ _ _ _
  refine aV (aF ?_)
  unfold Q6
  simp only[aw,az,aA,aM,aH,bm,au,tA,ar]
  refine cR ?_
  obtain⟨q3,q4,q5,q7,q8,q9,p3,p4,p5,p8,r3,r4,r5,r8⟩:=I
  refine(Zc (vb:=vb) (vo:=vo) (vt:=vt) (mv:=mv) hS hcv hb ho ht gb go gt sb so st lc (fun c hc=>amD hc) (pn b o t) [] _ _ rfl ⟨?_,?_,?_,?_,?_,?_,p3,p4,p5,p8,r3,r4,r5,r8⟩ ?_).mono ?_
  case refine_8=>
   rintro x fr s' ⟨rfl,rfl,e',lc',rfl,I⟩
   obtain⟨q3,q4,q5,q7,q8,q9,p3,p4,p5,p8,r3,r4,r5,r8⟩:=I
   show W (QS sp) 6 _ _ _ _
   refine aF ?_
   unfold Rc
   simp only[aw,az,de,aA,dQ,eW,ai,aG,aM,cz,bn,dc,da,ak,aH,aD,bh,bk,bF,bT,cD,dB,au,aq,cu,cT,cF,aP,dq,aR,aY,cut,bO,aZ,bS,tA,aQ,ah,ar,aX,iY,q7,q8,r8,hS.h13,hva]
   exact bP ⟨rfl,.inr rfl,bV (by simp only[ai,ah,cT,cF]) rfl⟩
  all_goals simp only[ai,ah,cT,cF,q3,q4,q5,q7,q8,q9]
  rfl
 all_goals first
  |(simp only[ai,cJ,bU,dp,ah,cT,cF,bS];done)
  |(simp only[ai,ah,cT];rfl)
end
noncomputable def zb:fh:=[(7,zF),(8,v6),(12,vI),(13,si),(9,pA),(14,tm),(15,wT),(18,tj)]
theorem Xe:fI zb:=.cons abf (.cons aak (.cons YU (.cons F7 (.cons yn (.cons Ju (.cons aoJ (.cons Jb .nil)))))))
theorem Xf:L6 (fun f=>eR f zb):=⟨rfl,rfl,rfl,rfl,rfl,rfl,rfl,rfl⟩
theorem akX {x y z:aj} {b o t:List Obj} (hb:bH 6 Obj.val x b) (ho:bH 6 Obj.val y o) (ht:bH 6 Obj.val z t) (gb: ∀q∈b,q.Good) (go: ∀q∈o,q.Good) (gt: ∀q∈t,q.Good) (sb:b.length<small) (so:o.length<small) (st:t.length<small) (G:Gh) (h:bD bR) (w:World) (xs:List Value) (wr:WR G h w) (hx:cU G [.agg [x],.agg [y],.agg [z]] xs):
 lp Tryz.prog 6 ⟨xs⟩ w fun r w'=> ∃G',WR G' h w'/\dF G h w G' h w' 0 0/\VR G' (.bool true) r:=by
 obtain⟨t1,x',w1,hb'⟩:=kS hb gb
 obtain⟨t2,y',w2,ho'⟩:=kS ho go
 obtain⟨t3,z',w3,ht'⟩:=kS ht gt
 have hw:eX [.agg [x],.agg [y],.agg [z]]=[.agg [x'],.agg [y'],.agg [z']]:=by simp only[eX,w1,w2,w3]
 exact fD (Q:=QT zb) (fB Xe) (fun _=>fG 1) (args:=[.agg [x],.agg [y],.agg [z]]) (v:=.bool true) (s':=s0) (by simp only[jv,t1,t2,t3];rfl) (by rw[hw];exact akY (sp:=fun f=>eR f zb) Xf rfl hb' ho' ht' gb go gt sb so st (bK _)) rfl ⟨1,rfl⟩ G h w xs wr hx
def BD:Value->Option aj
 | .bool b=>some (.bool b)
 | .int k n=>some (.int k n)
 | .string s=>some (.str s.data.toList)
 | .slice none 0 0=>some .nils
 |_=>none
theorem aoL {G:Gh} {x:Value} {v:aj} (h:BD x=some v):v.scal=true/\VR G v x:=by
 unfold BD at h
 split at h
 ·injection h with h;subst h;exact⟨rfl,.bool _⟩
 ·injection h with h;subst h;exact⟨rfl,.int _ _⟩
 ·injection h with h;subst h;exact⟨rfl,.str _⟩
 ·injection h with h;subst h;exact⟨rfl,.nils⟩
 ·cases h
def mD (W:World) (b o:Nat):Option aj:=(W.cell? ⟨b,o,none⟩).bind BD
open Classical in
noncomputable def pick (P:aj->Prop):Option aj:=if h: ∃v,P v then some (Classical.choose h) else none
theorem Vj {P:aj->Prop} {v:aj} (h:pick P=some v):P v:=by
 unfold pick at h
 split at h
 ·rename_i e
  injection h with h;subst h
  exact Classical.choose_spec e
 ·cases h
theorem Vi {P:aj->Prop} {v:aj} (h:P v): ∃u,pick P=some u/\P u:=by
 have e: ∃v,P v:=⟨v,h⟩
 exact⟨Classical.choose e,by unfold pick;rw[dif_pos e],Classical.choose_spec e⟩
def uh (W:World) (x:Value) (v:aj):Prop:= ∃(a:Addr) (len cap:Nat) (strs:List aB),x= .slice (some a) len cap/\v= .list 1 (strs.map bB) .no/\(cap=0\/a.spot=none)/\strs.length=len/\len<=cap/\len<small/\(∀s∈strs,s.length<small)/\
 ∀(i:Nat) (s:aB),strs[i]? =some s->W.cell? ⟨a.block,a.off+i,none⟩=some (.string ⟨⟨s⟩⟩)
def ui (W:World) (x:Value) (v:aj):Prop:= ∃(a:Addr) (len cap:Nat) (tags:List cM),x= .slice (some a) len cap/\v= .list 2 (tags.map ep) .no/\(cap=0\/a.spot=none)/\tags.length=len/\len<=cap/\len<small/\(∀t∈tags,t.1.length<small)/\
 ∀(i:Nat) (t:cM),tags[i]? =some t->W.cell? ⟨a.block,a.off+(i*2+0),none⟩=some (.string ⟨⟨t.1⟩⟩)/\W.cell? ⟨a.block,a.off+(i*2+1),none⟩=some (.string ⟨⟨t.2⟩⟩)
noncomputable def yN (W:World) (b o:Nat):Option aj:=
 (W.cell? ⟨b,o,none⟩).bind fun x=>match W.cell? ⟨b,o-1,none⟩ with
  |some (.int _ _)=>pick (uh W x)
  |some (.slice _ _ _)=>pick (ui W x)
  |_=>none
noncomputable def nb (W:World):Gh where
 at_ _:=none
 dim _:=none
 ro b o:=(mD W b o).or (yN W b o)
theorem zE {W:World} {b o:Nat} {s:aB} (h:W.cell? ⟨b,o,none⟩=some (.string ⟨⟨s⟩⟩)):(nb W).ro b o=some (.str s):=by
 show(mD W b o).or _=_
 have:mD W b o=some (.str s):=by
  simp only[mD,h,aq];rfl
 rw[this];rfl
theorem aoe {W:World} {x:Value} {v:aj} (h:uh W x v):VR (nb W) v x:=by
 obtain⟨d,len,cap,strs,rfl,rfl,hsp,hl,hc,_,_,hcell⟩:=h
 rw[<-hl] at hc ⊢
 have hm:(strs.map bB).length=strs.length:=by simp
 rw[<-hm]
 refine .list hsp Nat.one_pos ?_ (by rw[hm];exact hc) ?_ trivial
 ·intro y hy
  obtain⟨s,_,rfl⟩:=List.mem_map.1 hy
  rfl
 ·intro i y hy
  rw[wc,vk] at hy
  cases e:strs[i]? with
  |none=>rw[e] at hy;cases hy
  |some s=>
   rw[e] at hy
   simp only[rI,bp] at hy
   subst hy
   exact zE (hcell i s e)
theorem UQ: ∀ {l:List aj} {i:Nat} {v:aj},l[i]? =some v->iX l i=v
 | [],_,_,h=>by simp at h
 |_::_,0,_,h=>by simpa[iX] using h
 |_::l,i+1,v,h=>UQ (l:=l) (i:=i) (by simpa using h)
theorem Jj {sz:Nat} {xs:List aj} (hsz: ∀x∈xs,x.cells.length=sz) {i:Nat} {y:aj} (h:(cj xs)[i]? =some y): ∃v,xs[i / sz]? =some v/\v.cells[i % sz]? =some y/\i=i / sz*sz+i % sz:=by
 have hlt:i<(cj xs).length:=by
  rcases iJ i (cj xs).length with h1|h1
  ·exact h1
  ·rw[jS h1] at h;cases h
 rw[lC hsz] at hlt
 have hpos:0<sz:=by
  rcases uc sz with h0|h0
  ·subst h0;omega
  ·exact h0
 have hj:i / sz<xs.length:=(Nat.div_lt_iff_lt_mul hpos).2 hlt
 have hi:i % sz<sz:=Nat.mod_lt _ hpos
 have e:i=i / sz*sz+i % sz:=by rw[Nat.mul_comm];exact(Nat.div_add_mod i sz).symm
 have hg:=Jk hsz hj hi
 rw[<-e,h] at hg
 refine⟨xs[i / sz],j2 hj,?_,e⟩
 rw[UQ (j2 hj)] at hg
 exact hg.symm
theorem apF {W:World} {x:Value} {v:aj} (h:ui W x v):VR (nb W) v x:=by
 obtain⟨d,len,cap,tags,rfl,rfl,hsp,hl,hc,_,_,hcell⟩:=h
 rw[<-hl] at hc ⊢
 have hm:(tags.map ep).length=tags.length:=by simp
 have hsz: ∀y∈tags.map ep,y.cells.length=2:=by
  intro y hy
  obtain⟨s,_,rfl⟩:=List.mem_map.1 hy
  rfl
 rw[<-hm]
 refine .list hsp (Nat.succ_pos 1) hsz (by rw[hm];exact hc) ?_ trivial
 intro i y hy
 obtain⟨u,h1,h2,h3⟩:=Jj hsz hy
 rw[vk] at h1
 cases e:tags[i / 2]? with
 |none=>rw[e] at h1;cases h1
 |some t=>
  rw[e] at h1
  simp only[rI,bp] at h1
  subst h1
  obtain⟨c0,c1⟩:=hcell _ t e
  have hm2:i % 2=0\/i % 2=1:=by omega
  rcases hm2 with hm2|hm2
  ·rw[hm2] at h2 h3
   simp only[ep,aj.cells,gj,bp] at h2
   subst h2
   rw[h3]
   exact zE c0
  ·rw[hm2] at h2 h3
   simp only[ep,aj.cells,lO,gj,bp] at h2
   subst h2
   rw[h3]
   exact zE c1
theorem aa7 (W:World):WR (nb W) .nil W where
 obj m o h:=by cases h
 sep m k x y h:=absurd rfl h
 ro b o v h:=by
  have h:(mD W b o).or (yN W b o)=some v:=h
  cases e:mD W b o with
  |some u=>
   rw[e] at h
   simp only[Option.some_or,bp] at h
   subst h
   unfold mD at e
   rw[aN] at e
   obtain⟨x,h1,h2⟩:=e
   obtain⟨h3,h4⟩:=aoL (G:=nb W) h2
   exact⟨h3,x,h1,h4⟩
  |none=>
   rw[e] at h
   simp only[sQ] at h
   unfold yN at h
   rw[aN] at h
   obtain⟨x,h1,h2⟩:=h
   split at h2
   ·have h2:=Vj h2
    have hs:v.scal=true:=by obtain⟨_,_,_,_,_,rfl,_⟩:=h2;rfl
    exact⟨hs,x,h1,aoe h2⟩
   ·have h2:=Vj h2
    have hs:v.scal=true:=by obtain⟨_,_,_,_,_,rfl,_⟩:=h2;rfl
    exact⟨hs,x,h1,apF h2⟩
   ·cases h2
 apart m ob x i v h:=by cases h
 dim b d h:=by cases h
 below m x h:=by cases h
section
variable {H:Type} {enc:TypeId×Value->H} {W:World} {held:Bool}
theorem Hh:Tryz.prog.underlying 3=some (.int .i64):=by kernel_rfl
theorem CL:Tryz.prog.cellsOf 9=1:=by kernel_rfl
theorem Ih:Tryz.prog.cellsOf 3=1:=by kernel_rfl
theorem Yw:Tryz.prog.cellsOf 37=1:=by kernel_rfl
theorem Yx:Tryz.prog.cellsOf 38=1:=by kernel_rfl
theorem Ii:Tryz.prog.cellsOf 36=2:=by kernel_rfl
theorem CK:Tryz.prog.cellsOf 51=2:=by kernel_rfl
theorem CJ:Tryz.prog.cellsOf 40=6:=by kernel_rfl
theorem Yv:Tryz.prog.cellsOf 24=1:=by kernel_rfl
theorem Yu:Tryz.prog.cellsOf 22=1:=by kernel_rfl
theorem BS:Tryz.prog.underlying 9=some .string:=by kernel_rfl
theorem apS:Tryz.prog.underlying 38=some (.slice 51):=by kernel_rfl
theorem apR:Tryz.prog.underlying 22=some (.slice 40):=by kernel_rfl
theorem G4 {a:Addr} {v:Value} (h:W.cell? a=some v):a.spot=none:=by
 unfold World.cell? at h
 split at h
 ·split at h
  ·cases h
  ·rename_i hs
   cases e:a.spot with
   |none=>rfl
   |some _=>rw[e] at hs;simp at hs
 ·cases h
theorem HU {a:Addr} (h:a.spot=none) (i:Nat):a.add i=⟨a.block,a.off+i,none⟩:=by
 obtain⟨b,o,sp⟩:=a
 simp only at h;subst h
 exact mY b o i
theorem AZ {n:Nat} (h:n<=maxLen):n<small:=by
 have h1:maxLen=9223372036854775807:=by decide
 have h2:small=9223372036854775808:=rfl
 omega
theorem G9 {s:ByteArray} (h:s.size<=maxLen):s.data.toList.length<small:=by
 have e:s.data.toList.length=s.size:=Array.length_toList
 rw[e];exact AZ h
theorem ak1 {α:Type} {l:List α} (h:l.length=1): ∃a,l=[a]:=by
 match l,h with
 | [a],_=>exact⟨a,rfl⟩
theorem T0 {α:Type} {l:List α} (h:l.length=2): ∃a b,l=[a,b]:=by
 match l,h with
 | [a,b],_=>exact⟨a,b,rfl⟩
theorem ak2 {α:Type} {l:List α} (h:l.length=5): ∃a b c d e,l=[a,b,c,d,e]:=by
 match l,h with
 | [a,b,c,d,e],_=>exact⟨a,b,c,d,e,rfl⟩
theorem ak3 {α:Type} {l:List α} (h:l.length=6): ∃a b c d e f,l=[a,b,c,d,e,f]:=by
 match l,h with
 | [a,b,c,d,e,f],_=>exact⟨a,b,c,d,e,f,rfl⟩
theorem ano {fuel:Nat} {cs:List Value} {x:DataW H×List MemPlace} (h:DataW.trod enc Tryz.prog W 0 (fun _=>true) held fuel 37 cs=some x): ∃v,cs=[v]/\(v= .slice none 0 0\/ ∃u,uh W v u):=by
 rcases Go.ChangeShapes.open_strings yP BS CL h with⟨rfl,_⟩|⟨a,len,cap,ss,rfl,_,hl,hm,hss,_,hcell,hsz⟩
 ·exact⟨_,rfl,.inl rfl⟩
 ·simp only[if_true] at hss
  refine⟨_,rfl,.inr ⟨_,a,len,cap,(ss.take len).map (fun s=>s.data.toList),rfl,rfl,?_,?_,hl,AZ (gN hl hm),?_,?_⟩⟩
  ·rcases uc cap with h0|h0
   ·exact .inl h0
   ·refine .inr (G4 (W:=W) (v:=.string (ss.getD 0 ByteArray.empty)) ?_)
    have:=hcell 0 (by omega)
    exact this
  ·rw[fw,List.length_take,hss];omega
  ·intro s hs
   obtain⟨b,hb,rfl⟩:=List.mem_map.1 hs
   have:=hsz b (List.mem_of_mem_take hb)
   exact G9 this
  ·intro i s hi
   rw[vk] at hi
   cases e:(ss.take len)[i]? with
   |none=>rw[e] at hi;cases hi
   |some b=>
    rw[e] at hi
    simp only[rI,bp] at hi
    subst hi
    rw[List.getElem?_take] at e
    split at e
    ·have hlt:=(List.getElem?_eq_some_iff.1 e).1
     have hc:=hcell i hlt
     have hsp:a.spot=none:=G4 (W:=W) (v:=.string (ss.getD 0 ByteArray.empty)) (hcell 0 (by omega))
     rw[HU hsp,List.getD_eq_getElem?_getD,e] at hc
     exact hc
    ·cases e
theorem apQ {fuel:Nat} {cs:List Value} {x:DataW H×List MemPlace} (h:DataW.trod enc Tryz.prog W 0 (fun _=>true) held fuel 51 cs=some x): ∃k v:aB,cs=[.string ⟨⟨k⟩⟩,.string ⟨⟨v⟩⟩]/\k.length<small:=by
 obtain⟨y0,y1,n,_,hl,h0,h1⟩:=Go.ChangeShapes.trod_struct2 Tryz.underlying51 h
 rw[CK] at hl
 obtain⟨a,b,rfl⟩:=T0 hl
 rw[CL] at h0 h1
 obtain⟨s,e0,_,hs⟩:=DataW.trod_string BS h0
 obtain⟨r,e1,_,hr⟩:=DataW.trod_string BS h1
 simp only[nH,e7,xf,od,and_true] at e0
 simp only[gZ,nH,e7,xf,od,and_true] at e1
 subst e0;subst e1
 exact⟨s.data.toList,r.data.toList,rfl,G9 hs⟩
theorem apO {fuel:Nat} {cs:List Value} {x:DataW H×List MemPlace} (h:DataW.trod enc Tryz.prog W 0 (fun _=>true) held fuel 36 cs=some x): ∃k v:Int,cs=[.int .i64 k,.int .i64 v]:=by
 obtain⟨y0,y1,n,_,hl,h0,h1⟩:=Go.ChangeShapes.trod_struct2 Tryz.underlying36 h
 rw[Ii] at hl
 obtain⟨a,b,rfl⟩:=T0 hl
 rw[Ih] at h0 h1
 obtain⟨s,e0,_,_⟩:=DataW.trod_int Hh h0
 obtain⟨r,e1,_,_⟩:=DataW.trod_int Hh h1
 simp only[nH,e7,xf,od,and_true] at e0
 simp only[gZ,nH,e7,xf,od,and_true] at e1
 subst e0;subst e1
 exact⟨s,r,rfl⟩
theorem F6 {α:Type} {P:Nat->α->Prop}: ∀(n:Nat),(∀i,i<n-> ∃o,P i o)-> ∃l:List α,l.length=n/\ ∀(i:Nat) o,l[i]? =some o->P i o
 |0,_=>⟨[],rfl,fun i o h=>by simp at h⟩
 |n+1,h=>by
  obtain⟨l,h1,h2⟩:=F6 n fun i hi=>h i (by omega)
  obtain⟨o,ho⟩:=h n (by omega)
  refine⟨l++[o],by simp[h1],fun i p hp=>?_⟩
  rcases iJ i l.length with hi|hi
  ·rw[List.getElem?_append_left hi] at hp
   exact h2 i p hp
  ·rw[List.getElem?_append_right hi] at hp
   have:i-l.length=0:=by
    rcases uc (i-l.length) with h|h
    ·exact h
    ·rw[jS (by simp;omega)] at hp;cases hp
   rw[this] at hp
   simp only[gj,bp] at hp
   subst hp
   have:i=n:=by omega
   subst this;exact ho
theorem IT {e:TypeId} {c n i:Nat} {a:Addr} {elems:List (DataW H×List MemPlace)} (hc:Tryz.prog.cellsOf e=c) (hi:i<elems.length) (hsp:a.spot=none)
 (h:(W.cells? 0 (a.add (i*Tryz.prog.cellsOf e)) (Tryz.prog.cellsOf e)).bind (DataW.trod enc Tryz.prog W 0 (fun _=>true) held n e)=elems[i]?):
 ∃cs y,DataW.trod enc Tryz.prog W 0 (fun _=>true) held n e cs=some y/\cs.length=c/\ ∀j,j<c->W.cell? ⟨a.block,a.off+(i*c+j),none⟩=cs[j]? :=by
 rw[hc,j2 hi,aN] at h
 obtain⟨cs,h1,h2⟩:=h
 obtain⟨_,hl,hcell⟩:=World.cells?_some h1
 refine⟨cs,_,h2,hl,fun j hj=>?_⟩
 rw[<-hcell j hj,HU hsp,mY,Nat.add_assoc]
theorem V6 {e:TypeId} {n len cap:Nat} {a:Addr} {elems rest:List (DataW H×List MemPlace)} (hpos:0<Tryz.prog.cellsOf e) (hlen:elems.length=len) (_hle:len<=cap)
 (hel: ∀i,i<len->(W.cells? 0 (a.add (i*Tryz.prog.cellsOf e)) (Tryz.prog.cellsOf e)).bind (DataW.trod enc Tryz.prog W 0 (fun _=>true) held n e)=elems[i]?)
 (hsp:rest.length=cap-len/\ ∀j,j<cap-len->(W.cells? 0 (a.add ((len+j)*Tryz.prog.cellsOf e)) (Tryz.prog.cellsOf e)).bind (DataW.trod enc Tryz.prog W 0 (fun _=>true) held n e)=rest[j]?):cap=0\/a.spot=none:=by
 rcases uc cap with h0|h0
 ·exact .inl h0
 ·refine .inr ?_
  have key: ∀o:Option (DataW H×List MemPlace),o.isSome=true->(W.cells? 0 (a.add (0*Tryz.prog.cellsOf e)) (Tryz.prog.cellsOf e)).bind (DataW.trod enc Tryz.prog W 0 (fun _=>true) held n e)=o->a.spot=none:=by
   intro o ho h
   cases o with
   |none=>cases ho
   |some y=>
    rw[aN] at h
    obtain⟨cs,h1,_⟩:=h
    obtain⟨_,hl,hcell⟩:=World.cells?_some h1
    have:=hcell 0 hpos
    rw[Nat.zero_mul] at this
    have hx:(a.add 0).add 0=a:=rfl
    rw[hx,j2 (by omega)] at this
    exact G4 this
  rcases uc len with h1|h1
  ·have:=hsp.2 0 (by omega)
   rw[h1] at this
   refine key _ ?_ this
   rw[j2 (by omega)];rfl
  ·refine key _ ?_ (hel 0 h1)
   rw[j2 (by omega)];rfl
theorem anp {fuel:Nat} {cs:List Value} {x:DataW H×List MemPlace} (h:DataW.trod enc Tryz.prog W 0 (fun _=>true) held fuel 38 cs=some x): ∃v,cs=[v]/\(v= .slice none 0 0\/ ∃u,ui W v u):=by
 rcases DataW.trod_slice apS h with⟨rfl,_⟩|⟨a,len,cap,elems,rest,n,_,rfl,_,_,hl,hm,hlen,hel,hsp,_⟩
 ·exact⟨_,rfl,.inl rfl⟩
 ·have hspot:=V6 (by rw[CK];omega) hlen hl hel (hsp rfl)
  obtain⟨tags,t1,t2⟩:=F6 (P:=fun i (t:cM)=>t.1.length<small/\W.cell? ⟨a.block,a.off+(i*2+0),none⟩=some (.string ⟨⟨t.1⟩⟩)/\W.cell? ⟨a.block,a.off+(i*2+1),none⟩=some (.string ⟨⟨t.2⟩⟩)) len fun i hi=>by
   have hs:a.spot=none:=by
    rcases hspot with h0|h0
    ·omega
    ·exact h0
   obtain⟨cs,y,q1,q2,q3⟩:=IT CK (by omega) hs (hel i hi)
   obtain⟨k,v,rfl,hk⟩:=apQ q1
   exact⟨(k,v),hk,q3 0 (by omega),q3 1 (by omega)⟩
  refine⟨_,rfl,.inr ⟨_,a,len,cap,tags,rfl,rfl,hspot,t1,hl,AZ (gN hl hm),?_,fun i t hi=>(t2 i t hi).2⟩⟩
  intro t ht
  obtain⟨i,hi⟩:=B6 ht
  exact(t2 i t hi).1
theorem anm {fuel:Nat} {cs:List Value} {x:DataW H×List MemPlace} (h:DataW.trod enc Tryz.prog W 0 (fun _=>true) held fuel 40 cs=some x):
 ∃(id:aB) (k px py:Int) (rv tv:Value),cs=[.string ⟨⟨id⟩⟩,.int .i64 k,.int .i64 px,.int .i64 py,rv,tv]/\id.length<small/\(rv= .slice none 0 0\/ ∃u,uh W rv u)/\(tv= .slice none 0 0\/ ∃u,ui W tv u):=by
 obtain⟨xs,n,_,_,hl,hlen,hf⟩:=DataW.trod_struct Tryz.underlying40 h
 rw[CJ] at hl
 obtain⟨a,b,c,d,e,f,rfl⟩:=ak3 hl
 obtain⟨y0,y1,y2,y3,y4,rfl⟩:=ak2 (l:=xs) hlen
 have h0:DataW.trod enc Tryz.prog W 0 (fun _=>true) held n 9 (([a,b,c,d,e,f].drop 0).take (Tryz.prog.cellsOf 9))=some y0:=hf 0 _ rfl
 have h1:DataW.trod enc Tryz.prog W 0 (fun _=>true) held n 3 (([a,b,c,d,e,f].drop 1).take (Tryz.prog.cellsOf 3))=some y1:=hf 1 _ rfl
 have h2:DataW.trod enc Tryz.prog W 0 (fun _=>true) held n 36 (([a,b,c,d,e,f].drop 2).take (Tryz.prog.cellsOf 36))=some y2:=hf 2 _ rfl
 have h3:DataW.trod enc Tryz.prog W 0 (fun _=>true) held n 37 (([a,b,c,d,e,f].drop 4).take (Tryz.prog.cellsOf 37))=some y3:=hf 3 _ rfl
 have h4:DataW.trod enc Tryz.prog W 0 (fun _=>true) held n 38 (([a,b,c,d,e,f].drop 5).take (Tryz.prog.cellsOf 38))=some y4:=hf 4 _ rfl
 rw[CL] at h0
 rw[Ih] at h1
 rw[Ii] at h2
 rw[Yw] at h3
 rw[Yx] at h4
 obtain⟨s,e0,_,hs⟩:=DataW.trod_string BS h0
 obtain⟨k,e1,_,_⟩:=DataW.trod_int Hh h1
 obtain⟨px,py,e2⟩:=apO h2
 obtain⟨rv,e3,hr⟩:=ano h3
 obtain⟨tv,e4,ht⟩:=anp h4
 simp only[nH,gZ,e7,xf,od,and_true] at e0 e1 e2 e3 e4
 obtain⟨rfl,rfl⟩:=e2
 subst e0;subst e1;subst e3;subst e4
 exact⟨s.data.toList,k,px,py,_,_,rfl,G9 hs,hr,ht⟩
theorem aof {x:Value} {v:aj} (h:uh W x v): ∃strs:List aB,bH 1 bB v strs/\strs.length<small/\(∀s∈strs,s.length<small)/\cx v=true:=by
 obtain⟨_,_,_,strs,_,rfl,_,hl,_,h1,h2,_⟩:=h
 refine⟨strs,.inr ⟨_,rfl⟩,by omega,h2,?_⟩
 simp only[cx,yA Wk strs,fL]
theorem apG {x:Value} {v:aj} (h:ui W x v): ∃tags:List cM,bH 2 ep v tags/\tags.length<small/\(∀t∈tags,t.1.length<small)/\cx v=true:=by
 obtain⟨_,_,_,tags,_,rfl,_,hl,_,h1,h2,_⟩:=h
 refine⟨tags,.inr ⟨_,rfl⟩,by omega,h2,?_⟩
 simp only[cx,yA Hd tags,fL]
theorem xR {b o:Nat} {x:Value} {v:aj} (h:W.cell? ⟨b,o,none⟩=some x) (hs:BD x=some v):(nb W).ro b o=some v:=by
 show(mD W b o).or _=_
 have:mD W b o=some v:=by simp only[mD,h,aq,hs]
 rw[this];rfl
theorem aa5 {a:Addr} {i:Nat} {x:Value} {u:aj} {k:IntKind} {z:Int} (hp:W.cell? ⟨a.block,a.off+(i*6+3),none⟩=some (.int k z)) (h:W.cell? ⟨a.block,a.off+(i*6+4),none⟩=some x) (hu:uh W x u): ∃v,(nb W).ro a.block (a.off+(i*6+4))=some v/\uh W x v:=by
 obtain⟨v,h1,h2⟩:=Vi hu
 refine⟨v,?_,h2⟩
 show(mD W _ _).or _=_
 have e:mD W a.block (a.off+(i*6+4))=none:=by
  obtain⟨d,len,cap,_,rfl,_⟩:=hu
  simp only[mD,h,aq];rfl
 have e2:a.off+(i*6+4)-1=a.off+(i*6+3):=by omega
 rw[e,sQ,yN,h,e2,hp]
 exact h1
theorem aa6 {a:Addr} {i:Nat} {x:Value} {u:aj} {y:Option Addr} {p q:Nat} (hp:W.cell? ⟨a.block,a.off+(i*6+4),none⟩=some (.slice y p q)) (h:W.cell? ⟨a.block,a.off+(i*6+5),none⟩=some x) (hu:ui W x u): ∃v,(nb W).ro a.block (a.off+(i*6+5))=some v/\ui W x v:=by
 obtain⟨v,h1,h2⟩:=Vi hu
 refine⟨v,?_,h2⟩
 show(mD W _ _).or _=_
 have e:mD W a.block (a.off+(i*6+5))=none:=by
  obtain⟨d,len,cap,_,rfl,_⟩:=hu
  simp only[mD,h,aq];rfl
 have e2:a.off+(i*6+5)-1=a.off+(i*6+4):=by omega
 rw[e,sQ,yN,h,e2,hp]
 exact h1
theorem ann {fuel:Nat} {cs:List Value} {x:DataW H×List MemPlace} (h:DataW.trod enc Tryz.prog W 0 (fun _=>true) held fuel 22 cs=some x):
 ∃(val:Value) (v:aj) (l:List Obj),cs=[val]/\VR (nb W) v val/\v.scal=true/\bH 6 Obj.val v l/\(∀o∈l,o.Good)/\l.length<small:=by
 rcases DataW.trod_slice apR h with⟨rfl,_⟩|⟨a,len,cap,elems,rest,n,_,rfl,_,_,hl,hm,hlen,hel,hsp,_⟩
 ·refine⟨_,.nils,[],rfl,.nils,rfl,.inl ⟨rfl,rfl⟩,(fun o ho=>by cases ho),by decide⟩
 ·have hspot:=V6 (by rw[CJ];omega) hlen hl hel (hsp rfl)
  obtain⟨l,t1,t2⟩:=F6 (P:=fun i (o:Obj)=>o.Good/\ ∀(j:Nat) v,o.cells[j]? =some v->(nb W).ro a.block (a.off+(i*6+j))=some v) len fun i hi=>by
   have hs:a.spot=none:=by
    rcases hspot with h0|h0
    ·omega
    ·exact h0
   obtain⟨cs,y,q1,q2,q3⟩:=IT CJ (by omega) hs (hel i hi)
   obtain⟨id,k,px,py,rv,tv,rfl,hid,hr,ht⟩:=anm q1
   have p0:=q3 0 (by omega)
   have p1:=q3 1 (by omega)
   have p2:=q3 2 (by omega)
   have p3:=q3 3 (by omega)
   have p4:=q3 4 (by omega)
   have p5:=q3 5 (by omega)
   simp only[gj,lO] at p0 p1 p2 p3 p4 p5
   have R: ∃(v:aj) (strs:List aB),(nb W).ro a.block (a.off+(i*6+4))=some v/\bH 1 bB v strs/\strs.length<small/\(∀s∈strs,s.length<small)/\cx v=true:=by
    rcases hr with rfl|⟨u,hu⟩
    ·exact⟨.nils,[],xR p4 rfl,.inl ⟨rfl,rfl⟩,by decide,(fun s hs=>by cases hs),rfl⟩
    ·obtain⟨v,g1,g2⟩:=aa5 p3 p4 hu
     obtain⟨strs,g3⟩:=aof g2
     exact⟨v,strs,g1,g3⟩
   have hsl: ∃y p q,rv= .slice y p q:=by
    rcases hr with rfl|⟨u,hu⟩
    ·exact⟨_,_,_,rfl⟩
    ·obtain⟨d,len,cap,_,rfl,_⟩:=hu;exact⟨_,_,_,rfl⟩
   have T: ∃(v:aj) (tags:List cM),(nb W).ro a.block (a.off+(i*6+5))=some v/\bH 2 ep v tags/\tags.length<small/\(∀s∈tags,s.1.length<small)/\cx v=true:=by
    rcases ht with rfl|⟨u,hu⟩
    ·exact⟨.nils,[],xR p5 rfl,.inl ⟨rfl,rfl⟩,by decide,(fun s hs=>by cases hs),rfl⟩
    ·obtain⟨y,p,q,rfl⟩:=hsl
     obtain⟨v,g1,g2⟩:=aa6 p4 p5 hu
     obtain⟨tags,g3⟩:=apG g2
     exact⟨v,tags,g1,g3⟩
   obtain⟨rV,strs,r1,r2,r3,r4,r5⟩:=R
   obtain⟨tV,tags,s1,s2,s3,s4,s5⟩:=T
   refine⟨⟨id,k,px,py,rV,tV,strs,tags⟩,⟨⟨r2,s2,hid,r3,r4,s3,s4⟩,r5,s5⟩,?_⟩
   intro j v hv
   match j,hv with
   |0,hv=>simp only[Obj.cells,gj,bp] at hv;subst hv;exact zE p0
   |1,hv=>simp only[Obj.cells,lO,gj,bp] at hv;subst hv;exact xR p1 rfl
   |2,hv=>simp only[Obj.cells,lO,gj,bp] at hv;subst hv;exact xR p2 rfl
   |3,hv=>simp only[Obj.cells,lO,gj,bp] at hv;subst hv;exact xR p3 rfl
   |4,hv=>simp only[Obj.cells,lO,gj,bp] at hv;subst hv;exact r1
   |5,hv=>simp only[Obj.cells,lO,gj,bp] at hv;subst hv;exact s1
   |j+6,hv=>simp[Obj.cells] at hv
  have hg: ∀o∈l,o.Good:=fun o ho=>by
   obtain⟨i,hi⟩:=B6 ho
   exact(t2 i o hi).1
  refine⟨_,.list 6 (l.map Obj.val) .no,l,rfl,?_,rfl,.inr ⟨_,rfl⟩,hg,by rw[t1];exact AZ (gN hl hm)⟩
  have hm2:(l.map Obj.val).length=len:=by simp[t1]
  have hsz: ∀y∈l.map Obj.val,y.cells.length=6:=by
   intro y hy
   obtain⟨o,_,rfl⟩:=List.mem_map.1 hy
   rfl
  have:VR (nb W) (.list 6 (l.map Obj.val) .no) (.slice (some a) (l.map Obj.val).length cap):=by
   refine .list hspot (by omega) hsz (by rw[hm2];exact hl) ?_ trivial
   intro i y hy
   obtain⟨u,h1,h2,h3⟩:=Jj hsz hy
   rw[vk] at h1
   cases e:l[i / 6]? with
   |none=>rw[e] at h1;cases h1
   |some o=>
    rw[e] at h1
    simp only[rI,bp] at h1
    subst h1
    rw[h3]
    exact(t2 _ o e).2 _ _ h2
  rw[hm2] at this
  exact this
theorem Gx {v:Value} {d:DataW H} {ps:List MemPlace} (hv: ∃cs,v= .agg cs) (h:DataW.Trod enc Tryz.prog W 0 (fun _=>true) held 24 v d ps):
 ∃(x:aj) (l:List Obj),VR (nb W) (.agg [x]) v/\bH 6 Obj.val x l/\(∀o∈l,o.Good)/\l.length<small:=by
 obtain⟨fuel,h⟩:=h
 obtain⟨cs,rfl⟩:=hv
 obtain⟨y0,n,_,hl,h0⟩:=Go.ChangeShapes.trod_struct1 Tryz.underlying24 h
 rw[Yu] at h0
 have hcs:(Value.agg cs).cells.toList=cs.toList:=rfl
 rw[hcs] at h0 hl
 rw[Yv] at hl
 obtain⟨val,x,l,e,h1,hsc,h2,h3,h4⟩:=ann h0
 have hc:cs= #[val]:=by
  obtain⟨cl⟩:=cs
  obtain⟨c,rfl⟩:=ak1 (l:=cl) hl
  simp only[nH,e7,xf,od,and_true] at e
  subst e;rfl
 subst hc
 refine⟨x,l,.agg ?_ (.cons h1 .nil),h2,h3,h4⟩
 simp only[dY,List.all_cons,hsc,List.all_nil,fL]
end
end Go.Proofs.YtbfmdojdemckbaaGreat
