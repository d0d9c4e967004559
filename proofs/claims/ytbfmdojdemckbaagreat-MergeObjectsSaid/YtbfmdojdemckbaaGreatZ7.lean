/- Contracts of slices.Equal and object.Same; sorted names; the comparing of strings. -/
import Derived.Test.YtbfmdojdemckbaaGreatZ6
import Derived.Sort.Walk0
import Derived.Lib.Bytealg
namespace Go.Proofs.YtbfmdojdemckbaaGreat
open _root_.Bool renaming and_self→gK,false_and→pB,not_false→ff,not_true→dP,or_eq_true→sP,true_and→iP
open _root_.List renaming cons_beq_cons→A1,drop→aR,eq_nil_of_length_eq_zero→ql,head?_cons→bN,length_append→dn,length_cons→aK,length_nil→aQ,mergeSort_perm→A5,pairwise_mergeSort→A6,take_succ_cons→eP,take→bA
open _root_.Nat renaming add_zero→cY,ble_eq_true_of_le→ew,blt→bP,le_of_ble_eq_true→io,lt_irrefl→fL,reduceAdd→bt,reduceBEq→ae,reduceLT→ar,reduceLeDiff→bR,zero_add→aM,zero_lt_succ→gL
open _root_.Option renaming bind_eq_some_iff→aF,bind_some→ak
open Go.Ag
theorem Tb (o q:cH):(o==q)=(bif o.1==q.1 then bif o.2==q.2 then true else false else false):=by
 obtain⟨a,b⟩:=o
 obtain⟨c,d⟩:=q
 show((a==c)&&(b==d))=_
 cases a==c<;>cases b==d<;>rfl
theorem Wi {sp:FuncId→Option (List ai→Option ai)} {v u:ai} {l r:List ax} (hl:bu 1 bp v l) (hu:bu 1 bp u r) (hlen2:l.length=r.length) (hsmall:l.length<small) {s:St} (hm:s.minw≤s.next) {lc:Ag.Loc}: ∀(rest rest2 pre pre2:List ax) (e:bc),l=pre++rest→r=pre2++rest2→pre.length=pre2.length→
 aq e 0=v→aq e 1=u→aq e 12= .int .i64 (l.length:Nat)→aq e 13= .int .i64 (pre.length:Nat)→
 W (QS sp) 37 (.loop zh) ⟨e,26,lc⟩ s fun x fr s'=>s'=s∧fr.size=26∧((x= .exit 0∧(rest==rest2)=true)∨(x= .ret∧aq fr.env 4= .bool false∧(rest==rest2)=false)):=by
 intro rest
 have hcl:=hl.clean
 have hcu:=hu.clean
 have hsm:small=9223372036854775808:=rfl
 induction rest with
 |nil=>
  intro rest2 pre pre2 e hpre hpre2 hpp h0 h1 h12 h13
  have hl':l.length=pre.length:=by rw [hpre];simp
  have h2:rest2=[]:=by
   have:r.length=pre2.length+rest2.length:=by rw [hpre2];simp
   exact ql (by omega)
  subst h2
  refine W.loop1 ?_
  unfold zh
  refine W.seq (W.reg ?_)
  unfold DA
  simp only [az,aA,aB,aW,aj,aC,aw,cQ,ak,aZ,cT,aP,cZ,bS,and_true,tA,ar,decide_false,h12,h13,hl',fL,aN]
  refine W.seq (W.cond (t:=false) (by simp only [aj,ah,ae,cT, *]) ?_)
  exact W.exit ⟨rfl,rfl,.inl rfl⟩
 |cons o rest ih=>
  intro rest2 pre pre2 e hpre hpre2 hpp h0 h1 h12 h13
  have hlt:pre.length<l.length:=by rw [hpre];simp
  have hat:l[pre.length]? =some o:=by rw [hpre];simp
  cases rest2 with
  |nil=>
   have:r.length=pre2.length:=by rw [hpre2];simp
   omega
  |cons q rest2=>
  have hat2:r[pre.length]? =some q:=by rw [hpre2,hpp];simp
  have hia:=fun lc=>hl.at mp hat lc .i64
  have hiu:=fun lc=>hu.at mp hat2 lc .i64
  have hwr:IntKind.i64.wrap ((pre.length:Int)+1)=((pre.length+1:Nat):Int):=by rw [eC (by omega) (by omega)];omega
  refine W.loop1 ?_
  unfold zh
  refine W.seq (W.reg ?_)
  unfold DA
  simp only [az,aA,aB,aW,aj,aC,aw,cQ,ak,aZ,cT,aP,cZ,tA,ar,dT,h12,h13,hlt,aN]
  refine W.seq (W.cond (t:=true) (by simp only [aj,ah,ae,cT, *]) (W.skip ?_))
  simp only [aN]
  refine W.seq (W.block (W.sreg ?_))
  unfold M3
  simp only [az,aA,aB,ah,aE,aJ,aj,aw,cT,cF,bS,tA,ae,ar,h13]
  refine W.seq (W.drawQ hm ?_)
  unfold M4
  simp only [fh,fg,fu,isStore,ah,aE,bf,aW,ec,aj,aC,eI,aw,yA,kF,ak,cu,cT,cF,aP,aR,bN,bS,tA,ae,ar,dD,h0,h1,hia,hiu,bp,aN]
  cases hb:o==q with
  |false=>
   refine W.cond (t:=true) (by simp only [aj,ah,ae,cT,cF,ff]) (W.sreg ?_)
   unfold M5
   simp only [az,aA,aB,aJ,aI,bJ,aw,ff,tA,ar]
   refine W.ret ⟨rfl,rfl,.inr ⟨rfl,by simp only [ah,ae,cT,cF, *],?_⟩⟩
   simp only [A1,hb,pB]
  |true=>
   refine W.cond (t:=false) (by simp only [aj,ah,ae,cT,cF,dP]) (W.skip ?_)
   simp only [dS,aN]
   refine W.reg ?_
   unfold M6
   simp only [az,aA,aB,ah,aE,aW,aj,aI,aC,bo,aw,d8,ak,aZ,cT,cF,aP,dP,bS,tA,ae,ar,h13,hwr,aN]
   refine(ih rest2 (pre++[o]) (pre2++[q]) _ (by rw [hpre];simp) (by rw [hpre2];simp) (by simp [hpp]) (by simp only [ah,ae,cF, *]) (by simp only [ah,ae,cF, *]) (by simp only [ah,ae,cF, *]) (by simp only [ah,ae,cT,cF,dn,aK,aQ])).mono ?_
   simp only [A1,hb,iP]
   exact fun _ _ _ h=>h
theorem Wj {sp:FuncId→Option (List ai→Option ai)} (h0:sp 37=none) {v u:ai} {l r:List ax} (hl:bu 1 bp v l) (hu:bu 1 bp u r) (hsmall:l.length<small) {s:St} (hm:s.minw≤s.next):br (QS sp) 37 [v,u] s (.bool (l==r)) s:=by
 have hlen:=fun mk s=>hl.len iT jl mk s
 have hlen2:=fun mk s=>hu.len iT jl mk s
 have hcl:=hl.clean
 have hcu:=hu.clean
 refine br.of2 ad2 ad1 ad4 ad3 h0 ?_
 unfold MV
 refine W.sreg ?_
 unfold MW
 simp only [dg,cM,az,aA,aB,aJ,aI,bJ,aw,cT,aK,aQ,tA,aM,ar,bt,bR,bQ,dT]
 refine W.seq (W.sreg ?_)
 unfold MX
 simp only [az,aA,aB,ah,aE,aW,cL,aj,aC,be,bh,aw,cd,uC,da,bH,ak,aZ,cT,cF,aP,bX,bS,tA,ae,ar,aU,YY,YZ,hcl,hcu,hlen,hlen2,qJ]
 cases hb:l.length==r.length with
 |false=>
  refine W.cond (t:=true) (by simp only [aj,ah,ae,cT,cF,ff]) (W.sreg ?_)
  unfold MY
  simp only [az,aA,aB,aJ,aI,bJ,aw,ff,tA,ar]
  refine W.ret ⟨rfl,.inr rfl,cp ?_ rfl⟩
  have:(l==r)=false:=beq_eq_false_iff_ne.2 fun e=>by subst e;simp at hb
  simp only [ah,ae,cT,cF,this]
 |true=>
  have hll:l.length=r.length:=by simpa using hb
  refine W.cond (t:=false) (by simp only [aj,ah,ae,cT,cF,dP]) (W.skip ?_)
  simp only [aN]
  refine W.seq (W.sseq (W.reg ?_))
  unfold MZ
  simp only [az,aA,aB,ah,aE,cL,aj,aI,aC,be,bh,bo,aw,cd,da,bH,ak,cT,cF,aP,bX,dP,bS,tA,ae,ar,aU,YX,hcl,hlen,aN]
  refine W.block ?_
  refine(Wi hl hu hll hsmall hm l r [] [] _ rfl rfl rfl (by simp only [ah,ae,cT,cF, *]) (by simp only [ah,ae,cT,cF, *]) (by simp only [ah,ae,cT,cF, *]) (by simp only [ah,ae,cT,cF];rfl)).mono ?_
  rintro x ⟨e,sz,lc⟩ s' ⟨rfl,hs,⟨rfl,hok⟩|⟨rfl,h4,hok⟩⟩
  ·have hs:sz=26:=hs
   subst hs
   show W (QS sp) 37 _ _ _ _
   refine W.sreg ?_
   unfold M7
   simp only [az,aA,aB,aJ,aI,bJ,aw,tA,ar]
   refine W.ret ⟨rfl,.inr rfl,cp ?_ rfl⟩
   simp only [ah,ae,cT,hok]
  ·exact⟨rfl,.inr rfl,cp (by rw [h4,hok]) rfl⟩
def oT:Sp
 | [a,b]=>bif pures [a,b] then(gN 1 kZ a).bind fun l=>(gN 1 kZ b).bind fun r=>bif bP l.length small then some (.bool (l==r)) else none else none
 |_=>none
theorem yG {v u:ai} {l r:List ax} (hl:bu 1 bp v l) (hu:bu 1 bp u r) (hv:bM v=true) (hu2:bM u=true) (hs:l.length<small):oT [v,u]=some (.bool (l==r)):=by
 have q1:bP l.length small=true:=ew hs
 simp only [oT,pures,hv,hu2,gK,cT,jE nX hl,jE nX hu,ak,q1]
theorem Hs:eD Tryz.prog 37 oT:=by
 intro args x hv G h w xs wr hx
 unfold oT at hv
 split at hv
 ·rename_i a b
  obtain⟨hp,hv⟩:=bW hv
  simp only [aF] at hv
  obtain⟨l,h1,r,h2,hv⟩:=hv
  obtain⟨hs,hv⟩:=bW hv
  injection hv with hv;subst hv
  have hl:=iX (fun v a=>nW) h1
  have hr:=iX (fun v a=>nW) h2
  exact gJ (Q:=QT []) (gD .nil) (fun _=>gL 1) (args:=[a,b]) (v:=.bool (l==r)) (s':=s0) (kB hp) (by rw [iw hp];exact Wj (sp:=fun f=>eY f []) rfl hl hr (io hs) (Nat.le_refl _)) rfl ⟨1,rfl⟩ G h w xs wr hx
 ·cases hv
theorem Wn {sp:FuncId→Option (List ai→Option ai)} {v u:ai} {l r:List cH} (hl:bu 2 ek v l) (hu:bu 2 ek u r) (hlen2:l.length=r.length) (hsmall:l.length<small) {s:St} (hm:s.minw≤s.next) {lc:Ag.Loc}: ∀(rest rest2 pre pre2:List cH) (e:bc),l=pre++rest→r=pre2++rest2→pre.length=pre2.length→
 aq e 0=v→aq e 1=u→aq e 12= .int .i64 (l.length:Nat)→aq e 13= .int .i64 (pre.length:Nat)→
 W (QS sp) 38 (.loop zi) ⟨e,26,lc⟩ s fun x fr s'=>s'=s∧fr.size=26∧((x= .exit 0∧(rest==rest2)=true)∨(x= .ret∧aq fr.env 4= .bool false∧(rest==rest2)=false)):=by
 intro rest
 have hcl:=hl.clean
 have hcu:=hu.clean
 have hsm:small=9223372036854775808:=rfl
 induction rest with
 |nil=>
  intro rest2 pre pre2 e hpre hpre2 hpp h0 h1 h12 h13
  have hl':l.length=pre.length:=by rw [hpre];simp
  have h2:rest2=[]:=by
   have:r.length=pre2.length+rest2.length:=by rw [hpre2];simp
   exact ql (by omega)
  subst h2
  refine W.loop1 ?_
  unfold zi
  refine W.seq (W.reg ?_)
  unfold DB
  simp only [az,aA,aB,aW,aj,aC,aw,cQ,ak,aZ,cT,aP,cZ,bS,and_true,tA,ar,decide_false,h12,h13,hl',fL,aN]
  refine W.seq (W.cond (t:=false) (by simp only [aj,ah,ae,cT, *]) ?_)
  exact W.exit ⟨rfl,rfl,.inl rfl⟩
 |cons o rest ih=>
  intro rest2 pre pre2 e hpre hpre2 hpp h0 h1 h12 h13
  have hlt:pre.length<l.length:=by rw [hpre];simp
  have hat:l[pre.length]? =some o:=by rw [hpre];simp
  cases rest2 with
  |nil=>
   have:r.length=pre2.length:=by rw [hpre2];simp
   omega
  |cons q rest2=>
  have hat2:r[pre.length]? =some q:=by rw [hpre2,hpp];simp
  have hia:=fun lc=>hl.at u4 hat lc .i64
  have hiu:=fun lc=>hu.at u4 hat2 lc .i64
  have hwr:IntKind.i64.wrap ((pre.length:Int)+1)=((pre.length+1:Nat):Int):=by rw [eC (by omega) (by omega)];omega
  refine W.loop1 ?_
  unfold zi
  refine W.seq (W.reg ?_)
  unfold DB
  simp only [az,aA,aB,aW,aj,aC,aw,cQ,ak,aZ,cT,aP,cZ,tA,ar,dT,h12,h13,hlt,aN]
  refine W.seq (W.cond (t:=true) (by simp only [aj,ah,ae,cT, *]) (W.skip ?_))
  simp only [aN]
  refine W.seq (W.block (W.sreg ?_))
  unfold Nf
  simp only [az,aA,aB,ah,aE,aJ,aj,aw,cT,cF,bS,tA,ae,ar,h13]
  refine W.seq (W.drawQ hm ?_)
  unfold Ng
  simp only [fh,fg,fu,isStore,ah,aE,bf,aW,ec,aj,aC,eI,aw,di,ak,bZ,cT,cF,aP,aK,aQ,cut,bA,aR,eP,bS,tA,aM,ae,ar,bt,aU,Ao,h0,h1,hia,hiu,ek,aN,alw]
  cases hb:(bif o.1==q.1 then bif o.2==q.2 then true else false else false) with
  |false=>
   have hq:(o==q)=false:=by rw [Tb,hb]
   refine W.cond (t:=true) (by simp only [aj,ah,ae,cT,cF,ff]) (W.sreg ?_)
   unfold Nh
   simp only [az,aA,aB,aJ,aI,bJ,aw,ff,tA,ar]
   refine W.ret ⟨rfl,rfl,.inr ⟨rfl,by simp only [ah,ae,cT,cF, *],?_⟩⟩
   simp only [A1,hq,pB]
  |true=>
   have hq:(o==q)=true:=by rw [Tb,hb]
   refine W.cond (t:=false) (by simp only [aj,ah,ae,cT,cF,dP]) (W.skip ?_)
   simp only [dS,aN]
   refine W.reg ?_
   unfold Ni
   simp only [az,aA,aB,ah,aE,aW,aj,aI,aC,bo,aw,d8,ak,aZ,cT,cF,aP,dP,bS,tA,ae,ar,h13,hwr,aN]
   refine(ih rest2 (pre++[o]) (pre2++[q]) _ (by rw [hpre];simp) (by rw [hpre2];simp) (by simp [hpp]) (by simp only [ah,ae,cF, *]) (by simp only [ah,ae,cF, *]) (by simp only [ah,ae,cF, *]) (by simp only [ah,ae,cT,cF,dn,aK,aQ])).mono ?_
   simp only [A1,hq,iP]
   exact fun _ _ _ h=>h
theorem Wo {sp:FuncId→Option (List ai→Option ai)} (h0:sp 38=none) {v u:ai} {l r:List cH} (hl:bu 2 ek v l) (hu:bu 2 ek u r) (hsmall:l.length<small) {s:St} (hm:s.minw≤s.next):br (QS sp) 38 [v,u] s (.bool (l==r)) s:=by
 have hlen:=fun mk s=>hl.len se sd mk s
 have hlen2:=fun mk s=>hu.len se sd mk s
 have hcl:=hl.clean
 have hcu:=hu.clean
 refine br.of2 ad7 ad6 ad9 ad8 h0 ?_
 unfold M8
 refine W.sreg ?_
 unfold M9
 simp only [dg,cM,az,aA,aB,aJ,aI,bJ,aw,cT,aK,aQ,tA,aM,ar,bt,bR,bQ,dT]
 refine W.seq (W.sreg ?_)
 unfold Na
 simp only [az,aA,aB,ah,aE,aW,cL,aj,aC,be,bh,aw,cd,uC,da,bH,ak,aZ,cT,cF,aP,bX,bS,tA,ae,ar,aU,Y1,Y2,hcl,hcu,hlen,hlen2,qJ]
 cases hb:l.length==r.length with
 |false=>
  refine W.cond (t:=true) (by simp only [aj,ah,ae,cT,cF,ff]) (W.sreg ?_)
  unfold Nb
  simp only [az,aA,aB,aJ,aI,bJ,aw,ff,tA,ar]
  refine W.ret ⟨rfl,.inr rfl,cp ?_ rfl⟩
  have:(l==r)=false:=beq_eq_false_iff_ne.2 fun e=>by subst e;simp at hb
  simp only [ah,ae,cT,cF,this]
 |true=>
  have hll:l.length=r.length:=by simpa using hb
  refine W.cond (t:=false) (by simp only [aj,ah,ae,cT,cF,dP]) (W.skip ?_)
  simp only [aN]
  refine W.seq (W.sseq (W.reg ?_))
  unfold Nc
  simp only [az,aA,aB,ah,aE,cL,aj,aI,aC,be,bh,bo,aw,cd,da,bH,ak,cT,cF,aP,bX,dP,bS,tA,ae,ar,aU,Y0,hcl,hlen,aN]
  refine W.block ?_
  refine(Wn hl hu hll hsmall hm l r [] [] _ rfl rfl rfl (by simp only [ah,ae,cT,cF, *]) (by simp only [ah,ae,cT,cF, *]) (by simp only [ah,ae,cT,cF, *]) (by simp only [ah,ae,cT,cF];rfl)).mono ?_
  rintro x ⟨e,sz,lc⟩ s' ⟨rfl,hs,⟨rfl,hok⟩|⟨rfl,h4,hok⟩⟩
  ·have hs:sz=26:=hs
   subst hs
   show W (QS sp) 38 _ _ _ _
   refine W.sreg ?_
   unfold Nj
   simp only [az,aA,aB,aJ,aI,bJ,aw,tA,ar]
   refine W.ret ⟨rfl,.inr rfl,cp ?_ rfl⟩
   simp only [ah,ae,cT,hok]
  ·exact⟨rfl,.inr rfl,cp (by rw [h4,hok]) rfl⟩
def uM:Sp
 | [a,b]=>bif pures [a,b] then(gN 2 nY a).bind fun l=>(gN 2 nY b).bind fun r=>bif bP l.length small then some (.bool (l==r)) else none else none
 |_=>none
theorem Wk {v u:ai} {l r:List cH} (hl:bu 2 ek v l) (hu:bu 2 ek u r) (hv:bM v=true) (hu2:bM u=true) (hs:l.length<small):uM [v,u]=some (.bool (l==r)):=by
 have q1:bP l.length small=true:=ew hs
 simp only [uM,pures,hv,hu2,gK,cT,jE rC hl,jE rC hu,ak,q1]
theorem Wm:eD Tryz.prog 38 uM:=by
 intro args x hv G h w xs wr hx
 unfold uM at hv
 split at hv
 ·rename_i a b
  obtain⟨hp,hv⟩:=bW hv
  simp only [aF] at hv
  obtain⟨l,h1,r,h2,hv⟩:=hv
  obtain⟨hs,hv⟩:=bW hv
  injection hv with hv;subst hv
  have hl:=iX (fun v a=>rB) h1
  have hr:=iX (fun v a=>rB) h2
  exact gJ (Q:=QT []) (gD .nil) (fun _=>gL 1) (args:=[a,b]) (v:=.bool (l==r)) (s':=s0) (kB hp) (by rw [iw hp];exact Wo (sp:=fun f=>eY f []) rfl hl hr (io hs) (Nat.le_refl _)) rfl ⟨1,rfl⟩ G h w xs wr hx
 ·cases hv
def kx (o q:Obj):Bool:=bif o.id==q.id then bif bL o.kind q.kind then bif(bif bL o.x q.x then bif bL o.y q.y then true else false else false) then bif o.refs==q.refs then o.tags==q.tags else false else false else false else false
theorem E3 (o q:Obj):kx o q=true↔o.Eqv q:=by
 unfold kx
 constructor
 ·intro h
  cases h1:o.id==q.id with
  |false=>rw [h1] at h;cases h
  |true=>
  rw [h1] at h
  cases h2:bL o.kind q.kind with
  |false=>rw [h2] at h;cases h
  |true=>
  rw [h2] at h
  cases h3:bL o.x q.x with
  |false=>rw [h3] at h;cases h
  |true=>
  rw [h3] at h
  cases h4:bL o.y q.y with
  |false=>rw [h4] at h;cases h
  |true=>
  rw [h4] at h
  cases h5:o.refs==q.refs with
  |false=>rw [h5] at h;cases h
  |true=>
  rw [h5] at h
  simp only [cT] at h
  simp only [bL,beq_iff_eq] at h1 h2 h3 h4 h5 h
  exact⟨h1.symm,h2.symm,h3.symm,h4.symm,h5.symm,h.symm⟩
 ·rintro⟨h1,h2,h3,h4,h5,h6⟩
  simp only [h1,h2,h3,h4,h5,h6,bL,bS,cT]
theorem ajt {sp:FuncId→Option (List ai→Option ai)} (h16:sp 16=none) (h37:sp 37=some oT) (h38:sp 38=some uM) {o q:Obj} (ho:o.Good) (hq:q.Good) (s:St):br (QS sp) 16 [o.val,q.val] s (.bool (kx o q)) s:=by
 have rcl:=ho.refs.clean
 have tcl:=ho.tags.clean
 have rcq:=hq.refs.clean
 have tcq:=hq.tags.clean
 have e1:=yG ho.refs hq.refs ho.pr hq.pr ho.reflen
 have e2:=Wk ho.tags hq.tags ho.pt hq.pt ho.taglen
 refine br.of2 acf ace ach acg h16 ?_
 unfold Kc
 refine W.sreg ?_
 unfold Kd
 simp only [dg,cM,az,aA,aB,ah,dx,cz,aJ,ja,aj,aI,aC,bJ,eM,aw,bH,di,ak,bZ,cT,cF,bX,aK,aQ,bS,tA,aM,ae,ar,bt,bR,bQ,dT,Yy,Yz,Obj.val]
 refine W.sreg ?_
 unfold Ke
 have fin: ∀e' lc',aq e' 4= .bool (kx o q)→W (QS sp) 16 .ret ⟨e',38,lc'⟩ s fun x fr' s1=>s1=s∧(x= .normal∨x= .ret)∧ ∃vs,gh (QS sp) [] fr' s1 [.tmp 4]=some vs∧jw vs= .bool (kx o q):=fun e' lc' h=>W.ret ⟨rfl,.inr rfl,cp h rfl⟩
 cases h1:o.id==q.id with
 |false=>
  simp only [az,aA,cJ,aB,ee,ia,ah,dx,cz,bI,aE,aJ,cw,bf,aW,b7,aj,aI,aC,bJ,bU,cx,dv,aw,iJ,ak,cu,cT,cF,aP,aR,bN,bS,tA,cY,ae,ar,aU,dD,oU,Obj.cells,h1]
  exact fin _ _ (by simp only [ah,ae,cT,cF,kx,h1])
 |true=>
 cases h2:bL o.kind q.kind with
 |false=>
  simp only [az,aA,cJ,aB,dz,ee,eA,ia,ah,dx,cz,bI,aE,aJ,cw,bf,aW,b7,aj,aI,aC,bJ,bU,cx,dy,dv,aw,jr,iJ,ak,aZ,cu,cT,cF,aP,aR,bN,bS,tA,aM,cY,ae,ar,aU,fT,dD,oU,yJ,Obj.cells,h1,h2]
  exact fin _ _ (by simp only [ah,ae,cT,cF,kx,h1,h2])
 |true=>
 cases h3:(bif bL o.x q.x then bif bL o.y q.y then true else false else false) with
 |false=>
  simp only [az,aA,cJ,aB,dz,ee,eA,ia,ah,dx,cz,bI,aE,aJ,cw,bf,aW,b7,aj,aI,aC,bJ,bU,cx,dy,dv,aw,jr,iJ,ak,aZ,cu,bZ,cT,cF,aP,aK,aQ,cut,bA,aR,bN,eP,bS,tA,aM,cY,ae,ar,bt,aU,fT,dD,jb,oU,yJ,B8,Obj.cells,h1,h2,pm,h3]
  exact fin _ _ (by simp only [ah,ae,cT,cF,kx,h1,h2,h3])
 |true=>
 cases h4:o.refs==q.refs with
 |false=>
  simp only [az,aA,cJ,aB,dz,ee,eA,ia,ah,dx,cz,bI,aE,aJ,cw,bf,aW,b7,dc,db,aj,aI,aC,be,bh,bJ,bU,cx,dy,dv,aw,jr,iJ,ak,aZ,cu,bZ,cT,cF,aP,dt,aK,aQ,cut,bA,aR,bN,eP,bS,tA,aM,cY,ae,ar,bt,aU,fT,dD,jb,iE,oU,yJ,B8,qE,Obj.cells,rcl,rcq,h1,h2,pm,h3,h37,e1,h4]
  exact fin _ _ (by simp only [ah,ae,cT,cF,kx,h1,h2,h3,h4])
 |true=>
  simp only [az,aA,cJ,aB,dz,eA,ah,dx,cz,bI,aE,aJ,cw,bf,aW,b7,dc,db,aj,aI,aC,be,bh,bJ,bU,cx,dy,aw,jr,iJ,ak,aZ,cu,bZ,cT,cF,aP,dt,aK,aQ,cut,bA,aR,bN,eP,bS,tA,aM,cY,ae,ar,bt,aU,fT,dD,jb,iE,mD,oU,yJ,B8,qE,tm,Obj.cells,rcl,tcl,rcq,tcq,h1,h2,pm,h3,h37,e1,h4,h38,e2]
  exact fin _ _ (by simp only [ah,ae,cT,cF,kx,h1,h2,h3,h4])
def ow:Sp
 | [a,b]=>(nV a).bind fun o=>(nV b).bind fun q=>some (.bool (kx o q))
 |_=>none
theorem E7 {o q:Obj} (h:o.Good) (h2:q.Good):ow [o.val,q.val]=some (.bool (kx o q)):=by
 simp only [ow,yz h,yz h2,ak]
def V1:eE:=[(37,oT),(38,uM)]
theorem T9:fV V1:=.cons Hs (.cons Wm .nil)
theorem Ah:eD Tryz.prog 16 ow:=by
 intro args u hv G h w xs wr hx
 unfold ow at hv
 split at hv
 ·simp only [aF,Option.some.injEq] at hv
  obtain⟨o,ho,q,hq,rfl⟩:=hv
  obtain⟨rfl,hg⟩:=uz ho
  obtain⟨rfl,hg2⟩:=uz hq
  have hp:pures [o.val,q.val]=true:=by simp only [pures,hg.pure,hg2.pure,gK]
  exact gJ (Q:=QT V1) (gD T9) (fun _=>gL 1) (args:=[o.val,q.val]) (v:=.bool (kx o q)) (s':=s0) (kB hp) (by rw [iw hp];exact ajt (sp:=fun f=>eY f V1) rfl rfl rfl hg hg2 s0) rfl ⟨1,rfl⟩ G h w xs wr hx
 ·cases hv
def ko (a b:List UInt8):Bool:=decide (a≤b)
def tB (x:List UInt8):List (List UInt8)→List (List UInt8)
 | []=>[x]
 |y::l=>bif Ag.leBytes x y then x::y::l else y::tB x l
def fq:List (List UInt8)→List (List UInt8)
 | []=>[]
 |x::l=>tB x (fq l)
theorem Ag.leBytes_iff (x y:List UInt8):Ag.leBytes x y=ko x y:=by
 have h:Ag.leBytes x y=(Op.bytesLess x y||x==y):=rfl
 rw [h,Go.Proofs.bytesLess_eq]
 apply Bool.eq_iff_iff.2
 simp only [ko,sP,decide_eq_true_eq,beq_iff_eq]
 constructor
 ·rintro(h|rfl)
  ·exact List.le_of_lt h
  ·exact List.le_refl _
 ·intro h
  by_cases e:x=y
  ·exact .inr e
  ·exact .inl (Classical.byContradiction fun hc=>e (List.le_antisymm h (List.not_lt.1 hc)))
theorem CN (x:List UInt8): ∀l,(tB x l).Perm (x::l)
 | []=>.refl _
 |y::l=>by
  simp only [tB]
  cases Ag.leBytes x y with
  |true=>exact .refl _
  |false=>exact((CN x l).cons y).trans (.swap x y l)
theorem l5: ∀l,(fq l).Perm l
 | []=>.refl _
 |x::l=>(CN x _).trans ((l5 l).cons x)
theorem zM (a b c:List UInt8) (h1:ko a b=true) (h2:ko b c=true):ko a c=true:=by
 simp only [ko,decide_eq_true_eq] at*;exact List.le_trans h1 h2
theorem zL (a b:List UInt8):(ko a b||ko b a)=true:=by
 simp only [ko,sP,decide_eq_true_eq];exact List.le_total a b
theorem Ij (x:List UInt8): ∀l,l.Pairwise (fun a b=>ko a b=true)→(tB x l).Pairwise (fun a b=>ko a b=true)
 | [],_=>by simp [tB]
 |y::l,h=>by
  simp only [tB]
  cases e:Ag.leBytes x y with
  |true=>
   rw [Ag.leBytes_iff] at e
   refine List.pairwise_cons.2 ⟨fun z hz=>?_,h⟩
   rcases List.mem_cons.1 hz with rfl|hz
   ·exact e
   ·exact zM _ _ _ e ((List.pairwise_cons.1 h).1 z hz)
  |false=>
   rw [Ag.leBytes_iff] at e
   refine List.pairwise_cons.2 ⟨fun z hz=>?_,Ij x l (List.pairwise_cons.1 h).2⟩
   rcases List.mem_cons.1 ((CN x l).mem_iff.1 hz) with rfl|hz
   ·have:=zL z y
    rw [e,Bool.false_or] at this
    exact this
   ·exact(List.pairwise_cons.1 h).1 z hz
theorem SO: ∀l,(fq l).Pairwise (fun a b=>ko a b=true)
 | []=>.nil
 |x::l=>Ij x _ (SO l)
theorem Fw (l:List (List UInt8)):l.mergeSort (fun x y=>decide (x≤y))=fq l:=by
 refine List.Perm.eq_of_pairwise (le:=fun a b=>ko a b=true) (fun a b _ _ h1 h2=>?_) (A6 zM zL l) (SO l) ((A5 l _).trans (l5 l).symm)
 simp only [ko,decide_eq_true_eq] at h1 h2
 exact List.le_antisymm h1 h2
theorem SN {l r:List ax} (h:l.Perm r):fq l=fq r:=by
 rw [←Fw,←Fw]
 refine List.Perm.eq_of_pairwise (le:=fun a b=>ko a b=true) (fun a b _ _ h1 h2=>?_) (A6 zM zL l) (A6 zM zL r) (((A5 l _).trans h).trans (A5 r _).symm)
 simp only [ko,decide_eq_true_eq] at h1 h2
 exact List.le_antisymm h1 h2
def xp:List ai→ai
 | []=>.nils
 |x::l=>.list 1 (x::l) .no
def dV:List UInt8→List UInt8→Int
 | [],[]=>0
 | [],_::_=> -1
 |_::_,[]=>1
 |a::x,b::y=>bif bP a.toNat b.toNat then-1 else bif bP b.toNat a.toNat then 1 else dV x y
def mj:Sp
 | [.str a,.str b]=>some (.int .i64 (dV a b))
 |_=>none
theorem VO: ∀(a b:List UInt8),dV a b=Lib.compareBytes a b:=by
 intro a
 induction a with
 |nil=>intro b;cases b<;>rfl
 |cons u x ih=>
  intro b
  cases b with
  |nil=>rfl
  |cons v y=>
   simp only [dV,Lib.compareBytes,UInt8.lt_iff_toNat_lt,cP,ih]
   by_cases h1:u.toNat<v.toNat
   ·simp [h1]
   ·by_cases h2:v.toNat<u.toNat<;>simp [h1,h2]
theorem BN:eD Tryz.prog 83 mj:=by
 intro args v hv G h w xs wr hx
 unfold mj at hv
 split at hv
 ·rename_i a b
  injection hv with hv;subst hv
  cases hx with
  |cons p q=>
   cases q with
   |cons q r=>
    cases r
    cases p
    cases q
    refine .inl ⟨.int .i64 (Lib.compareBytes a b),w,?_,G,wr,.refl,?_⟩
    ·have:=run_callFunc_extern (P:=Tryz.prog) (f:=83) (fn:=Tryz.f83) (e:=Extern.BytealgCompare.compare) (by kernel_rfl) (by kernel_rfl) (by kernel_rfl) (by kernel_rfl) (by kernel_rfl) #[.string ⟨⟨a⟩⟩,.string ⟨⟨b⟩⟩] w
     rw [show(⟨[Value.string ⟨⟨a⟩⟩,.string ⟨⟨b⟩⟩]⟩:Array Value)= #[.string ⟨⟨a⟩⟩,.string ⟨⟨b⟩⟩] from rfl,this,Lib.run_compareString]
     rfl
    ·rw [VO];exact .int _ _
 ·cases hv
end Go.Proofs.YtbfmdojdemckbaaGreat
