/- Contracts of planisphereref13.Few, planisphereref12.Same, of names and tags of planisphereref11. -/
import Derived.Test.YtbfmdojdemckbaaGreatZ4
namespace Go.Proofs.YtbfmdojdemckbaaGreat
open _root_.List renaming drop→aR,getElem?_eq_getElem→jf,head?_cons→bN,length_append→dn,length_cons→aK,length_nil→aQ
open _root_.Nat renaming add_zero→cY,lt_irrefl→fL,reduceAdd→bt,reduceBEq→ae,reduceLT→ar,reduceLeDiff→bR,zero_add→aM
open _root_.Option renaming bind_some→ak
open Go.Ag
def sn:List ax→Bool
 | []=>true
 |r::l=>bif decide (60<r.length) then false else sn l
def S6 (t:cH):Bool:=du 300 (IntKind.i64.wrap ((t.1.length:Int)+(t.2.length:Int)))
def sH:List cH→Bool
 | []=>true
 |t::l=>bif S6 t then false else sH l
def vA (o:Obj):Bool:=decide (12<o.refs.length)||decide (20<o.tags.length)||decide (60<o.id.length)
def om:List Obj→Bool
 | []=>true
 |o::l=>bif vA o then false else bif sn o.refs then bif sH o.tags then om l else false else false
def jY (l:List Obj) (n:Int):Bool:=bif du n (l.length:Nat) then false else om l
structure yi (v:ai) (o:Obj) (i g:Nat) (e:bc) (lc:Ag.Loc):Prop where
 h2:aq e 2= .lref 2 1 0
 g2:lc.gen 2=1
 b2:lc.get 2 1=some [v]
 h6:aq e 6= .lref 6 g 0
 g6:lc.gen 6=g
 b6:lc.get 6 g=some o.cells
 h5:aq e 5= .int .i64 (i:Nat)
section
variable {sp:FuncId→Option (List ai→Option ai)}
theorem W9 {v:ai} {o:Obj} (ho:o.Ok) {i g:Nat} {s:St} {lc:Ag.Loc}: ∀(rest pre:List ax) (e:bc),o.refs=pre++rest→yi v o i g e lc→aq e 7= .int .i64 (pre.length:Nat)→
 W (QS sp) 22 (.loop zb) ⟨e,79,lc⟩ s fun x fr s'=>s'=s∧ ∃e',fr=⟨e',79,lc⟩∧((x= .exit 2∧yi v o i g e' lc∧sn rest=true)∨(x= .ret∧aq e' 4= .bool false∧sn rest=false)):=by
 intro rest
 have hlen:=fun mk s=>ho.refs.len iT jl mk s
 have hcl:=ho.refs.clean
 have hsm:small=9223372036854775808:=rfl
 induction rest with
 |nil=>
  intro pre e hpre F h7
  obtain⟨h2,g2,b2,h6,g6,b6,h5⟩:=F
  have hl:o.refs.length=pre.length:=by rw [hpre];simp
  refine W.loop1 ?_
  unfold zb
  refine W.seq (W.sreg ?_)
  unfold Dh
  simp only [az,aA,aB,ah,aE,bf,aW,b7,cL,aj,aC,be,bh,bU,aw,cd,cQ,da,bH,ak,aZ,cT,cF,aP,bX,aR,bN,cZ,bS,tA,aM,ae,ar,aU,decide_false,iE,qE,h7,h6,g6,b6,Obj.cells,hcl,hlen,hl,fL]
  refine W.cond (t:=false) (by simp only [aj,ah,ae,cT,cF, *]) ?_
  refine W.exit ⟨rfl,_,rfl,.inl ⟨rfl,⟨?_,g2,b2,?_,g6,b6,?_⟩,rfl⟩⟩<;>simp only [ah,ae,cF, *]
 |cons r rest ih=>
  intro pre e hpre F h7
  have F0:=F
  obtain⟨h2,g2,b2,h6,g6,b6,h5⟩:=F
  have hlt:pre.length<o.refs.length:=by rw [hpre];simp
  have hat:o.refs[pre.length]? =some r:=by rw [hpre];simp
  have hia:=fun lc=>ho.refs.at mp hat lc .i64
  have hrl:=ho.reflen
  have hwr:IntKind.i64.wrap ((pre.length:Int)+1)=((pre.length+1:Nat):Int):=by rw [eC (by omega) (by omega)];omega
  have hil:du 60 (r.length:Nat)=decide (60<r.length):=cZ 60 _
  refine W.loop1 ?_
  unfold zb
  refine W.seq (W.sreg ?_)
  unfold Dh
  simp only [az,aA,aB,ah,aE,bf,aW,b7,cL,aj,aC,be,bh,bU,aw,cd,cQ,da,bH,ak,aZ,cT,cF,aP,bX,aR,bN,cZ,bS,tA,aM,ae,ar,aU,dT,iE,qE,h7,h6,g6,b6,Obj.cells,hcl,hlen,hlt]
  refine W.cond (t:=true) (by simp only [aj,ah,ae,cT,cF, *]) (W.skip ?_)
  simp only [aN]
  refine W.seq (W.block (W.sreg ?_))
  unfold Lj
  simp only [az,aA,aB,ah,aE,bf,aW,b7,ec,cL,aj,aI,aC,be,bh,bo,bU,eI,aw,cd,lL,da,bH,kF,ak,aZ,cu,cT,cF,aP,bX,aR,bN,bS,tA,aM,ae,ar,aU,dD,iE,qE,qM,h7,h6,g6,b6,Obj.cells,hia,bp,hil]
  cases hb:decide (60<r.length) with
  |true=>
   refine W.cond (t:=true) (by simp only [aj,ah,ae,cT,cF]) (W.sreg ?_)
   unfold Lk
   simp only [az,aA,aB,aJ,aI,bJ,aw,tA,ar]
   refine W.ret ⟨rfl,_,rfl,.inr ⟨rfl,?_,by simp only [sn,hb,cT]⟩⟩
   simp only [ah,ae,cT,cF, *]
  |false=>
   refine W.cond (t:=false) (by simp only [aj,ah,ae,cT,cF]) (W.skip ?_)
   simp only [dS,aN]
   refine W.reg ?_
   unfold Li
   simp only [az,aA,aB,ah,aE,aJ,aW,aj,aI,aC,bo,aw,d8,ak,aZ,cT,cF,aP,bS,tA,ae,ar,h7,hwr,aN]
   have hr:sn (r::rest)=sn rest:=by simp only [sn,hb,cF]
   rw [hr]
   refine ih (pre++[r]) _ (by rw [hpre];simp) ⟨?_,g2,b2,?_,g6,b6,?_⟩ ?_
   ·simp only [ah,ae,cF, *]
   ·simp only [ah,ae,cF, *]
   ·simp only [ah,ae,cF, *]
   ·simp only [ah,ae,cT,cF,dn,aK,aQ]
theorem Xc {v:ai} {o:Obj} (ho:o.Ok) {i g:Nat} {s:St} (hm:s.minw≤s.next) {lc:Ag.Loc}: ∀(rest pre:List cH) (e:bc),o.tags=pre++rest→yi v o i g e lc→aq e 8= .int .i64 (pre.length:Nat)→
 W (QS sp) 22 (.loop zc) ⟨e,79,lc⟩ s fun x fr s'=>s'=s∧ ∃e',fr=⟨e',79,lc⟩∧((x= .exit 4∧yi v o i g e' lc∧sH rest=true)∨(x= .ret∧aq e' 4= .bool false∧sH rest=false)):=by
 intro rest
 have hlen:=fun mk s=>ho.tags.len se sd mk s
 have hcl:=ho.tags.clean
 have hsm:small=9223372036854775808:=rfl
 induction rest with
 |nil=>
  intro pre e hpre F h8
  obtain⟨h2,g2,b2,h6,g6,b6,h5⟩:=F
  have hl:o.tags.length=pre.length:=by rw [hpre];simp
  refine W.loop1 ?_
  unfold zc
  refine W.seq (W.sreg ?_)
  unfold Di
  simp only [az,aA,aB,ah,aE,bf,aW,b7,cL,aj,aC,be,bh,bU,aw,cd,cQ,da,bH,ak,aZ,cT,cF,aP,bX,aR,bN,cZ,bS,tA,aM,ae,ar,aU,decide_false,mD,tm,h8,h6,g6,b6,Obj.cells,hcl,hlen,hl,fL]
  refine W.cond (t:=false) (by simp only [aj,ah,ae,cT,cF, *]) ?_
  refine W.exit ⟨rfl,_,rfl,.inl ⟨rfl,⟨?_,g2,b2,?_,g6,b6,?_⟩,rfl⟩⟩<;>simp only [ah,ae,cF, *]
 |cons r rest ih=>
  intro pre e hpre F h8
  obtain⟨h2,g2,b2,h6,g6,b6,h5⟩:=F
  have hlt:pre.length<o.tags.length:=by rw [hpre];simp
  have hat:o.tags[pre.length]? =some r:=by rw [hpre];simp
  have hia:=fun lc=>ho.tags.at u4 hat lc .i64
  have hrl:=ho.taglen
  have hwr:IntKind.i64.wrap ((pre.length:Int)+1)=((pre.length+1:Nat):Int):=by rw [eC (by omega) (by omega)];omega
  refine W.loop1 ?_
  unfold zc
  refine W.seq (W.sreg ?_)
  unfold Di
  simp only [az,aA,aB,ah,aE,bf,aW,b7,cL,aj,aC,be,bh,bU,aw,cd,cQ,da,bH,ak,aZ,cT,cF,aP,bX,aR,bN,cZ,bS,tA,aM,ae,ar,aU,dT,mD,tm,h8,h6,g6,b6,Obj.cells,hcl,hlen,hlt]
  refine W.cond (t:=true) (by simp only [aj,ah,ae,cT,cF, *]) (W.skip ?_)
  simp only [aN]
  refine W.seq (W.block (W.sdrawQ hm ?_))
  unfold Ln
  simp only [fh,fg,fu,isStore,ah,aE,bf,aW,b7,ec,cL,aj,aI,aC,be,bh,bo,bU,eI,aw,cd,lL,d8,da,bH,di,ak,aZ,cu,cT,cF,aP,bX,aR,bN,bS,tA,aM,ae,ar,aU,dD,mD,tm,WO,WS,qM,h8,h6,g6,b6,Obj.cells,hia,ek]
  cases hb:S6 r with
  |true=>
   have hb':du 300 (IntKind.i64.wrap ((r.1.length:Int)+(r.2.length:Int)))=true:=hb
   refine W.cond (t:=true) (by simp only [aj,ah,ae,cT,cF,hb']) (W.sreg ?_)
   unfold Lp
   simp only [az,aA,aB,aJ,aI,bJ,aw,tA,ar]
   refine W.ret ⟨rfl,_,rfl,.inr ⟨rfl,?_,by simp only [sH,hb,cT]⟩⟩
   simp only [ah,ae,cT,cF, *]
  |false=>
   have hb':du 300 (IntKind.i64.wrap ((r.1.length:Int)+(r.2.length:Int)))=false:=hb
   refine W.cond (t:=false) (by simp only [aj,ah,ae,cT,cF,hb']) (W.skip ?_)
   simp only [dS,aN]
   refine W.reg ?_
   unfold Lm
   simp only [az,aA,aB,ah,aE,aJ,aW,aj,aI,aC,bo,aw,d8,ak,aZ,cT,cF,aP,bS,tA,ae,ar,h8,hwr,aN]
   have hr:sH (r::rest)=sH rest:=by simp only [sH,hb,cF]
   rw [hr]
   refine ih (pre++[r]) _ (by rw [hpre];simp) ⟨?_,g2,b2,?_,g6,b6,?_⟩ ?_
   ·simp only [ah,ae,cF, *]
   ·simp only [ah,ae,cF, *]
   ·simp only [ah,ae,cF, *]
   ·simp only [ah,ae,cT,cF,dn,aK,aQ]
theorem W8 {v:ai} {l:List Obj} (hl:bu 6 Obj.val v l) (hk: ∀o∈l,o.Good) (hsmall:l.length<small) {s:St} (hm:s.minw≤s.next): ∀(rest pre:List Obj) (e:bc) (lc:Ag.Loc),l=pre++rest→
 aq e 2= .lref 2 1 0→lc.gen 2=1→lc.get 2 1=some [v]→aq e 5= .int .i64 (pre.length:Nat)→
 W (QS sp) 22 (.loop zd) ⟨e,79,lc⟩ s fun x fr s'=>s'=s∧fr.size=79∧((x= .exit 0∧om rest=true)∨(x= .ret∧aq fr.env 4= .bool false∧om rest=false)):=by
 intro rest
 have hlen:=fun mk s=>hl.len vj vi mk s
 have hcl:=hl.clean
 have hsm:small=9223372036854775808:=rfl
 induction rest with
 |nil=>
  intro pre e lc hpre h2 g2 b2 h5
  have hl:l.length=pre.length:=by rw [hpre];simp
  refine W.loop1 ?_
  unfold zd
  refine W.seq (W.sreg ?_)
  unfold Dj
  simp only [az,aA,aB,ah,aE,bf,aW,b7,cL,aj,aC,be,bh,bU,aw,cd,cQ,da,bH,ak,aZ,cT,cF,aP,bX,aR,bN,cZ,bS,tA,cY,ae,ar,aU,decide_false,oC,nj,h2,g2,b2,h5,hcl,hlen,hl,fL]
  refine W.cond (t:=false) (by simp only [aj,ah,ae,cT,cF, *]) ?_
  exact W.exit ⟨rfl,rfl,.inl ⟨rfl,rfl⟩⟩
 |cons o rest ih=>
  intro pre e lc hpre h2 g2 b2 h5
  have hlt:pre.length<l.length:=by rw [hpre];simp
  have hat:l[pre.length]? =some o:=by rw [hpre];simp
  have hia:=fun lc=>hl.at wZ hat lc .i64
  have ho:=(hk o (List.mem_of_getElem? hat)).toOk
  have hwr:IntKind.i64.wrap ((pre.length:Int)+1)=((pre.length+1:Nat):Int):=by rw [eC (by omega) (by omega)];omega
  have rlen:=fun mk s=>ho.refs.len iT jl mk s
  have rcl:=ho.refs.clean
  have tlen:=fun mk s=>ho.tags.len se sd mk s
  have tcl:=ho.tags.clean
  have i1:du 12 (o.refs.length:Nat)=decide (12<o.refs.length):=cZ 12 _
  have i2:du 20 (o.tags.length:Nat)=decide (20<o.tags.length):=cZ 20 _
  have i3:du 60 (o.id.length:Nat)=decide (60<o.id.length):=cZ 60 _
  refine W.loop1 ?_
  unfold zd
  refine W.seq (W.sreg ?_)
  unfold Dj
  simp only [az,aA,aB,ah,aE,bf,aW,b7,cL,aj,aC,be,bh,bU,aw,cd,cQ,da,bH,ak,aZ,cT,cF,aP,bX,aR,bN,cZ,bS,tA,cY,ae,ar,aU,dT,oC,nj,h2,g2,b2,h5,hcl,hlen,hlt]
  refine W.cond (t:=true) (by simp only [aj,ah,ae,cT,cF, *]) (W.skip ?_)
  simp only [aN]
  refine W.seq (W.block (W.sreg ?_))
  unfold Lv
  simp only [az,aA,dH,aB,dI,ah,bI,gQ,aE,fH,bf,dJ,b7,ec,aj,aC,eM,bU,eI,aw,bH,di,fU,ak,bZ,cT,cF,aP,bX,aK,aQ,cut,cI,List.take,aR,bN,List.take_succ_cons,List.nil_append,List.cons_append,bS,tA,aM,cY,ae,ar,bt,bR,Bool.and_true,aU,cP,bQ,dT,oC,l0,nF,nG,nj,YH,h2,g2,b2,h5,hia,Obj.val,Obj.cells]
  refine W.seq (W.sreg ?_)
  unfold Lw
  have fin: ∀e' lc',aq e' 41= .bool true→W (QS sp) 22 (.cond (Operand.tmp 41) (.seq (.region Dk) .ret) .skip) ⟨e',79,lc'⟩ s fun x fr s'=>x= .ret∧s'=s∧fr.size=79∧aq fr.env 4= .bool false:=by
   intro e' lc' h
   refine W.cond (t:=true) (by simp only [aj,h]) (W.sreg ?_)
   unfold Dk
   simp only [az,aA,aB,aJ,aI,bJ,aw,tA,ar]
   exact W.ret ⟨rfl,rfl,rfl,by simp only [ah,ae,cT, *]⟩
  cases q1:decide (12<o.refs.length) with
  |true=>
   simp only [az,aA,cJ,aB,ee,iG,ah,cz,bI,aE,cw,bf,aW,b7,cL,aj,aI,aC,be,bh,bJ,bo,bU,cx,dy,aw,cd,lL,da,bH,ak,aZ,cT,cF,aP,bX,aR,bN,bS,tA,aM,ae,ar,aU,iE,qE,rcl,rlen,i1,q1]
   refine(fin _ _ ?_).mono ?_
   ·simp only [ah,ae,cT,cF, *]
   ·rintro x fr s' ⟨rfl,rfl,hs,h⟩
    exact⟨rfl,hs,.inr ⟨rfl,h,by simp only [om,vA,q1,Bool.true_or,cT]⟩⟩
  |false=>
  cases q2:decide (20<o.tags.length) with
  |true=>
   simp only [az,aA,cJ,aB,dz,ee,iG,e7,ah,cz,bI,aE,cw,bf,aW,b7,cL,aj,aI,aC,be,bh,bJ,bo,bU,cx,dy,dv,aw,cd,lL,da,bH,ak,aZ,cT,cF,aP,bX,aR,bN,bS,tA,aM,ae,ar,aU,iE,mD,qE,tm,rcl,rlen,i1,q1,tcl,tlen,i2,q2]
   refine(fin _ _ ?_).mono ?_
   ·simp only [ah,ae,cT,cF, *]
   ·rintro x fr s' ⟨rfl,rfl,hs,h⟩
    exact⟨rfl,hs,.inr ⟨rfl,h,by simp only [om,vA,q1,q2,Bool.true_or,Bool.or_true,cT]⟩⟩
  |false=>
  cases q3:decide (60<o.id.length) with
  |true=>
   simp only [az,aA,cJ,aB,dz,e7,ah,cz,bI,aE,cw,bf,aW,b7,cL,aj,aI,aC,be,bh,bJ,bo,bU,cx,dv,aw,cd,lL,da,bH,ak,aZ,cu,cT,cF,aP,bX,aR,bN,bS,tA,aM,cY,ae,ar,aU,dD,iE,mD,oU,qE,tm,qM,rcl,rlen,i1,q1,tcl,tlen,i2,q2,i3,q3]
   refine(fin _ _ ?_).mono ?_
   ·simp only [ah,ae,cT,cF, *]
   ·rintro x fr s' ⟨rfl,rfl,hs,h⟩
    exact⟨rfl,hs,.inr ⟨rfl,h,by simp only [om,vA,q1,q2,q3,Bool.or_true,cT]⟩⟩
  |false=>
  have hmany:vA o=false:=by simp only [vA,q1,q2,q3,Bool.or_false]
  simp only [az,aA,cJ,aB,dz,e7,ah,cz,bI,aE,cw,bf,aW,b7,cL,aj,aI,aC,be,bh,bJ,bo,bU,cx,dv,aw,cd,lL,da,bH,ak,aZ,cu,cT,cF,aP,bX,aR,bN,bS,tA,aM,cY,ae,ar,aU,dD,iE,mD,oU,qE,tm,qM,rcl,rlen,i1,q1,tcl,tlen,i2,q2,i3,q3]
  refine W.cond (t:=false) (by simp only [aj,ah,ae,cT,cF, *]) (W.skip ?_)
  simp only [aN]
  refine W.seq (W.sreg ?_)
  unfold Lx
  simp only [az,aA,aB,aJ,aI,bo,aw,tA,ar]
  refine W.block ?_
  refine(W9 (v:=v) ho (i:=pre.length) (g:=lc.gen 6+1) o.refs [] _ rfl ⟨?_,?_,?_,?_,?_,?_,?_⟩ ?_).mono ?_
  ·simp only [ah,ae,cF, *]
  ·simp only [cz,ae,cF,g2]
  ·simp only [bI,ae,cF,b2]
  ·simp only [ah,ae,cT,cF, *]
  ·simp only [cz,ae,cT]
  ·simp only [bI,bS,cT,Obj.cells]
  ·simp only [ah,ae,cF, *]
  ·simp only [ah,ae,cT,cF];rfl
  rintro x fr s' ⟨rfl,e',rfl,⟨rfl,F,hok⟩|⟨rfl,h4,hok⟩⟩
  ·show W (QS sp) 22 _ _ _ _
   refine W.sreg ?_
   unfold Ll
   obtain⟨f2,fg2,fb2,f6,fg6,fb6,f5⟩:=F
   simp only [az,aA,aB,aJ,aI,bo,aw,tA,ar]
   refine W.block ?_
   refine(Xc (v:=v) ho hm (i:=pre.length) (g:=lc.gen 6+1) o.tags [] _ rfl ⟨?_,fg2,fb2,?_,fg6,fb6,?_⟩ ?_).mono ?_
   ·simp only [ah,ae,cF, *]
   ·simp only [ah,ae,cF, *]
   ·simp only [ah,ae,cF, *]
   ·simp only [ah,ae,cT];rfl
   rintro x fr s' ⟨rfl,e'',rfl,⟨rfl,F,hok2⟩|⟨rfl,h4,hok2⟩⟩
   ·show W (QS sp) 22 _ _ _ _
    refine W.reg ?_
    unfold Lu
    obtain⟨f2,fg2,fb2,f6,fg6,fb6,f5⟩:=F
    simp only [az,aA,aB,ah,aE,aJ,aW,aj,aI,aC,bo,aw,d8,ak,aZ,cT,cF,aP,bS,tA,ae,ar,f5,hwr,aN]
    have hr:om (o::rest)=om rest:=by simp only [om,hmany,hok,hok2,cT,cF]
    rw [hr]
    refine ih (pre++[o]) _ _ (by rw [hpre];simp) ?_ fg2 fb2 ?_
    ·simp only [ah,ae,cF, *]
    ·simp only [ah,ae,cT,cF,dn,aK,aQ]
   ·exact⟨rfl,rfl,.inr ⟨rfl,h4,by simp only [om,hmany,hok,hok2,cT,cF]⟩⟩
  ·exact⟨rfl,rfl,.inr ⟨rfl,h4,by simp only [om,hmany,hok,cF]⟩⟩
theorem Xa (h22:sp 22=none) {v:ai} {l:List Obj} (hl:bu 6 Obj.val v l) (hk: ∀o∈l,o.Good) (hsmall:l.length<small) (n:Int) {s:St} (hm:s.minw≤s.next):br (QS sp) 22 [.agg [v],.int .i64 n] s (.bool (jY l n)) s:=by
 have hlen:=fun mk s=>hl.len vj vi mk s
 have hcl:=hl.clean
 refine br.of2 ac6 ac5 ac8 ac7 h22 ?_
 unfold Lf
 refine W.sreg ?_
 unfold Lg
 simp only [dg,cM,az,aA,aB,ah,dx,aJ,ja,aj,aI,aC,bJ,eM,aw,bH,di,ak,bZ,cT,cF,bX,aK,aQ,bS,tA,aM,ae,ar,bt,bR,bQ,dT,YG]
 refine W.seq (W.sreg ?_)
 unfold Lh
 simp only [az,aA,aB,ah,dx,cz,bI,aE,bf,aW,b7,cL,aj,aC,be,bh,bU,aw,cd,lL,da,bH,ak,aZ,cT,cF,aP,bX,aR,bN,bS,tA,cY,ae,ar,aU,oC,nj,hcl,hlen]
 cases hb:du n (l.length:Nat) with
 |true=>
  refine W.cond (t:=true) (by simp only [aj,ah,ae,cT,cF]) (W.sreg ?_)
  unfold Lr
  simp only [az,aA,aB,aJ,aI,bJ,aw,tA,ar]
  refine W.ret ⟨rfl,.inr rfl,cp ?_ rfl⟩
  simp only [ah,ae,cT,jY,hb]
 |false=>
  refine W.cond (t:=false) (by simp only [aj,ah,ae,cT,cF]) (W.skip ?_)
  simp only [aN]
  refine W.seq (W.sreg ?_)
  unfold Ls
  simp only [az,aA,aB,aJ,aI,bo,aw,tA,ar]
  refine W.block ?_
  refine(W8 hl hk hsmall hm l [] _ _ rfl (by simp only [ah,ae,cT,cF, *]) (by simp only [dx,cz,ae,cT]) (by simp only [bI,ae,cT]) (by simp only [ah,ae,cT,cF];rfl)).mono ?_
  rintro x ⟨e,sz,lc⟩ s' ⟨rfl,hs,⟨rfl,hok⟩|⟨rfl,h4,hok⟩⟩
  ·have hs:sz=79:=hs
   subst hs
   show W (QS sp) 22 _ _ _ _
   refine W.sreg ?_
   unfold Lq
   simp only [az,aA,aB,aJ,aI,bJ,aw,tA,ar]
   refine W.ret ⟨rfl,.inr rfl,cp ?_ rfl⟩
   simp only [ah,ae,cT,jY,hb,cF,hok]
  ·exact⟨rfl,.inr rfl,cp (by rw [h4];simp only [jY,hb,cF,hok]) rfl⟩
end
def uV:Sp
 | [v,.int .i64 n]=>(jW v).bind fun l=>some (.bool (jY l n))
 |_=>none
theorem Cd {v:ai} {l:List Obj} (h:bu 6 Obj.val v l) (hg: ∀o∈l,o.Good) (hs:l.length<small) (n:Int):uV [.agg [v],.int .i64 n]=some (.bool (jY l n)):=by
 simp only [uV,nU h hg hs,ak]
theorem W7:eD Tryz.prog 22 uV:=by
 intro args u hv G h w xs wr hx
 unfold uV at hv
 split at hv
 ·rename_i v n
  simp only [Option.bind_eq_some_iff,Option.some.injEq] at hv
  obtain⟨l,hl,rfl⟩:=hv
  obtain⟨v,rfl,hl,hg,hs⟩:=lJ hl
  obtain⟨ht,v',hw,hl'⟩:=lZ hl hg
  have hw:dU [.agg [v],.int .i64 n]=[.agg [v'],.int .i64 n]:=by simp only [dU,hw];rfl
  exact gJ (Q:=QT []) (gD .nil) (fun _=>Nat.zero_lt_succ 1) (args:=[.agg [v],.int .i64 n]) (v:=.bool (jY l n)) (s':=s0) (by simp only [jy,ht];rfl) (by rw [hw];exact Xa (sp:=fun f=>eY f []) rfl hl' hg hs n (Nat.le_refl _)) rfl ⟨1,rfl⟩ G h w xs wr hx
 ·cases hv
theorem alw (a b c d:ax):fR Tryz.prog .neq 51 (.agg [.str a,.str b]) (.agg [.str c,.str d])=some (.bool !(bif a==c then bif b==d then true else false else false)):=by
 have h:rI Tryz.prog 51 (.agg [.str a,.str b]) (.agg [.str c,.str d])=(some (a==c)).bind fun r=>bif r then(some (b==d)).bind fun r=>bif r then some true else some false else some false:=by kernel_rfl
 rw [Ut,h]
 cases a==c<;>cases b==d<;>rfl
theorem aay (a:Int):bL a a=true:=bS a
structure Obj.Eqv (o q:Obj):Prop where
 id:q.id=o.id
 kind:q.kind=o.kind
 x:q.x=o.x
 y:q.y=o.y
 refs:q.refs=o.refs
 tags:q.tags=o.tags
theorem Obj.Eqv.rfl {o:Obj}:o.Eqv o:=⟨Eq.refl _,Eq.refl _,Eq.refl _,Eq.refl _,Eq.refl _,Eq.refl _⟩
structure amm (o q:Obj) (e:bc) (lc:Ag.Loc):Prop where
 h2:aq e 2= .lref 2 1 0
 g2:lc.gen 2=1
 b2:lc.get 2 1=some o.cells
 h3:aq e 3= .lref 3 1 0
 g3:lc.gen 3=1
 b3:lc.get 3 1=some q.cells
structure ym (l r:List Obj):Prop where
 len:r.length=l.length
 at_: ∀(i:Nat) (o q:Obj),l[i]? =some o→r[i]? =some q→o.Eqv q
theorem ym.rfl {l:List Obj}:ym l l:=⟨Eq.refl _,fun i o q h1 h2=>by rw [h1] at h2;injection h2 with h2;subst h2;exact .rfl⟩
theorem ym.some {l r:List Obj} (h:ym l r) {i:Nat} {o:Obj} (ho:l[i]? =some o): ∃q,r[i]? =some q∧o.Eqv q:=by
 have hlt:i<r.length:=by
  rw [h.len]
  rcases Nat.lt_or_ge i l.length with h1|h1
  ·exact h1
  ·rw [List.getElem?_eq_none h1] at ho;cases ho
 exact⟨_,jf hlt,h.at_ _ _ _ ho (jf hlt)⟩
structure amn (v u:ai) (e:bc) (lc:Ag.Loc):Prop where
 h2:aq e 2= .lref 2 1 0
 g2:lc.gen 2=1
 b2:lc.get 2 1=some [v]
 h3:aq e 3= .lref 3 1 0
 g3:lc.gen 3=1
 b3:lc.get 3 1=some [u]
def ahn:Sp
 | [.int .u8 (.ofNat n)]=>bif Nat.blt n 256 then some (.bool (xo n)) else none
 |_=>none
def alO:Sp
 | [.int .u8 (.ofNat n)]=>bif Nat.blt n 256 then some (.bool (xo n||wM n||Nat.beq n 95)) else none
 |_=>none
def U1:eE:=[(144,alO),(145,ahn)]
def ajH (p:Option ax) (k:ax):Bool:=match p with|none=>false|some p=> !Op.bytesLess p k
def ale (p:Option ax) (t:cH):Bool:= !jF t.1||decide (t.2.length<1)||decide (200<t.2.length)||ajH p t.1
def Sc:Option ax→List cH→Bool
 |_,[]=>true
 |p,t::r=>bif ale p t then false else Sc (some t.1) r
def aj0 (l:List cH):Bool:=bif decide (60<l.length) then false else Sc none l
def U2:eE:=(85,pX)::U1
end Go.Proofs.YtbfmdojdemckbaaGreat
