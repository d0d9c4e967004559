/- Contracts on the comparing of lists; merge.objects, same, note, compare, point. -/
import Derived.Test.YtbfmdojdemckbaaGreatS2
namespace Go.Proofs.YtbfmdojdemckbaaGreat
open _root_.Bool renaming and_self→gK,and_true→dB,false_eq_true→qj,false_or→jz,not_false→ff,not_true→dP,true_and→iP
open _root_.List renaming append_nil→im,cons_append→cq,drop→aR,head?_cons→bN,length_append→dn,length_cons→aK,length_nil→aQ,mem_singleton→pE,nil_append→bT,take_succ_cons→eP,take→bA
open _root_.Nat renaming add_zero→cY,ble_eq_true_of_le→ew,ble→cr,le_of_ble_eq_true→io,lt_irrefl→fL,reduceAdd→bt,reduceBEq→ae,reduceLT→ar,reduceLeDiff→bR,reduceMul→jh,zero_add→aM,zero_lt_succ→gL,zero_mul→j9
open _root_.Option renaming bind_eq_some_iff→aF,bind_some→ak
open _root_.Option.some renaming injEq→a7
open Go.Ag
def kh:List ax→List ax→Int
 | [],[]=>0
 | [],_::_=> -1
 |_::_,[]=>1
 |a::x,b::y=>bif bL (pM a b) 0 then kh x y else pM a b
theorem ak0 {sp:FuncId→Option (List ai→Option ai)} (h188:sp 188=some uH) {v u:ai} {l r:List ax} (hl:bu 1 bp v l) (hr:bu 1 bp u r) (hsmall:l.length<small) {s:St} {lc:Ag.Loc}: ∀(rest rest2 pre pre2:List ax) (e:bc),l=pre++rest→r=pre2++rest2→pre.length=pre2.length→
 aq e 0=v→aq e 1=u→aq e 9=v→aq e 10= .int .i64 (l.length:Nat)→aq e 11= .int .i64 (pre.length:Nat)→
 W (QS sp) 123 (.loop y5) ⟨e,36,lc⟩ s fun x fr s'=>s'=s∧fr.size=36∧((x= .exit 0∧kh rest rest2=(bif decide (l.length<r.length) then-1 else 0)∧aq fr.env 0=v∧aq fr.env 1=u)∨(x= .ret∧aq fr.env 4= .int .i64 (kh rest rest2))):=by
 intro rest
 have hcl:=hl.clean
 have hcr:=hr.clean
 have hlen2:=fun mk s=>hr.len iT jl mk s
 have hsm:small=9223372036854775808:=rfl
 induction rest with
 |nil=>
  intro rest2 pre pre2 e hpre hpre2 hpp h0 h1 h9 h10 h11
  have hl':l.length=pre.length:=by rw [hpre];simp
  have hr':r.length=pre2.length+rest2.length:=by rw [hpre2];simp
  refine W.loop1 ?_
  unfold y5
  refine W.sreg ?_
  unfold C8
  simp only [az,aA,aB,aW,aj,aC,aw,cQ,ak,aZ,cT,aP,cZ,tA,ar,decide_false,h10,h11,hl',fL]
  refine W.seq (W.cond (t:=false) (by simp only [aj,ah,ae,cT, *]) ?_)
  refine W.exit ⟨rfl,rfl,.inl ⟨rfl,?_,by simp only [ah,ae,cF, *],by simp only [ah,ae,cF, *]⟩⟩
  cases rest2 with
  |nil=>
   have:decide (pre.length<r.length)=false:=decide_eq_false (by simp at hr';omega)
   rw [this];rfl
  |cons b y=>
   have:decide (pre.length<r.length)=true:=decide_eq_true (by simp at hr';omega)
   rw [this];rfl
 |cons a rest ih=>
  intro rest2 pre pre2 e hpre hpre2 hpp h0 h1 h9 h10 h11
  have hlt:pre.length<l.length:=by rw [hpre];simp
  have hat:l[pre.length]? =some a:=by rw [hpre];simp
  have hr':r.length=pre2.length+rest2.length:=by rw [hpre2];simp
  have hia:=fun lc=>hl.at mp hat lc .i64
  have hwr:IntKind.i64.wrap ((pre.length:Int)+1)=((pre.length+1:Nat):Int):=by rw [eC (by omega) (by omega)];omega
  refine W.loop1 ?_
  unfold y5
  refine W.sreg ?_
  unfold C8
  simp only [az,aA,aB,aW,aj,aC,aw,cQ,ak,aZ,cT,aP,cZ,tA,ar,dT,h10,h11,hlt]
  refine W.seq (W.cond (t:=true) (by simp only [aj,ah,ae,cT, *]) (W.skip ?_))
  simp only [aN]
  refine W.seq (W.block (W.sreg ?_))
  unfold JD
  simp only [az,aA,aB,ah,aE,aJ,bf,ec,aj,eI,aw,kF,ak,cT,cF,aP,aR,bN,bS,tA,ae,ar,dD,h9,h11,hia,bp]
  refine W.seq (W.sreg ?_)
  unfold JE
  have hge:ig ((r.length:Nat):Int) ((pre.length:Nat):Int)=decide (r.length≤pre.length):=qK _ _
  simp only [az,aA,aB,ah,aE,aW,cL,aj,aC,be,bh,aw,cd,mh,da,bH,ak,aZ,cT,cF,aP,bX,bS,tA,ae,ar,aU,h1,hcr,hlen2,hge]
  cases rest2 with
  |nil=>
   have:decide (r.length≤pre.length)=true:=decide_eq_true (by simp at hr';omega)
   refine W.cond (t:=true) (by simp only [aj,ah,ae,cT,cF,this]) (W.sreg ?_)
   unfold JF
   simp only [az,aA,aB,aJ,aI,bo,aw,tA,ar]
   exact W.ret ⟨rfl,rfl,.inr ⟨rfl,by simp only [ah,ae,cT,cF,kh]⟩⟩
  |cons b y=>
   have hnle:decide (r.length≤pre.length)=false:=decide_eq_false (by simp at hr';omega)
   have hat2:r[pre.length]? =some b:=by rw [hpre2,hpp];simp
   have hib:=fun lc=>hr.at mp hat2 lc .i64
   have hsp:uH [.str a,.str b]=some (.int .i64 (pM a b)):=rfl
   refine W.cond (t:=false) (by simp only [aj,ah,ae,cT,cF,hnle]) (W.skip ?_)
   simp only [aN]
   refine W.sreg ?_
   unfold JG
   simp only [az,aA,aB,ah,aE,aJ,bf,ec,aj,eI,aw,kF,ak,cT,cF,aP,aR,bN,bS,tA,ae,ar,dD,h1,hib,bp]
   refine W.sreg ?_
   unfold JH
   simp only [az,aA,aB,ah,aE,aJ,dc,db,aj,aC,be,bh,aw,ak,cu,cT,cF,dt,bS,tA,ae,ar,h188,hsp]
   refine W.sreg ?_
   unfold JI
   simp only [az,aA,aB,ah,aE,aW,aj,aI,aC,bo,aw,uC,ak,aZ,cT,cF,aP,bS,tA,ae,ar]
   cases hz:bL (pM a b) 0 with
   |false=>
    refine W.cond (t:=true) (by simp only [aj,ah,ae,cT,cF,ff]) (W.sreg ?_)
    unfold JJ
    simp only [az,aA,aB,ah,aE,aJ,aj,aw,cT,cF,ff,bS,tA,ae,ar]
    exact W.ret ⟨rfl,rfl,.inr ⟨rfl,by simp only [ah,ae,cT,cF,kh,hz]⟩⟩
   |true=>
    refine W.cond (t:=false) (by simp only [aj,ah,ae,cT,cF,dP]) (W.skip ?_)
    simp only [dS,aN]
    refine W.reg ?_
    unfold Jz
    simp only [az,aA,aB,ah,aE,aW,aj,aI,aC,bo,aw,d8,ak,aZ,cT,cF,aP,dP,bS,tA,ae,ar,h11,hwr,aN]
    refine(ih y (pre++[a]) (pre2++[b]) _ (by rw [hpre];simp) (by rw [hpre2];simp) (by simp [hpp]) (by simp only [ah,ae,cF, *]) (by simp only [ah,ae,cF, *]) (by simp only [ah,ae,cF, *]) (by simp only [ah,ae,cF, *]) (by simp only [ah,ae,cT,cF,dn,aK,aQ])).mono ?_
    simp only [kh,hz,cT]
    exact fun _ _ _ h=>h
theorem ak2 {sp:FuncId→Option (List ai→Option ai)} (h0:sp 123=none) (h188:sp 188=some uH) {v u:ai} {l r:List ax} (hl:bu 1 bp v l) (hr:bu 1 bp u r) (hsmall:l.length<small) (s:St):br (QS sp) 123 [v,u] s (.int .i64 (kh l r)) s:=by
 have hlen:=fun mk s=>hl.len iT jl mk s
 have hlen2:=fun mk s=>hr.len iT jl mk s
 have hcl:=hl.clean
 have hcr:=hr.clean
 refine br.of2 abI abH abK abJ h0 ?_
 unfold Jw
 refine W.sreg ?_
 unfold Jx
 simp only [dg,cM,az,aA,aB,aJ,aI,bo,aw,cT,aK,aQ,tA,aM,ar,bt,bR,bQ,dT]
 refine W.seq (W.sreg ?_)
 unfold Jy
 simp only [az,aA,aB,ah,aE,cL,aj,aI,aC,be,bh,bo,aw,cd,da,bH,ak,cT,cF,aP,bX,bS,tA,ae,ar,aU,Yi,hcl,hlen]
 refine W.block ?_
 refine(ak0 h188 hl hr hsmall l r [] [] _ rfl rfl rfl (by simp only [ah,ae,cT,cF, *]) (by simp only [ah,ae,cT,cF, *]) (by simp only [ah,ae,cT,cF, *]) (by simp only [ah,ae,cT,cF, *]) (by simp only [ah,ae,cT,cF];rfl)).mono ?_
 rintro x ⟨e,sz,lc⟩ s' ⟨rfl,hs,⟨rfl,hok,e0,e1⟩|⟨rfl,h2⟩⟩
 ·have hs:sz=36:=hs
  subst hs
  have e0:aq e 0=v:=e0
  have e1:aq e 1=u:=e1
  show W (QS sp) 123 _ _ _ _
  refine W.seq (W.sreg ?_)
  unfold JA
  simp only [az,aA,aB,ah,aE,aW,cL,aj,aC,be,bh,aw,cd,cQ,da,bH,ak,aZ,cT,cF,aP,bX,cZ,bS,tA,ae,ar,aU,Yj,Yk,e0,e1,hcl,hcr,hlen,hlen2]
  cases hd:decide (l.length<r.length) with
  |true=>
   refine W.cond (t:=true) (by simp only [aj,ah,ae,cT,cF]) (W.sreg ?_)
   unfold JB
   simp only [az,aA,aB,aJ,aI,bo,aw,tA,ar]
   exact W.ret ⟨rfl,.inr rfl,cp (by simp only [ah,ae,cT,cF,hok,hd]) rfl⟩
  |false=>
   refine W.cond (t:=false) (by simp only [aj,ah,ae,cT,cF]) (W.skip ?_)
   simp only [aN]
   refine W.sreg ?_
   unfold JC
   simp only [az,aA,aB,aJ,aI,bo,aw,tA,ar]
   exact W.ret ⟨rfl,.inr rfl,cp (by simp only [ah,ae,cT,cF,hok,hd]) rfl⟩
 ·exact⟨rfl,.inr rfl,cp h2 rfl⟩
def sG:Sp
 | [a,b]=>bif pures [a,b] then(gN 1 kZ a).bind fun l=>(gN 1 kZ b).bind fun r=>bif Nat.blt l.length small then some (.int .i64 (kh l r)) else none else none
 |_=>none
def Bm:eE:=[(188,uH)]
theorem Uh:fV Bm:=.cons VJ .nil
theorem akZ:eD Tryz.prog 123 sG:=by
 intro args x hv G h w xs wr hx
 unfold sG at hv
 split at hv
 ·rename_i a b
  obtain⟨hp,hv⟩:=bW hv
  simp only [aF] at hv
  obtain⟨l,h1,r,h2,hv⟩:=hv
  obtain⟨hs,hv⟩:=bW hv
  injection hv with hv;subst hv
  have hl:=iX (fun v a=>nW) h1
  have hr:=iX (fun v a=>nW) h2
  exact gJ (Q:=QT Bm) (gD Uh) (fun _=>gL 1) (args:=[a,b]) (v:=.int .i64 (kh l r)) (s':=s0) (kB hp) (by rw [iw hp];exact ak2 (sp:=fun f=>eY f Bm) rfl rfl hl hr (io hs) s0) rfl ⟨1,rfl⟩ G h w xs wr hx
 ·cases hv
def je:List cH→List ax
 | []=>[]
 |t::l=>t.1::t.2::je l
theorem FS: ∀l:List cH,(je l).length=2*l.length
 | []=>rfl
 |t::l=>by simp only [je,aK,FS l];omega
def ru (s:St) (ov:ai) (acc:List ax):Prop:=(ov= .nils∧acc=[])∨(acc≠ []∧ ∃k,ov= .list 1 (acc.map bp) (.own k)∧s.get [] k=some .tok)
theorem ru.clean {s:St} {ov:ai} {acc:List ax} (h:ru s ov acc):ov.clean=true:=by
 rcases h with⟨rfl,_⟩|⟨_,k,rfl,_⟩<;>rfl
theorem U6 {e:bc} {x y:Operand} {a b:ax} (hx:ev e x=some (.str a)) (hy:ev e y=some (.str b)) (s:St):dR Tryz.prog 37 2 [(0,x),(1,y)] false e s=some (.list 1 [.str a,.str b] .full,s):=by
 simp only [dR,pN,ak,dL,evc,hx,hy,ai.clean,cT,gg,ai.cells,aK,aQ,cI,j9,aM,bt,jh,ie,cut]
 rfl
theorem UC {s:St} {ov:ai} {acc:List ax} (h:ru s ov acc) (hlen:acc.length<900000) (a b:ax):
 ∃ov' s',jD Tryz.prog [] 37 ov (.list 1 [.str a,.str b] .full) false s=some (ov',s')∧ru s' ov' (acc++[a,b])∧s'.ci=s.ci:=by
 rcases h with⟨rfl,rfl⟩|⟨hne,k,rfl,hk⟩
 ·refine⟨.list 1 [.str a,.str b] (.own s.next),s.new .tok,?_,.inr ⟨by simp,s.next,rfl,?_⟩,rfl⟩
  ·have:kP 2 16=true:=tW (by omega) (by omega)
   simp only [jD,pN,ak,jO,aU,bS,cT,kY,j2,aK,aQ,aM,bt,this,cF]
  ·rw [cW,bS];rfl
 ·refine⟨.list 1 ((acc++[a,b]).map bp) (.own s.next),(s.put k none).new .tok,?_,.inr ⟨by simp,s.next,rfl,?_⟩,rfl⟩
  ·have:kP (acc.length+2) 16=true:=tW (by omega) (by omega)
   simp only [jD,pN,ak,jO,aU,bS,cT,kY,hk,List.length_map,aK,aQ,aM,bt,this,gK,List.map_append,List.map_cons,List.map_nil,bp]
  ·rw [cW,o9,bS];rfl
theorem alZ {sp:FuncId→Option (List ai→Option ai)} {v:ai} {l:List cH} (hl:bu 2 ek v l) (hsmall:l.length≤400000): ∀(rest pre:List cH) (e:bc) (lc:Ag.Loc) (s:St) (ov:ai),l=pre++rest→ru s ov (je pre)→
 aq e 3=ov→aq e 6=v→aq e 7= .int .i64 (l.length:Nat)→aq e 8= .int .i64 (pre.length:Nat)→
 W (QS sp) 124 (.loop y6) ⟨e,21,lc⟩ s fun x fr s'=>x= .exit 0∧fr.size=21∧s'.ci=s.ci∧ ∃ov',ru s' ov' (je l)∧aq fr.env 3=ov':=by
 have wapp: ∀(p q:List cH),je (p++q)=je p++je q:=by
  intro p q
  induction p with
  |nil=>rfl
  |cons t p ih=>simp only [cq,je,ih]
 intro rest
 have hcl:=hl.clean
 induction rest with
 |nil=>
  intro pre e lc s ov hpre hO h3 h6 h7 h8
  have hl':l.length=pre.length:=by rw [hpre];simp
  have hpp:pre=l:=by rw [hpre];simp
  refine W.loop1 ?_
  unfold y6
  refine W.sreg ?_
  unfold C9
  simp only [az,aA,aB,aW,aj,aC,aw,cQ,ak,aZ,cT,aP,cZ,tA,ar,decide_false,h7,h8,hl',fL]
  refine W.seq (W.cond (t:=false) (by simp only [aj,ah,ae,cT, *]) ?_)
  exact W.exit ⟨rfl,rfl,rfl,ov,by rw [←hpp];exact hO,by simp only [ah,ae,cF, *]⟩
 |cons t rest ih=>
  intro pre e lc s ov hpre hO h3 h6 h7 h8
  have hlt:pre.length<l.length:=by rw [hpre];simp
  have hat:l[pre.length]? =some t:=by rw [hpre];simp
  have hia:=fun lc=>hl.at u4 hat lc .i64
  have hwr:IntKind.i64.wrap ((pre.length:Int)+1)=((pre.length+1:Nat):Int):=by rw [eC (by omega) (by omega)];omega
  obtain⟨ov',s',happ,hO',hci⟩:=UC hO (by rw [FS];omega) t.1 t.2
  have hoc:=hO.clean
  have hoc':=hO'.clean
  have hbs: ∀e s,aq e 14= .str t.1→aq e 16= .str t.2→dR Tryz.prog 37 2 [(0,.tmp 14),(1,.tmp 16)] false e s=some (.list 1 [.str t.1,.str t.2] .full,s):=fun e s p q=>U6 (by rw [aj,p]) (by rw [aj,q]) s
  refine W.loop1 ?_
  unfold y6
  refine W.sreg ?_
  unfold C9
  simp only [az,aA,aB,aW,aj,aC,aw,cQ,ak,aZ,cT,aP,cZ,tA,ar,dT,h7,h8,hlt]
  refine W.seq (W.cond (t:=true) (by simp only [aj,ah,ae,cT, *]) (W.skip ?_))
  simp only [aN]
  refine W.seq (W.block (W.sreg ?_))
  unfold JO
  simp only [az,aA,dH,aB,dI,ah,bI,gQ,fH,bf,dJ,ec,aj,aC,eM,eI,aw,bH,di,fU,ak,bZ,cT,cF,aP,bX,aK,aQ,cut,cI,bA,aR,eP,bT,cq,bS,tA,aM,ae,ar,bt,bR,dB,aU,cP,bQ,dT,Ao,FG,AX,Yn,h6,h8,hia,ek]
  refine W.reg ?_
  unfold JP
  simp only [az,aA,aB,ah,cz,bI,aE,aJ,kM,bf,b7,cL,aj,aC,be,bh,bU,aw,cd,nZ,bH,ak,i8,cT,cF,aP,bX,aR,bN,bS,tA,aM,cY,ae,ar,aU,dD,oc,uT,u6,Yl,Ym,h3,hoc,hbs,happ,dS,aN]
  refine W.reg ?_
  unfold JQ
  simp only [az,aA,aB,ah,aE,aW,aj,aI,aC,bo,aw,d8,ak,aZ,cT,cF,aP,bS,tA,ae,ar,h8,hwr,aN]
  refine(ih (pre++[t]) _ _ s' ov' (by rw [hpre];simp) (by rw [wapp];exact hO') (by simp only [ah,ae,cT,cF, *]) (by simp only [ah,ae,cF, *]) (by simp only [ah,ae,cF, *]) (by simp only [ah,ae,cT,cF,dn,aK,aQ])).mono ?_
  rintro x fr s'' ⟨h1,h2,h4,h5⟩
  exact⟨h1,h2,h4.trans hci,h5⟩
theorem al0 {sp:FuncId→Option (List ai→Option ai)} (h0:sp 124=none) {v:ai} {l:List cH} (hl:bu 2 ek v l) (hsmall:l.length≤400000) (s:St): ∃ov s',br (QS sp) 124 [v] s ov s'∧(ru s' ov (je l)∧s'.ci=s.ci):=by
 have hlen:=fun mk s=>hl.len se sd mk s
 have hcl:=hl.clean
 refine br.ofEx abM abL abO abN h0 ?_
 unfold JK
 refine W.sreg ?_
 unfold JL
 simp only [dg,cM,az,aA,aB,aJ,aI,aw,cT,aK,aQ,tA,aM,ar,bR,bQ,dT,ofValue,fk]
 refine W.sreg ?_
 unfold JM
 simp only [az,aA,aB,aJ,aI,aw,tA,ar,ofValue,fk]
 refine W.seq (W.sreg ?_)
 unfold JN
 simp only [az,aA,aB,ah,aE,cL,aj,aI,aC,be,bh,bo,aw,cd,da,bH,ak,cT,cF,aP,bX,bS,tA,ae,ar,aU,Yo,hcl,hlen]
 refine W.block ?_
 refine(alZ hl hsmall l [] _ _ s .nils rfl (.inl ⟨rfl,rfl⟩) (by simp only [ah,ae,cT,cF, *]) (by simp only [ah,ae,cT,cF, *]) (by simp only [ah,ae,cT,cF, *]) (by simp only [ah,ae,cT,cF];rfl)).mono ?_
 rintro x ⟨e,sz,lc⟩ s' ⟨rfl,hs,hci,ov',hO,h3⟩
 have hs:sz=21:=hs
 subst hs
 have h3:aq e 3=ov':=h3
 show W (QS sp) 124 _ _ _ _
 refine W.sreg ?_
 unfold JR
 simp only [az,aA,aB,ah,aE,aJ,aj,aw,cT,bS,tA,ar,h3]
 exact W.ret ⟨.inr rfl,ov',cp (by simp only [ah,ae,cT,cF, *]) hO.clean,hO,hci⟩
def sM:Sp
 | [a]=>bif pures [a] then(gN 2 nY a).bind fun l=>bif cr l.length 400000 then some (xp ((je l).map bp)) else none else none
 |_=>none
theorem XI {s:St} {ov:ai} {acc:List ax} (h:ru s ov acc):jB s.heap ov (xp (acc.map bp)):=by
 rcases h with⟨rfl,rfl⟩|⟨hne,k,rfl,_⟩
 ·exact⟨1,rfl⟩
 ·refine⟨2,?_⟩
  show(dZ (cR s.heap 1) (acc.map bp)).bind (fun ys=>some (ai.list 1 ys .no))=_
  rw [uZ fun v hv=>?_]
  ·cases acc with
   |nil=>exact absurd rfl hne
   |cons a l=>rfl
  ·obtain⟨o,_,rfl⟩:=List.mem_map.1 hv
   rfl
theorem alY:eD Tryz.prog 124 sM:=by
 intro args x hv G h w xs wr hx
 unfold sM at hv
 split at hv
 ·rename_i a
  obtain⟨hp,hv⟩:=bW hv
  simp only [aF] at hv
  obtain⟨l,h1,hv⟩:=hv
  obtain⟨hs,hv⟩:=bW hv
  injection hv with hv;subst hv
  have hl:=iX (fun v a=>rB) h1
  obtain⟨ov,s',hr,hO,hci⟩:=al0 (sp:=fun f=>eY f []) rfl hl (io hs) s0
  exact gJ (Q:=QT []) (gD .nil) (fun _=>gL 1) (args:=[a]) (kB hp) (by rw [iw hp];exact hr) hci (XI hO) G h w xs wr hx
 ·cases hv
noncomputable def QM (sp:FuncId→Option (List ai→Option ai)) (ch:Nat→Nat):ck:= {P:=Tryz.prog,hint:=bB,spec:=sp,ch:=ch,kmax:=fun _=>1000000,specW:=fun f=>bif Nat.beq f 48 then some wc else bif Nat.beq f 51 then some v8 else none }
theorem bD (sp:FuncId→Option (List ai→Option ai)) (ch:Nat→Nat):(QM sp ch).P=Tryz.prog:=rfl
theorem gp (sp:FuncId→Option (List ai→Option ai)) (ch:Nat→Nat):(QM sp ch).hint=bB:=rfl
theorem qu (sp:FuncId→Option (List ai→Option ai)) (ch:Nat→Nat):(QM sp ch).spec=sp:=rfl
noncomputable def Ry (s:St):ai→Option (ai×St)
 | .int _ _=>some (.map s.next,s.new (.map [] 0))
 |_=>none
theorem aiq (s:St) (k:IntKind) (n:Int):Ry s (.int k n)=some (.map s.next,s.new (.map [] 0)):=rfl
theorem ais (e:bc) (x:Operand) (s:St):lX Tryz.prog 61 e (some x) s=(ev e x).bind (Ry s):=by
 have h:Tryz.prog.underlying 61=some (.map 9 67):=by kernel_rfl
 simp only [lX,h,ak]
 rfl
def lD:Obj:=⟨[],0,0,0,.nils,.nils,[],[]⟩
def m8:List (ax×ai)→Nat→List Obj→List (ax×ai)
 |L,_,[]=>L
 |L,p,o::r=>m8 (ej o.id (.ptr p 0) L) (p+1) r
noncomputable def tK (s:St) (o:Obj) (m:Nat) (L:List (ax×ai)):St:=
 ((s.new (.cells lD.cells)).put s.next (some (.cells o.cells))).put m (some (.map (cK 0 (ej o.id (.ptr s.next 0) L)) (ej o.id (.ptr s.next 0) L).length))
structure A9 (s s':St) (m k:Nat) (rest:List Obj) (L:List (ax×ai)):Prop where
 next:s'.next=k+rest.length
 ci:s'.ci=s.ci
 minw:s'.minw=s.minw
 old: ∀n,n<k→n≠m→s'.get [] n=s.get [] n
 map:s'.get [] m=some (.map (cK 0 L) L.length)
 obj: ∀(i:Nat) (o:Obj),rest[i]? =some o→s'.get [] (k+i)=some (.cells o.cells)
section
variable {sp:FuncId→Option (List ai→Option ai)} {ch:Nat→Nat}
theorem aiJ {v:ai} {l:List Obj} (hl:bu 6 Obj.val v l) (hsmall:l.length<small) {m:Nat}: ∀(rest pre:List Obj) (e:bc) (lc:Ag.Loc) (s:St) (L:List (ax×ai)),l=pre++rest→m<s.next→s.minw≤m→
 s.get [] m=some (.map (cK 0 L) L.length)→aq e 3= .map m→aq e 11=v→aq e 12= .int .i64 (l.length:Nat)→aq e 13= .int .i64 (pre.length:Nat)→
 W (QM sp ch) 23 (.loop u7) ⟨e,22,lc⟩ s fun x fr s'=>x= .exit 0∧fr.size=22∧aq fr.env 3= .map m∧A9 s s' m s.next rest (m8 L s.next rest):=by
 intro rest
 have hcl:=hl.clean
 have hsm:small=9223372036854775808:=rfl
 induction rest with
 |nil=>
  intro pre e lc s L hpre hm hmw hs h3 h11 h12 h13
  have hl:l.length=pre.length:=by rw [hpre];simp
  refine W.loop1 ?_
  unfold u7
  refine W.sreg ?_
  unfold Dm
  simp only [az,aA,aB,aW,aj,aC,aw,cQ,ak,aZ,cT,bD,cZ,tA,ar,decide_false,h12,h13,hl,fL]
  refine W.seq (W.cond (t:=false) (by simp only [aj,ah,ae,cT, *]) ?_)
  refine W.exit ⟨rfl,rfl,?_,rfl,rfl,rfl,fun _ _ _=>rfl,hs,fun i o h=>by simp at h⟩
  simp only [ah,ae,cF, *]
 |cons o rest ih=>
  intro pre e lc s L hpre hm hmw hs h3 h11 h12 h13
  have hlt:pre.length<l.length:=by rw [hpre];simp
  have hat:l[pre.length]? =some o:=by rw [hpre];simp
  have hia:=fun lc=>hl.at wZ hat lc .i64
  have hwr:IntKind.i64.wrap ((pre.length:Int)+1)=((pre.length+1:Nat):Int):=by rw [eC (by omega) (by omega)];omega
  have hne:(m==s.next)=false:=beq_eq_false_iff_ne.2 (by omega)
  have hs1:((s.new (.cells lD.cells)).put s.next (some (.cells o.cells))).get [] m=some (.map (cK 0 L) L.length):=by
   rw [cD,cW,hne];exact hs
  have hup:=x4 rK zW hs1 o.id (.ptr s.next 0)
  simp only [Obj.cells,lD] at hup
  have hS:W (QM sp ch) 23 (.loop u7) ⟨e,22,lc⟩ s=W (QM sp ch) 23 (.loop u7) ⟨e,22,lc⟩ s:=rfl
  refine W.loop1 ?_
  unfold u7
  refine W.sreg ?_
  unfold Dm
  simp only [az,aA,aB,aW,aj,aC,aw,cQ,ak,aZ,cT,bD,cZ,tA,ar,dT,h12,h13,hlt]
  refine W.seq (W.cond (t:=true) (by simp only [aj,ah,ae,cT, *]) (W.skip ?_))
  simp only [aN]
  refine W.seq (W.block (W.sreg ?_))
  unfold LM
  simp only [az,aA,dH,aB,dI,ah,fH,bf,dJ,ec,aj,aC,iA,eI,aw,bH,di,ak,bZ,cT,cF,bD,gp,aK,aQ,cut,cI,bA,aR,List.drop_succ_cons,eP,bT,im,bS,tA,aM,ae,ar,bt,bR,dB,aU,cP,bQ,dT,l0,nF,nG,YL,h11,h13,hia,Obj.val,Obj.cells,j7,j6,cW]
  refine W.reg ?_
  unfold LN
  simp only [az,aA,dH,aB,dI,ah,aE,bf,b7,tL,aj,aC,aw,tU,ak,cu,dM,fZ,cT,cF,bD,aR,bN,bS,tA,cY,ae,ar,dD,qD,h3,dl,dj,cD,hup,dS,aN]
  refine W.reg ?_
  unfold LO
  simp only [az,aA,aB,ah,aE,aW,aj,aI,aC,bo,aw,d8,ak,aZ,cT,cF,bD,bS,tA,ae,ar,h13,hwr,aN]
  have hst:((s.new (.cells lD.cells)).put s.next (some (.cells o.cells))).put m (some (.map (cK 0 (ej o.id (.ptr s.next 0) L)) (ej o.id (.ptr s.next 0) L).length))=tK s o m L:=rfl
  simp only [Obj.cells,lD] at hst
  rw [hst]
  have hn:(tK s o m L).next=s.next+1:=rfl
  have hg: ∀n,(tK s o m L).get [] n=bif n==m then some (.map (cK 0 (ej o.id (.ptr s.next 0) L)) (ej o.id (.ptr s.next 0) L).length) else bif n==s.next then some (.cells o.cells) else s.get [] n:=by
   intro n
   simp only [tK,cD,cW]
   cases n==m<;>cases n==s.next<;>rfl
  have hmin:(tK s o m L).minw=s.minw:=by
   simp only [tK,St.put,St.new]
   have h1:cr s.minw s.next=true:=ew (by omega)
   have h2:cr s.minw m=true:=ew hmw
   simp only [h1,h2,cT]
  refine(ih (pre++[o]) _ _ (tK s o m L) (ej o.id (.ptr s.next 0) L) (by rw [hpre];simp) (by rw [hn];omega) (by rw [hmin];exact hmw) (by rw [hg];simp) (by simp only [ah,ae,cF, *]) (by simp only [ah,ae,cF, *]) (by simp only [ah,ae,cF, *]) (by simp only [ah,ae,cT,cF,dn,aK,aQ])).mono ?_
  rintro x fr s' ⟨rfl,h1,h2,a1,a2,a3,a4,a5,a6⟩
  rw [hn] at a1 a4 a5 a6
  refine⟨rfl,h1,h2,by rw [a1,aK];omega,a2,a3.trans hmin,fun n h3 h4=>?_,a5,fun i q hq=>?_⟩
  ·rw [a4 n (by omega) h4,hg,beq_eq_false_iff_ne.2 h4,beq_eq_false_iff_ne.2 (by omega:n≠s.next)];rfl
  ·cases i with
   |zero=>
    simp only [List.getElem?_cons_zero,a7] at hq
    subst hq
    rw [cY,a4 s.next (by omega) (by omega),hg,beq_eq_false_iff_ne.2 (by omega:s.next≠m)]
    simp
   |succ i=>
    rw [show s.next+(i+1)=s.next+1+i by omega]
    exact a6 i q (by simpa using hq)
theorem E4 (h23:sp 23=none) {v:ai} {l:List Obj} (hl:bu 6 Obj.val v l) (hsmall:l.length<small) (s:St) (hm:s.minw≤s.next): ∃s',br (QM sp ch) 23 [.agg [v]] s (.map s.next) s'∧A9 s s' s.next (s.next+1) l (m8 [] (s.next+1) l):=by
 have hlen:=fun mk s=>hl.len vj vi mk s
 have hcl:=hl.clean
 have key: ∃u s',br (QM sp ch) 23 [.agg [v]] s u s'∧(u= .map s.next∧A9 s s' s.next (s.next+1) l (m8 [] (s.next+1) l)):=by
  refine br.ofEx adf ade adh adg h23 ?_
  unfold Ly
  refine W.sreg ?_
  unfold LJ
  simp only [dg,cM,az,aA,aB,ah,dx,aJ,ja,aj,aI,aC,eM,aw,bH,di,ak,bZ,cT,gp,aK,aQ,bS,tA,aM,ar,bR,bQ,dT,YJ,ofValue,fk]
  refine W.sreg ?_
  unfold LK
  simp only [az,aA,aB,ah,dx,cz,bI,aJ,bf,b7,vH,cL,aj,aC,be,bh,bU,aw,cd,da,bH,ak,cT,cF,bD,gp,aR,bN,bS,tA,cY,ae,ar,aU,oC,nj,YM,hcl,hlen,ais,aiq]
  refine W.seq (W.sreg ?_)
  unfold LL
  simp only [az,aA,aB,ah,dx,cz,bI,aE,bf,b7,cL,aj,aI,aC,be,bh,bo,bU,aw,cd,da,bH,ak,cT,cF,bD,gp,aR,bN,bS,tA,cY,ae,ar,aU,oC,nj,YK,hcl,hlen]
  refine W.block ?_
  refine(aiJ hl hsmall (m:=s.next) l [] _ _ (s.new (.map [] 0)) [] rfl (by show s.next<s.next+1;omega) hm ?_ (by simp only [ah,ae,cT,cF, *]) (by simp only [ah,ae,cT,cF, *]) (by simp only [ah,ae,cT,cF, *]) (by simp only [ah,ae,cT,cF];rfl)).mono ?_
  ·rw [cW,bS];rfl
  rintro x ⟨e,sz,lc⟩ s' ⟨rfl,hs,h3,a1,a2,a3,a4,a5,a6⟩
  have hs:sz=22:=hs
  subst hs
  have h3:aq e 3= .map s.next:=h3
  show W (QM sp ch) 23 _ _ _ _
  refine W.sreg ?_
  unfold LP
  simp only [az,aA,aB,ah,aE,aJ,aj,aw,cT,bS,tA,ar,h3]
  refine W.ret ⟨.inr rfl,.map s.next,cp ?_ rfl,rfl,a1,a2,a3,fun n h4 h5=>?_,a5,a6⟩
  ·simp only [ah,ae,cT,cF, *]
  ·rw [a4 n h4 h5,cW,beq_eq_false_iff_ne.2 h5];rfl
 obtain⟨u,s',h1,rfl,h2⟩:=key
 exact⟨s',h1,h2⟩
end
inductive PV (s:St):ai→Option Obj→Prop
 |nil:PV s .nilp none
 |at_ {p:Nat} {o:Obj}:s.get [] p=some (.cells o.cells)→o.Good→PV s (.ptr p 0) (some o)
def cN:Option Obj→Option Obj→Bool
 |none,none=>true
 |some o,some q=>kx o q
 |_,_=>false
theorem vI:fR Tryz.prog .eql 67 .nilp .nilp=some (.bool true):=by kernel_rfl
theorem vJ (n o:Nat):fR Tryz.prog .eql 67 (.ptr n o) .nilp=some (.bool false):=by kernel_rfl
theorem ajD (n o:Nat):fR Tryz.prog .eql 67 .nilp (.ptr n o)=some (.bool false):=by kernel_rfl
theorem tP:fR Tryz.prog .neq 67 .nilp .nilp=some (.bool false):=by kernel_rfl
theorem qW (n o:Nat):fR Tryz.prog .neq 67 (.ptr n o) .nilp=some (.bool true):=by kernel_rfl
theorem iC:ofValue (.pointer none)=some .nilp:=rfl
theorem iK:(ai.nilp).clean=true:=rfl
theorem fG (lc:Ag.Loc) (n o:Nat):si lc (.ptr n o)=some (.ptr n o):=rfl
theorem rP (s:St) (mk:bj) (n:Nat):s.top.get mk n=s.get mk n:=rfl
section
variable {sp:FuncId→Option (List ai→Option ai)} {ch:Nat→Nat}
theorem Ft (h43:sp 43=none) (h16:sp 16=some ow) {s:St} (hm:s.minw≤s.next) {a b:ai} {p q:Option Obj} (ha:PV s a p) (hb:PV s b q):br (QM sp ch) 43 [a,b] s (.bool (cN p q)) s:=by
 refine br.of2 aey aex aeA aez h43 ?_
 unfold Nw
 refine W.sreg ?_
 unfold Nx
 simp only [dg,cM,az,aA,aB,aJ,aI,bJ,aw,cT,aK,aQ,tA,aM,ar,bt,bR,bQ,dT]
 refine W.seq (W.sreg ?_)
 unfold Ny
 cases ha with
 |nil=>
  cases hb with
  |nil=>
   simp only [az,aA,cJ,aB,ee,iG,ah,aE,cw,aW,aj,aI,aC,bJ,cx,dy,aw,ak,cT,cF,bD,bS,tA,ae,ar,iC,iK,vI]
   refine W.cond (t:=true) (by simp only [aj,ah,ae,cT,cF, *]) (W.sreg ?_)
   unfold zk
   simp only [az,aA,aB,ah,aE,aJ,aW,aj,aC,aw,ak,cT,cF,bD,bS,tA,ae,ar,iK,vI]
   exact W.ret ⟨rfl,.inr rfl,cp (by simp only [ah,ae,cT,cF,cN]) rfl⟩
  |at_ h1 h2=>
   simp only [az,aA,cJ,aB,ee,iG,ah,aE,cw,aW,aj,aI,aC,bJ,cx,dy,aw,ak,cT,cF,bD,bS,tA,ae,ar,iC,iK,vI]
   refine W.cond (t:=true) (by simp only [aj,ah,ae,cT,cF, *]) (W.sreg ?_)
   unfold zk
   simp only [az,aA,aB,ah,aE,aJ,aW,aj,aC,aw,ak,dM,cT,cF,bD,bS,tA,ae,ar,iK,ajD]
   exact W.ret ⟨rfl,.inr rfl,cp (by simp only [ah,ae,cT,cF,cN]) rfl⟩
 |at_ h1 h2=>
  cases hb with
  |nil=>
   simp only [az,aA,cJ,aB,dz,e7,ah,aE,cw,aW,aj,aI,aC,bJ,cx,dv,aw,ak,dM,cT,cF,bD,bS,tA,ae,ar,iC,iK,vI,vJ]
   refine W.cond (t:=true) (by simp only [aj,ah,ae,cT,cF, *]) (W.sreg ?_)
   unfold zk
   simp only [az,aA,aB,ah,aE,aJ,aW,aj,aC,aw,ak,dM,cT,cF,bD,bS,tA,ae,ar,iK,vJ]
   exact W.ret ⟨rfl,.inr rfl,cp (by simp only [ah,ae,cT,cF,cN]) rfl⟩
  |at_ h3 h4=>
   have hos:=E7 h2 h4
   simp only [Obj.val,Obj.cells] at hos
   simp only [Obj.cells] at h1 h3
   simp only [az,aA,cJ,aB,dz,e7,ah,aE,cw,aW,aj,aI,aC,bJ,cx,dv,aw,ak,dM,cT,cF,bD,bS,tA,ae,ar,iC,iK,vJ]
   refine W.cond (t:=false) (by simp only [aj,ah,ae,cT,cF, *]) (W.skip ?_)
   simp only [aN]
   refine W.sdrawQ hm ?_
   unfold Nz
   simp only [fh,fg,fu,isStore,ah,aE,aJ,bf,fI,dc,db,aj,aC,be,bh,aw,ak,bZ,cT,cF,bD,qu,aK,aQ,cut,bA,aR,eP,bS,tA,aM,ae,ar,bt,aU,l0,fG,dl,rP,h1,h3,dj,h16,hos]
   exact W.ret ⟨rfl,.inr rfl,cp (by simp only [ah,ae,cT,cF,cN]) rfl⟩
def at_ (k:ax) (L:List (ax×ai)):ai:=(look k L).getD .nilp
theorem qN {s:St} {m:Nat} {L:List (ax×ai)} {c:Nat} (hs:s.get [] m=some (.map (cK 0 L) c)) (k:ax):lk Tryz.prog [] 61 (.map m) (.str k) false s=some (at_ k L):=EA rK zW amg hs k
theorem PV.clean {s:St} {a:ai} {p:Option Obj} (h:PV s a p):a.clean=true:=by cases h<;>rfl
end
abbrev Cf:=ax×ax
def n8 (c:Cf):ai:=.agg [.str c.1,.str c.2]
def eG (n:Nat):List Cf→List cV
 | []=>[]
 |c::l=>⟨n8 c,.bool true,n⟩::eG (n+1) l
def pL (a b:Cf):Bool:=bif a.1==b.1 then bif a.2==b.2 then true else false else false
theorem yB (a b:Cf):pL a b=true↔a=b:=by
 obtain⟨a1,a2⟩:=a
 obtain⟨b1,b2⟩:=b
 unfold pL
 constructor
 ·intro h
  cases h1:a1==b1 with
  |false=>simp only [h1,cF,qj] at h
  |true=>
   cases h2:a2==b2 with
   |false=>simp only [h1,h2,cT,cF,qj] at h
   |true=>rw [eq_of_beq h1,eq_of_beq h2]
 ·intro h
  cases h
  simp
def lR (k:Cf):List Cf→Bool
 | []=>false
 |c::l=>bif pL k c then true else lR k l
def dC (k:Cf) (l:List Cf):List Cf:=bif lR k l then l else l++[k]
def nr (k:Cf):List Cf→Nat
 | []=>0
 |c::l=>bif pL k c then 0 else nr k l+1
theorem EE {k:Cf}: ∀ {l:List Cf},lR k l=true↔k∈l
 | []=>by simp [lR]
 |c::l=>by
  simp only [lR,List.mem_cons]
  cases h:pL k c with
  |true=>simp [(yB k c).1 h]
  |false=>
   have hne:k≠c:=fun e=>by rw [(yB k c).2 e] at h;cases h
   simp [hne,EE (l:=l)]
theorem o7 {k x:Cf} {l:List Cf}:x∈dC k l↔x=k∨x∈l:=by
 unfold dC
 cases h:lR k l with
 |true=>
  have:=EE.1 h
  simp only [cT]
  exact⟨.inr,fun h'=>h'.elim (fun e=>e▸this) id⟩
 |false=>simp only [cF,List.mem_append,pE];exact⟨Or.symm,Or.symm⟩
theorem tc {k:Cf} {l:List Cf} (h:l.Nodup):(dC k l).Nodup:=by
 unfold dC
 cases hk:lR k l with
 |true=>exact h
 |false=>
  have hn:k ∉ l:=fun hm=>by rw [EE.2 hm] at hk;cases hk
  refine List.nodup_append.2 ⟨h,by simp,fun a ha b hb e=>?_⟩
  simp only [pE] at hb
  subst hb;subst e;exact hn ha
theorem ait (a b:List UInt8):nl Tryz.prog 63 (.agg [.str a,.str b])=some (31,4):=by kernel_rfl
theorem Ws (a b c d:List UInt8):jX Tryz.prog 8 31 (.agg [.str a,.str b]) (.agg [.str c,.str d])=some (pL (a,b) (c,d)):=by
 have h:jX Tryz.prog 8 31 (.agg [.str a,.str b]) (.agg [.str c,.str d])=(some (a==c)).bind fun r=>bif r then(some (b==d)).bind fun r=>bif r then some true else some false else some false:=by kernel_rfl
 rw [h]
 unfold pL
 cases a==c<;>cases b==d<;>rfl
theorem HF: ∀(l:List Cf) (k:Cf) (n i:Nat),jZ Tryz.prog 31 (n8 k) (eG n l) i=some (bif lR k l then some (i+nr k l,⟨n8 k,.bool true,n+nr k l⟩) else none)
 | [],k,n,i=>rfl
 |c::l,k,n,i=>by
  have he:jX Tryz.prog 8 31 (n8 k) (n8 c)=some (pL k c):=Ws _ _ _ _
  simp only [eG,jZ,he,ak,lR,nr]
  cases h:pL k c with
  |true=>
   have:=(yB k c).1 h
   subst this
   simp
  |false=>
   simp only [cF]
   rw [HF l k (n+1) (i+1)]
   cases lR k l with
   |false=>rfl
   |true=>
    simp only [cT]
    rw [show i+1+nr k l=i+(nr k l+1) by omega,show n+1+nr k l=n+(nr k l+1) by omega]
theorem Hl: ∀(l r:List Cf) (n:Nat),eG n (l++r)=eG n l++eG (n+l.length) r
 | [],r,n=>rfl
 |a::l,r,n=>by simp only [cq,eG,Hl l r (n+1),aK];congr 3;omega
theorem Hm {k:Cf}: ∀ {l:List Cf} {n:Nat},lR k l=true→(eG n l).set (nr k l) ⟨n8 k,.bool true,n+nr k l⟩=eG n l
 | [],_,h=>by cases h
 |c::l,n,h=>by
  simp only [lR] at h
  simp only [nr,eG]
  cases hc:pL k c with
  |true=>
   have:=(yB k c).1 hc
   subst this
   simp
  |false=>
   rw [hc] at h
   have ih:=Hm (l:=l) (n:=n+1) h
   simp only [cF,List.set_cons_succ]
   rw [show n+(nr k l+1)=n+1+nr k l by omega,ih]
theorem alI {s:St} {m:Nat} {l:List Cf} (hs:s.get [] m=some (.map (eG 0 l) l.length)) (k:Cf):
 lB Tryz.prog [] 63 (.map m) (n8 k) (.bool true) s=some (s.put m (some (.map (eG 0 (dC k l)) (dC k l).length))):=by
 have hk:nl Tryz.prog 63 (n8 k)=some (31,4):=ait _ _
 simp only [lB,hk,ak,hs,HF l k 0 0,dC]
 cases h:lR k l with
 |false=>simp only [cF,dn,aK,aQ,Hl,aM];rfl
 |true=>
  have hks:r9 (n8 k) (n8 k)=true:=by simp [n8,r9,tj,vV]
  have:=Hm (n:=0) h
  rw [aM] at this
  simp only [cT,aM,hks,this]
section
variable {sp:FuncId→Option (List ai→Option ai)} {ch:Nat→Nat}
theorem xD (h45:sp 45=none) {s:St} {x mb mo mt mu md:Nat} {C:List Cf} (hx:s.get [] x=some (.cells [.map mb,.map mo,.map mt,.map mu,.map md])) (hd:s.get [] md=some (.map (eG 0 C) C.length)) (id what:ax):
 br (QM sp ch) 45 [.ptr x 0,.str id,.str what] s (jw []) (s.put md (some (.map (eG 0 (dC (id,what) C)) (dC (id,what) C).length))):=by
 have hup:=alI hd (id,what)
 simp only [n8] at hup
 refine br.of2 aeH aeG aeJ aeI h45 ?_
 unfold NN
 refine W.reg ?_
 unfold NP
 have hbd: ∀e,aq e 10= .str id→aq e 11= .str what→fY Tryz.prog 31 [(0,.tmp 10),(1,.tmp 11)] e=some (.agg [.str id,.str what]):=fun e p q=>by
  rw [UQ]
  simp only [FZ,ak,dL,evc,ev,p,q,cu,cT]
  rfl
 simp only [dg,cM,az,aA,dH,aB,dI,ah,aE,kL,bf,b7,tL,fI,aj,aI,aC,bJ,aw,tU,ak,ei,bZ,fZ,cT,cF,bD,aK,aQ,aR,bN,bS,tA,aM,ae,ar,bt,bR,bQ,dT,Fe,Hv,fG,dl,hx,dj,hbd,hup]
 exact⟨.inl trivial,[],rfl,rfl⟩
end
theorem S2 {v u:ai} {l r:List ax} (hl:bu 1 bp v l) (hu:bu 1 bp u r) (hv:bM v=true) (hu2:bM u=true) (hs:l.length<small):sG [v,u]=some (.int .i64 (kh l r)):=by
 have q1:Nat.blt l.length small=true:=ew hs
 simp only [sG,pures,hv,hu2,gK,cT,jE nX hl,jE nX hu,ak,q1]
theorem TA {v:ai} {l:List cH} (hl:bu 2 ek v l) (hv:bM v=true) (hs:l.length≤400000):sM [v]=some (xp ((je l).map bp)):=by
 have q1:cr l.length 400000=true:=ew hs
 simp only [sM,pures,hv,gK,cT,jE rC hl,ak,q1]
theorem QU (l:List ax):bM (xp (l.map bp))=true:=by
 cases l with
 |nil=>rfl
 |cons a l=>
  show(pures ((a::l).map bp)&&true)=true
  rw [xK SZ];rfl
def qz (a b:Obj):Int:=ou [lM a.kind b.kind,n9 (a.x,a.y) (b.x,b.y),kh a.refs b.refs,kh (je a.tags) (je b.tags)]
theorem U8 {e:bc} {x y z u:Operand} {a b c d:Int} (hx:ev e x=some (.int .i64 a)) (hy:ev e y=some (.int .i64 b)) (hz:ev e z=some (.int .i64 c)) (hu:ev e u=some (.int .i64 d)) (s:St):dR Tryz.prog 55 4 [(0,x),(1,y),(2,z),(3,u)] false e s=some (.list 1 [.int .i64 a,.int .i64 b,.int .i64 c,.int .i64 d] .full,s):=by
 simp only [dR,Hj,ak,dL,evc,hx,hy,hz,hu,ai.clean,cT,gg,ai.cells,aK,aQ,cI,j9,aM,bt,jh,ie,cut]
 rfl
section
variable {sp:FuncId→Option (List ai→Option ai)} {ch:Nat→Nat}
theorem VS (h77:sp 77=none) (h122:sp 122=some oQ) (h119:sp 119=some qa) (h123:sp 123=some sG) (h124:sp 124=some sM) (h31:sp 31=some ph) {s:St} (hm:s.minw≤s.next) {p q:Nat} {a b:Obj} (ha:s.get [] p=some (.cells a.cells)) (hb:s.get [] q=some (.cells b.cells)) (ga:a.Good) (gb:b.Good) (ta:a.tags.length≤400000) (tb:b.tags.length≤400000):
 br (QM sp ch) 77 [.ptr p 0,.ptr q 0] s (.int .i64 (qz a b)) s:=by
 have ha:s.top.get [] p=some (.cells a.cells):=ha
 have hb:s.top.get [] q=some (.cells b.cells):=hb
 simp only [Obj.cells] at ha hb
 have c1:=ga.refs.clean
 have c2:=gb.refs.clean
 have c3:=ga.tags.clean
 have c4:=gb.tags.clean
 have k1:oQ [.int .i64 a.kind,.int .i64 b.kind]=some (.int .i64 (lM a.kind b.kind)):=rfl
 have k2:qa [.agg [.int .i64 a.x,.int .i64 a.y],.agg [.int .i64 b.x,.int .i64 b.y]]=some (.int .i64 (n9 (a.x,a.y) (b.x,b.y))):=rfl
 have k3:=S2 ga.refs gb.refs ga.pr gb.pr ga.reflen
 have k4:=TA ga.tags ga.pt ta
 have k5:=TA gb.tags gb.pt tb
 have k6:=S2 (zN (je a.tags)) (zN (je b.tags)) (QU _) (QU _) (by have hsm:small=9223372036854775808:=rfl;rw [FS];omega)
 have c5:=(zN (je a.tags)).clean
 have c6:=(zN (je b.tags)).clean
 have k7:ph [.list 1 [.int .i64 (lM a.kind b.kind),.int .i64 (n9 (a.x,a.y) (b.x,b.y)),.int .i64 (kh a.refs b.refs),.int .i64 (kh (je a.tags) (je b.tags))] .full]=some (.int .i64 (qz a b)):=rfl
 have hbs: ∀e s,aq e 13= .int .i64 (lM a.kind b.kind)→aq e 22= .int .i64 (n9 (a.x,a.y) (b.x,b.y))→aq e 31= .int .i64 (kh a.refs b.refs)→aq e 42= .int .i64 (kh (je a.tags) (je b.tags))→dR Tryz.prog 55 4 [(0,.tmp 13),(1,.tmp 22),(2,.tmp 31),(3,.tmp 42)] false e s=some (.list 1 [.int .i64 (lM a.kind b.kind),.int .i64 (n9 (a.x,a.y) (b.x,b.y)),.int .i64 (kh a.refs b.refs),.int .i64 (kh (je a.tags) (je b.tags))] .full,s):=fun e s p q r t=>U8 (by rw [aj,p]) (by rw [aj,q]) (by rw [aj,r]) (by rw [aj,t]) s
 refine br.of2 agp ago agr agq h77 ?_
 unfold PO
 refine W.sreg ?_
 unfold PP
 simp only [dg,cM,az,aA,aB,aJ,aI,bo,aw,cT,aK,aQ,tA,aM,ar,bt,bR,bQ,dT]
 refine W.sdrawQ hm ?_
 unfold PQ
 simp only [fh,fg,fu,isStore,ah,aE,aJ,kM,bf,b7,fI,dc,db,aj,aC,be,bh,aw,cd,bH,ak,aZ,bZ,i8,cT,cF,bD,gp,qu,aK,aQ,cut,bA,aR,bN,eP,bS,tA,aM,ae,ar,bt,aU,fT,jb,iE,mD,li,uS,lP,tn,ZV,fG,dl,ha,hb,dj,c1,c2,c3,c4,c5,c6,h122,k1,h119,k2,h123,k3,h124,k4,k5,k6,hbs,h31,k7]
 exact W.ret ⟨rfl,.inr rfl,cp (by simp only [ah,ae,cT,cF, *]) rfl⟩
def oZ (a b:ai) (p q:Option Obj):ai:=
 match p,q with
 |none,_=>b
 |some _,none=>a
 |some o,some t=>bif du (qz t o) 0 then b else a
theorem Ua {Q:ck} {f:FuncId} {d t:Tmp} {bb:Bool} {x:Operand} {av:Array Operand} {ts:Array TypeId} {l:List au} {e:bc} {sz:Nat} {lc:Ag.Loc} {s s1:St} {g:FuncId} {args:List ai} {v:ai} {N:Fr→St→Prop} (hw:oE (aq e t) bb=true)
 (hc:callee e ⟨.value x,av,ts⟩=some (g,args)) (hr:br Q g args s v s1) (hd:d<sz) (hk:WL Q f l ⟨e.set d (some v),sz,lc⟩ s1 N):
 WL Q f (⟨some d,.call ⟨.value x,av,ts⟩,.when t bb⟩::l) ⟨e,sz,lc⟩ s N:=
 WL.call (by rw [ua];exact hw) rfl (fun b=>by simp) hc hr (ij.2 ⟨hd,rfl⟩) hk
theorem QQ (h46:sp 46=none) (h77:sp 77=none) (h122:sp 122=some oQ) (h119:sp 119=some qa) (h123:sp 123=some sG) (h124:sp 124=some sM) (h31:sp 31=some ph) {s:St} (hm:s.minw≤s.next) {a b:ai} {p q:Option Obj} (ha:PV s a p) (hb:PV s b q)
 (tp: ∀o,p=some o→o.tags.length≤400000) (tq: ∀o,q=some o→o.tags.length≤400000):br (QM sp ch) 46 [a,b] s (oZ a b p q) s:=by
 have ca:=ha.clean
 have cb:=hb.clean
 refine br.of2 aeL aeK aeN aeM h46 ?_
 unfold NQ
 refine W.sreg ?_
 unfold NR
 simp only [dg,cM,az,aA,aB,aJ,aI,aw,cT,aK,aQ,tA,aM,ar,bt,bR,bQ,dT,iC]
 cases ha with
 |nil=>
  refine W.seq (W.sreg ?_)
  unfold zq
  simp only [az,aA,cJ,aB,ee,iG,x6,ah,aE,cw,aW,aj,aI,aC,bJ,cx,dy,aw,ak,cT,cF,bD,bS,tA,ae,ar,iC,iK,vI]
  refine W.cond (t:=true) (by simp only [aj,ah,ae,cT,cF, *]) (W.sreg ?_)
  unfold DF
  simp only [az,aA,aB,ah,aE,aJ,aj,aw,cT,cF,bS,tA,ae,ar]
  exact W.ret ⟨rfl,.inr rfl,cp (by simp only [ah,ae,cT,cF,oZ]) cb⟩
 |at_ h1 h2=>
  cases hb with
  |nil=>
   refine W.seq (W.sreg ?_)
   unfold zq
   simp only [az,aA,cJ,aB,dz,ee,ia,e7,ah,aE,cw,aW,aj,aI,aC,bJ,cx,dv,aw,ak,dM,cT,cF,bD,bS,tA,ae,ar,iC,iK,vJ,tP]
   refine W.cond (t:=false) (by simp only [aj,ah,ae,cT,cF, *]) (W.skip ?_)
   simp only [aN]
   refine W.sreg ?_
   unfold DG
   simp only [az,aA,aB,ah,aE,aJ,aj,aw,cT,cF,bS,tA,ae,ar]
   exact W.ret ⟨rfl,.inr rfl,cp (by simp only [ah,ae,cT,cF,oZ]) rfl⟩
  |at_ h3 h4=>
   rename_i pa oa pb ob
   have hcmp:=VS (ch:=ch) h77 h122 h119 h123 h124 h31 hm h3 h1 h4 h2 (tq _ rfl) (tp _ rfl)
   refine W.seq (W.seq (W.region (fD 8 ?_)))
   unfold zq
   simp only [az,aA,cJ,aB,dz,eA,e7,ah,aE,aW,aj,aI,aC,aw,ak,dM,cT,cF,bD,bA,aR,bS,tA,ae,ar,iC,iK,vJ,qW]
   refine Ua (g:=77) (args:=[.ptr pb 0,.ptr pa 0]) (by simp only [ah,ae,cT,cF,eA]) ?_ hcmp (by decide) ?_
   ·simp only [callee,ah,aj,eH,aC,be,bh,ak,dM,cT,cF,bT,cq,bS,ae]
   refine fP ?_
   simp only [az,aA,cJ,aB,dz,eA,e7,ah,cw,aW,aj,aI,aC,bJ,bo,cx,dy,dv,aw,cQ,ak,aZ,cT,cF,bD,bS,tA,ae,ar,aN]
   cases hl:du (qz ob oa) 0 with
   |true=>
    refine W.cond (t:=true) (by simp only [aj,ah,ae,cT,cF]) (W.sreg ?_)
    unfold DF
    simp only [az,aA,aB,ah,aE,aJ,aj,aw,cT,cF,bS,tA,ae,ar]
    exact W.ret ⟨rfl,.inr rfl,cp (by simp only [ah,ae,cT,cF,oZ,hl]) (by simp only [oZ,hl,cT];rfl)⟩
   |false=>
    refine W.cond (t:=false) (by simp only [aj,ah,ae,cT,cF]) (W.skip ?_)
    simp only [aN]
    refine W.sreg ?_
    unfold DG
    simp only [az,aA,aB,ah,aE,aJ,aj,aw,cT,cF,bS,tA,ae,ar]
    exact W.ret ⟨rfl,.inr rfl,cp (by simp only [ah,ae,cT,cF,oZ,hl]) (by simp only [oZ,hl,cF];rfl)⟩
end
def pW (a b:Int×Int):Int×Int:=bif du (n9 b a) 0 then b else a
theorem Vk {e:bc} {x:Operand} {av:Array Operand} {ts:Array TypeId} (h:ev e x=some (.func (.func 119) [] [])):callee e ⟨.value x,av,ts⟩=(evcs e av.toList).bind fun args=>some (119,args):=by
 simp only [callee,h,ak,bT,im]
theorem vP {Q:ck} (hP:Q.P=Tryz.prog) {e:bc} {n g:Nat} {lc:Ag.Loc} {s:St} {t:Tmp} {a b:ai} (h:aq e t= .lref t g 0) (hl:lc.get t g=some [a,b]): ∃vs,gh Q [] ⟨e,n,lc⟩ s [.cell t 36]=some vs∧jw vs= .agg [a,b]:=by
 refine⟨[.agg [a,b]],?_,rfl⟩
 simp only [gh,vQ,h,hP,bU,hl,ak,jb,cut,List.drop_zero,bA,aU,aK,aQ,bS,cT,bZ,aM,bt]
theorem ain {sp:FuncId→Option (List ai→Option ai)} (h118:sp 118=none) (h119:sp 119=some qa) (a b:Int×Int) {s:St} (hm:s.minw≤s.next):br (QS sp) 118 [.list 2 [gI a,gI b] .full,.func (.func 119) [] []] s (gI (pW a b)) s:=by
 have hsp:qa [.agg [.int .i64 b.1,.int .i64 b.2],.agg [.int .i64 a.1,.int .i64 a.2]]=some (.int .i64 (n9 b a)):=rfl
 have w2:IntKind.i64.wrap (1+1)=2:=rfl
 have t1:du ((2:Nat):Int) 1=false:=rfl
 have t2:du 1 ((2:Nat):Int)=true:=rfl
 have t3:du 2 ((2:Nat):Int)=false:=rfl
 have n0: ∀k,fF (.int k 0)=some 0:=fun _=>rfl
 have n1: ∀k,fF (.int k 1)=some 1:=fun _=>rfl
 have a0: ∀x y:ai,iu [x,y] 0=x:=fun _ _=>rfl
 have a1: ∀x y:ai,iu [x,y] 1=y:=fun _ _=>rfl
 refine br.of2 abi abh abl abk h118 ?_
 unfold I5
 refine W.sreg ?_
 unfold I6
 simp only [dg,cM,az,aA,aB,dx,fH,eM,bH,di,ak,cT,aP,bX,aK,aQ,tA,aM,ar,bt,bR,bQ,dT,wg,Yb,gI]
 refine W.seq (W.seq (W.reg ?_))
 unfold I7
 simp only [az,aA,aB,ah,aE,aW,cL,aj,aI,aC,be,bh,bo,aw,cd,cQ,da,bH,ak,aZ,i8,cT,cF,aP,bX,aK,aQ,bS,tA,aM,ae,ar,bt,aU,zO,Yd,t1,aN]
 refine W.cond (t:=false) (by simp only [aj,ah,ae,cT,cF, *]) (W.skip ?_)
 simp only [aN]
 refine W.sreg ?_
 unfold I8
 simp only [az,aA,dH,aB,dI,ah,dx,cz,bI,gQ,aE,fH,bf,dJ,ec,aj,aI,aC,bo,eM,eI,aw,bH,di,fU,ak,bZ,cT,cF,aP,bX,aK,aQ,cut,cI,bA,aR,eP,bT,cq,bS,tA,aM,ae,ar,bt,bR,iP,dB,aU,cP,bQ,dT,jb,q8,wg,CJ,Yc,n0,a0]
 refine W.seq (W.sreg ?_)
 unfold I9
 simp only [az,aA,aB,aJ,aI,bo,aw,tA,ar]
 refine W.block (W.loop1 ?_)
 unfold yY
 refine W.seq (W.seq (W.reg ?_))
 unfold yZ
 simp only [az,aA,aB,ah,aE,aW,cL,aj,aC,be,bh,aw,cd,cQ,da,bH,ak,aZ,i8,cT,cF,aP,bX,aK,aQ,bS,tA,aM,ae,ar,bt,aU,zO,CI,t2,aN]
 refine W.cond (t:=true) (by simp only [aj,ah,ae,cT,cF, *]) (W.skip ?_)
 simp only [aN]
 refine W.seq (W.block (W.sdrawQ hm ?_))
 unfold Ja
 simp only [fh,fg,fu,isStore,ah,bI,aE,bf,aW,ec,dc,aj,aI,aC,be,bh,bo,bU,eI,aw,cQ,di,ak,aZ,bZ,cT,cF,aP,dt,aK,aQ,cut,bA,aR,eP,bS,tA,aM,ae,ar,bt,iP,aU,cP,dT,jb,CJ,n1,a1,Vk,h119,hsp]
 cases hz:du (n9 b a) 0 with
 |true=>
  have hm2:pW a b=b:=by simp only [pW,hz,cT]
  rw [hm2]
  refine W.cond (t:=true) (by simp only [aj,ah,ae,cT,cF]) (W.reg ?_)
  unfold Jb
  simp only [az,aA,dH,aB,dI,ah,bI,gQ,aE,bf,dJ,ec,aj,aC,eI,aw,di,fU,ak,bZ,cT,cF,aP,aK,aQ,cut,cI,bA,aR,eP,bT,cq,bS,tA,aM,ae,ar,bt,bR,iP,dB,aU,cP,bQ,dT,jb,q8,CJ,n1,a1,dS,aN]
  refine W.reg ?_
  try unfold C5
  simp only [az,aA,aB,ah,aE,aJ,aW,aj,aI,aC,bo,aw,d8,ak,aZ,cT,cF,aP,bS,tA,ae,ar,w2,aN]
  refine W.loop1 ?_
  try unfold yY
  refine W.seq (W.seq (W.reg ?_))
  try unfold yZ
  simp only [az,aA,aB,ah,aE,aW,cL,aj,aC,be,bh,aw,cd,cQ,da,bH,ak,aZ,i8,cT,cF,aP,bX,aK,aQ,bS,tA,aM,ae,ar,bt,aU,zO,CI,t3,aN]
  refine W.cond (t:=false) (by simp only [aj,ah,ae,cT,cF, *]) (W.exit ?_)
  show W (QS sp) 118 _ _ _ _
  refine W.sreg ?_
  unfold C6
  simp only [az,aA,dH,aB,dI,ah,bI,bf,dJ,aj,aC,bU,aw,di,fU,ak,bZ,cT,cF,aP,aK,aQ,cut,cI,bA,aR,bT,cq,bS,tA,aM,ae,ar,bt,bR,dB,aU,cP,bQ,dT,jb,q8]
  refine W.ret ⟨rfl,.inr rfl,?_⟩
  exact vP (g:=1) rfl (by simp only [ah,ae,cT,cF, *]) (by simp only [bI,ae,cT,cF])
 |false=>
  have hm2:pW a b=a:=by simp only [pW,hz,cF]
  rw [hm2]
  refine W.cond (t:=false) (by simp only [aj,ah,ae,cT,cF]) (W.skip ?_)
  simp only [dS,aN]
  refine W.reg ?_
  try unfold C5
  simp only [az,aA,aB,ah,aE,aJ,aW,aj,aI,aC,bo,aw,d8,ak,aZ,cT,cF,aP,bS,tA,ae,ar,w2,aN]
  refine W.loop1 ?_
  try unfold yY
  refine W.seq (W.seq (W.reg ?_))
  try unfold yZ
  simp only [az,aA,aB,ah,aE,aW,cL,aj,aC,be,bh,aw,cd,cQ,da,bH,ak,aZ,i8,cT,cF,aP,bX,aK,aQ,bS,tA,aM,ae,ar,bt,aU,zO,CI,t3,aN]
  refine W.cond (t:=false) (by simp only [aj,ah,ae,cT,cF, *]) (W.exit ?_)
  show W (QS sp) 118 _ _ _ _
  refine W.sreg ?_
  unfold C6
  simp only [az,aA,dH,aB,dI,ah,bI,bf,dJ,aj,aC,bU,aw,di,fU,ak,bZ,cT,cF,aP,aK,aQ,cut,cI,bA,aR,bT,cq,bS,tA,aM,ae,ar,bt,bR,dB,aU,cP,bQ,dT,jb,q8]
  refine W.ret ⟨rfl,.inr rfl,?_⟩
  exact vP (g:=1) rfl (by simp only [ah,ae,cT,cF, *]) (by simp only [bI,ae,cT,cF])
def sg:Sp
 | [.list 2 [p,q] .full,.func (.func 119) [] []]=>(te p).bind fun a=>(te q).bind fun b=>some (gI (pW a b))
 |_=>none
def Bj:eE:=[(119,qa)]
theorem Ue:fV Bj:=.cons R2 .nil
theorem aim:eD Tryz.prog 118 sg:=by
 intro args x hv G h w xs wr hx
 unfold sg at hv
 split at hv
 ·simp only [aF,a7] at hv
  obtain⟨a,h1,b,h2,rfl⟩:=hv
  have h1:=wD h1
  have h2:=wD h2
  subst h1;subst h2
  exact gJ (Q:=QT Bj) (gD Ue) (fun _=>gL 1) (args:=[.list 2 [gI a,gI b] .full,.func (.func 119) [] []]) (s':=s0) rfl (ain (sp:=fun f=>eY f Bj) rfl rfl a b (Nat.le_refl _)) rfl ⟨2,rfl⟩ G h w xs wr hx
 ·cases hv
def oB (a b:Int×Int):Bool:=bif bL a.1 b.1 then bif bL a.2 b.2 then true else false else false
def p9 (b o t:Int×Int):Bool:= !(oB o t||oB t b||oB o b)
def pk (b o t:Int×Int):Int×Int:=bif oB o t||oB t b then o else bif oB o b then t else pW o t
theorem UZ {e:bc} {x y:Operand} {a b c d:ai} (hx:ev e x=some (.agg [a,b])) (hy:ev e y=some (.agg [c,d])) (s:St):dR Tryz.prog 192 2 [(0,x),(1,y)] false e s=some (.list 2 [.agg [a,b],.agg [c,d]] .full,s):=by
 simp only [dR,Wb,ak,dL,evc,hx,hy,ai.clean,cT,gg,ai.cells,aK,aQ,cI,j9,aM,bt,jh,ie,cut]
 rfl
section
variable {sp:FuncId→Option (List ai→Option ai)} {ch:Nat→Nat}
theorem ajF (h75:sp 75=none) {x:Nat} {id:ax} (b o t:Int×Int) (hb:p9 b o t=false) (s:St):br (QM sp ch) 75 [.ptr x 0,.str id,gI b,gI o,gI t] s (gI (pk b o t)) s:=by
 refine br.of2 Pm Pl Pr Pq h75 ?_
 unfold D1
 refine W.sreg ?_
 unfold D2
 simp only [dg,cM,az,aA,aB,ah,dx,cz,fH,ja,aj,aC,eM,bH,di,ak,bZ,cT,cF,bD,gp,aK,aQ,bS,tA,aM,ae,ar,bt,bR,bQ,dT,wg,H7,H8,H9,H6,gI]
 refine W.seq (W.block (W.seq (W.seq (W.reg ?_))))
 unfold D3
 have f1:(bif bL o.1 t.1 then bif bL o.2 t.2 then true else false else false)=oB o t:=rfl
 have f2:(bif bL t.1 b.1 then bif bL t.2 b.2 then true else false else false)=oB t b:=rfl
 have f3:(bif bL o.1 b.1 then bif bL o.2 b.2 then true else false else false)=oB o b:=rfl
 simp only [az,aA,aB,ah,bI,aJ,bf,aW,aj,aC,bU,aw,ak,bZ,cT,cF,bD,aK,aQ,cut,bA,aR,bS,tA,aM,ae,ar,bt,aU,jb,pm,f1,aN]
 cases h1:oB o t with
 |true=>
  have hm:pk b o t=o:=by simp only [pk,h1,Bool.true_or,cT]
  rw [hm]
  refine W.cond (t:=true) (by simp only [aj,ah,ae,cT,cF]) (W.skip ?_)
  simp only [aN]
  refine W.cond (t:=true) (by simp only [aj,ah,ae,cT,cF]) (W.sreg ?_)
  unfold D5
  simp only [az,aA,dH,aB,dI,ah,bI,gQ,bf,dJ,aj,aC,bU,aw,di,fU,ak,bZ,cT,cF,bD,aK,aQ,cut,cI,bA,aR,bT,cq,bS,tA,aM,ae,ar,bt,bR,dB,aU,cP,bQ,dT,jb,q8]
  refine W.ret ⟨rfl,.inr rfl,?_⟩
  exact vP (g:=1) rfl (by simp only [ah,ae,cT,cF, *]) (by simp only [bI,ae,cT,cF])
 |false=>
  refine W.cond (t:=false) (by simp only [aj,ah,ae,cT,cF]) (W.reg ?_)
  unfold D4
  simp only [az,aA,aB,ah,bI,aJ,bf,aW,aj,aC,bU,aw,ak,bZ,cT,cF,bD,aK,aQ,cut,bA,aR,bS,tA,aM,ae,ar,bt,aU,jb,pm,f2,aN]
  cases h2:oB t b with
  |true=>
   have hm:pk b o t=o:=by simp only [pk,h1,h2,jz,cT]
   rw [hm]
   refine W.cond (t:=true) (by simp only [aj,ah,ae,cT,cF]) (W.sreg ?_)
   unfold D5
   simp only [az,aA,dH,aB,dI,ah,bI,gQ,bf,dJ,aj,aC,bU,aw,di,fU,ak,bZ,cT,cF,bD,aK,aQ,cut,cI,bA,aR,bT,cq,bS,tA,aM,ae,ar,bt,bR,dB,aU,cP,bQ,dT,jb,q8]
   refine W.ret ⟨rfl,.inr rfl,?_⟩
   exact vP (g:=1) rfl (by simp only [ah,ae,cT,cF, *]) (by simp only [bI,ae,cT,cF])
  |false=>
   have h3:oB o b=true:=by
    simp only [p9,h1,h2,jz,Bool.not_eq_false'] at hb;exact hb
   have hm:pk b o t=t:=by simp only [pk,h1,h2,h3,Bool.or_self,cT,cF]
   rw [hm]
   refine W.cond (t:=false) (by simp only [aj,ah,ae,cT,cF]) ?_
   refine W.seq (W.reg ?_)
   unfold D6
   simp only [az,aA,aB,ah,bI,aJ,bf,aW,aj,aC,bU,aw,ak,bZ,cT,cF,bD,aK,aQ,cut,bA,aR,bS,tA,aM,ae,ar,bt,aU,jb,pm,f3,aN]
   refine W.cond (t:=true) (by simp only [aj,ah,ae,cT,cF,h3]) (W.sreg ?_)
   unfold Pn
   simp only [az,aA,dH,aB,dI,ah,bI,gQ,bf,dJ,aj,aC,bU,aw,di,fU,ak,bZ,cT,cF,bD,aK,aQ,cut,cI,bA,aR,bT,cq,bS,tA,aM,ae,ar,bt,bR,dB,aU,cP,bQ,dT,jb,q8]
   refine W.ret ⟨rfl,.inr rfl,?_⟩
   exact vP (g:=1) rfl (by simp only [ah,ae,cT,cF, *]) (by simp only [bI,ae,cT,cF])
theorem ajE (h75:sp 75=none) (h45:sp 45=none) (h118:sp 118=some sg) {s:St} {x mb mo mt mu md:Nat} {C:List Cf} (hx:s.get [] x=some (.cells [.map mb,.map mo,.map mt,.map mu,.map md])) (hd:s.get [] md=some (.map (eG 0 C) C.length)) {id:ax} (b o t:Int×Int) (hb:p9 b o t=true):
 br (QM sp ch) 75 [.ptr x 0,.str id,gI b,gI o,gI t] s (gI (pk b o t)) (s.put md (some (.map (eG 0 (dC (id,[97,116]) C)) (dC (id,[97,116]) C).length))):=by
 have hnote:=xD (ch:=ch) h45 hx hd id [97,116]
 simp only [p9,Bool.not_eq_true',Bool.or_eq_false_iff] at hb
 obtain⟨⟨h1,h2⟩,h3⟩:=hb
 have hm:pk b o t=pW o t:=by simp only [pk,h1,h2,h3,Bool.or_self,cF]
 have hms:sg [.list 2 [.agg [.int .i64 o.1,.int .i64 o.2],.agg [.int .i64 t.1,.int .i64 t.2]] .full,.func (.func 119) [] []]=some (.agg [.int .i64 (pW o t).1,.int .i64 (pW o t).2]):=rfl
 have hbs: ∀e s,aq e 27= .agg [.int .i64 o.1,.int .i64 o.2]→aq e 28= .agg [.int .i64 t.1,.int .i64 t.2]→dR Tryz.prog 192 2 [(0,.tmp 27),(1,.tmp 28)] false e s=some (.list 2 [.agg [.int .i64 o.1,.int .i64 o.2],.agg [.int .i64 t.1,.int .i64 t.2]] .full,s):=fun e s p q=>UZ (by rw [aj,p]) (by rw [aj,q]) s
 have f1:(bif bL o.1 t.1 then bif bL o.2 t.2 then true else false else false)=false:=h1
 have f2:(bif bL t.1 b.1 then bif bL t.2 b.2 then true else false else false)=false:=h2
 have f3:(bif bL o.1 b.1 then bif bL o.2 b.2 then true else false else false)=false:=h3
 rw [hm]
 refine br.of2 Pm Pl Pr Pq h75 ?_
 unfold D1
 refine W.sreg ?_
 unfold D2
 simp only [dg,cM,az,aA,aB,ah,dx,cz,fH,ja,aj,aC,eM,bH,di,ak,bZ,cT,cF,bD,gp,aK,aQ,bS,tA,aM,ae,ar,bt,bR,bQ,dT,wg,H7,H8,H9,H6,gI]
 refine W.seq (W.block (W.seq (W.seq (W.reg ?_))))
 unfold D3
 simp only [az,aA,aB,ah,bI,aJ,bf,aW,aj,aC,bU,aw,ak,bZ,cT,cF,bD,aK,aQ,cut,bA,aR,bS,tA,aM,ae,ar,bt,aU,jb,pm,f1,aN]
 refine W.cond (t:=false) (by simp only [aj,ah,ae,cT,cF, *]) (W.reg ?_)
 unfold D4
 simp only [az,aA,aB,ah,bI,aJ,bf,aW,aj,aC,bU,aw,ak,bZ,cT,cF,bD,aK,aQ,cut,bA,aR,bS,tA,aM,ae,ar,bt,aU,jb,pm,f2,aN]
 refine W.cond (t:=false) (by simp only [aj,ah,ae,cT,cF, *]) (W.seq (W.reg ?_))
 unfold D6
 simp only [az,aA,aB,ah,bI,aJ,bf,aW,aj,aC,bU,aw,ak,bZ,cT,cF,bD,aK,aQ,cut,bA,aR,bS,tA,aM,ae,ar,bt,aU,jb,pm,f3,aN]
 refine W.cond (t:=false) (by simp only [aj,ah,ae,cT,cF, *]) (W.skip ?_)
 simp only [dS,aN]
 refine W.seq (W.region (fD 2 ?_))
 unfold Po
 simp only [az,aA,aB,ah,aE,aj,aw,cT,cF,bA,aR,bS,tA,ae,ar]
 refine fQ (g:=45) (args:=[.ptr x 0,.str id,.str [97,116]]) ?_ hnote (by decide) ?_
 ·simp only [callee,ah,aj,aI,eH,aC,be,bh,hQ,ak,cu,dM,cT,cF,bT,cq,bS,ae]
 refine fP ?_
 simp only [az,aN]
 refine W.sreg ?_
 unfold Pp
 simp only [az,aA,dH,aB,dI,ah,bI,gQ,kM,bf,dJ,dc,db,aj,eH,aC,be,bh,bU,aw,cd,bH,di,fU,ak,bZ,i8,nc,cT,cF,bD,gp,qu,aK,aQ,cut,cI,bA,aR,bT,cq,bS,tA,aM,ae,ar,bt,bR,dB,aU,cP,bQ,dT,jb,q8,ZI,hbs,h118,hms]
 refine W.ret ⟨rfl,.inr rfl,?_⟩
 exact vP (g:=1) rfl (by simp only [ah,ae,cT,cF, *]) (by simp only [bI,ae,cT,cF])
end
end Go.Proofs.YtbfmdojdemckbaaGreat
