/- merge.Merge, whole: its contract. -/
import Derived.Test.YtbfmdojdemckbaaGreatM2
namespace Go.Proofs.YtbfmdojdemckbaaGreat
open _root_.Bool renaming and_eq_true→cU,and_true→dB
open _root_.Classical renaming byContradiction→kV,propDecidable→uh
open _root_.List renaming cons_append→cq,drop_succ_cons→gl,drop_zero→l9,drop→aR,elem_eq_true_of_mem→qk,foldl_cons→ui,getElem?_eq_none→jg,head?_cons→bN,length_append→dn,length_cons→aK,length_filter_le→qm,length_map→ep,length_nil→aQ,map_append→kC,map_cons→fw,mem_append→qn,mem_cons→qp,mem_of_elem_eq_true→qq,mem_singleton→pE,nil_append→bT,nodup_nil→oL,not_mem_nil→rh,perm_ext_iff_of_nodup→F5,take→bA
open _root_.Nat renaming add_zero→cY,le_refl→bv,le_succ_of_le→j8,lt_or_ge→gY,lt_succ_self→ic,reduceAdd→bt,reduceBEq→ae,reduceLT→ar,reduceLeDiff→bR,reduceMul→jh,zero_add→aM
open _root_.Option renaming bind_some→ak
open Go.Ag
theorem U0 {e:bc} {x:Operand} {a b c d f g:ai} (h:ev e x=some (.agg [a,b,c,d,f,g])) (s:St):dR Tryz.prog 22 1 [(0,x)] false e s=some (.list 6 [.agg [a,b,c,d,f,g]] .full,s):=by
 simp only [dR,Hg,ak,dL,evc,h,ai.clean,cT,gg,ai.cells,aK,aQ,cI,Nat.zero_mul,aM,bt,jh,ie,cut]
 rfl
section
variable {sp:FuncId→Option (List ai→Option ai)} {ch:Nat→Nat}
theorem UB {e:bc} {lc:Ag.Loc} {s:St} {lo:Nat} {ov:ai} {acc:List Obj} {ob:Obj} {rs1:List dQ} {P:Fr→St→Prop} (hi: ∀r∈rs1,r.i<11) (h15:aq e 15= .lref 15 1 0) (h111:aq e 111=ov) (h120:aq e 120= .list 6 [ob.val] .full) (g15:lc.gen 15=1) (b15:lc.get 15 1=some [ov])
 (hO:gi 6 lo s ov (acc.map Obj.val)) (hm:s.minw≤s.next) (hlo:lo≤s.next) (hlen:acc.length≤900000)
 (hk: ∀(ov':ai) (s':St),gi 6 lo s' ov' ((acc++[ob]).map Obj.val)→s'.minw≤s'.next→(∀n,n<lo→s'.get [] n=s.get [] n)→s.next≤s'.next→P ⟨(e.set 121 (some ov')).set 122 (some (.lref 15 1 0)),132,lc.set 15 1 [ov']⟩ s'):
 WD (QM sp ch) 9 [2047,4095,8191] rs1 11 (tE.drop 11) ⟨e,132,lc⟩ s P:=by
 have hOt:gi 6 lo s.top ov (acc.map Obj.val):=hO
 obtain⟨s1,a1,a2,a3,a4,a5,a6⟩:=Bu Hg rfl (by decide) (y:=.list 6 [ob.val] .full) (ys:=[ob.val]) hOt rfl (by simp) (by rw [ep,List.length_singleton];omega) (bv _)
 have a4:s1.next=s.next+1:=a4
 have hcl:=hO.clean
 have hmw:(s.least s1).minw≤(s.least s1).next:=by
  show(bif Nat.ble s.minw s1.minw then s.minw else s1.minw)≤s1.next
  cases Nat.ble s.minw s1.minw with
  |true=>exact Nat.le_trans hm (by omega)
  |false=>exact a5
 have hO2:gi 6 lo (s.least s1) (.list 6 (acc.map Obj.val++[ob.val]) (.own s.next)) ((acc++[ob]).map Obj.val):=.inr ⟨by simp,s.next,by rw [kC];rfl,a2,hlo,by show s.next<s1.next;omega⟩
 have hcl2:=hO2.clean
 have hold: ∀n,n<lo→(s.least s1).get [] n=s.get [] n:=fun n hn=>a6 n (by show n<s.next;omega) fun k hk'=>by have:=(hO.token hk').1;omega
 unfold tE
 refine WD.fullL (v:=.list 6 (acc.map Obj.val++[ob.val]) (.own s.next)) (lc:=lc) (s1:=s1) (fr1:=⟨e.set 121 (some (.list 6 (acc.map Obj.val++[ob.val]) (.own s.next))),132,lc⟩) hi (by decide) rfl ?_ a3 (ij.2 ⟨by decide,rfl⟩) (fun rs2 k2=>?_)
 ·simp only [cL,aj,aC,be,bh,cd,nZ,bH,ak,i8,cT,bD,gp,ae,aU,aaF,Z8,h111,h120,hcl,a1]
  rfl
 refine WD.fullL (v:=.lref 15 1 0) (lc:=lc) (s1:=(s.least s1).top) (fr1:=⟨_,132,lc⟩) k2 (by decide) rfl ?_ rfl (ij.2 ⟨by decide,rfl⟩) (fun rs3 k3=>?_)
 ·simp only [ah,b7,aj,aw,ak,cT,cF,bD,bS,cY,ae,aU,nj,h15,g15]
 rw [lU hmw]
 refine WD.fullL (v:=gX) (lc:=lc.set 15 1 [.list 6 (acc.map Obj.val++[ob.val]) (.own s.next)]) (s1:=(s.least s1).top) (fr1:=⟨_,132,lc.set 15 1 [.list 6 (acc.map Obj.val++[ob.val]) (.own s.next)]⟩) k3 (by decide) rfl ?_ rfl rfl (fun rs4 k4=>?_)
 ·simp only [ah,dJ,aj,aC,Vq,fU,ak,cT,cF,bD,aK,aQ,cI,bA,aR,bT,cq,bS,aM,ae,ar,bR,dB,aU,cP,bQ,dT,ak8,hcl2,b15]
 rw [lU hmw]
 exact WD.nil (hk _ _ hO2 hmw hold (by show s.next≤s1.next;omega))
theorem aho {s0:St} {x mb mo mt mu md lim:Nat} {B O T U:List (ax×ai)} {C:List Cf} (M:Mg s0 x mb mo mt mu md B O T U C) {v:ai} {ks:List ax} (K:KL s0 lim v ks) (hlim:lim≤s0.next) (hlen:ks.length≤800000) {g:ax→Obj} (hg: ∀k∈ks, ∃p,look k U=some (.ptr p 0)∧p<s0.next∧s0.get [] p=some (.cells (g k).cells)): ∀(rest pre:List ax) (e:bc) (lc:Ag.Loc) (s:St) (ov:ai),ks=pre++rest→gi 6 s0.next s ov ((pre.map g).map Obj.val)→s.minw≤s.next→s0.next≤s.next→(∀n,n<s0.next→s.get [] n=s0.get [] n)→
 aq e 8= .ptr x 0→aq e 15= .lref 15 1 0→lc.gen 15=1→lc.get 15 1=some [ov]→aq e 104=v→aq e 105= .int .i64 (ks.length:Nat)→aq e 106= .int .i64 (pre.length:Nat)→
 W (QM sp ch) 9 (.loop zI) ⟨e,132,lc⟩ s fun y fr s'=>y= .exit 6∧ ∃e' lc' ov',fr=⟨e',132,lc'⟩∧(aq e' 6=aq e 6∧aq e' 8= .ptr x 0∧aq e' 15= .lref 15 1 0)∧lc'.gen 15=1∧lc'.get 15 1=some [ov']∧(lc'.gen 6=lc.gen 6∧lc'.get 6 1=lc.get 6 1)∧gi 6 s0.next s' ov' ((ks.map g).map Obj.val)∧s'.minw≤s'.next∧s0.next≤s'.next∧(∀n,n<s0.next→s'.get [] n=s0.get [] n):=by
 intro rest
 have hx0:=M.hx
 obtain⟨o1,o2,o3,o4,o5,o6⟩:=M.ord
 induction rest with
 |nil=>
  intro pre e lc s ov hpre hO hm hn hold h8 h15 g15 b15 h104 h105 h106
  have hl:ks.length=pre.length:=by rw [hpre];simp
  have hpp:pre=ks:=by rw [hpre];simp
  refine W.loop1 ?_
  unfold zI
  refine W.sreg ?_
  unfold El
  simp only [az,aA,aB,aW,aj,aC,aw,cQ,ak,aZ,cT,bD,cZ,tA,ar,decide_false,h105,h106,hl,Nat.lt_irrefl]
  refine W.seq (W.cond (t:=false) (by simp only [aj,ah,ae,cT]) ?_)
  rw [hpp] at hO
  refine W.exit ⟨rfl,_,_,ov,rfl,⟨?_,?_,?_⟩,g15,b15,⟨rfl,rfl⟩,hO,hm,hn,hold⟩
  ·simp only [ah,ae,cF]
  ·simp only [ah,ae,cF,h8]
  ·simp only [ah,ae,cF,h15]
 |cons k rest ih=>
  intro pre e lc s ov hpre hO hm hn hold h8 h15 g15 b15 h104 h105 h106
  have hlt:pre.length<ks.length:=by rw [hpre];simp
  have hat:ks[pre.length]? =some k:=by rw [hpre];simp
  obtain⟨rk,k1,k2,hia⟩:=K.row pre.length k hat
  have k2:=(hold rk (by omega)).trans k2
  have hcl:=K.clean
  have hoc:=hO.clean
  have hwr:IntKind.i64.wrap ((pre.length:Int)+1)=((pre.length+1:Nat):Int):=by rw [eC (by omega) (by omega)];omega
  have hrd:((ks.map bp).drop pre.length).head?=some (.str k):=by rw [hpre,kC,List.drop_left' (by simp)];rfl
  have hx:s.top.get [] x=some (.cells [.map mb,.map mo,.map mt,.map mu,.map md]):=(hold x o6).trans hx0
  obtain⟨p,p1,p2,p3⟩:=hg k (by rw [hpre];simp)
  have hp:s.top.get [] p=some (.cells [.str (g k).id,.int .i64 (g k).kind,.int .i64 (g k).x,.int .i64 (g k).y,(g k).refsV,(g k).tagsV]):=(hold p p2).trans p3
  have hus:s.top.get [] mu=some (.map (cK 0 U) U.length):=(hold mu (by omega)).trans M.hu
  have hlk:=qN hus k
  have hat_:at_ k U= .ptr p 0:=by simp only [at_,p1,Option.getD_some]
  rw [hat_] at hlk
  have hbs: ∀e s,aq e 119= .agg [.str (g k).id,.int .i64 (g k).kind,.int .i64 (g k).x,.int .i64 (g k).y,(g k).refsV,(g k).tagsV]→dR Tryz.prog 22 1 [(0,.tmp 119)] false e s=some (.list 6 [.agg [.str (g k).id,.int .i64 (g k).kind,.int .i64 (g k).x,.int .i64 (g k).y,(g k).refsV,(g k).tagsV]] .full,s):=fun e s h=>U0 (by rw [aj,h]) s
  refine W.loop1 ?_
  unfold zI
  refine W.sreg ?_
  unfold El
  simp only [az,aA,aB,aW,aj,aC,aw,cQ,ak,aZ,cT,bD,cZ,tA,ar,dT,h105,h106,hlt]
  refine W.seq (W.cond (t:=true) (by simp only [aj,ah,ae,cT]) (W.skip ?_))
  simp only [aN]
  refine W.seq (W.block (W.sreg ?_))
  unfold Qw
  simp only [az,aA,aB,ah,aJ,bf,ec,aj,aw,ak,cT,cF,bS,tA,ae,ar,bD,h104,h106,hia,dl,k2,dj,dD,hrd]
  rw [show tE=tE.take 11++tE.drop 11 from(List.take_append_drop 11 _).symm]
  refine W.drawD (WD.calmOps hm (fun _ h=>by cases h) (fun _ h=>by cases h) ?_)
  unfold tE
  simp only [fh,fg,fu,isStore,ah,aE,kM,bf,b7,lp,fI,aj,aC,bU,aw,cd,bH,ak,cu,fZ,cT,cF,bD,gp,aK,aQ,cut,bA,aR,bN,List.take_succ_cons,bT,cq,bS,tA,aM,cY,ae,ar,bt,aU,nj,rL,oC,mE,l0,h8,h15,g15,b15,fG,dl,hx,hp,dj,hlk,Z7,hbs]
  intro rs1 hc1 hi1
  refine UB (acc:=pre.map g) (ob:=g k) hi1 ?_ ?_ ?_ g15 b15 hO hm hn (by rw [ep];omega) ?_
  ·simp only [ah,ae,cF,h15]
  ·simp only [ah,ae,cT,cF]
  ·simp only [ah,ae,cT,cF];rfl
  intro ov2 s2 hO2 hm2 hold2 hn2
  simp only [dS,aN]
  refine W.reg ?_
  unfold Qx
  simp only [az,aA,aB,ah,aE,aW,aj,aI,aC,bo,aw,d8,ak,aZ,cT,cF,bD,bS,tA,ae,ar,h106,hwr,aN]
  refine(ih (pre++[k]) _ _ s2 ov2 (by rw [hpre];simp) (by rw [kC];exact hO2) hm2 (by omega) (fun n h=>(hold2 n h).trans (hold n h)) ?_ ?_ ?_ ?_ ?_ ?_ ?_).mono ?_
  ·simp only [ah,ae,cF,h8]
  ·simp only [ah,ae,cF,h15]
  ·simp only [cz,ae,cT]
  ·simp only [bI,cT,bS]
  ·simp only [ah,ae,cF,h104]
  ·simp only [ah,ae,cF,h105]
  ·simp only [ah,ae,cT,cF,dn,aK,aQ]
  rintro y fr s' ⟨rfl,e',lc',ov',rfl,⟨w6,w8,w15⟩,q1,q2,⟨q3,q4⟩,q5⟩
  refine⟨rfl,e',lc',ov',rfl,⟨w6.trans ?_,w8,w15⟩,q1,q2,⟨q3.trans ?_,q4.trans ?_⟩,q5⟩
  ·simp only [ah,ae,cF]
  ·simp only [cz,ae,cF]
  ·simp only [bI,ae,cF]
end
structure TU (s s':St) (b o t:List Obj) (mb mo mt mu md x:Nat):Prop where
 emb:mb=s.next
 emo:mo=mb+1+b.length
 emt:mt=mo+1+o.length
 emu:mu=mt+1+t.length
 emd:md=mu+1
 ex:x=md+1
 next:s'.next=x+1
 minw:s'.minw≤s'.next
 ci:s'.ci=s.ci
 mg:Mg s' x mb mo mt mu md (m8 [] (mb+1) b) (m8 [] (mo+1) o) (m8 [] (mt+1) t) [] []
 ob: ∀(i:Nat) (q:Obj),b[i]? =some q→s'.get [] (mb+1+i)=some (.cells q.cells)
 oo: ∀(i:Nat) (q:Obj),o[i]? =some q→s'.get [] (mo+1+i)=some (.cells q.cells)
 ot: ∀(i:Nat) (q:Obj),t[i]? =some q→s'.get [] (mt+1+i)=some (.cells q.cells)
def jx:Nat→List Obj→List (ax×ai)
 |_,[]=>[]
 |p,o::r=>(o.id,.ptr p 0)::jx (p+1) r
theorem Q9 (k:ax): ∀(L R:List (ax×ai)),look k (L++R)=(look k L).or (look k R)
 | [],R=>rfl
 |(a,v)::L,R=>by
  simp only [cq,look]
  cases k==a with
  |true=>rfl
  |false=>exact Q9 k L R
theorem yx: ∀(l:List Obj) (L:List (ax×ai)) (p:Nat),(∀o∈l,look o.id L=none)→(l.map (·.id)).Nodup→m8 L p l=L++jx p l
 | [],L,p,_,_=>by simp [m8,jx]
 |o::r,L,p,h,hn=>by
  simp only [fw,List.nodup_cons] at hn
  simp only [m8,jx]
  rw [CP (h o (by simp)),yx r _ (p+1) (fun q hq=>?_) hn.2,List.append_assoc]
  ·rfl
  ·rw [Q9,h q (by simp [hq])]
   have:(q.id==o.id)=false:=beq_eq_false_iff_ne.2 fun e=>hn.1 (by rw [←e];exact List.mem_map.2 ⟨q,hq,rfl⟩)
   simp only [look,this,Option.none_or,cF]
theorem Am {s:St} {lim:Nat}: ∀(l:List Obj) (p:Nat),(∀(i:Nat) (o:Obj),l[i]? =some o→s.get [] (p+i)=some (.cells o.cells))→(∀o∈l,o.Good)→p+l.length≤lim→ ∀k,eR s lim (at_ k (jx p l)) (aX k l)
 | [],p,_,_,_,k=>.nil
 |o::r,p,h,hg,hl,k=>by
  simp only [aK] at hl
  simp only [at_,jx,look,aX]
  cases k==o.id with
  |true=>exact .at_ (by omega) (h 0 o rfl) (hg o (by simp))
  |false=>exact Am r (p+1) (fun i q hq=>by rw [show p+1+i=p+(i+1) by omega];exact h (i+1) q (by simpa using hq)) (fun q hq=>hg q (by simp [hq])) (by omega) k
theorem Ak: ∀(l:List Obj) (p:Nat),(jx p l).length=l.length
 | [],_=>rfl
 |o::l,p=>by simp only [jx,aK,Ak l (p+1)]
theorem R4: ∀(l:List Obj) (p:Nat),(jx p l).map (·.1)=l.map (·.id)
 | [],_=>rfl
 |o::l,p=>by simp only [jx,fw,R4 l (p+1)]
section
variable {sp:FuncId→Option (List ai→Option ai)} {ch:Nat→Nat}
theorem ah3 (h23:sp 23=none) {vb vo vt:ai} {b o t:List Obj} (hb:bu 6 Obj.val vb b) (ho:bu 6 Obj.val vo o) (ht:bu 6 Obj.val vt t) (sb:b.length<small) (so:o.length<small) (st:t.length<small) {e:bc} {lc:Ag.Loc} {s:St} (hm:s.minw≤s.next)
 (h3:aq e 3= .lref 3 1 0) (_g3:lc.gen 3=1) (b3:lc.get 3 1=some [vb]) (h4:aq e 4= .lref 4 1 0) (_g4:lc.gen 4=1) (b4:lc.get 4 1=some [vo]) (h5:aq e 5= .lref 5 1 0) (_g5:lc.gen 5=1) (b5:lc.get 5 1=some [vt]) {K:Fr→St→Prop}
 (hk: ∀(e':bc) (s':St) (mb mo mt mu md x:Nat),TU s s' b o t mb mo mt mu md x→aq e' 8= .ptr x 0→aq e' 6=aq e 6→aq e' 7=aq e 7→K ⟨e',132,lc⟩ s'):
 WD (QM sp ch) 9 Ej [] 0 Em ⟨e,132,lc⟩ s K:=by
 have cb:=hb.clean
 have co:=ho.clean
 have ct:=ht.clean
 obtain⟨s1,r1,l1⟩:=E4 (ch:=ch) h23 hb sb s.top (bv _)
 have n1:s1.next=s.next+1+b.length:=l1.next
 have w1:s1.minw=s.next:=l1.minw
 let sA:=s.least s1
 have mA:sA.minw=s.minw:=Es hm (by omega)
 have nA:sA.next=s.next+1+b.length:=n1
 have hA:sA.minw≤sA.next:=by omega
 obtain⟨s2,r2,l2⟩:=E4 (ch:=ch) h23 ho so sA.top (bv _)
 have n2:s2.next=sA.next+1+o.length:=l2.next
 have w2:s2.minw=sA.next:=l2.minw
 let sB:=sA.least s2
 have mB:sB.minw=sA.minw:=Es hA (by omega)
 have nB:sB.next=sA.next+1+o.length:=n2
 have hB:sB.minw≤sB.next:=by omega
 obtain⟨s3,r3,l3⟩:=E4 (ch:=ch) h23 ht st sB.top (bv _)
 have n3:s3.next=sB.next+1+t.length:=l3.next
 have w3:s3.minw=sB.next:=l3.minw
 let sC:=sB.least s3
 have mC:sC.minw=sB.minw:=Es hB (by omega)
 have nC:sC.next=sB.next+1+t.length:=n3
 have hC:sC.minw≤sC.next:=by omega
 have gB: ∀n,n<sA.next→sB.get [] n=sA.get [] n:=fun n h=>l2.old n (by show n<sA.next+1;omega) (by show n≠sA.next;omega)
 have gC: ∀n,n<sB.next→sC.get [] n=sB.get [] n:=fun n h=>l3.old n (by show n<sB.next+1;omega) (by show n≠sB.next;omega)
 have gF: ∀n v,n<sC.next→(((sC.new (.map [] 0)).new (.map [] 0)).new v).get [] n=sC.get [] n:=fun n v h=>by
  rw [cW,cW,cW]
  have e1:(n==((sC.new (.map [] 0)).new (.map [] 0)).next)=false:=beq_eq_false_iff_ne.2 (by show n≠sC.next+1+1;omega)
  have e2:(n==(sC.new (.map [] 0)).next)=false:=beq_eq_false_iff_ne.2 (by show n≠sC.next+1;omega)
  have e3:(n==sC.next)=false:=beq_eq_false_iff_ne.2 (by omega)
  rw [e1,e2,e3];rfl
 unfold Em Ej
 refine WD.hush (v:=.agg [vb]) (lc:=lc) (s1:=s.top) (fr1:=⟨e.set 33 (some (.agg [vb])),132,lc⟩) (fun _ h=>by cases h) rfl (bv _) rfl (fun mk=>by simp only [bf,aj,bU,aw,ak,cT,bD,aK,aQ,cut,bA,aR,bS,aM,aU,gj,h3,b3]) rfl (ij.2 ⟨by decide,rfl⟩) (fun rs1 k1=>?_)
 rw [lU hm]
 refine WD.call (g:=23) (args:=[.agg [vb]]) (v:=.map s.next) (s1:=s1) (fr1:=⟨(e.set 33 (some (.agg [vb]))).set 34 (some (.map s.next)),132,lc⟩) k1 (by decide) rfl (by omega) rfl (fun b=>by simp) (by simp only [callee,ah,aj,eH,aC,be,bh,ak,bZ,cT,bT,cq,bS]) r1 l1.ci (ij.2 ⟨by decide,rfl⟩) (fun rs2 k2=>?_)
 refine WD.hush (v:=.agg [vo]) (lc:=lc) (s1:=sA.top) (fr1:=⟨((e.set 33 (some (.agg [vb]))).set 34 (some (.map s.next))).set 35 (some (.agg [vo])),132,lc⟩) k2 rfl (bv _) rfl (fun mk=>by simp only [ah,bf,aj,bU,aw,ak,cT,cF,bD,aK,aQ,cut,bA,aR,bS,aM,ae,aU,gj,h4,b4];rfl) rfl (ij.2 ⟨by decide,rfl⟩) (fun rs3 k3=>?_)
 rw [show(s.least s1).least sA.top=sA from lU hA]
 refine WD.call (g:=23) (args:=[.agg [vo]]) (v:=.map sA.next) (s1:=s2) (fr1:=⟨(((e.set 33 (some (.agg [vb]))).set 34 (some (.map s.next))).set 35 (some (.agg [vo]))).set 36 (some (.map sA.next)),132,lc⟩) k3 (by decide) rfl (by omega) rfl (fun b=>by simp) (by simp only [callee,ah,aj,eH,aC,be,bh,ak,bZ,cT,cF,bT,cq,bS,ae]) r2 l2.ci (ij.2 ⟨by decide,rfl⟩) (fun rs4 k4=>?_)
 refine WD.hush (v:=.agg [vt]) (lc:=lc) (s1:=sB.top) (fr1:=⟨((((e.set 33 (some (.agg [vb]))).set 34 (some (.map s.next))).set 35 (some (.agg [vo]))).set 36 (some (.map sA.next))).set 37 (some (.agg [vt])),132,lc⟩) k4 rfl (bv _) rfl (fun mk=>by simp only [ah,bf,aj,bU,aw,ak,cT,cF,bD,aK,aQ,cut,bA,aR,bS,aM,ae,aU,gj,h5,b5];rfl) rfl (ij.2 ⟨by decide,rfl⟩) (fun rs5 k5=>?_)
 rw [show(sA.least s2).least sB.top=sB from lU hB]
 refine WD.call (g:=23) (args:=[.agg [vt]]) (v:=.map sB.next) (s1:=s3) (fr1:=⟨(((((e.set 33 (some (.agg [vb]))).set 34 (some (.map s.next))).set 35 (some (.agg [vo]))).set 36 (some (.map sA.next))).set 37 (some (.agg [vt]))).set 38 (some (.map sB.next)),132,lc⟩) k5 (by decide) rfl (by omega) rfl (fun b=>by simp) (by simp only [callee,ah,aj,eH,aC,be,bh,ak,bZ,cT,cF,bT,cq,bS,ae]) r3 l3.ci (ij.2 ⟨by decide,rfl⟩) (fun rs6 k6=>?_)
 refine WD.hush (v:=.map sC.next) (lc:=lc) (s1:=sC.top.new (.map [] 0)) (fr1:=⟨((((((e.set 33 (some (.agg [vb]))).set 34 (some (.map s.next))).set 35 (some (.agg [vo]))).set 36 (some (.map sA.next))).set 37 (some (.agg [vt]))).set 38 (some (.map sB.next))).set 39 (some (.map sC.next)),132,lc⟩) k6 rfl (bv _) rfl (fun mk=>by simp only [vH,cd,bD,EM];rfl) rfl (ij.2 ⟨by decide,rfl⟩) (fun rs7 k7=>?_)
 rw [show(sB.least s3).least (sC.top.new (.map [] 0))=sC.new (.map [] 0) from Ev hC _]
 have hD:(sC.new (.map [] 0)).minw≤(sC.new (.map [] 0)).next:=j8 hC
 refine WD.hush (v:=.map (sC.next+1)) (lc:=lc) (s1:=(sC.new (.map [] 0)).top.new (.map [] 0)) (fr1:=⟨(((((((e.set 33 (some (.agg [vb]))).set 34 (some (.map s.next))).set 35 (some (.agg [vo]))).set 36 (some (.map sA.next))).set 37 (some (.agg [vt]))).set 38 (some (.map sB.next))).set 39 (some (.map sC.next))).set 40 (some (.map (sC.next+1))),132,lc⟩) k7 rfl (bv _) rfl (fun mk=>by simp only [vH,cd,bD,EM];rfl) rfl (ij.2 ⟨by decide,rfl⟩) (fun rs8 k8=>?_)
 rw [show(sC.new (.map [] 0)).least ((sC.new (.map [] 0)).top.new (.map [] 0))=(sC.new (.map [] 0)).new (.map [] 0) from Ev hD _]
 have hE:((sC.new (.map [] 0)).new (.map [] 0)).minw≤((sC.new (.map [] 0)).new (.map [] 0)).next:=j8 hD
 refine WD.full (v:=.agg [.map s.next,.map sA.next,.map sB.next,.map sC.next,.map (sC.next+1)]) (lc:=lc) (s1:=((sC.new (.map [] 0)).new (.map [] 0)).top) (fr1:=⟨((((((((e.set 33 (some (.agg [vb]))).set 34 (some (.map s.next))).set 35 (some (.agg [vo]))).set 36 (some (.map sA.next))).set 37 (some (.agg [vt]))).set 38 (some (.map sB.next))).set 39 (some (.map sC.next))).set 40 (some (.map (sC.next+1)))).set 41 (some (.agg [.map s.next,.map sA.next,.map sB.next,.map sC.next,.map (sC.next+1)])),132,lc⟩) k8 (by decide) rfl (bv _) rfl ?_ rfl (ij.2 ⟨by decide,rfl⟩) (fun rs9 k9=>?_)
 ·simp only [ah,kL,aj,aC,di,ak,fZ,cT,cF,bD,aK,aQ,cI,gl,bT,cq,bS,aM,ae,bt,bR,aU,bQ,UU,amf,dL,GP];rfl
 rw [lU hE]
 refine WD.fullL (v:=.ptr (sC.next+2) 0) (lc:=lc) (s1:=((sC.new (.map [] 0)).new (.map [] 0)).top.new (.cells [.map s.next,.map sA.next,.map sB.next,.map sC.next,.map (sC.next+1)])) (fr1:=⟨(((((((((e.set 33 (some (.agg [vb]))).set 34 (some (.map s.next))).set 35 (some (.agg [vo]))).set 36 (some (.map sA.next))).set 37 (some (.agg [vt]))).set 38 (some (.map sB.next))).set 39 (some (.map sC.next))).set 40 (some (.map (sC.next+1)))).set 41 (some (.agg [.map s.next,.map sA.next,.map sB.next,.map sC.next,.map (sC.next+1)]))).set 42 (some (.ptr (sC.next+2) 0)),132,lc⟩) (fun r hr=>(k9 r hr).1) (by decide) rfl ?_ rfl (ij.2 ⟨by decide,rfl⟩) (fun rs10 yW=>?_)
 ·simp only [ah,ja,aj,aC,iA,bH,di,ak,bZ,cT,cF,gp,bS,ae,aac,iA];rfl
 rw [Ev hE]
 have hF:=j8 hE
 refine WD.fullL (v:=.ptr (sC.next+2) 0) (lc:=lc) (s1:=(((sC.new (.map [] 0)).new (.map [] 0)).new (.cells [.map s.next,.map sA.next,.map sB.next,.map sC.next,.map (sC.next+1)])).top) (fr1:=⟨((((((((((e.set 33 (some (.agg [vb]))).set 34 (some (.map s.next))).set 35 (some (.agg [vo]))).set 36 (some (.map sA.next))).set 37 (some (.agg [vt]))).set 38 (some (.map sB.next))).set 39 (some (.map sC.next))).set 40 (some (.map (sC.next+1)))).set 41 (some (.agg [.map s.next,.map sA.next,.map sB.next,.map sC.next,.map (sC.next+1)]))).set 42 (some (.ptr (sC.next+2) 0))).set 8 (some (.ptr (sC.next+2) 0)),132,lc⟩) yW (by decide) rfl ?_ rfl (ij.2 ⟨by decide,rfl⟩) (fun rs11 k11=>?_)
 ·simp only [ah,aJ,aj,aw,cT,cF,bS,ae]
 rw [lU hF]
 refine WD.nil (hk _ _ s.next sA.next sB.next sC.next (sC.next+1) (sC.next+2) ⟨rfl,nA,nB,nC,rfl,rfl,rfl,hF,?_,⟨?_,?_,?_,?_,?_,?_,hF,by omega,by omega,by omega,by omega,by omega,ic _⟩,?_,?_,?_⟩ (by simp only [ah,ae,cT,cF, *]) (by simp only [ah,ae,cF, *]) (by simp only [ah,ae,cF, *]))
 ·exact(l3.ci.trans (l2.ci.trans l1.ci):_)
 ·rw [cW,show(sC.next+2==((sC.new (.map [] 0)).new (.map [] 0)).next)=true from bS _];rfl
 ·rw [gF _ _ (by omega),gC _ (by omega),gB _ (by omega)];exact l1.map
 ·rw [gF _ _ (by omega),gC _ (by omega)];exact l2.map
 ·rw [gF _ _ (by omega)];exact l3.map
 ·rw [cW,cW,cW]
  have e1:(sC.next==((sC.new (.map [] 0)).new (.map [] 0)).next)=false:=beq_eq_false_iff_ne.2 (by show sC.next≠sC.next+1+1;omega)
  have e2:(sC.next==(sC.new (.map [] 0)).next)=false:=beq_eq_false_iff_ne.2 (by show sC.next≠sC.next+1;omega)
  rw [e1,e2,bS];rfl
 ·rw [cW,cW]
  have e1:(sC.next+1==((sC.new (.map [] 0)).new (.map [] 0)).next)=false:=beq_eq_false_iff_ne.2 (by show sC.next+1≠sC.next+1+1;omega)
  have e2:(sC.next+1==(sC.new (.map [] 0)).next)=true:=bS _
  rw [e1,e2];rfl
 ·intro i q hq
  have hi:i<b.length:=by
   rcases gY i b.length with h|h
   ·exact h
   ·rw [jg h] at hq;cases hq
  rw [gF _ _ (by omega),gC _ (by omega),gB _ (by omega)];exact l1.obj i q hq
 ·intro i q hq
  have hi:i<o.length:=by
   rcases gY i o.length with h|h
   ·exact h
   ·rw [jg h] at hq;cases hq
  rw [gF _ _ (by omega),gC _ (by omega)];exact l2.obj i q hq
 ·intro i q hq
  have hi:i<t.length:=by
   rcases gY i t.length with h|h
   ·exact h
   ·rw [jg h] at hq;cases hq
  rw [gF _ _ (by omega)];exact l3.obj i q hq
end
def qB (l:List ax):List ax:=l.foldl (fun K k=>iR k K) []
def BQ (l:List Cf):List Cf:=l.foldl (fun C c=>dC c C) []
theorem aia {k x:ax} {K:List ax}:x∈iR k K↔x=k∨x∈K:=by
 unfold iR
 cases h:K.elem k with
 |true=>
  have:=qq h
  simp only [cT]
  exact⟨.inr,fun h'=>h'.elim (fun e=>e▸this) id⟩
 |false=>simp only [cF,qn,pE];exact⟨Or.symm,Or.symm⟩
theorem Uo {k:ax} {K:List ax} (h:K.Nodup):(iR k K).Nodup:=by
 unfold iR
 cases hk:K.elem k with
 |true=>exact h
 |false=>
  have hn:k ∉ K:=fun hm=>by rw [qk hm] at hk;cases hk
  exact List.nodup_append.2 ⟨h,by simp,fun a ha b hb e=>by simp only [pE] at hb;subst hb;subst e;exact hn ha⟩
theorem tk: ∀(l K:List ax),K.Nodup→(l.foldl (fun K k=>iR k K) K).Nodup∧(∀x,x∈l.foldl (fun K k=>iR k K) K↔x∈K∨x∈l)∧(l.foldl (fun K k=>iR k K) K).length≤K.length+l.length
 | [],K,h=>⟨h,fun x=>by simp,bv _⟩
 |k::l,K,h=>by
  obtain⟨h1,h2,h3⟩:=tk l (iR k K) (Uo h)
  refine⟨h1,fun x=>?_,?_⟩
  ·rw [ui,h2,aia,qp]
   constructor
   ·rintro((h|h)|h)
    ·exact .inr (.inl h)
    ·exact .inl h
    ·exact .inr (.inr h)
   ·rintro(h|h|h)
    ·exact .inl (.inr h)
    ·exact .inl (.inl h)
    ·exact .inr h
  ·rw [ui,aK]
   have h4:(iR k K).length≤K.length+1:=by
    unfold iR
    cases K.elem k<;>simp
   omega
theorem yE: ∀(l K:List Cf),K.Nodup→(l.foldl (fun C c=>dC c C) K).Nodup∧(∀x,x∈l.foldl (fun C c=>dC c C) K↔x∈K∨x∈l)∧(l.foldl (fun C c=>dC c C) K).length≤K.length+l.length
 | [],K,h=>⟨h,fun x=>by simp,bv _⟩
 |k::l,K,h=>by
  obtain⟨h1,h2,h3⟩:=yE l (dC k K) (tc h)
  refine⟨h1,fun x=>?_,?_⟩
  ·rw [ui,h2,o7,qp]
   constructor
   ·rintro((h|h)|h)
    ·exact .inr (.inl h)
    ·exact .inl h
    ·exact .inr (.inr h)
   ·rintro(h|h|h)
    ·exact .inl (.inr h)
    ·exact .inl (.inl h)
    ·exact .inr h
  ·rw [ui,aK]
   have h4:(dC k K).length≤K.length+1:=by
    unfold dC
    cases lR k K<;>simp
   omega
open Classical in
noncomputable def oz (b o t:List Obj):List ax:=(qB (dW b o t)).filter fun k=>decide (iz b o t k)
open Classical in
noncomputable def qA (b o t:List Obj):List Cf:=BQ ((dW b o t).flatMap (js b o t)++((dW b o t).filter fun k=>decide (Reach b o t k)).map fun k=>(k,fK))
def mz (b o t:List Obj) (k:ax):Obj:=(fv b o t k).getD lD
noncomputable def gd (b o t:List Obj):List Obj:=(fq (oz b o t)).map (mz b o t)
noncomputable def ml (b o t:List Obj):List Cf:=hZ (qA b o t)
noncomputable def tS (b o t:List Obj):ai:=.tup [.agg [fS 6 ((gd b o t).map Obj.val)],fS 2 ((ml b o t).map de)]
theorem Rv {b o t:List Obj} {k:ax} (h:k ∉ dW b o t):js b o t k=[]∧fW b o t k=none:=by
 simp only [dW,qn,not_or] at h
 have nn: ∀ {l:List Obj},k ∉ l.map (·.id)→aX k l=none:=fun {l} hn=>by
  cases ho:aX k l with
  |none=>rfl
  |some q=>exact absurd (vz.1 (by rw [ho];simp)) hn
 exact GR (nn h.1) (nn h.2.1) (nn h.2.2)
theorem iz.name {b o t:List Obj} {k:ax} (h:iz b o t k):k∈dW b o t:=by
 rcases h with h|h
 ·exact kV fun hc=>by rw [(Rv hc).2] at h;cases h
 ·exact EX h.no.2
theorem EF {b o t:List Obj} {k:ax}:k∈oz b o t↔iz b o t k:=by
 unfold oz
 rw [List.mem_filter]
 have:=(tk (dW b o t) [] oL).2.1 k
 simp only [decide_eq_true_eq]
 constructor
 ·exact fun h=>h.2
 ·exact fun h=>⟨this.2 (.inr h.name),h⟩
theorem ajw (b o t:List Obj):(oz b o t).Nodup:=List.Nodup.sublist (List.filter_sublist) (tk (dW b o t) [] oL).1
theorem ajv (b o t:List Obj):(oz b o t).length≤(dW b o t).length:=by
 have h1:=(tk (dW b o t) [] oL).2.2
 have h2:(oz b o t).length≤(qB (dW b o t)).length:=qm _ _
 have h3:(qB (dW b o t)).length≤([]:List ax).length+(dW b o t).length:=h1
 simp only [aQ] at h3
 omega
theorem Rq {b o t:List Obj} {c:Cf}:c∈qA b o t↔(∃k,c∈js b o t k)∨ ∃k,Reach b o t k∧c=(k,fK):=by
 unfold qA
 have:=(yE ((dW b o t).flatMap (js b o t)++((dW b o t).filter fun k=> @decide (Reach b o t k) (uh _)).map fun k=>(k,fK)) [] oL).2.1 c
 refine Iff.trans this ?_
 simp only [rh,false_or,qn,List.mem_flatMap,List.mem_map,List.mem_filter,decide_eq_true_eq]
 constructor
 ·rintro(⟨k,_,h⟩|⟨k,⟨_,h⟩,rfl⟩)
  ·exact .inl ⟨k,h⟩
  ·exact .inr ⟨k,h,rfl⟩
 ·rintro(⟨k,h⟩|⟨k,h,rfl⟩)
  ·exact .inl ⟨k,kV fun hc=>(by rw [(Rv hc).1] at h;cases h),h⟩
  ·exact .inr ⟨k,⟨EX h.no.2,h⟩,rfl⟩
theorem V2 (b o t:List Obj):(qA b o t).Nodup:=(yE _ [] oL).1
theorem yw (k:Cf) (C:List Cf):(dC k C).length≤C.length+1:=by
 unfold dC
 cases lR k C<;>simp
theorem Td {id:ax}: ∀(ks:List ax) (C:List Cf),(lw id ks C).length≤C.length+ks.length
 | [],C=>bv _
 |k::ks,C=>by
  have h1:lw id (k::ks) C=lw id ks (dC (id,lu k) C):=rfl
  have h2:=Td (id:=id) ks (dC (id,lu k) C)
  have h3:=yw (id,lu k) C
  rw [h1,aK];omega
theorem jQ.sixty {p:Option Obj} (h:jQ p): ∀o,p=some o→o.tags.length≤60:=fun o ho=>by
 have h1:=h o ho
 simp only [iv,cU,decide_eq_true_eq] at h1
 omega
theorem Vu {b o t:List Obj} {k:ax} (vb:jQ (aX k b)) (vo:jQ (aX k o)) (vt:jQ (aX k t)):(js b o t k).length≤400:=by
 have h1:=vb.sixty
 have h2:=vo.sixty
 have h3:=vt.sixty
 unfold js gf
 cases cN (aX k o) (aX k t)||cN (aX k t) (aX k b) with
 |true=>simp
 |false=>
  cases cN (aX k o) (aX k b) with
  |true=>simp
  |false=>
   have hC:=yw (k,fK) []
   simp only [aQ] at hC
   simp only [cF]
   split
   ·rename_i q1 q2 q3 e1 e2 e3
    cases bL q2.kind q1.kind&&bL q3.kind q1.kind with
    |false=>simp only [cF];omega
    |true=>
     simp only [cT,oV]
     have h4:=Td (id:=q1.id) (jp q1.tags q2.tags q3.tags).2 (lK q1 q2 q3 (jP q1 q2 q3 []))
     have h5:=(FJ q1.tags q2.tags q3.tags).2
     have h6:(lK q1 q2 q3 (jP q1 q2 q3 [])).length≤2:=by
      have h7:(jP q1 q2 q3 []).length≤1:=by
       unfold jP
       cases lq q1 q2 q3 with
       |none=>exact yw _ []
       |some _=>exact Nat.zero_le _
      unfold lK
      cases p9 (q1.x,q1.y) (q2.x,q2.y) (q3.x,q3.y) with
      |true=>have:=yw (q1.id,AA) (jP q1 q2 q3 []);simp only [cT];omega
      |false=>simp only [cF];omega
     have a1:=h1 q1 e1
     have a2:=h2 q2 e2
     have a3:=h3 q3 e3
     omega
   ·omega
theorem HH {α β:Type} {n:Nat} {f:α→List β}: ∀(l:List α),(∀a∈l,(f a).length≤n)→(l.flatMap f).length≤n*l.length
 | [],_=>Nat.zero_le _
 |a::l,h=>by
  have ih:=HH l fun b hb=>h b (by simp [hb])
  have h1:=h a (by simp)
  rw [List.flatMap_cons,dn,aK,Nat.mul_succ];omega
theorem Hd {b o t:List Obj} (vb: ∀k,jQ (aX k b)) (vo: ∀k,jQ (aX k o)) (vt: ∀k,jQ (aX k t)):(qA b o t).length≤401*(dW b o t).length:=by
 have h1:=(yE ((dW b o t).flatMap (js b o t)++((dW b o t).filter fun k=> @decide (Reach b o t k) (uh _)).map fun k=>(k,fK)) [] oL).2.2
 have h2:=HH (f:=js b o t) (dW b o t) fun k _=>Vu (vb k) (vo k) (vt k)
 have h3:(((dW b o t).filter fun k=> @decide (Reach b o t k) (uh _)).map fun k=>(k,fK)).length≤(dW b o t).length:=by
  rw [ep];exact qm _ _
 rw [dn,aQ] at h1
 unfold qA BQ
 refine Nat.le_trans h1 ?_
 omega
theorem GU: ∀l:List (ax×ax),ie (!Nat.beq 2 1) 2 l.length (bO (l.map de))=some (l.map de)
 | []=>rfl
 |a::l=>by
  have ih:=GU l
  have h1:bO ((a::l).map de)= .str a.1:: .str a.2::bO (l.map de):=rfl
  rw [h1]
  simp only [aK,fw]
  show(bif(!Nat.beq 2 1) then _ else _)=_
  have h2:cut (ai.str a.1::ai.str a.2::bO (l.map de)) 0 2=some [.str a.1,.str a.2]:=rfl
  rw [h2]
  simp only [ak,gl,l9,ih]
  rfl
theorem XH {s0 s:St} {v:ai} {l:List (ax×ax)} (g:mX 2 s0 s v (l.map de)):cR s.heap 3 v=some (fS 2 (l.map de)):=by
 rcases g.row with⟨rfl,hx⟩|⟨hne,k,rfl,hk,_⟩
 ·rw [hx];rfl
 ·have hk':s.heap.get k=some (.cells (bO (l.map de))):=hk
  have hlen:=wU l
  have hcut:cut (bO (l.map de)) 0 ((l.map de).length*2)=some (bO (l.map de)):=by
   simp only [cut,l9,ep,←hlen,List.take_length,aU,bS,cT]
  have hself:dZ (cR s.heap 2) (bO (l.map de))=some (bO (l.map de)):=uZ fun v hv=>by
   have: ∀(l:List (ax×ax)), ∀v∈bO (l.map de), ∃b:ax,v= .str b:=by
    intro l
    induction l with
    |nil=>intro v hv;cases hv
    |cons a l ih=>
     intro v hv
     have h1:bO ((a::l).map de)= .str a.1:: .str a.2::bO (l.map de):=rfl
     rw [h1] at hv
     rcases List.mem_cons.1 hv with rfl|hv
     ·exact⟨_,rfl⟩
     ·rcases List.mem_cons.1 hv with rfl|hv
      ·exact⟨_,rfl⟩
      ·exact ih v hv
   obtain⟨b,rfl⟩:=this l v hv
   rfl
  have h0: ∀n:Nat,cR s.heap 3 (.arr 2 k 0 n n)=(match s.heap.get k with
   |some (.cells cs)=>(cut cs 0 (n*2)).bind fun c=>(dZ (cR s.heap 2) c).bind fun c'=>(ie (!Nat.beq 2 1) 2 n c').bind fun xs=>some (.list 2 xs .no)
   |_=>none):=fun _=>rfl
  rw [h0,hk']
  simp only [hcut,ak,hself]
  rw [ep,GU]
  simp only [ak]
  cases l with
  |nil=>exact absurd rfl hne
  |cons a l=>rfl
theorem BV: ∀(C:List Cf) (n:Nat),(eG n C).map (·.key)=C.map de
 | [],_=>rfl
 |c::C,n=>by
  simp only [eG,fw,BV C (n+1)];rfl
theorem wO: ∀(C:List Cf) (n:Nat),(eG n C).length=C.length
 | [],_=>rfl
 |c::C,n=>by simp only [eG,aK,wO C (n+1)]
theorem BU: ∀(C:List Cf) (n:Nat),(eG n C).map (·.born)=List.range' n C.length
 | [],_=>rfl
 |c::C,n=>by simp only [eG,fw,BU C (n+1),aK,List.range'_succ]
theorem Wh (C:List Cf):yf (eG 0 C):=by
 refine⟨fun e he=>?_,by rw [BU];exact List.nodup_range'⟩
 have h1:e.born∈(eG 0 C).map (·.born):=List.mem_map.2 ⟨e,he,rfl⟩
 rw [BU,List.mem_range'_1] at h1
 rw [wO];omega
section
variable {sp:FuncId→Option (List ai→Option ai)} {ch:Nat→Nat}
theorem ag0 (h29:sp 29=none) {m:Nat} {s:St}:br (QM sp ch) 29 [.map m] s (.func (.func 52) [] [.ptr s.next 0]) (s.new (.cells [.map m])):=by
 refine br.of2 adF adE adH adG h29 ?_
 unfold Mn
 refine W.sreg ?_
 unfold Mo
 simp only [dg,cM,az,aA,aB,ah,aJ,ja,aj,aI,aC,iA,aw,bH,ak,fZ,cT,gp,aK,aQ,bS,tA,aM,ar,bR,bQ,dT,YP,iA,ofValue,fk]
 refine W.sreg ?_
 unfold Mp
 simp only [az,aA,aB,ah,aJ,vG,aj,aC,be,bh,aw,ak,dM,cT,cF,bS,tA,ae,ar,oe]
 exact W.ret ⟨rfl,.inr rfl,cp (by simp only [ah,ae,cT,cF]) rfl⟩
theorem akS (s28: ∀n,n=28∨n=50∨n=81∨n=51→sp n=none) (h52:sp 52=none) {s:St} {m:Nat} {C:List Cf} (hm:s.minw≤s.next) (hlt:m<s.next) (hs:s.get [] m=some (.map (eG 0 C) C.length)) (hC:C.length≤1000000):
 ∃v s',br (QM sp ch) 28 [.func (.func 52) [] [.ptr s.next 0],.func (.func 30) [] []] (s.new (.cells [.map m])) v s'∧mX 2 (s.new (.cells [.map m])) s' v ((hZ C).map de):=by
 have hg2: ∀n,n<s.next→(s.new (.cells [.map m])).get [] n=s.get [] n:=fun n h=>by rw [cW,beq_eq_false_iff_ne.2 (by omega)];rfl
 have hgv:qs (QM sp ch) 2 52 (s.new (.cells [.map m])) s.next (eG 0 C):=by
  intro s' bx lo lim lob c ht
  refine ag6 (Q:=QM sp ch) rfl rfl (ch:=ch) rfl rfl (Wh C) (fun i=>by rw [wO];exact hC) h52 rfl rfl (m:=m) (j8 hm) (Nat.lt_succ_of_lt hlt) (ic _) (by rw [cW,bS];rfl) (by rw [wO];exact(hg2 m hlt).trans hs) c ht fun e he=>?_
  have h1:e.key∈(eG 0 C).map (·.key):=List.mem_map.2 ⟨e,he,rfl⟩
  rw [BV] at h1
  obtain⟨b,_,e2⟩:=List.mem_map.1 h1
  exact⟨b.1,b.2,e2.symm⟩
 obtain⟨v,s2,hr,l,hl,hgot⟩:=akR (Q:=QM sp ch) rfl rfl s28 (fun _=>rfl) (fun n hn=>by rcases hn with rfl|rfl|rfl<;>rfl) rfl (g:=52) (cb:=s.next) (s0:=s.new (.cells [.map m])) (es:=eG 0 C) (ks:=C) (j8 hm) (by rw [wO];exact hC) (by rw [BV]) (by kernel_rfl) hgv
 rw [SP hl] at hgot
 exact⟨v,s2,hr,hgot⟩
end
theorem Va {e:bc} {x y z:Operand} {a b c:Nat} (hx:ev e x=some (.map a)) (hy:ev e y=some (.map b)) (hz:ev e z=some (.map c)) (s:St):dR Tryz.prog 66 3 [(0,x),(1,y),(2,z)] false e s=some (.list 1 [.map a,.map b,.map c] .full,s):=by
 simp only [dR,Wf,ak,dL,evc,hx,hy,hz,ai.clean,cT,gg,ai.cells,aK,aQ,cI,Nat.zero_mul,aM,bt,jh,ie,cut]
 rfl
theorem aj7 {Q:ck} (hP:Q.P=Tryz.prog) {e:bc} {n:Nat} {lc:Ag.Loc} {s:St} {t u:Tmp} {ov w:ai} (h:aq e t= .lref t 1 0) (hl:lc.get t 1=some [ov]) (hu:aq e u=w) (hw:w.clean=true): ∃vs,gh Q [] ⟨e,n,lc⟩ s [.cell t 24,.tmp u]=some vs∧jw vs= .tup [.agg [ov],w]:=by
 refine⟨[.agg [ov],w],?_,rfl⟩
 simp only [gh,vQ,h,hP,bU,hl,ak,gj,cut,l9,bA,aU,aK,aQ,bS,cT,bZ,evc,ev,hu,hw]
theorem RK: ∀(l:List Obj) (last:ax),pf last l=true→ ∀q∈l,iv q.tags=true
 | [],_,_,q,h=>by cases h
 |o::r,last,h,q,hq=>by
  simp only [pf] at h
  cases hb: !iB o||Ag.leBytes o.id last with
  |true=>rw [hb] at h;cases h
  |false=>
   rw [hb] at h
   rcases List.mem_cons.1 hq with rfl|hq
   ·have hv:iB q=true:=by
     cases hv:iB q with
     |true=>rfl
     |false=>rw [hv] at hb;cases hb
    unfold iB at hv
    cases hh:pP q with
    |true=>rw [hh] at hv;cases hv
    |false=>
     unfold pP at hh
     simp only [Bool.or_eq_false_iff,Bool.not_eq_false'] at hh
     exact hh.1.1.2
   ·exact RK r o.id h q hq
structure mZ (b o t:List Obj):Prop where
 vb:j4 b=true
 vo:j4 o=true
 vt:j4 t=true
 gb: ∀q∈b,q.Good
 go: ∀q∈o,q.Good
 gt: ∀q∈t,q.Good
 lb:b.length≤300
 lo:o.length≤300
 lt:t.length≤300
theorem qQ {l:List Obj} (h:j4 l=true) (k:ax):jQ (aX k l):=by
 intro q hq
 simp only [j4,cU] at h
 exact RK l [] h.1 q (ku hq).1
theorem Rn.grow {s1 s s':St} {x mb mo mt mu md:Nat} {B O T U:List (ax×ai)} {b o t:List Obj} {C:List Cf} (r:Rn s1 s x mb mo mt mu md B O T U b o t C) (hg: ∀n,n<s.next→s'.get [] n=s.get [] n) (hn:s.next≤s'.next) (hm:s'.minw≤s'.next):Rn s1 s' x mb mo mt mu md B O T U b o t C:=by
 obtain⟨o1,o2,o3,o4,o5,o6⟩:=r.mg.ord
 refine⟨r.mg.grow ((hg md (by omega)).trans r.mg.hd) (fun n h _=>hg n h) hn hm,fun n h=>(hg n (by omega)).trans (r.low n h),fun k v h=>?_,r.base,r.new,r.nd,r.cnd,r.conf⟩
 obtain⟨q,h1,h2⟩:=r.val k v h
 exact⟨q,h1,h2.keep r.mg.hd hn fun n a _=>hg n a⟩
theorem xt {U:List (ax×ai)} {k:ax}:(look k U).isSome=true↔k∈U.map (·.1):=by
 rw [zQ]
 exact⟨qq,qk⟩
theorem Rn.perm {s1 s:St} {x mb mo mt mu md:Nat} {B O T U:List (ax×ai)} {b o t:List Obj} {C:List Cf} (r:Rn s1 s x mb mo mt mu md B O T U b o t C) (h: ∀k,(look k U).isSome=true↔iz b o t k):(U.map (·.1)).Perm (oz b o t):=
 (F5 r.nd (ajw b o t)).2 fun k=>by rw [←xt,h,EF]
theorem Rn.len {s1 s:St} {x mb mo mt mu md:Nat} {B O T U:List (ax×ai)} {b o t:List Obj} {C:List Cf} (r:Rn s1 s x mb mo mt mu md B O T U b o t C) (hi:mZ b o t):U.length≤900:=by
 have h1: ∀k∈U.map (·.1),k∈qB (dW b o t):=fun k hk=>((tk (dW b o t) [] oL).2.1 k).2 (.inr (r.new k (xt.2 hk)).name)
 have h2:((qB (dW b o t)).filter fun k=>(U.map (·.1)).elem k).Perm (U.map (·.1)):=(F5 (List.Nodup.sublist List.filter_sublist (tk (dW b o t) [] oL).1) r.nd).2 fun k=>by
  rw [List.mem_filter]
  exact⟨fun h=>qq h.2,fun h=>⟨h1 k h,qk h⟩⟩
 have h3:=h2.length_eq
 have h4:((qB (dW b o t)).filter fun k=>(U.map (·.1)).elem k).length≤(qB (dW b o t)).length:=qm _ _
 have h5:(qB (dW b o t)).length≤([]:List ax).length+(dW b o t).length:=(tk (dW b o t) [] oL).2.2
 have h6:(dW b o t).length=b.length+(o.length+t.length):=by simp [dW]
 have:=hi.lb
 have:=hi.lo
 have:=hi.lt
 rw [ep] at h3
 simp only [aQ] at h5
 omega
structure F6 (sp:FuncId→Option (List ai→Option ai)):Prop where
 m:uu sp
 s:Gc sp
 h9:sp 9=none
 h13:sp 13=some qO
 h23:sp 23=none
 h27:sp 27=none
 h29:sp 29=none
 h52:sp 52=none
 s28: ∀n,n=28∨n=50∨n=81∨n=51→sp n=none
section
variable {sp:FuncId→Option (List ai→Option ai)} {ch:Nat→Nat}
theorem aih (hA:F6 sp) {vb vo vt:ai} {b o t:List Obj} (hb:bu 6 Obj.val vb b) (ho:bu 6 Obj.val vo o) (ht:bu 6 Obj.val vt t) (hi:mZ b o t) {s:St} (hm:s.minw≤s.next):
 ∃v s',br (QM sp ch) 9 [.agg [vb],.agg [vo],.agg [vt]] s v s'∧jB s'.heap v (tS b o t):=by
 have cb:=hb.clean
 have co:=ho.clean
 have ct:=ht.clean
 have hsm:small=9223372036854775808:=rfl
 have lb:=hi.lb
 have lo:=hi.lo
 have lt:=hi.lt
 have h13:=hA.h13
 have hvb:=vk hb hi.gb (by omega)
 have hvo:=vk ho hi.go (by omega)
 have hvt:=vk ht hi.gt (by omega)
 rw [hi.vb] at hvb
 rw [hi.vo] at hvo
 rw [hi.vt] at hvt
 refine br.ofEx agR agQ agU agT hA.h9 ?_
 unfold k9
 refine W.sreg ?_
 unfold Qk
 simp only [dg,cM,az,aA,aB,ah,dx,cz,aJ,fH,ja,aj,aI,aC,eM,aw,bH,di,ak,bZ,cT,cF,bD,gp,aK,aQ,bS,tA,aM,ae,ar,bt,bR,bQ,dT,AW,aaa,aab,aad,aag,ofValue,fk]
 refine W.seq (W.sreg ?_)
 unfold Ql
 simp only [az,aA,cJ,aB,dz,e7,ah,bI,aE,cw,bf,eW,dc,db,aj,aI,aC,be,bh,bJ,bU,cx,dv,aw,eZ,ak,ei,bZ,cT,cF,bD,qu,aK,aQ,cut,bA,aR,Bool.not_true,bS,tA,aM,ae,ar,aU,gj,h13,hvb,hvo,hvt]
 refine W.cond (t:=false) (by simp only [aj,ah,ae,cT,cF]) (W.skip ?_)
 simp only [aN]
 refine W.seq (W.drawD (ah3 hA.h23 hb ho ht (by omega) (by omega) (by omega) hm (by simp only [ah,ae,cT,cF, *]) ?_ ?_ (by simp only [ah,ae,cT,cF, *]) ?_ ?_ (by simp only [ah,ae,cT,cF, *]) ?_ ?_ ?_))
 ·simp only [dx,cz,ae,cT,cF]
 ·simp only [bI,ae,cT,cF]
 ·simp only [dx,cz,ae,cT,cF]
 ·simp only [bI,ae,cT,cF]
 ·simp only [dx,cz,ae,cT,cF]
 ·simp only [bI,ae,cT,cF]
 intro e1 s1 mb mo mt mu md x M h8 h6 _
 simp only [aN]
 have eB:m8 [] (mb+1) b=jx (mb+1) b:=by simpa using yx b [] (mb+1) (fun _ _=>rfl) (CM hi.vb)
 have eO:m8 [] (mo+1) o=jx (mo+1) o:=by simpa using yx o [] (mo+1) (fun _ _=>rfl) (CM hi.vo)
 have eT:m8 [] (mt+1) t=jx (mt+1) t:=by simpa using yx t [] (mt+1) (fun _ _=>rfl) (CM hi.vt)
 have mg:=M.mg
 rw [eB,eO,eT] at mg
 have q1:=M.emb
 have q2:=M.emo
 have q3:=M.emt
 have q4:=M.emu
 have q5:=M.emd
 have q6:=M.ex
 have q7:=M.next
 have vb':=qQ hi.vb
 have vo':=qQ hi.vo
 have vt':=qQ hi.vt
 have ctx:ww s1 mu (jx (mb+1) b) (jx (mo+1) o) (jx (mt+1) t) b o t:=⟨Am b _ M.ob hi.gb (by omega),Am o _ M.oo hi.go (by omega),Am t _ M.ot hi.gt (by omega),vb',vo',vt'⟩
 have rs:Rs s1 s1 x mb mo mt mu md (jx (mb+1) b) (jx (mo+1) o) (jx (mt+1) t) [] b o t (fun _=>False) []:=⟨mg,fun _ _=>rfl,fun k v h=>(by cases h),fun k=>⟨fun h=>(by cases h),fun h=>h.1.elim⟩,oL,oL,fun c=>⟨fun h=>(by cases h),fun⟨_,h,_⟩=>h.elim⟩⟩
 have h6:aq e1 6= .lref 6 1 0:=h6.trans (by simp only [ah,ae,cT,cF, *])
 have hx:s1.top.get [] x=_:=mg.hx
 have hbs: ∀e s,aq e 46= .map mb→aq e 50= .map mo→aq e 54= .map mt→dR Tryz.prog 66 3 [(0,.tmp 46),(1,.tmp 50),(2,.tmp 54)] false e s=some (.list 1 [.map mb,.map mo,.map mt] .full,s):=fun e s p q r=>Va (by rw [aj,p]) (by rw [aj,q]) (by rw [aj,r]) s
 refine W.seq (W.sdrawQ M.minw ?_)
 unfold QA
 simp only [fh,fg,fu,isStore,ah,aE,kM,bf,b7,fI,cL,aj,aI,aC,be,bh,bo,aw,cd,da,bH,ak,i8,cT,cF,bD,gp,aK,aQ,aR,bN,bS,tA,aM,cY,ae,ar,bt,aU,mE,B9,Ca,Cb,ahy,aae,aaf,h8,fG,dl,hx,dj,hbs]
 refine W.block ?_
 refine(ajx hA.m ctx (ms:=[(mb,jx (mb+1) b),(mo,jx (mo+1) o),(mt,jx (mt+1) t)]) (rt:=.full) (by simp) ?_ _ [] _ _ [] (fun _=>False) [] rfl rs ?_ ?_ ?_ ?_).mono ?_
 ·intro p hp
  simp only [qp,rh,or_false] at hp
  rcases hp with rfl|rfl|rfl
  ·exact⟨by show mb<mu;omega,by rw [Ak];omega,mg.hb⟩
  ·exact⟨by show mo<mu;omega,by rw [Ak];omega,mg.ho⟩
  ·exact⟨by show mt<mu;omega,by rw [Ak];omega,mg.ht⟩
 ·simp only [ah,ae,cF,h8]
 ·simp only [ah,ae,cT,cF,fw,List.map_nil]
 ·simp only [ah,ae,cT,cF];rfl
 ·simp only [ah,ae,cT,cF];rfl
 rintro y fr s2 ⟨rfl,e2,rfl,⟨g6,g8⟩,U,C,rs2⟩
 have g6:aq e2 6= .lref 6 1 0:=g6.trans (by simp only [ah,ae,cF,h6])
 have rn2:=rs2.rn fun k=>by
  simp only [false_or,qp,rh,or_false,exists_eq_or_imp,exists_eq_left,R4,dW,qn]
 show W (QM sp ch) 9 _ _ _ _
 have hx2:=rn2.mg.hx
 obtain⟨o1,o2,o3,o4,o5,o6⟩:=rn2.mg.ord
 have l2:=rn2.len hi
 obtain⟨kv,s3,hsort,K3,old3,n3,m3⟩:=SS (ch:=ch) hA.s rn2.mg.minw (by omega:mu<s2.next) rn2.mg.hu (by omega)
 have hk3:=(l5 (U.map (·.1))).length_eq
 rw [ep] at hk3
 have rn3:=rn2.grow old3 n3 m3
 have kc3:=K3.clean
 have kl3:=K3.len
 refine W.seq (W.seq (W.region (fD 4 ?_)))
 unfold Qq
 simp only [az,aA,aB,ah,aE,bf,b7,fI,aj,aw,ak,cT,cF,bD,bA,aR,bN,bS,tA,aM,ae,ar,rL,mE,g8,fG,dl,hx2,dj]
 refine fQ (g:=26) (args:=[.map mu]) ?_ (QF hA.s.h26) (by decide) ?_
 ·simp only [callee,ah,aj,eH,aC,be,bh,ak,fZ,cT,cF,bT,cq,bS,ae]
 refine fQ (g:=25) (args:=[.func (.func 49) [] [.ptr s2.next 0]]) ?_ hsort (by decide) ?_
 ·simp only [callee,ah,aj,eH,aC,be,bh,ak,nc,cT,cF,bT,cq,bS,ae]
 refine fP ?_
 simp only [az,aA,aB,ah,aE,cL,aj,aI,aC,be,bh,bo,aw,cd,da,bH,ak,cT,cF,bD,gp,bS,tA,ae,ar,aU,aah,kc3,kl3,aN]
 refine W.block ?_
 have hks3:(fq (U.map (·.1))).length≤1000000:=by omega
 refine(Uw hA.m hA.h27 ctx hks3 (fq (U.map (·.1))) [] _ s3 U C rfl K3 (bv _) rn3 (fun k hk=>xt.2 ((l5 _).mem_iff.1 hk)) ?_ ?_ ?_ ?_).mono ?_
 ·simp only [ah,ae,cF,g8]
 ·simp only [ah,ae,cT,cF]
 ·simp only [ah,ae,cT,cF]
 ·simp only [ah,ae,cT,cF];rfl
 rintro y fr s4 ⟨rfl,e4,rfl,⟨f6,f8⟩,U4,C4,rn4,sub4,ref4,clo4,n4⟩
 have f6:aq e4 6= .lref 6 1 0:=f6.trans (by simp only [ah,ae,cF,g6])
 obtain⟨hdom,hconf⟩:=aiB rn4 fun j q h1 h2 id h3 h4=>by
  cases hj:look j U with
  |none=>exact clo4 j q h1 hj h2 id h3 h4
  |some v=>exact ref4 j ((l5 _).mem_iff.2 (xt.1 (by rw [hj];rfl))) q h2 id h3 h4
 have hperm:=rn4.perm hdom
 have hx4:=rn4.mg.hx
 obtain⟨p1,p2,p3,p4,p5,p6⟩:=rn4.mg.ord
 have l4:=rn4.len hi
 obtain⟨kw,s5,hsort5,K5,old5,n5,m5⟩:=SS (ch:=ch) hA.s rn4.mg.minw (by omega:mu<s4.next) rn4.mg.hu (by omega)
 have hkeys:fq (U4.map (·.1))=fq (oz b o t):=SN hperm
 have hk5:=(l5 (U4.map (·.1))).length_eq
 rw [ep] at hk5
 have rn5:=rn4.grow old5 n5 m5
 have kc5:=K5.clean
 have kl5:=K5.len
 show W (QM sp ch) 9 _ _ _ _
 refine W.sreg ?_
 unfold Qu
 simp only [az,aA,aB,dx,cz,fH,eM,bH,di,ak,cF,bD,gp,tA,aM,ae,ar,Z9,AW]
 refine W.seq (W.seq (W.region (fD 4 ?_)))
 unfold Qv
 simp only [az,aA,aB,ah,aE,bf,b7,fI,aj,aw,ak,cT,cF,bD,bA,aR,bN,bS,tA,aM,ae,ar,rL,mE,f8,fG,dl,hx4,dj]
 refine fQ (g:=26) (args:=[.map mu]) ?_ (QF hA.s.h26) (by decide) ?_
 ·simp only [callee,ah,aj,eH,aC,be,bh,ak,fZ,cT,cF,bT,cq,bS,ae]
 refine fQ (g:=25) (args:=[.func (.func 49) [] [.ptr s4.next 0]]) ?_ hsort5 (by decide) ?_
 ·simp only [callee,ah,aj,eH,aC,be,bh,ak,nc,cT,cF,bT,cq,bS,ae]
 refine fP ?_
 simp only [az,aA,aB,ah,aE,cL,aj,aI,aC,be,bh,bo,aw,cd,da,bH,ak,cT,cF,bD,gp,bS,tA,ae,ar,aU,Z6,kc5,kl5,aN]
 refine W.block ?_
 have hgood: ∀k∈fq (U4.map (·.1)), ∃p,look k U4=some (.ptr p 0)∧p<s5.next∧s5.get [] p=some (.cells (mz b o t k).cells)∧(mz b o t k).Good:=by
  intro k hk
  obtain⟨v,hv⟩:=Option.isSome_iff_exists.1 (xt.2 ((l5 _).mem_iff.1 hk))
  obtain⟨q,a1,a2⟩:=rn5.val k v hv
  rcases a2.out with⟨_,h⟩|⟨p,q',rfl,a3,a4,a5,a6⟩
  ·cases h
  have a3:=Option.some.inj a3
  have:mz b o t k=q':=by rw [mz,a1,a3];rfl
  rw [this]
  exact⟨p,hv,a4,a5,a6⟩
 have hks5:(fq (U4.map (·.1))).length≤800000:=by omega
 refine(aho rn5.mg K5 (bv _) hks5 (g:=mz b o t) (fun k hk=>let⟨p,a,b,c,_⟩:=hgood k hk;⟨p,a,b,c⟩) (fq (U4.map (·.1))) [] _ _ s5 .nils rfl (.inl ⟨rfl,rfl⟩) m5 (bv _) (fun _ _=>rfl) ?_ ?_ ?_ ?_ ?_ ?_ ?_).mono ?_
 ·simp only [ah,ae,cF,f8]
 ·simp only [ah,ae,cT,cF]
 ·simp only [dx,cz,ae,cT,cF]
 ·simp only [bI,ae,cT,cF,bS]
 ·simp only [ah,ae,cT,cF]
 ·simp only [ah,ae,cT,cF]
 ·simp only [ah,ae,cT,cF];rfl
 rintro y fr s6 ⟨rfl,e6,lc6,ov,rfl,⟨w6,w8,w15⟩,lg15,lb15,⟨lg6,lb6⟩,hO,m6,n6,old6⟩
 have w6:aq e6 6= .lref 6 1 0:=w6.trans (by simp only [ah,ae,cF,f6])
 obtain⟨r1,r2,r3,r4,r5,r6⟩:=rn5.mg.ord
 have hx6:s6.get [] x=some (.cells [.map mb,.map mo,.map mt,.map mu,.map md]):=(old6 x r6).trans rn5.mg.hx
 have hd6:s6.get [] md=some (.map (eG 0 C4) C4.length):=(old6 md (by omega)).trans rn5.mg.hd
 have hCperm:C4.Perm (qA b o t):=(F5 rn4.cnd (V2 b o t)).2 fun c=>by rw [hconf,Rq]
 have hClen:C4.length≤1000000:=by
  have h1:=hCperm.length_eq
  have h2:=Hd vb' vo' vt'
  have h3:(dW b o t).length=b.length+(o.length+t.length):=by simp [dW]
  omega
 have hCs:hZ C4=ml b o t:=SP hCperm
 obtain⟨cv,s7,hsort7,hgot⟩:=akS (ch:=ch) hA.s28 hA.h52 m6 (by omega:md<s6.next) hd6 hClen
 have cc7:=hgot.clean
 have hoc:=hO.clean
 have hoce:ov.cells=[ov]:=by rcases hO with⟨rfl,_⟩|⟨_,k,rfl,_⟩<;>rfl
 show W (QM sp ch) 9 _ _ _ _
 refine W.seq (W.region (fD 4 ?_))
 unfold Qy
 simp only [az,aA,aB,ah,aE,bf,b7,fI,aj,aw,ak,cT,cF,bD,bA,aR,bN,bS,tA,aM,ae,ar,Hv,Fe,w8,fG,dl,hx6,dj]
 refine fQ (g:=29) (args:=[.map md]) ?_ (ag0 hA.h29) (by decide) ?_
 ·simp only [callee,ah,aj,eH,aC,be,bh,ak,fZ,cT,cF,bT,cq,bS,ae]
 refine fQ (g:=28) (args:=[.func (.func 52) [] [.ptr s6.next 0],.func (.func 30) [] []]) ?_ hsort7 (by decide) ?_
 ·simp only [callee,ah,aj,eH,aC,be,bh,ak,nc,cT,cF,bT,cq,bS,ae]
 refine fP ?_
 simp only [az,aA,aB,ah,aJ,aj,aw,cT,cF,bS,tA,ae,ar,aN]
 refine W.sreg ?_
 unfold Qz
 have g6':lc6.gen 6=1:=lg6.trans (by simp only [dx,cz,ae,cT,cF])
 simp only [az,aA,dH,aB,dI,ah,bI,aE,aJ,bf,dJ,aj,aC,bU,aw,di,fU,ak,bZ,cT,cF,bD,aK,aQ,cut,cI,bA,aR,bT,cq,bS,tA,aM,ae,ar,bR,dB,aU,cP,bQ,dT,gj,AJ,w6,w15,lb15,lb6]
 have hmg:(gd b o t)=(fq (U4.map (·.1))).map (mz b o t):=by rw [gd,hkeys]
 have f1:cR s7.heap 7 ov=some (fS 6 ((gd b o t).map Obj.val)):=by
  rw [hmg]
  exact wX hO (k:=6) fun v hv=>by
   obtain⟨q,hq,rfl⟩:=List.mem_map.1 hv
   obtain⟨k,hk,rfl⟩:=List.mem_map.1 hq
   obtain⟨_,_,_,_,hgd⟩:=hgood k hk
   exact CB _ hgd 2
 have f2:cR s7.heap 8 cv=some (fS 2 ((ml b o t).map de)):=by
  rw [←hCs]
  exact tx _ _ _ _ (tx _ _ _ _ (tx _ _ _ _ (tx _ _ _ _ (tx _ _ _ _ (XH hgot)))))
 refine W.ret ⟨.inr rfl,.tup [.agg [ov],cv],aj7 rfl (ov:=ov) (w:=cv) ?_ ?_ ?_ cc7,9,?_⟩
 ·simp only [ah,ae,cF,w6]
 ·simp only [bI,bS,cT]
 ·simp only [ah,ae,cT,cF]
 show(dZ (cR s7.heap 8) [.agg [ov],cv]).bind (fun r=>some (ai.tup r))=_
 have f3:cR s7.heap 8 (.agg [ov])=some (.agg [fS 6 ((gd b o t).map Obj.val)]):=by
  show(dZ (cR s7.heap 7) [ov]).bind (fun r=>some (ai.agg r))=_
  simp only [dZ,f1,ak]
 simp only [dZ,f3,f2,ak,tS]
end
def Gk:eE:=[(13,qO),(16,ow),(31,ph),(36,qU),(74,sD),(76,t8),(118,sg),(119,qa),(122,oQ),(123,sG),(124,sM)]
theorem TZ:fV Gk:=.cons EB (.cons Ah (.cons RU (.cons RJ (.cons akC (.cons alo (.cons aim (.cons R2 (.cons G4 (.cons akZ (.cons alY .nil))))))))))
theorem T0:F6 (fun f=>eY f Gk) where
 m:=⟨rfl,rfl,rfl,rfl,rfl,rfl,rfl,rfl,rfl,rfl,rfl,rfl,rfl,rfl,rfl,rfl,rfl⟩
 s:=⟨fun n hn=>by rcases hn with rfl|rfl|rfl|rfl<;>rfl,rfl,rfl⟩
 h9:=rfl
 h13:=rfl
 h23:=rfl
 h27:=rfl
 h29:=rfl
 h52:=rfl
 s28:=fun n hn=>by rcases hn with rfl|rfl|rfl|rfl<;>rfl
open Classical in
noncomputable def og:Sp
 | [u,v,w]=>(jW u).bind fun b=>(jW v).bind fun o=>(jW w).bind fun t=>if mZ b o t then some (tS b o t) else none
 |_=>none
theorem ail {vb vo vt:ai} {b o t:List Obj} (hb:bu 6 Obj.val vb b) (ho:bu 6 Obj.val vo o) (ht:bu 6 Obj.val vt t) (hc:mZ b o t):og [.agg [vb],.agg [vo],.agg [vt]]=some (tS b o t):=by
 have hsm:small=9223372036854775808:=rfl
 have h1:=hc.lb
 have h2:=hc.lo
 have h3:=hc.lt
 simp only [og,nU hb hc.gb (by omega),nU ho hc.go (by omega),nU ht hc.gt (by omega),ak,if_pos hc]
theorem xz:eD Tryz.prog 9 og:=by
 intro args x hv G h w xs wr hx
 unfold og at hv
 split at hv
 ·rename_i a1 a2 a3
  simp only [Option.bind_eq_some_iff] at hv
  obtain⟨b,h1,o,h2,t,h3,hv⟩:=hv
  split at hv
  ·rename_i hc
   injection hv with hv;subst hv
   obtain⟨vb,rfl,hb,hgb,_⟩:=lJ h1
   obtain⟨vo,rfl,ho,hgo,_⟩:=lJ h2
   obtain⟨vt,rfl,ht,hgt,_⟩:=lJ h3
   obtain⟨t1,vb',w1,hb'⟩:=lZ hb hgb
   obtain⟨t2,vo',w2,ho'⟩:=lZ ho hgo
   obtain⟨t3,vt',w3,ht'⟩:=lZ ht hgt
   have hw:dU [.agg [vb],.agg [vo],.agg [vt]]=[.agg [vb'],.agg [vo'],.agg [vt']]:=by simp only [dU,w1,w2,w3]
   exact ST TZ (args:=[.agg [vb],.agg [vo],.agg [vt]]) (by simp only [jy,t1,t2,t3,Bool.and_self]) (fun ch=>by
    rw [hw]
    exact aih T0 hb' ho' ht' hc (s:=s0) (bv _)) G h w xs wr hx
  ·cases hv
 ·cases hv
end Go.Proofs.YtbfmdojdemckbaaGreat
