/- Ranges over functions; contracts on the sorting of rows; comparing of lists; merge.objects, same, note, compare, point. -/
import Derived.Test.YtbfmdojdemckbaaGreatZ2
import Derived.Test.YtbfmdojdemckbaaGreatZ1
import Derived.Test.YtbfmdojdemckbaaGreatK2
open Go.Ag.aj renaming cells→j9,clean→nk
open Array renaming getElem?_eq_none→ux,getElem?_modify→Bj
open Bool renaming and_eq_true→cZ,and_false→ww,and_self→gf,and_true→dY,false_eq_true→qK,false_or→jU,not_eq_true'→te,not_false→gU,not_true→dS,or_eq_false_iff→rA,or_false→pX,true_and→i9
open Classical renaming byContradiction→lW
open List renaming all_cons→mH,append_assoc→wz,append_nil→iA,cons_append→cH,drop_succ_cons→gr,drop_zero→nq,drop→a7,eq_nil_of_length_eq_zero→qN,filter_cons→yz,getElem?_append_left→o8,getElem?_append_right→pY,getElem?_cons_zero→gg,getElem?_eq_getElem→js,getElem?_map→rE,head?_cons→bO,length_append→dp,length_cons→aP,length_filter_le→qO,length_map→eH,length_nil→aW,map_cons→fw,map_nil→rF,mem_append_left→Bp,mem_cons→om,mem_singleton→p8,nil_append→cq,nodup_cons→wB,size_toArray→uE,take_succ_cons→eR,take→bN
open Nat renaming add_zero→dc,beq→be,ble_eq_true_of_le→eL,ble→cy,blt→bT,eq_of_beq_eq_true→ik,le_of_ble_eq_true→iL,le_refl→bB,le_succ→ka,le_trans→fW,lt_irrefl→eU,lt_or_ge→im,lt_succ_self→io,reduceAdd→bE,reduceBEq→ah,reduceLT→au,reduceLeDiff→cm,reduceMul→jt,zero_add→aQ,zero_lt_succ→gV,zero_mul→kD
open Go.Op renaming bytesLess→hZ
open Option renaming bind_eq_some_iff→aG,bind_some→aq,some_or→uI
open Option.some renaming injEq→bg
open Prod.mk renaming injEq→bL
open Go.Ag.bz renaming of2→ey
open Go.Ag.W renaming block→cO,cond→bc,exit→eD,loop1→cR,region→gh,reg→b7,ret→cd,sdrawQ→lr,seq→aR,skip→ck,sreg→aF
namespace Go.Proofs.YtbfmdojdemckbaaGreat
open Go.Ag
theorem uj {n b:Nat} (hn:n<=1000000) (hb:b<=88):lk n b=true:=by
 unfold lk
 apply eL
 have:(n*2+1024)*b<=2001024*88:=Nat.mul_le_mul (by omega) hb
 omega
theorem B6 (a b c d e:Nat):(aj.arr a b c d e).cells=[.arr a b c d e]:=rfl
theorem B8 (a b c d e:Nat):(aj.arr a b c d e).clean=true:=rfl
theorem mr {s:St} {n:Nat} {o:Option bH} (h:s.minw<=n):(s.put n o).minw=s.minw:=by
 show(bif cy s.minw n then s.minw else n)=s.minw
 rw[eL h];rfl
structure ia (sz:Nat) (s0 s:St) (bx lo lim:Nat) (lob:bH) (xs:List aj):Prop where
 old: ∀n,n<s0.next->s.get [] n=s0.get [] n
 lt:s0.next<=bx/\bx<lo/\lo<=lim/\lim<s.next
 minw:s.minw=s0.minw
 box: ∃v,s.get [] bx=some (.cells [v])/\((v= .nils/\xs=[])\/(xs≠ []/\ ∃k,v= .arr sz k 0 xs.length xs.length/\s.get [] k=some (.cells (bQ xs))/\lim<k/\k<s.next))
 loop:s.get [] lo=some lob
theorem sf: ∀(a b:List aj),bQ (a++b)=bQ a++bQ b
 | [],b=>rfl
 |x::a,b=>by
  have ih:=sf a b
  show x.cells++bQ (a++b)=(x.cells++bQ a)++bQ b
  rw[ih,wz]
theorem Ip {sz:Nat}: ∀ {xs:List aj},(∀x∈xs,x.cells.length=sz)->(bQ xs).length=xs.length*sz
 | [],_=>by simp[bQ]
 |x::xs,h=>by
  have ih:=Ip (xs:=xs) fun y hy=>h y (by simp[hy])
  show(x.cells++bQ xs).length=_
  rw[dp,ih,h x (by simp),aP,Nat.add_mul];omega
theorem Hc {t:TypeId} {E:EI} {sz:Nat} (hE:jp Tryz.prog t=some E) (hn:E.n=sz) (hb:E.b<=88) {s0 s:St} {bx lo lim:Nat} {xs:List aj} {x:aj} (hsz: ∀y∈xs++[x],y.cells.length=sz) (hlen:xs.length<1000000) (hm:s0.minw<=s0.next)
 (_h1: ∀n,n<s0.next->s.get [] n=s0.get [] n) (h2:s0.next<=bx/\bx<lo/\lo<=lim/\lim<s.next) (h3:s.minw=s0.minw) {v:aj} (h4:(v= .nils/\xs=[])\/(xs≠ []/\ ∃k,v= .arr sz k 0 xs.length xs.length/\s.get [] k=some (.cells (bQ xs))/\lim<k/\k<s.next)):
 ∃s1,jN Tryz.prog [] t v (.list sz [x] .full) true s=some (.arr sz s.next 0 (xs.length+1) (xs.length+1),s1)/\s1.get [] s.next=some (.cells (bQ (xs++[x])))/\s1.next=s.next+1/\s1.minw=s0.minw/\(∀n,n<=lim->s1.get [] n=s.get [] n)/\s1.ci=s.ci:=by
 subst hn
 have hr:lk (xs.length+1) E.b=true:=uj (by omega) hb
 rcases h4 with⟨rfl,rfl⟩|⟨hne,k,rfl,hk,hl,hlt⟩
 ·refine⟨s.new (.cells (bQ [x])),?_,?_,rfl,h3,fun n hn=>?_,rfl⟩
  ·have hr:lk 1 E.b=true:=hr
   simp only[jN,hE,aq,j2,aZ,bS,cT,lA,kr,aP,aW,aQ,hr]
  ·rw[df,bS];rfl
  ·rw[df,beq_eq_false_iff_ne.2 (by omega:n≠s.next)];rfl
 ·have hfl:(bQ xs).length=xs.length*E.n:=Ip fun y hy=>hsz y (by simp[hy])
  have hfx:bQ [x]=x.cells:=by show x.cells++bQ []=_;simp[bQ]
  refine⟨(s.put k none).new (.cells (bQ (xs++[x]))),?_,?_,rfl,?_,fun n hn=>?_,rfl⟩
  ·simp only[jN,hE,aq,j2,aZ,bS,cT,lA,hk,aP,aW,aQ,hr,hfl,gf,nq,hfx,sf]
  ·rw[df,pH,bS];rfl
  ·show(s.put k none).minw=_
   rw[mr (by omega),h3]
  ·rw[df,pH,beq_eq_false_iff_ne.2 (by omega:n≠s.next),cF,cI,beq_eq_false_iff_ne.2 (by omega:n≠k)];rfl
section
variable {sp:FuncId->Option (List aj->Option aj)} {Q:cw} (hP:Q.P=Tryz.prog) (hh:Q.hint=bI)
include hP hh
theorem akz {s0 s:St} {bx lo lim:Nat} {E:bj} {xs:List aj} {x:ar} (hE:ax E 2= .ptr bx 0) (hsz: ∀y∈xs,y.cells.length=1) (hlen:xs.length<1000000) (hm:s0.minw<=s0.next)
 (c:ia 1 s0 s bx lo lim (.loop 78 E 13 [7] sl sm none) xs):
 ∃s',qe Q lo [.str x] s (.bool true) s'/\ia 1 s0 s' bx lo lim (.loop 78 E 13 [7] sl sm none) (xs++[.str x])/\(∀n,n<=lim->n≠bx->n≠lo->s'.get [] n=s.get [] n)/\s.next<=s'.next:=by
 obtain⟨v,hv,hrow⟩:=c.box
 obtain⟨l1,l2,l3,l4⟩:=c.lt
 have hg1: ∀n,n≠lo->(s.put lo none).get [] n=s.get [] n:=fun n hn=>by rw[cI,beq_eq_false_iff_ne.2 hn];rfl
 have hm1:(s.put lo none).minw=s0.minw:=by rw[mr (by rw[c.minw];omega),c.minw]
 have hrow1:(v= .nils/\xs=[])\/(xs≠ []/\ ∃k,v= .arr 1 k 0 xs.length xs.length/\(s.put lo none).get [] k=some (.cells (bQ xs))/\lim<k/\k<(s.put lo none).next):=by
  rcases hrow with h|⟨h1,k,h2,h3,h4,h5⟩
  ·exact .inl h
  ·exact .inr ⟨h1,k,h2,(hg1 k (by omega)).trans h3,h4,h5⟩
 obtain⟨s1,a1,a2,a3,a4,a5,_⟩:=Hc qj rfl (by decide) (x:=.str x) (fun y hy=>by
  rcases List.mem_append.1 hy with hy|hy
  ·exact hsz y hy
  ·simp only[p8] at hy;subst hy;rfl) hlen hm (fun n hn=>(hg1 n (by omega)).trans (c.old n hn)) ⟨l1,l2,l3,l4⟩ hm1 hrow1
 have a3:s1.next=s.next+1:=a3
 have hbx1:s1.get [] bx=some (.cells [v]):=by rw[a5 bx (by omega),hg1 bx (by omega)];exact hv
 have hbx0:(s.put lo none).get [] bx=some (.cells [v]):=(hg1 bx (by omega)).trans hv
 have hvc:v.clean=true:=by rcases hrow with⟨rfl,_⟩|⟨_,k,rfl,_⟩<;>rfl
 refine⟨(s1.put bx (some (.cells [.arr 1 s.next 0 (xs.length+1) (xs.length+1)]))).put lo (some (.loop 78 E 13 [7] sl sm none)),?_,⟨fun n hn=>?_,⟨l1,l2,l3,?_⟩,?_,⟨.arr 1 s.next 0 (xs.length+1) (xs.length+1),?_,.inr ⟨by simp,s.next,?_,?_,l4,?_⟩⟩,?_⟩,fun n hn h1 h2=>?_,?_⟩
 ·refine qe.of (env':=E.set 7 (some (.str x))) c.loop rfl rfl agS agT ?_
  unfold Qp
  refine b7 ?_
  unfold Qt
  simp only[az,aA,aB,ai,aN,ak,aw,cT,bS,tA,au]
  unfold Qq
  refine cO (b7 ?_)
  unfold Qu
  have hbs: ∀e s,ax e 9= .str x->dV Tryz.prog 37 1 [(0,.tmp 9)] false e s=some (.list 1 [.str x] .full,s):=fun e s p=>by
   simp only[dV,qj,aq,dQ,evc,ev,p,nk,cT,gd,j9,aP,aW,cV,kD,aQ,jt,ip,cut]
   rfl
  simp only[az,aA,ej,aB,ep,ai,aH,lg,bo,ez,cJ,ak,aD,bk,bm,aw,bU,oI,bJ,aq,jm,cT,cF,aP,aW,cV,bN,a7,bO,gr,cq,iA,bS,tA,aQ,ah,au,cm,dY,aZ,dl,cj,dT,ic,yk,vq,hP,hh,hE,dv,hbx0,du,aaH,aaI,hbs,hvc,a1,kz,hbx1,ky,B6,B8,dP]
  try rfl
 ·rw[cI,beq_eq_false_iff_ne.2 (by omega:n≠lo),cF,cI,beq_eq_false_iff_ne.2 (by omega:n≠bx),cF,a5 n (by omega),hg1 n (by omega)];exact c.old n hn
 ·show lim<s1.next
  omega
 ·rw[mr,mr,a4]
  ·rw[a4];omega
  ·rw[mr (by rw[a4];omega),a4];omega
 ·rw[cI,beq_eq_false_iff_ne.2 (by omega:bx≠lo),cF,cI,bS];rfl
 ·simp only[dp,aP,aW]
 ·rw[cI,beq_eq_false_iff_ne.2 (by omega:s.next≠lo),cF,cI,beq_eq_false_iff_ne.2 (by omega:s.next≠bx),cF];exact a2
 ·show s.next<s1.next
  omega
 ·rw[cI,bS];rfl
 ·rw[cI,beq_eq_false_iff_ne.2 h2,cF,cI,beq_eq_false_iff_ne.2 h1,cF,a5 n hn,hg1 n h2]
 ·show s.next<=s1.next
  omega
theorem akA {s0 s:St} {bx lo lim:Nat} {E:bj} {xs:List aj} {a b:ar} (hE:ax E 2= .ptr bx 0) (hsz: ∀y∈xs,y.cells.length=2) (hlen:xs.length<1000000) (hm:s0.minw<=s0.next)
 (c:ia 2 s0 s bx lo lim (.loop 81 E 13 [7] sn sq none) xs):
 ∃s',qe Q lo [.agg [.str a,.str b]] s (.bool true) s'/\ia 2 s0 s' bx lo lim (.loop 81 E 13 [7] sn sq none) (xs++[.agg [.str a,.str b]])/\(∀n,n<=lim->n≠bx->n≠lo->s'.get [] n=s.get [] n)/\s.next<=s'.next:=by
 obtain⟨v,hv,hrow⟩:=c.box
 obtain⟨l1,l2,l3,l4⟩:=c.lt
 obtain⟨sA,hsA⟩: ∃sA,sA=((s.put lo none).new (.cells [.str [],.str []])).put s.next (some (.cells [.str a,.str b])):=⟨_,rfl⟩
 have nA:sA.next=s.next+1:=by rw[hsA];rfl
 have hg1: ∀n,n≠lo->n≠s.next->sA.get [] n=s.get [] n:=fun n hn hn2=>by
  rw[hsA,cI,beq_eq_false_iff_ne.2 hn2,cF,df,pH,beq_eq_false_iff_ne.2 hn2,cF,cI,beq_eq_false_iff_ne.2 hn];rfl
 have hm0:(s.put lo none).minw=s0.minw:=by rw[mr (by rw[c.minw];omega),c.minw]
 have hm1:sA.minw=s0.minw:=by
  rw[hsA,mr]
  ·exact hm0
  ·show(s.put lo none).minw<=s.next
   rw[hm0];omega
 have hrow1:(v= .nils/\xs=[])\/(xs≠ []/\ ∃k,v= .arr 2 k 0 xs.length xs.length/\sA.get [] k=some (.cells (bQ xs))/\lim<k/\k<sA.next):=by
  rcases hrow with h|⟨h1,k,h2,h3,h4,h5⟩
  ·exact .inl h
  ·exact .inr ⟨h1,k,h2,(hg1 k (by omega) (by omega)).trans h3,h4,by omega⟩
 obtain⟨s1,a1,a2,a3,a4,a5,_⟩:=Hc HU rfl (by decide) (x:=.agg [.str a,.str b]) (fun y hy=>by
  rcases List.mem_append.1 hy with hy|hy
  ·exact hsz y hy
  ·simp only[p8] at hy;subst hy;rfl) hlen hm (fun n hn=>(hg1 n (by omega) (by omega)).trans (c.old n hn)) ⟨l1,l2,l3,by omega⟩ hm1 hrow1
 rw[nA] at a1 a2 a3
 have hbx1:s1.get [] bx=some (.cells [v]):=by rw[a5 bx (by omega),hg1 bx (by omega) (by omega)];exact hv
 have hbx0:sA.get [] bx=some (.cells [v]):=(hg1 bx (by omega) (by omega)).trans hv
 have hself:sA.get [] s.next=some (.cells [.str a,.str b]):=by rw[hsA,cI,bS];rfl
 have hnew:((s.put lo none).new (.cells [.str [],.str []])).get [] s.next=some (.cells [.str [],.str []]):=by rw[df,pH,bS];rfl
 have hvc:v.clean=true:=by rcases hrow with⟨rfl,_⟩|⟨_,k,rfl,_⟩<;>rfl
 refine⟨(s1.put bx (some (.cells [.arr 2 (s.next+1) 0 (xs.length+1) (xs.length+1)]))).put lo (some (.loop 81 E 13 [7] sn sq none)),?_,⟨fun n hn=>?_,⟨l1,l2,l3,?_⟩,?_,⟨.arr 2 (s.next+1) 0 (xs.length+1) (xs.length+1),?_,.inr ⟨by simp,s.next+1,?_,?_,by omega,?_⟩⟩,?_⟩,fun n hn h1 h2=>?_,?_⟩
 ·refine qe.of (env':=E.set 7 (some (.agg [.str a,.str b]))) c.loop rfl rfl agZ ag0 ?_
  unfold Qx
  refine b7 ?_
  unfold QB
  have hpn:(s.put lo none).next=s.next:=rfl
  simp only[az,aA,ej,aB,ep,ai,gZ,ez,ak,aD,jc,bJ,dC,aq,cK,cT,cF,aP,aW,cV,bN,a7,gr,cq,iA,bS,tA,aQ,ah,au,bE,cm,dY,aZ,dl,cj,dT,GF,TT,hP,hh,aaN,kz,hpn,hnew,ky]
  rw[<-hsA]
  unfold Qy
  refine cO (b7 ?_)
  unfold QC
  have hbs: ∀e s,ax e 9= .agg [.str a,.str b]->dV Tryz.prog 27 1 [(0,.tmp 9)] false e s=some (.list 2 [.agg [.str a,.str b]] .full,s):=fun e s p=>by
   simp only[dV,HU,aq,dQ,evc,ev,p,nk,cT,gd,j9,aP,aW,cV,kD,aQ,bE,jt,ip,cut]
   rfl
  simp only[az,aA,ej,aB,ep,ai,lg,bo,ez,cJ,ak,aD,bk,bm,aw,bU,oI,bJ,aq,jm,cT,cF,aP,aW,cut,cV,bN,a7,bO,gr,eR,cq,iA,bS,and_true,tA,aQ,ah,au,bE,cm,dY,aZ,dl,cj,dT,SZ,FM,alD,abk,hP,hh,hE,dv,hbx0,hself,du,aaK,aaL,hbs,hvc,a1,kz,hbx1,ky,B6,B8,dP]
  try rfl
 ·rw[cI,beq_eq_false_iff_ne.2 (by omega:n≠lo),cF,cI,beq_eq_false_iff_ne.2 (by omega:n≠bx),cF,a5 n (by omega),hg1 n (by omega) (by omega)];exact c.old n hn
 ·show lim<s1.next
  omega
 ·rw[mr,mr,a4]
  ·rw[a4];omega
  ·rw[mr (by rw[a4];omega),a4];omega
 ·rw[cI,beq_eq_false_iff_ne.2 (by omega:bx≠lo),cF,cI,bS];rfl
 ·simp only[dp,aP,aW]
 ·rw[cI,beq_eq_false_iff_ne.2 (by omega:s.next+1≠lo),cF,cI,beq_eq_false_iff_ne.2 (by omega:s.next+1≠bx),cF];exact a2
 ·show s.next+1<s1.next
  omega
 ·rw[cI,bS];rfl
 ·rw[cI,beq_eq_false_iff_ne.2 h2,cF,cI,beq_eq_false_iff_ne.2 h1,cF,a5 n hn,hg1 n h2 (by omega)]
 ·show s.next<=s1.next
  omega
end
section
variable {Q:cw} {f:FuncId} {e:bj} {sz:Nat} {lc:Ag.Loc} {s:St} {d:Option Tmp} {g:SG} {mk:bn}
theorem AG (t:TypeId) (x:Operand):dR Q f ⟨d,.range t x,g⟩ mk ⟨e,sz,lc⟩ s=(evc e x).bind fun x=>gX (lh Q.P mk t x s) lc:=rfl
theorem pO (x:Operand) (b:Bool):dR Q f ⟨d,.next x b,g⟩ mk ⟨e,sz,lc⟩ s=(evc e x).bind fun it=>gX (kx mk Q.ch Q.kmax it b s) lc:=rfl
theorem AF (x:Operand):dR Q f ⟨d,.entry x,g⟩ mk ⟨e,sz,lc⟩ s=(evc e x).bind fun it=>fK (pm mk it s) lc s:=rfl
end
theorem akc {s:St} {m c:Nat} {es:List db} (hs:s.get [] m=some (.map es c)):lh Tryz.prog [] 61 (.map m) s=some (.ptr s.next 0,s.new (.iter (some m) c [] c)):=by
 have h:Tryz.prog.underlying 61=some (.map 9 67):=by kernel_rfl
 simp only[lh,h,aq,hs]
theorem Cr: ∀(L:List (ar×aj)) (n:Nat) (e:db),e∈cP n L->n<=e.born/\e.born<n+L.length
 | [],n,e,h=>by cases h
 |(a,v)::L,n,e,h=>by
  rcases List.mem_cons.1 h with rfl|h
  ·exact⟨bB _,by simp only[aP];omega⟩
  ·have:=Cr L (n+1) e h
   simp only[aP];omega
theorem Ct: ∀(L:List (ar×aj)) (n:Nat) (e:db),e∈cP n L-> ∃k v,e.key= .str k/\e.val=v/\(k,v)∈L
 | [],n,e,h=>by cases h
 |(a,v)::L,n,e,h=>by
  rcases List.mem_cons.1 h with rfl|h
  ·exact⟨a,v,rfl,rfl,by simp⟩
  ·obtain⟨k,u,h1,h2,h3⟩:=Ct L (n+1) e h
   exact⟨k,u,h1,h2,by simp[h3]⟩
theorem H3: ∀(L:List (ar×aj)) (n:Nat) (k:ar) (v:aj),(k,v)∈L-> ∃e∈cP n L,e.key= .str k
 | [],n,k,v,h=>by cases h
 |(a,u)::L,n,k,v,h=>by
  rcases List.mem_cons.1 h with h|h
  ·cases h;exact⟨_,List.mem_cons_self,rfl⟩
  ·obtain⟨e,h1,h2⟩:=H3 L (n+1) k v h
   exact⟨e,List.mem_cons_of_mem _ h1,h2⟩
theorem y5: ∀(L:List (ar×aj)) (n:Nat) (e:db),e∈cP n L->q9 e.born (cP n L)=some e
 | [],n,e,h=>by cases h
 |(a,v)::L,n,e,h=>by
  simp only[cP,q9]
  rcases List.mem_cons.1 h with rfl|h
  ·simp
  ·have h1:=Cr L (n+1) e h
   have:be n e.born=false:=by
    rw[aZ];exact beq_eq_false_iff_ne.2 (by omega)
   rw[this]
   exact y5 L (n+1) e h
theorem nX {seen:List Nat} {es:List db} {e:db}:e∈dx seen es↔e∈es/\e.born ∉ seen:=by
 simp only[dx,List.mem_filter,te,List.any_eq_false]
 constructor
 ·rintro⟨h1,h2⟩
  exact⟨h1,fun hm=>h2 _ hm (by simp)⟩
 ·rintro⟨h1,h2⟩
  refine⟨h1,fun b hb hc=>h2 ?_⟩
  have:=ik hc
  subst this;exact hb
theorem Bb {seen:List Nat}: ∀ {es:List db} {e:db},e∈dx seen es->(dx (seen++[e.born]) es).length<(dx seen es).length:=by
 intro es e h
 have hsub: ∀es:List db,dx (seen++[e.born]) es=(dx seen es).filter fun x=> !be x.born e.born:=by
  intro es
  simp only[dx,List.filter_filter]
  congr 1
  funext x
  simp only[List.any_append,List.any_cons,List.any_nil,pX]
  cases seen.any (be x.born)<;>simp
 rw[hsub]
 refine Nat.lt_of_le_of_ne (qO _ _) fun hc=>?_
 have:=List.length_filter_eq_length_iff.1 hc e h
 simp at this
structure It (s:St) (it m:Nat) (L:List (ar×aj)) (seen:List Nat):Prop where
 hi:s.get [] it=some (.iter (some m) L.length seen L.length)
 hm:s.get [] m=some (.map (cP 0 L) L.length)
theorem It.calm {s:St} {it m:Nat} {L:List (ar×aj)} {seen:List Nat} (c:It s it m L seen) (ch kmax:Nat->Nat):kx [] ch kmax (.ptr it 0) false s=m9 ch kmax it m L.length seen L.length (dx seen (cP 0 L)) s:=by
 simp only[kx,c.hi,c.hm,aq,cF]
 have:(!seen.isEmpty&& !(cP 0 L).isEmpty&&(cP 0 L).all fun e=>cy L.length e.born)=false:=by
  cases L with
  |nil=>simp[cP]
  |cons x L=>
   obtain⟨a,v⟩:=x
   have:((cP 0 ((a,v)::L)).all fun e=>cy ((a,v)::L).length e.born)=false:=by
    simp only[cP,mH,aP]
    have:cy (L.length+1) 0=false:=rfl
    rw[this];rfl
   rw[this,ww]
 rw[this];rfl
theorem It.done {s:St} {it m:Nat} {L:List (ar×aj)} {seen:List Nat} (c:It s it m L seen) (ch kmax:Nat->Nat) (h:dx seen (cP 0 L)=[]):kx [] ch kmax (.ptr it 0) false s=some (.tup [.bool false],s):=by
 rw[c.calm,h];rfl
theorem It.step {s:St} {it m:Nat} {L:List (ar×aj)} {seen:List Nat} (c:It s it m L seen) (ch kmax:Nat->Nat) (hk: ∀i,L.length<=kmax i) (h:dx seen (cP 0 L)≠ []):
 ∃e s',e∈dx seen (cP 0 L)/\kx [] ch kmax (.ptr it 0) false s=some (.tup [.bool true,e.key,e.val],s')/\(∀n,s'.get [] n=(s.put it (some (.iter (some m) L.length (seen++[e.born]) L.length))).get [] n)/\s'.next=s.next/\s'.minw=(s.put it none).minw/\s'.ci<=s.ci+1:=by
 rw[c.calm]
 have hall: ∀e∈dx seen (cP 0 L),bT e.born L.length=true:=fun e he=>by
  have:=Cr L 0 e (nX.1 he).1
  exact eL (by omega)
 have hlen:(dx seen (cP 0 L)).length<=L.length:=by
  have h1:(dx seen (cP 0 L)).length<=(cP 0 L).length:=qO _ _
  have h2: ∀(L:List (ar×aj)) n,(cP n L).length=L.length:=by
   intro L
   induction L with
   |nil=>intro n;rfl
   |cons x L ih=>intro n;obtain⟨a,v⟩:=x;simp only[cP,aP,ih]
  rw[h2] at h1;exact h1
 cases hu:dx seen (cP 0 L) with
 |nil=>exact absurd hu h
 |cons e r=>
  rw[hu] at hall hlen
  have hb:((e::r).all fun e=>bT e.born L.length)=true:=List.all_eq_true.2 hall
  cases r with
  |nil=>
   refine⟨e,(oX it m L.length L.length seen e s).2,by simp,?_,fun n=>rfl,rfl,rfl,ka _⟩
   simp only[m9,hb,cT];rfl
  |cons e2 r=>
   have hkm:cy (e::e2::r).length (kmax s.ci)=true:=eL (fW hlen (hk _))
   have hlt:ch s.ci % (e::e2::r).length<(e::e2::r).length:=Nat.mod_lt _ (by simp)
   refine⟨(e::e2::r)[ch s.ci % (e::e2::r).length], { (oX it m L.length L.length seen (e::e2::r)[ch s.ci % (e::e2::r).length] s).2 with ci:=s.ci+1 },List.getElem_mem _,?_,fun n=>rfl,rfl,rfl,bB _⟩
   simp only[m9,hb,cT,hkm,js hlt,aq]
   rfl
theorem It.entry {s:St} {it m:Nat} {L:List (ar×aj)} {seen:List Nat} {e:db} (c:It s it m L (seen++[e.born])) (he:e∈cP 0 L):pm [] (.ptr it 0) s=some (.tup [e.key,e.val]):=by
 simp only[pm,c.hi,c.hm,aq,aZ,bS,cT,List.getLast?_append,List.getLast?_singleton,uI,y5 L 0 e he]
structure jX (s:St) (it m:Nat) (es:List db) (seen:List Nat):Prop where
 hi:s.get [] it=some (.iter (some m) es.length seen es.length)
 hm:s.get [] m=some (.map es es.length)
structure yA (es:List db):Prop where
 lt: ∀e∈es,e.born<es.length
 nd:(es.map (·.born)).Nodup
theorem Ie: ∀ {es:List db} {e:db},(es.map (·.born)).Nodup->e∈es->q9 e.born es=some e
 | [],_,_,h=>by cases h
 |x::es,e,hn,h=>by
  simp only[fw,wB] at hn
  simp only[q9]
  rcases List.mem_cons.1 h with rfl|h
  ·simp
  ·have:be x.born e.born=false:=by
    rw[aZ]
    exact beq_eq_false_iff_ne.2 fun he=>hn.1 (by rw[he];exact List.mem_map.2 ⟨e,h,rfl⟩)
   rw[this]
   exact Ie hn.2 h
theorem Ic {e:db}: ∀ {l:List db},(l.map (·.born)).Nodup->e∈l->l.Perm (e::l.filter fun x=> !be x.born e.born)
 | [],_,h=>by cases h
 |x::l,hn,h=>by
  have hn0:=hn
  simp only[fw,wB] at hn
  rcases List.mem_cons.1 h with rfl|h
  ·have h1:be e.born e.born=true:=by simp
   have h2:l.filter (fun x=> !be x.born e.born)=l:=List.filter_eq_self.2 fun y hy=>by
    have:be y.born e.born=false:=by
     rw[aZ]
     exact beq_eq_false_iff_ne.2 fun he=>hn.1 (by rw[<-he];exact List.mem_map.2 ⟨y,hy,rfl⟩)
    rw[this];rfl
   rw[yz,h1,h2];exact .refl _
  ·have h1:be x.born e.born=false:=by
    rw[aZ]
    exact beq_eq_false_iff_ne.2 fun he=>hn.1 (by rw[he];exact List.mem_map.2 ⟨e,h,rfl⟩)
   rw[yz,h1]
   exact((Ic hn.2 h).cons x).trans (.swap e x _)
theorem Gr {seen:List Nat} {es:List db} {e:db} (hn:(es.map (·.born)).Nodup) (h:e∈dx seen es):(dx seen es).Perm (e::dx (seen++[e.born]) es):=by
 have hsub:dx (seen++[e.born]) es=(dx seen es).filter fun x=> !be x.born e.born:=by
  simp only[dx,List.filter_filter]
  congr 1
  funext x
  simp only[List.any_append,List.any_cons,List.any_nil,pX]
  cases seen.any (be x.born)<;>simp
 rw[hsub]
 exact Ic (hn.sublist (List.Sublist.map _ List.filter_sublist)) h
section
variable {s:St} {it m:Nat} {es:List db} {seen:List Nat} (hb:yA es)
include hb
theorem jX.calm (c:jX s it m es seen) (ch kmax:Nat->Nat):kx [] ch kmax (.ptr it 0) false s=m9 ch kmax it m es.length seen es.length (dx seen es) s:=by
 simp only[kx,c.hi,c.hm,aq,cF]
 have:(!seen.isEmpty&& !es.isEmpty&&es.all fun e=>cy es.length e.born)=false:=by
  cases hes:es with
  |nil=>simp
  |cons x l=>
   have h0:=hb.lt x (by rw[hes];simp)
   have:cy (x::l).length x.born=false:=by
    cases hc:cy (x::l).length x.born with
    |false=>rfl
    |true=>have:=iL hc;rw[hes] at h0;omega
   simp only[mH,this,Bool.false_and,ww]
 rw[this];rfl
theorem jX.done (c:jX s it m es seen) (ch kmax:Nat->Nat) (h:dx seen es=[]):kx [] ch kmax (.ptr it 0) false s=some (.tup [.bool false],s):=by
 rw[c.calm hb,h];rfl
theorem jX.step (c:jX s it m es seen) (ch kmax:Nat->Nat) (hk: ∀i,es.length<=kmax i) (h:dx seen es≠ []):
 ∃e s',e∈dx seen es/\kx [] ch kmax (.ptr it 0) false s=some (.tup [.bool true,e.key,e.val],s')/\(∀n,s'.get [] n=(s.put it (some (.iter (some m) es.length (seen++[e.born]) es.length))).get [] n)/\s'.next=s.next/\s'.minw=(s.put it none).minw:=by
 rw[c.calm hb]
 have hall: ∀e∈dx seen es,bT e.born es.length=true:=fun e he=>eL (hb.lt e (nX.1 he).1)
 have hlen:(dx seen es).length<=es.length:=qO _ _
 cases hu:dx seen es with
 |nil=>exact absurd hu h
 |cons e r=>
  rw[hu] at hall hlen
  have hbb:((e::r).all fun e=>bT e.born es.length)=true:=List.all_eq_true.2 hall
  cases r with
  |nil=>
   refine⟨e,(oX it m es.length es.length seen e s).2,by simp,?_,fun n=>rfl,rfl,rfl⟩
   simp only[m9,hbb,cT];rfl
  |cons e2 r=>
   have hkm:cy (e::e2::r).length (kmax s.ci)=true:=eL (fW hlen (hk _))
   have hlt:ch s.ci % (e::e2::r).length<(e::e2::r).length:=Nat.mod_lt _ (by simp)
   refine⟨(e::e2::r)[ch s.ci % (e::e2::r).length], { (oX it m es.length es.length seen (e::e2::r)[ch s.ci % (e::e2::r).length] s).2 with ci:=s.ci+1 },List.getElem_mem _,?_,fun n=>rfl,rfl,rfl⟩
   simp only[m9,hbb,cT,hkm,js hlt,aq]
   rfl
theorem jX.entry {e:db} (c:jX s it m es (seen++[e.born])) (he:e∈es):pm [] (.ptr it 0) s=some (.tup [e.key,e.val]):=by
 simp only[pm,c.hi,c.hm,aq,aZ,bS,cT,List.getLast?_append,List.getLast?_singleton,uI,Ie hb.nd he]
end
theorem ia.step {sz:Nat} {s0 s s2:St} {bx lo lim:Nat} {lob:bH} {xs:List aj} (c:ia sz s0 s bx lo lim lob xs) (hl:lo<lim) (hm:s0.minw<=s0.next) {ob:bH} (hg: ∀n,s2.get [] n=(s.put lim (some ob)).get [] n) (hn:s2.next=s.next) (hw:s2.minw=(s.put lim none).minw):ia sz s0 s2 bx lo lim lob xs:=by
 obtain⟨l1,l2,l3,l4⟩:=c.lt
 have key: ∀n,n≠lim->s2.get [] n=s.get [] n:=fun n h=>by rw[hg,cI,beq_eq_false_iff_ne.2 h];rfl
 refine⟨fun n h=>(key n (by omega)).trans (c.old n h),⟨l1,l2,l3,by omega⟩,?_,?_,(key lo (by omega)).trans c.loop⟩
 ·rw[hw,mr (by rw[c.minw];omega)];exact c.minw
 ·obtain⟨v,h1,h2⟩:=c.box
  refine⟨v,(key bx (by omega)).trans h1,?_⟩
  rcases h2 with h2|⟨h3,k,h4,h5,h6,h7⟩
  ·exact .inl h2
  ·exact .inr ⟨h3,k,h4,(key k (by omega)).trans h5,h6,by omega⟩
def qU (Q:cw) (sz:Nat) (s0:St) (bx lo lim:Nat) (lob:bH) (es:List db):Prop:=
 ∀(s:St) (xs:List aj) (k:aj),ia sz s0 s bx lo lim lob xs->k∈es.map (·.key)->xs.length<es.length->(∀y∈xs,y∈es.map (·.key))-> ∃s',qe Q lo [k] s (.bool true) s'/\ia sz s0 s' bx lo lim lob (xs++[k])/\(∀n,n<=lim->n≠bx->n≠lo->s'.get [] n=s.get [] n)/\s.next<=s'.next
theorem Gz {e:bj} {x:Operand} {av:Array Operand} {ts:Array TypeId} {n:Nat} (h:ev e x=some (.yld n)):yieldee e ⟨.value x,av,ts⟩=(evcs e av.toList).bind fun args=>some (n,args):=by
 simp only[yieldee,h,aq]
theorem BD {Q:cw} {f:FuncId} {d:Tmp} {x:Operand} {av:Array Operand} {ts:Array TypeId} {l:List cD} {e:bj} {sz:Nat} {lc:Ag.Loc} {s s1:St} {n:Nat} {args:List aj} {v:aj} {N:Fr->St->Prop}
 (hc:yieldee e ⟨.value x,av,ts⟩=some (n,args)) (hr:qe Q n args s v s1) (hd:d<sz) (hk:WL Q f l ⟨e.set d (some v),sz,lc⟩ s1 N):
 WL Q f (⟨some d,.call ⟨.value x,av,ts⟩,.aw⟩::l) ⟨e,sz,lc⟩ s N:=
 WL.yld rfl rfl hc hr (iw.2 ⟨hd,rfl⟩) hk
section
variable {Q:cw} (hP:Q.P=Tryz.prog) (hh:Q.hint=bI) {ch kmax:Nat->Nat} (hch:Q.ch=ch) (hkm:Q.kmax=kmax)
 {es:List db} (hb:yA es) (hkx: ∀i,es.length<=kmax i)
include hP hh hch hkm hb hkx
theorem ahn {sz:Nat} {s0:St} {bx lo it m:Nat} {lob:bH} (hlo:lo<it) (hm:m<s0.next) (hmw:s0.minw<=s0.next) (ht:qU Q sz s0 bx lo it lob es) (hkey: ∀e∈es, ∃k:ar,e.key= .str k): ∀(n:Nat) (seen:List Nat) (e:bj) (lc:Ag.Loc) (s:St) (xs:List aj),(dx seen es).length<=n->ia sz s0 s bx lo it lob xs->jX s it m es seen->(xs++(dx seen es).map (·.key)).Perm (es.map (·.key))->ax e 5= .ptr it 0->ax e 0= .yld lo->
 W Q 49 (.loop xt) ⟨e,14,lc⟩ s fun x _ s'=>x= .exit 0/\ ∃xs',ia sz s0 s' bx lo it lob xs'/\xs'.Perm (es.map (·.key))/\s.next<=s'.next:=by
 have _:=hP
 have _:=hh
 intro n
 induction n with
 |zero=>
  intro seen e lc s xs hn c i hp h5 h1
  have hu:dx seen es=[]:=qN (Nat.le_zero.1 hn)
  have hd:=i.done hb ch kmax hu
  rw[hu,rF,iA] at hp
  refine cR ?_
  unfold xt
  refine aF ?_
  unfold zM
  simp only[az,aA,aB,ai,jD,ak,aD,aw,bU,aq,dW,cT,bS,tA,au,pO,h5,hch,hkm,hd,iE,gg]
  refine aR (bc (t:=false) (by simp only[ak,ai,ah,cT,cF, *]) ?_)
  exact eD ⟨rfl,xs,c,hp,bB _⟩
 |succ n ih=>
  intro seen e lc s xs hn c i hp h5 h1
  by_cases hu:dx seen es=[]
  ·have hd:=i.done hb ch kmax hu
   rw[hu,rF,iA] at hp
   refine cR ?_
   unfold xt
   refine aF ?_
   unfold zM
   simp only[az,aA,aB,ai,jD,ak,aD,aw,bU,aq,dW,cT,bS,tA,au,pO,h5,hch,hkm,hd,iE,gg]
   refine aR (bc (t:=false) (by simp only[ak,ai,ah,cT,cF, *]) ?_)
   exact eD ⟨rfl,xs,c,hp,bB _⟩
  ·obtain⟨en,s2,hen,hnx,hg,hnn,hw⟩:=i.step hb ch kmax hkx hu
   have hmem:=(nX.1 hen).1
   obtain⟨l1,l2,l3,l4⟩:=c.lt
   have c2:=c.step hlo hmw hg hnn hw
   have i2:jX s2 it m es (seen++[en.born]):=⟨by rw[hg,cI,bS];rfl,by rw[hg,cI,beq_eq_false_iff_ne.2 (by omega:m≠it)];exact i.hm⟩
   have hent:=i2.entry hb hmem
   have hless:=Bb hen
   have hpu:=Gr hb.nd hen
   have hlen:xs.length<es.length:=by
    have h2:=hp.length_eq
    have h3:=hpu.length_eq
    simp only[dp,eH,aP] at h2 h3
    omega
   have hxs: ∀y∈xs,y∈es.map (·.key):=fun y hy=>hp.mem_iff.1 (Bp _ hy)
   obtain⟨s3,hy,c3,hg3,hn3⟩:=ht s2 xs en.key c2 (List.mem_map.2 ⟨en,hmem,rfl⟩) hlen hxs
   have i3:jX s3 it m es (seen++[en.born]):=⟨by rw[hg3 it (bB _) (by omega) (by omega)];exact i2.hi,by rw[hg3 m (by omega) (by omega) (by omega)];exact i2.hm⟩
   have hp3:((xs++[en.key])++(dx (seen++[en.born]) es).map (·.key)).Perm (es.map (·.key)):=by
    refine List.Perm.trans ?_ hp
    rw[wz]
    have h9:=(hpu.map (fun e:db=>e.key)).symm
    rw[fw] at h9
    exact List.Perm.append_left xs h9
   obtain⟨k,hke⟩:=hkey en hmem
   rw[hke] at hnx hent hy c3 hp3
   refine cR ?_
   unfold xt
   refine aF ?_
   unfold zM
   simp only[az,aA,aB,ai,jD,ak,aD,aw,bU,aq,dW,cT,bS,tA,au,pO,h5,hch,hkm,hnx,iE,gg]
   refine aR (bc (t:=true) (by simp only[ak,ai,ah,cT,cF, *]) (ck ?_))
   simp only[aU]
   refine cO (aF ?_)
   unfold OJ
   simp only[az,aA,aB,ai,aN,jD,ak,aD,aw,aq,dW,cT,cF,bS,tA,ah,au,AF,h5,hent,iE,gg]
   refine aR (gh (fU 2 ?_))
   unfold OL
   simp only[az,aA,aB,ai,aH,ak,aw,cT,cF,bN,a7,bS,tA,ah,au,h1]
   refine BD (n:=lo) (args:=[.str k]) ?_ hy (by decide) ?_
   ·rw[Gz (n:=lo) (by simp only[ak,ai,ah,cT,cF])]
    simp only[ai,ak,aD,bk,bm,aq,cS,cT,cF,bS,ah]
   refine fX ?_
   simp only[az,aA,aB,ai,hG,ak,aD,aw,hJ,aq,gI,cT,cF,dS,bS,tA,ah,au,aU]
   refine bc (t:=false) (by simp only[ak,ai,ah,cT,cF, *]) (ck ?_)
   simp only[dP,aU]
   refine(ih (seen++[en.born]) _ _ s3 _ (by omega) c3 i3 hp3 (by simp only[ai,ah,cF, *]) (by simp only[ai,ah,cF, *])).mono ?_
   rintro x fr s' ⟨rfl,xs',q1,q2,q3⟩
   exact⟨rfl,xs',q1,q2,by omega⟩
theorem aho (hsp:Q.spec 49=none) (hsH:Q.specH 49=none) (hsW:Q.specW 49=none) {sz:Nat} {s0 s:St} {bx lo lim m cb:Nat} {lob:bH} (hmw:s0.minw<=s0.next) (hm:m<s0.next) (hcb:cb<s0.next) (hc:s0.get [] cb=some (.cells [.map m])) (hmm:s0.get [] m=some (.map es es.length)) (c:ia sz s0 s bx lo lim lob [])
 (ht:qU Q sz s0 bx lo s.next lob es) (hkey: ∀e∈es, ∃k:ar,e.key= .str k): ∃s',bz Q 49 [.yld lo,.ptr cb 0] s (.tup []) s'/\ ∃xs lim',ia sz s0 s' bx lo lim' lob xs/\xs.Perm (es.map (·.key))/\s.next<=s'.next:=by
 obtain⟨l1,l2,l3,l4⟩:=c.lt
 have hr:lh Tryz.prog [] 61 (.map m) s=some (.ptr s.next 0,s.new (.iter (some m) es.length [] es.length)):=by
  have h:Tryz.prog.underlying 61=some (.map 9 67):=by kernel_rfl
  simp only[lh,h,aq,(c.old m hm).trans hmm]
 have hcb2:s.get [] cb=some (.cells [.map m]):=(c.old cb hcb).trans hc
 have hg2: ∀n,n<s.next->(s.new (.iter (some m) es.length [] es.length)).get [] n=s.get [] n:=fun n h=>by rw[df,beq_eq_false_iff_ne.2 (by omega:n≠s.next)];rfl
 have c2:ia sz s0 (s.new (.iter (some m) es.length [] es.length)) bx lo s.next lob []:=by
  obtain⟨v,b1,b2⟩:=c.box
  refine⟨fun n h=>(hg2 n (by omega)).trans (c.old n h),⟨l1,l2,by omega,io _⟩,c.minw,⟨v,(hg2 bx (by omega)).trans b1,.inl ?_⟩,(hg2 lo (by omega)).trans c.loop⟩
  rcases b2 with b2|⟨b2,_⟩
  ·exact b2
  ·exact absurd rfl b2
 have i2:jX (s.new (.iter (some m) es.length [] es.length)) s.next m es []:=⟨by rw[df,bS];rfl,by rw[hg2 m (by omega)];exact(c.old m hm).trans hmm⟩
 have key: ∃u s',bz Q 49 [.yld lo,.ptr cb 0] s u s'/\(u= .tup []/\ ∃xs lim',ia sz s0 s' bx lo lim' lob xs/\xs.Perm (es.map (·.key))/\s.next<=s'.next):=by
  refine bz.ofEx (by rw[hP];exact ae2) ae1 ae4 ae3 hsp ?_ hsH hsW
  unfold OH
  refine aF ?_
  unfold OI
  simp only[dt,cY,az,aA,aB,ai,bo,ak,aD,aw,bU,aq,fZ,cT,cF,aP,aW,a7,bO,bS,tA,aQ,ah,au,bE,cm,cj,dT,nc,hP,dv,hcb2,du,AG,hr]
  refine cO ?_
  refine(ahn hP hh hch hkm hb hkx (by omega:lo<s.next) hm hmw ht hkey es.length [] _ _ _ [] (qO _ _) c2 i2 ?_ (by simp only[ai,ah,cT,cF, *]) (by simp only[ai,ah,cT,cF, *])).mono ?_
  ·rw[cq]
   have:dx [] es=es:=by simp[dx]
   rw[this]
  rintro x ⟨e,sz',lc⟩ s' ⟨rfl,xs,q1,q2,q3⟩
  exact⟨.inl rfl,.tup [],⟨[],rfl,rfl⟩,rfl,xs,_,q1,q2,fW (ka _) q3⟩
 obtain⟨u,s',k1,rfl,k2⟩:=key
 exact⟨s',k1,k2⟩
theorem ahk {sz:Nat} {s0:St} {bx lo it m:Nat} {lob:bH} (hlo:lo<it) (hm:m<s0.next) (hmw:s0.minw<=s0.next) (ht:qU Q sz s0 bx lo it lob es) (hkey: ∀e∈es, ∃k:ar,e.key= .str k): ∀(n:Nat) (seen:List Nat) (e:bj) (lc:Ag.Loc) (s:St) (xs:List aj),(dx seen es).length<=n->ia sz s0 s bx lo it lob xs->jX s it m es seen->(xs++(dx seen es).map (·.key)).Perm (es.map (·.key))->ax e 5= .ptr it 0->ax e 0= .yld lo->
 W Q 185 (.loop xq) ⟨e,14,lc⟩ s fun x _ s'=>x= .exit 0/\ ∃xs',ia sz s0 s' bx lo it lob xs'/\xs'.Perm (es.map (·.key))/\s.next<=s'.next:=by
 have _:=hP
 have _:=hh
 intro n
 induction n with
 |zero=>
  intro seen e lc s xs hn c i hp h5 h1
  have hu:dx seen es=[]:=qN (Nat.le_zero.1 hn)
  have hd:=i.done hb ch kmax hu
  rw[hu,rF,iA] at hp
  refine cR ?_
  unfold xq
  refine aF ?_
  unfold zq
  simp only[az,aA,aB,ai,jD,ak,aD,aw,bU,aq,dW,cT,bS,tA,au,pO,h5,hch,hkm,hd,iE,gg]
  refine aR (bc (t:=false) (by simp only[ak,ai,ah,cT,cF, *]) ?_)
  exact eD ⟨rfl,xs,c,hp,bB _⟩
 |succ n ih=>
  intro seen e lc s xs hn c i hp h5 h1
  by_cases hu:dx seen es=[]
  ·have hd:=i.done hb ch kmax hu
   rw[hu,rF,iA] at hp
   refine cR ?_
   unfold xq
   refine aF ?_
   unfold zq
   simp only[az,aA,aB,ai,jD,ak,aD,aw,bU,aq,dW,cT,bS,tA,au,pO,h5,hch,hkm,hd,iE,gg]
   refine aR (bc (t:=false) (by simp only[ak,ai,ah,cT,cF, *]) ?_)
   exact eD ⟨rfl,xs,c,hp,bB _⟩
  ·obtain⟨en,s2,hen,hnx,hg,hnn,hw⟩:=i.step hb ch kmax hkx hu
   have hmem:=(nX.1 hen).1
   obtain⟨l1,l2,l3,l4⟩:=c.lt
   have c2:=c.step hlo hmw hg hnn hw
   have i2:jX s2 it m es (seen++[en.born]):=⟨by rw[hg,cI,bS];rfl,by rw[hg,cI,beq_eq_false_iff_ne.2 (by omega:m≠it)];exact i.hm⟩
   have hent:=i2.entry hb hmem
   have hless:=Bb hen
   have hpu:=Gr hb.nd hen
   have hlen:xs.length<es.length:=by
    have h2:=hp.length_eq
    have h3:=hpu.length_eq
    simp only[dp,eH,aP] at h2 h3
    omega
   have hxs: ∀y∈xs,y∈es.map (·.key):=fun y hy=>hp.mem_iff.1 (Bp _ hy)
   obtain⟨s3,hy,c3,hg3,hn3⟩:=ht s2 xs en.key c2 (List.mem_map.2 ⟨en,hmem,rfl⟩) hlen hxs
   have i3:jX s3 it m es (seen++[en.born]):=⟨by rw[hg3 it (bB _) (by omega) (by omega)];exact i2.hi,by rw[hg3 m (by omega) (by omega) (by omega)];exact i2.hm⟩
   have hp3:((xs++[en.key])++(dx (seen++[en.born]) es).map (·.key)).Perm (es.map (·.key)):=by
    refine List.Perm.trans ?_ hp
    rw[wz]
    have h9:=(hpu.map (fun e:db=>e.key)).symm
    rw[fw] at h9
    exact List.Perm.append_left xs h9
   obtain⟨k,hke⟩:=hkey en hmem
   rw[hke] at hnx hent hy c3 hp3
   refine cR ?_
   unfold xq
   refine aF ?_
   unfold zq
   simp only[az,aA,aB,ai,jD,ak,aD,aw,bU,aq,dW,cT,bS,tA,au,pO,h5,hch,hkm,hnx,iE,gg]
   refine aR (bc (t:=true) (by simp only[ak,ai,ah,cT,cF, *]) (ck ?_))
   simp only[aU]
   refine cO (aF ?_)
   unfold Lk
   simp only[az,aA,aB,ai,aN,jD,ak,aD,aw,aq,dW,cT,cF,bS,tA,ah,au,AF,h5,hent,iE,gg]
   refine aR (gh (fU 2 ?_))
   unfold Ll
   simp only[az,aA,aB,ai,aH,ak,aw,cT,cF,bN,a7,bS,tA,ah,au,h1]
   refine BD (n:=lo) (args:=[.str k]) ?_ hy (by decide) ?_
   ·rw[Gz (n:=lo) (by simp only[ak,ai,ah,cT,cF])]
    simp only[ai,ak,aD,bk,bm,aq,cS,cT,cF,bS,ah]
   refine fX ?_
   simp only[az,aA,aB,ai,hG,ak,aD,aw,hJ,aq,gI,cT,cF,dS,bS,tA,ah,au,aU]
   refine bc (t:=false) (by simp only[ak,ai,ah,cT,cF, *]) (ck ?_)
   simp only[dP,aU]
   refine(ih (seen++[en.born]) _ _ s3 _ (by omega) c3 i3 hp3 (by simp only[ai,ah,cF, *]) (by simp only[ai,ah,cF, *])).mono ?_
   rintro x fr s' ⟨rfl,xs',q1,q2,q3⟩
   exact⟨rfl,xs',q1,q2,by omega⟩
theorem ahl (hsp:Q.spec 185=none) (hsH:Q.specH 185=none) (hsW:Q.specW 185=none) {sz:Nat} {s0 s:St} {bx lo lim m cb:Nat} {lob:bH} (hmw:s0.minw<=s0.next) (hm:m<s0.next) (hcb:cb<s0.next) (hc:s0.get [] cb=some (.cells [.map m])) (hmm:s0.get [] m=some (.map es es.length)) (c:ia sz s0 s bx lo lim lob [])
 (ht:qU Q sz s0 bx lo s.next lob es) (hkey: ∀e∈es, ∃k:ar,e.key= .str k): ∃s',bz Q 185 [.yld lo,.ptr cb 0] s (.tup []) s'/\ ∃xs lim',ia sz s0 s' bx lo lim' lob xs/\xs.Perm (es.map (·.key))/\s.next<=s'.next:=by
 obtain⟨l1,l2,l3,l4⟩:=c.lt
 have hr:lh Tryz.prog [] 195 (.map m) s=some (.ptr s.next 0,s.new (.iter (some m) es.length [] es.length)):=by
  have h:Tryz.prog.underlying 195=some (.map 9 196):=by kernel_rfl
  simp only[lh,h,aq,(c.old m hm).trans hmm]
 have hcb2:s.get [] cb=some (.cells [.map m]):=(c.old cb hcb).trans hc
 have hg2: ∀n,n<s.next->(s.new (.iter (some m) es.length [] es.length)).get [] n=s.get [] n:=fun n h=>by rw[df,beq_eq_false_iff_ne.2 (by omega:n≠s.next)];rfl
 have c2:ia sz s0 (s.new (.iter (some m) es.length [] es.length)) bx lo s.next lob []:=by
  obtain⟨v,b1,b2⟩:=c.box
  refine⟨fun n h=>(hg2 n (by omega)).trans (c.old n h),⟨l1,l2,by omega,io _⟩,c.minw,⟨v,(hg2 bx (by omega)).trans b1,.inl ?_⟩,(hg2 lo (by omega)).trans c.loop⟩
  rcases b2 with b2|⟨b2,_⟩
  ·exact b2
  ·exact absurd rfl b2
 have i2:jX (s.new (.iter (some m) es.length [] es.length)) s.next m es []:=⟨by rw[df,bS];rfl,by rw[hg2 m (by omega)];exact(c.old m hm).trans hmm⟩
 have key: ∃u s',bz Q 185 [.yld lo,.ptr cb 0] s u s'/\(u= .tup []/\ ∃xs lim',ia sz s0 s' bx lo lim' lob xs/\xs.Perm (es.map (·.key))/\s.next<=s'.next):=by
  refine bz.ofEx (by rw[hP];exact acX) acW acZ acY hsp ?_ hsH hsW
  unfold Li
  refine aF ?_
  unfold Lj
  simp only[dt,cY,az,aA,aB,ai,bo,ak,aD,aw,bU,aq,fZ,cT,cF,aP,aW,a7,bO,bS,tA,aQ,ah,au,bE,cm,cj,dT,ake,hP,dv,hcb2,du,AG,hr]
  refine cO ?_
  refine(ahk hP hh hch hkm hb hkx (by omega:lo<s.next) hm hmw ht hkey es.length [] _ _ _ [] (qO _ _) c2 i2 ?_ (by simp only[ai,ah,cT,cF, *]) (by simp only[ai,ah,cT,cF, *])).mono ?_
  ·rw[cq]
   have:dx [] es=es:=by simp[dx]
   rw[this]
  rintro x ⟨e,sz',lc⟩ s' ⟨rfl,xs,q1,q2,q3⟩
  exact⟨.inl rfl,.tup [],⟨[],rfl,rfl⟩,rfl,xs,_,q1,q2,fW (ka _) q3⟩
 obtain⟨u,s',k1,rfl,k2⟩:=key
 exact⟨s',k1,k2⟩
theorem ahp {sz:Nat} {s0:St} {bx lo it m:Nat} {lob:bH} (hlo:lo<it) (hm:m<s0.next) (hmw:s0.minw<=s0.next) (ht:qU Q sz s0 bx lo it lob es) (hkey: ∀e∈es, ∃a b:ar,e.key= .agg [.str a,.str b]): ∀(n:Nat) (seen:List Nat) (e:bj) (lc:Ag.Loc) (s:St) (xs:List aj),(dx seen es).length<=n->ia sz s0 s bx lo it lob xs->jX s it m es seen->(xs++(dx seen es).map (·.key)).Perm (es.map (·.key))->ax e 5= .ptr it 0->ax e 0= .yld lo->
 W Q 52 (.loop xu) ⟨e,14,lc⟩ s fun x _ s'=>x= .exit 0/\ ∃xs',ia sz s0 s' bx lo it lob xs'/\xs'.Perm (es.map (·.key))/\s.next<=s'.next:=by
 intro n
 induction n with
 |zero=>
  intro seen e lc s xs hn c i hp h5 h1
  have hu:dx seen es=[]:=qN (Nat.le_zero.1 hn)
  have hd:=i.done hb ch kmax hu
  rw[hu,rF,iA] at hp
  refine cR ?_
  unfold xu
  refine aF ?_
  unfold zN
  simp only[az,aA,aB,ai,jD,ak,aD,aw,bU,aq,dW,cT,bS,tA,au,pO,h5,hch,hkm,hd,iE,gg]
  refine aR (bc (t:=false) (by simp only[ak,ai,ah,cT,cF, *]) ?_)
  exact eD ⟨rfl,xs,c,hp,bB _⟩
 |succ n ih=>
  intro seen e lc s xs hn c i hp h5 h1
  by_cases hu:dx seen es=[]
  ·have hd:=i.done hb ch kmax hu
   rw[hu,rF,iA] at hp
   refine cR ?_
   unfold xu
   refine aF ?_
   unfold zN
   simp only[az,aA,aB,ai,jD,ak,aD,aw,bU,aq,dW,cT,bS,tA,au,pO,h5,hch,hkm,hd,iE,gg]
   refine aR (bc (t:=false) (by simp only[ak,ai,ah,cT,cF, *]) ?_)
   exact eD ⟨rfl,xs,c,hp,bB _⟩
  ·obtain⟨en,s2,hen,hnx,hg,hnn,hw⟩:=i.step hb ch kmax hkx hu
   have hmem:=(nX.1 hen).1
   obtain⟨l1,l2,l3,l4⟩:=c.lt
   have c2:=c.step hlo hmw hg hnn hw
   have i2:jX s2 it m es (seen++[en.born]):=⟨by rw[hg,cI,bS];rfl,by rw[hg,cI,beq_eq_false_iff_ne.2 (by omega:m≠it)];exact i.hm⟩
   have hent:=i2.entry hb hmem
   have hless:=Bb hen
   have hpu:=Gr hb.nd hen
   have hlen:xs.length<es.length:=by
    have h2:=hp.length_eq
    have h3:=hpu.length_eq
    simp only[dp,eH,aP] at h2 h3
    omega
   have hxs: ∀y∈xs,y∈es.map (·.key):=fun y hy=>hp.mem_iff.1 (Bp _ hy)
   obtain⟨s3,hy,c3,hg3,hn3⟩:=ht s2 xs en.key c2 (List.mem_map.2 ⟨en,hmem,rfl⟩) hlen hxs
   have i3:jX s3 it m es (seen++[en.born]):=⟨by rw[hg3 it (bB _) (by omega) (by omega)];exact i2.hi,by rw[hg3 m (by omega) (by omega) (by omega)];exact i2.hm⟩
   have hp3:((xs++[en.key])++(dx (seen++[en.born]) es).map (·.key)).Perm (es.map (·.key)):=by
    refine List.Perm.trans ?_ hp
    rw[wz]
    have h9:=(hpu.map (fun e:db=>e.key)).symm
    rw[fw] at h9
    exact List.Perm.append_left xs h9
   obtain⟨a,b,hke⟩:=hkey en hmem
   rw[hke] at hnx hent hy c3 hp3
   refine cR ?_
   unfold xu
   refine aF ?_
   unfold zN
   simp only[az,aA,aB,ai,jD,ak,aD,aw,bU,aq,dW,cT,bS,tA,au,pO,h5,hch,hkm,hnx,iE,gg]
   refine aR (bc (t:=true) (by simp only[ak,ai,ah,cT,cF, *]) (ck ?_))
   simp only[aU]
   refine cO (aF ?_)
   unfold OS
   simp only[az,aA,ej,aB,ep,ai,bR,jz,gZ,ez,jD,ak,aD,gl,aw,bJ,dC,ix,aq,cK,dW,cT,cF,aP,aW,cV,bN,a7,cq,cH,bS,tA,aQ,ah,au,bE,cm,dY,aZ,dl,cj,dT,GF,TT,Z2,hP,hh,AF,h5,hent,iE,gg]
   refine aR (gh (fU 2 ?_))
   unfold OT
   simp only[az,aA,aB,ai,bR,aH,bo,ak,cx,aw,aq,cT,cF,aP,aW,cut,bN,a7,bS,tA,aQ,ah,au,bE,aZ,FM,hP,h1]
   refine BD (n:=lo) (args:=[.agg [.str a,.str b]]) ?_ hy (by decide) ?_
   ·rw[Gz (n:=lo) (by simp only[ak,ai,ah,cT,cF])]
    simp only[ai,ak,aD,bk,bm,aq,cK,cT,cF,bS,ah]
   refine fX ?_
   simp only[az,aA,aB,ai,hG,ak,aD,aw,hJ,aq,gI,cT,cF,dS,bS,tA,ah,au,aU]
   refine bc (t:=false) (by simp only[ak,ai,ah,cT,cF, *]) (ck ?_)
   simp only[dP,aU]
   refine(ih (seen++[en.born]) _ _ s3 _ (by omega) c3 i3 hp3 (by simp only[ai,ah,cF, *]) (by simp only[ai,ah,cF, *])).mono ?_
   rintro x fr s' ⟨rfl,xs',q1,q2,q3⟩
   exact⟨rfl,xs',q1,q2,by omega⟩
theorem ahq (hsp:Q.spec 52=none) (hsH:Q.specH 52=none) (hsW:Q.specW 52=none) {sz:Nat} {s0 s:St} {bx lo lim m cb:Nat} {lob:bH} (hmw:s0.minw<=s0.next) (hm:m<s0.next) (hcb:cb<s0.next) (hc:s0.get [] cb=some (.cells [.map m])) (hmm:s0.get [] m=some (.map es es.length)) (c:ia sz s0 s bx lo lim lob [])
 (ht:qU Q sz s0 bx lo s.next lob es) (hkey: ∀e∈es, ∃a b:ar,e.key= .agg [.str a,.str b]): ∃s',bz Q 52 [.yld lo,.ptr cb 0] s (.tup []) s'/\ ∃xs lim',ia sz s0 s' bx lo lim' lob xs/\xs.Perm (es.map (·.key))/\s.next<=s'.next:=by
 obtain⟨l1,l2,l3,l4⟩:=c.lt
 have hr:lh Tryz.prog [] 63 (.map m) s=some (.ptr s.next 0,s.new (.iter (some m) es.length [] es.length)):=by
  have h:Tryz.prog.underlying 63=some (.map 31 4):=by kernel_rfl
  simp only[lh,h,aq,(c.old m hm).trans hmm]
 have hcb2:s.get [] cb=some (.cells [.map m]):=(c.old cb hcb).trans hc
 have hg2: ∀n,n<s.next->(s.new (.iter (some m) es.length [] es.length)).get [] n=s.get [] n:=fun n h=>by rw[df,beq_eq_false_iff_ne.2 (by omega:n≠s.next)];rfl
 have c2:ia sz s0 (s.new (.iter (some m) es.length [] es.length)) bx lo s.next lob []:=by
  obtain⟨v,b1,b2⟩:=c.box
  refine⟨fun n h=>(hg2 n (by omega)).trans (c.old n h),⟨l1,l2,by omega,io _⟩,c.minw,⟨v,(hg2 bx (by omega)).trans b1,.inl ?_⟩,(hg2 lo (by omega)).trans c.loop⟩
  rcases b2 with b2|⟨b2,_⟩
  ·exact b2
  ·exact absurd rfl b2
 have i2:jX (s.new (.iter (some m) es.length [] es.length)) s.next m es []:=⟨by rw[df,bS];rfl,by rw[hg2 m (by omega)];exact(c.old m hm).trans hmm⟩
 have key: ∃u s',bz Q 52 [.yld lo,.ptr cb 0] s u s'/\(u= .tup []/\ ∃xs lim',ia sz s0 s' bx lo lim' lob xs/\xs.Perm (es.map (·.key))/\s.next<=s'.next):=by
  refine bz.ofEx (by rw[hP];exact afi) afh afk afj hsp ?_ hsH hsW
  unfold OP
  refine aF ?_
  unfold OQ
  simp only[dt,cY,az,aA,aB,ai,bo,ak,aD,aw,bU,aq,fZ,cT,cF,aP,aW,a7,bO,bS,tA,aQ,ah,au,bE,cm,cj,dT,FN,hP,dv,hcb2,du,AG,hr]
  refine cO ?_
  refine(ahp hP hh hch hkm hb hkx (by omega:lo<s.next) hm hmw ht hkey es.length [] _ _ _ [] (qO _ _) c2 i2 ?_ (by simp only[ai,ah,cT,cF, *]) (by simp only[ai,ah,cT,cF, *])).mono ?_
  ·rw[cq]
   have:dx [] es=es:=by simp[dx]
   rw[this]
  rintro x ⟨e,sz',lc⟩ s' ⟨rfl,xs,q1,q2,q3⟩
  exact⟨.inl rfl,.tup [],⟨[],rfl,rfl⟩,rfl,xs,_,q1,q2,fW (ka _) q3⟩
 obtain⟨u,s',k1,rfl,k2⟩:=key
 exact⟨s',k1,k2⟩
end
structure nF (sz:Nat) (s0 s:St) (v:aj) (xs:List aj):Prop where
 old: ∀n,n<s0.next->s.get [] n=s0.get [] n
 next:s0.next<=s.next
 minw:s.minw=s0.minw
 row:(v= .nils/\xs=[])\/(xs≠ []/\ ∃k,v= .arr sz k 0 xs.length xs.length/\s.get [] k=some (.cells (bQ xs))/\s0.next<=k/\k<s.next)
theorem nF.clean {sz:Nat} {s0 s:St} {v:aj} {xs:List aj} (g:nF sz s0 s v xs):v.clean=true:=by
 rcases g.row with⟨rfl,_⟩|⟨_,k,rfl,_⟩<;>rfl
def rS:List aj->Option (List ar)
 | []=>some []
 | .str a::l=>(rS l).bind fun r=>some (a::r)
 |_=>none
def qV:List aj->Option (List (ar×ar))
 | []=>some []
 | .str a:: .str b::l=>(qV l).bind fun r=>some ((a,b)::r)
 |_=>none
theorem Hi: ∀l:List ar,rS (l.map bu)=some l
 | []=>rfl
 |a::l=>by
  show(rS (l.map bu)).bind _=_
  rw[Hi l];rfl
theorem wT:(aj.nils).cells=[.nils]:=rfl
theorem vj: ∀l:List ar,bQ (l.map bu)=l.map bu
 | []=>rfl
 |a::l=>by
  show(bu a).cells++bQ (l.map bu)=_
  rw[vj l];rfl
def de (c:ar×ar):aj:=.agg [.str c.1,.str c.2]
theorem Hg: ∀l:List (ar×ar),qV (bQ (l.map de))=some l
 | []=>rfl
 |a::l=>by
  show(qV (bQ (l.map de))).bind _=_
  rw[Hg l];rfl
theorem xe: ∀l:List (ar×ar),(bQ (l.map de)).length=l.length*2
 | []=>rfl
 |a::l=>by
  show([aj.str a.1,aj.str a.2]++bQ (l.map de)).length=_
  rw[dp,xe l,aP,aP,aP,aW];omega
def gJ (a b:ar×ar):Int:=bif bD (dM a.1 b.1) 0 then dM a.2 b.2 else dM a.1 b.1
def Ai (a b:ar×ar):Bool:=dz (gJ a b) 0
def tQ (x:ar×ar):List (ar×ar)->List (ar×ar)
 | []=>[x]
 |y::l=>bif Ai y x then y::tQ x l else x::y::l
def ie:List (ar×ar)->List (ar×ar)
 | []=>[]
 |x::l=>tQ x (ie l)
theorem Dl (x:ar×ar): ∀l,(tQ x l).Perm (x::l)
 | []=>.refl _
 |y::l=>by
  simp only[tQ]
  cases Ai y x with
  |true=>exact((Dl x l).cons y).trans (.swap x y l)
  |false=>exact .refl _
theorem sW: ∀l,(ie l).Perm l
 | []=>.refl _
 |x::l=>(Dl x _).trans ((sW l).cons x)
def wh:List aj->Option tx
 | [.nils]=>some none
 | [.arr 1 m 0 len _]=>some (some (m,fun cs=>bif be cs.length len&&bT len 1000001 then(rS cs).bind fun l=>some ((fh l).map bu) else none))
 |_=>none
def wg:List aj->Option tx
 | [.nils,.func (.func 30) [] []]=>some none
 | [.arr 2 m 0 len _,.func (.func 30) [] []]=>some (some (m,fun cs=>bif be cs.length (len*2)&&bT len 1000001 then(qV cs).bind fun l=>some (bQ ((ie l).map de)) else none))
 |_=>none
section
variable {Q:cw} (hP:Q.P=Tryz.prog) (hh:Q.hint=bI)
include hP hh
theorem alX {s0:St} {bx lo lim:Nat} {E:bj} {es:List db} (hE:ax E 2= .ptr bx 0) (hm:s0.minw<=s0.next) (hes:es.length<=1000000) (hkey: ∀e∈es, ∃k:ar,e.key= .str k):qU Q 1 s0 bx lo lim (.loop 78 E 13 [7] sl sm none) es:=by
 intro s xs k c hk hl hxs
 obtain⟨e,he,rfl⟩:=List.mem_map.1 hk
 obtain⟨b,hb⟩:=hkey e he
 rw[hb]
 refine akz hP hh hE (fun y hy=>?_) (by omega) hm c
 obtain⟨e2,he2,rfl⟩:=List.mem_map.1 (hxs y hy)
 obtain⟨b2,hb2⟩:=hkey e2 he2
 rw[hb2];rfl
theorem alY {s0:St} {bx lo lim:Nat} {E:bj} {es:List db} (hE:ax E 2= .ptr bx 0) (hm:s0.minw<=s0.next) (hes:es.length<=1000000) (hkey: ∀e∈es, ∃a b:ar,e.key= .agg [.str a,.str b]):qU Q 2 s0 bx lo lim (.loop 81 E 13 [7] sn sq none) es:=by
 intro s xs k c hk hl hxs
 obtain⟨e,he,rfl⟩:=List.mem_map.1 hk
 obtain⟨a,b,hb⟩:=hkey e he
 rw[hb]
 refine akA hP hh hE (fun y hy=>?_) (by omega) hm c
 obtain⟨e2,he2,rfl⟩:=List.mem_map.1 (hxs y hy)
 obtain⟨a2,b2,hb2⟩:=hkey e2 he2
 rw[hb2];rfl
def qR (Q:cw) (sz g:Nat) (s0:St) (cb:Nat) (es:List db):Prop:=
 ∀(s:St) (bx lo lim:Nat) (lob:bH),ia sz s0 s bx lo lim lob []->qU Q sz s0 bx lo s.next lob es-> ∃s',bz Q g [.yld lo,.ptr cb 0] s (.tup []) s'/\ ∃xs lim',ia sz s0 s' bx lo lim' lob xs/\xs.Perm (es.map (·.key))/\s.next<=s'.next
theorem Vp (h78:Q.spec 78=none) (hH78:Q.specH 78=none) (hW78:Q.specW 78=none) {g cb:Nat} {s0:St} {es:List db} (hm:s0.minw<=s0.next) (hes:es.length<=1000000) (hkey: ∀e∈es, ∃k:ar,e.key= .str k) (hg:mf Tryz.prog g=true) (hgv:qR Q 1 g s0 cb es):
 ∃v s',bz Q 78 [.nils,.func (.func g) [] [.ptr cb 0]] s0 v s'/\ ∃xs,nF 1 s0 s' v xs/\xs.Perm (es.map (·.key)):=by
 refine bz.ofEx (by rw[hP];exact agV) agR agX agW h78 ?_ hH78 hW78
 unfold Qo
 refine aF ?_
 unfold Qr
 simp only[dt,cY,az,aA,aB,ai,aN,jC,ak,aK,aD,jc,aw,bJ,aq,uX,cT,cF,aP,aW,bS,tA,aQ,ah,au,bE,cm,cj,dT,aaJ,hh,jc,ofValue,fH,wT]
 refine aR (aF ?_)
 unfold Qs
 simp only[az,aA,aB,ai,aH,ak,aw,cT,cF,bS,tA,ah,au]
 have hg1: ∀n o,n<s0.next->((s0.new (.cells [.nils])).new o).get [] n=s0.get [] n:=fun n o h=>by
  rw[df,jo,beq_eq_false_iff_ne.2 (by omega:n≠s0.next+1),cF,df,beq_eq_false_iff_ne.2 (by omega:n≠s0.next)];rfl
 have hcol: ∀lob,ia 1 s0 ((s0.new (.cells [.nils])).new lob) s0.next (s0.next+1) (s0.next+1) lob []:=fun lob=>
  ⟨fun n h=>hg1 n lob h,⟨bB _,io _,bB _,io _⟩,rfl,⟨.nils,by rw[df,jo,beq_eq_false_iff_ne.2 (by omega:s0.next≠s0.next+1),cF,df,bS];rfl,.inl ⟨rfl,rfl⟩⟩,by rw[df,jo,bS];rfl⟩
 obtain⟨s1,hr,xs,lim',c1,hp,hn1⟩:=hgv _ s0.next (s0.next+1) (s0.next+1) _ (hcol (.loop 78 ((((cY 0 [.nils,.func (.func g) [] [.ptr cb 0]]).set 2 (some (.ptr s0.next 0))).set 4 (some .nils)).set 6 (some (.func (.func g) [] [.ptr cb 0]))) 13 [7] sl sm none)) (alX hP hh (by simp only[ai,ah,cT,cF, *]) hm hes hkey)
 obtain⟨l1,l2,l3,l4⟩:=c1.lt
 obtain⟨v,hv,hrow⟩:=c1.box
 have hvc:v.clean=true:=by rcases hrow with⟨rfl,_⟩|⟨_,k,rfl,_⟩<;>rfl
 have hk1: ∀n,n≠s0.next+1->(s1.put (s0.next+1) none).get [] n=s1.get [] n:=fun n h=>by rw[cI,beq_eq_false_iff_ne.2 h];rfl
 have hbx:(s1.put (s0.next+1) none).get [] s0.next=some (.cells [v]):=(hk1 _ (by omega)).trans hv
 refine cO (W.rfun (h:=g) (first:=[]) (captured:=[.ptr cb 0]) (v:=.tup []) (s1:=s1) (by simp only[ak,ai,ah,cT,cF]) ?_ hr c1.loop ?_)
 ·rw[hP,hg,agU];rfl
 simp only[ub,dP,aU,jo]
 refine aF ?_
 unfold Qv
 simp only[az,aA,aB,ai,aN,bo,ak,aw,aq,cT,cF,a7,bO,bS,tA,ah,au,ic,hP,dv,hbx,du]
 refine cd ⟨.inr rfl,v,cE (by simp only[ai,ah,cT,cF, *]) hvc,xs,⟨fun n h=>(hk1 n (by omega)).trans (c1.old n h),?_,?_,?_⟩,hp⟩
 ·show s0.next<=s1.next
  omega
 ·rw[mr (by rw[c1.minw];omega)];exact c1.minw
 ·rcases hrow with h|⟨h1,k,h2,h3,h4,h5⟩
  ·exact .inl h
  ·exact .inr ⟨h1,k,h2,(hk1 k (by omega)).trans h3,by omega,h5⟩
theorem WZ (h78:Q.spec 78=none) (hH78:Q.specH 78=none) (hW78:Q.specW 78=none) (h47:Q.spec 47=none) (hH47:Q.specH 47=none) (hW47:Q.specW 47=none) {g cb:Nat} {s0:St} {es:List db} (hm:s0.minw<=s0.next) (hes:es.length<=1000000) (hkey: ∀e∈es, ∃k:ar,e.key= .str k) (hg:mf Tryz.prog g=true) (hgv:qR Q 1 g s0 cb es):
 ∃v s',bz Q 47 [.func (.func g) [] [.ptr cb 0]] s0 v s'/\ ∃xs,nF 1 s0 s' v xs/\xs.Perm (es.map (·.key)):=by
 obtain⟨v,s',hr,xs,hgot,hp⟩:=Vp hP hh h78 hH78 hW78 hm hes hkey hg hgv
 have hvc:=hgot.clean
 refine⟨v,s',ey (by rw[hP];exact aeY) aeX ae0 aeZ h47 ?_ hH47 hW47,xs,hgot,hp⟩
 unfold OD
 refine aF ?_
 unfold OE
 simp only[dt,cY,az,aA,aB,aN,aK,aw,cT,aP,aW,tA,aQ,au,cm,cj,dT,ofValue,fH]
 refine aR (gh (fU 1 ?_))
 unfold OG
 simp only[az,aA,aB,ai,aH,ak,aw,cT,cF,bN,a7,bS,tA,ah,au]
 refine fY (g:=78) (args:=[.nils,.func (.func g) [] [.ptr cb 0]]) ?_ hr (by decide) ?_
 ·simp only[callee,ai,ak,aK,ff,aD,bk,bm,aq,uX,oM,cT,cF,cq,cH,bS,ah,ofValue,fH]
 refine fX ?_
 simp only[az,aA,aB,ai,aN,ak,aw,cT,cF,bS,tA,ah,au,aU]
 exact cd ⟨rfl,.inr rfl,cE (by simp only[ai,ah,cT,cF, *]) hvc⟩
theorem Vq (h81:Q.spec 81=none) (hH81:Q.specH 81=none) (hW81:Q.specW 81=none) {g cb:Nat} {s0:St} {es:List db} (hm:s0.minw<=s0.next) (hes:es.length<=1000000) (hkey: ∀e∈es, ∃a b:ar,e.key= .agg [.str a,.str b]) (hg:mf Tryz.prog g=true) (hgv:qR Q 2 g s0 cb es):
 ∃v s',bz Q 81 [.nils,.func (.func g) [] [.ptr cb 0]] s0 v s'/\ ∃xs,nF 2 s0 s' v xs/\xs.Perm (es.map (·.key)):=by
 refine bz.ofEx (by rw[hP];exact ag4) agY ag6 ag5 h81 ?_ hH81 hW81
 unfold Qw
 refine aF ?_
 unfold Qz
 simp only[dt,cY,az,aA,aB,ai,aN,jC,ak,aK,aD,jc,aw,bJ,aq,uX,cT,cF,aP,aW,bS,tA,aQ,ah,au,bE,cm,cj,dT,aaM,hh,jc,ofValue,fH,wT]
 refine aR (aF ?_)
 unfold QA
 simp only[az,aA,aB,ai,aH,ak,aw,cT,cF,bS,tA,ah,au]
 have hg1: ∀n o,n<s0.next->((s0.new (.cells [.nils])).new o).get [] n=s0.get [] n:=fun n o h=>by
  rw[df,jo,beq_eq_false_iff_ne.2 (by omega:n≠s0.next+1),cF,df,beq_eq_false_iff_ne.2 (by omega:n≠s0.next)];rfl
 have hcol: ∀lob,ia 2 s0 ((s0.new (.cells [.nils])).new lob) s0.next (s0.next+1) (s0.next+1) lob []:=fun lob=>
  ⟨fun n h=>hg1 n lob h,⟨bB _,io _,bB _,io _⟩,rfl,⟨.nils,by rw[df,jo,beq_eq_false_iff_ne.2 (by omega:s0.next≠s0.next+1),cF,df,bS];rfl,.inl ⟨rfl,rfl⟩⟩,by rw[df,jo,bS];rfl⟩
 obtain⟨s1,hr,xs,lim',c1,hp,hn1⟩:=hgv _ s0.next (s0.next+1) (s0.next+1) _ (hcol (.loop 81 ((((cY 0 [.nils,.func (.func g) [] [.ptr cb 0]]).set 2 (some (.ptr s0.next 0))).set 4 (some .nils)).set 6 (some (.func (.func g) [] [.ptr cb 0]))) 13 [7] sn sq none)) (alY hP hh (by simp only[ai,ah,cT,cF, *]) hm hes hkey)
 obtain⟨l1,l2,l3,l4⟩:=c1.lt
 obtain⟨v,hv,hrow⟩:=c1.box
 have hvc:v.clean=true:=by rcases hrow with⟨rfl,_⟩|⟨_,k,rfl,_⟩<;>rfl
 have hk1: ∀n,n≠s0.next+1->(s1.put (s0.next+1) none).get [] n=s1.get [] n:=fun n h=>by rw[cI,beq_eq_false_iff_ne.2 h];rfl
 have hbx:(s1.put (s0.next+1) none).get [] s0.next=some (.cells [v]):=(hk1 _ (by omega)).trans hv
 refine cO (W.rfun (h:=g) (first:=[]) (captured:=[.ptr cb 0]) (v:=.tup []) (s1:=s1) (by simp only[ak,ai,ah,cT,cF]) ?_ hr c1.loop ?_)
 ·rw[hP,hg,ag3];rfl
 simp only[ub,dP,aU,jo]
 refine aF ?_
 unfold QD
 simp only[az,aA,aB,ai,aN,bo,ak,aw,aq,cT,cF,a7,bO,bS,tA,ah,au,SZ,hP,dv,hbx,du]
 refine cd ⟨.inr rfl,v,cE (by simp only[ai,ah,cT,cF, *]) hvc,xs,⟨fun n h=>(hk1 n (by omega)).trans (c1.old n h),?_,?_,?_⟩,hp⟩
 ·show s0.next<=s1.next
  omega
 ·rw[mr (by rw[c1.minw];omega)];exact c1.minw
 ·rcases hrow with h|⟨h1,k,h2,h3,h4,h5⟩
  ·exact .inl h
  ·exact .inr ⟨h1,k,h2,(hk1 k (by omega)).trans h3,by omega,h5⟩
theorem W0 (h81:Q.spec 81=none) (hH81:Q.specH 81=none) (hW81:Q.specW 81=none) (h50:Q.spec 50=none) (hH50:Q.specH 50=none) (hW50:Q.specW 50=none) {g cb:Nat} {s0:St} {es:List db} (hm:s0.minw<=s0.next) (hes:es.length<=1000000) (hkey: ∀e∈es, ∃a b:ar,e.key= .agg [.str a,.str b]) (hg:mf Tryz.prog g=true) (hgv:qR Q 2 g s0 cb es):
 ∃v s',bz Q 50 [.func (.func g) [] [.ptr cb 0]] s0 v s'/\ ∃xs,nF 2 s0 s' v xs/\xs.Perm (es.map (·.key)):=by
 obtain⟨v,s',hr,xs,hgot,hp⟩:=Vq hP hh h81 hH81 hW81 hm hes hkey hg hgv
 have hvc:=hgot.clean
 refine⟨v,s',ey (by rw[hP];exact afe) afd afg aff h50 ?_ hH50 hW50,xs,hgot,hp⟩
 unfold OM
 refine aF ?_
 unfold ON
 simp only[dt,cY,az,aA,aB,aN,aK,aw,cT,aP,aW,tA,aQ,au,cm,cj,dT,ofValue,fH]
 refine aR (gh (fU 1 ?_))
 unfold OO
 simp only[az,aA,aB,ai,aH,ak,aw,cT,cF,bN,a7,bS,tA,ah,au]
 refine fY (g:=81) (args:=[.nils,.func (.func g) [] [.ptr cb 0]]) ?_ hr (by decide) ?_
 ·simp only[callee,ai,ak,aK,ff,aD,bk,bm,aq,uX,oM,cT,cF,cq,cH,bS,ah,ofValue,fH]
 refine fX ?_
 simp only[az,aA,aB,ai,aN,ak,aw,cT,cF,bS,tA,ah,au,aU]
 exact cd ⟨rfl,.inr rfl,cE (by simp only[ai,ah,cT,cF, *]) hvc⟩
omit hP hh in
theorem alu {xs:List aj} {ks:List ar} (h:xs.Perm (ks.map bu)): ∃l:List ar,xs=l.map bu/\l.Perm ks:=by
 have hx: ∃l:List ar,xs=l.map bu:=by
  have: ∀(xs:List aj),(∀x∈xs, ∃b:ar,x=bu b)-> ∃l:List ar,xs=l.map bu:=by
   intro xs
   induction xs with
   |nil=>exact fun _=>⟨[],rfl⟩
   |cons x xs ih=>
    intro hx
    obtain⟨b,rfl⟩:=hx x (by simp)
    obtain⟨l,rfl⟩:=ih fun y hy=>hx y (by simp[hy])
    exact⟨b::l,rfl⟩
  refine this xs fun x hx=>?_
  obtain⟨b,_,e⟩:=List.mem_map.1 (h.mem_iff.1 hx)
  exact⟨b,e.symm⟩
 obtain⟨l,rfl⟩:=hx
 have hinj:Function.Injective bu:=fun a b e=>by
  have e:aj.str a=aj.str b:=e
  injection e
 have key: ∀(l r:List ar),(l.map bu).Perm (r.map bu)->l.Perm r:=by
  intro l r hp
  have h1:=hp.map (fun v=>match v with| .str b=>b|_=>([]:ar))
  have h2: ∀l:List ar,(l.map bu).map (fun v=>match v with| .str b=>b|_=>([]:ar))=l:=by
   intro l
   induction l with
   |nil=>rfl
   |cons a l ih=>
    rw[fw,fw,ih];rfl
  rw[h2,h2] at h1
  exact h1
 exact⟨l,rfl,key l ks h⟩
omit hP hh in
theorem Wr {xs:List aj} {ks:List (ar×ar)} (h:xs.Perm (ks.map de)): ∃l:List (ar×ar),xs=l.map de/\l.Perm ks:=by
 have hx: ∃l:List (ar×ar),xs=l.map de:=by
  have: ∀(xs:List aj),(∀x∈xs, ∃b:ar×ar,x=de b)-> ∃l:List (ar×ar),xs=l.map de:=by
   intro xs
   induction xs with
   |nil=>exact fun _=>⟨[],rfl⟩
   |cons x xs ih=>
    intro hx
    obtain⟨b,rfl⟩:=hx x (by simp)
    obtain⟨l,rfl⟩:=ih fun y hy=>hx y (by simp[hy])
    exact⟨b::l,rfl⟩
  refine this xs fun x hx=>?_
  obtain⟨b,_,e⟩:=List.mem_map.1 (h.mem_iff.1 hx)
  exact⟨b,e.symm⟩
 obtain⟨l,rfl⟩:=hx
 have key: ∀(l r:List (ar×ar)),(l.map de).Perm (r.map de)->l.Perm r:=by
  intro l r hp
  have h1:=hp.map (fun v=>match v with| .agg [.str a,.str b]=>(a,b)|_=>(([],[]):ar×ar))
  have h2: ∀l:List (ar×ar),(l.map de).map (fun v=>match v with| .agg [.str a,.str b]=>(a,b)|_=>(([],[]):ar×ar))=l:=by
   intro l
   induction l with
   |nil=>rfl
   |cons a l ih=>
    rw[fw,fw,ih];rfl
  rw[h2,h2] at h1
  exact h1
 exact⟨l,rfl,key l ks h⟩
theorem TF (hs: ∀n,n=25\/n=47\/n=78\/n=48->Q.spec n=none) (hH: ∀n,Q.specH n=none) (hW: ∀n,n=25\/n=47\/n=78->Q.specW n=none) (hW48:Q.specW 48=some wh) {g cb:Nat} {s0:St} {es:List db} {ks:List ar} (hm:s0.minw<=s0.next) (hes:es.length<=1000000) (hks:es.map (·.key)=ks.map bu) (hg:mf Tryz.prog g=true) (hgv:qR Q 1 g s0 cb es):
 ∃v s',bz Q 25 [.func (.func g) [] [.ptr cb 0]] s0 v s'/\nF 1 s0 s' v ((fh ks).map bu):=by
 have hkey: ∀e∈es, ∃k:ar,e.key= .str k:=fun e he=>by
  have h1:e.key∈ks.map bu:=by rw[<-hks];exact List.mem_map.2 ⟨e,he,rfl⟩
  obtain⟨b,_,e2⟩:=List.mem_map.1 h1
  exact⟨b,e2.symm⟩
 obtain⟨v,s1,hr,xs,hgot,hp⟩:=WZ hP hh (hs _ (by simp)) (hH _) (hW _ (by simp)) (hs _ (by simp)) (hH _) (hW _ (by simp)) hm hes hkey hg hgv
 rw[hks] at hp
 obtain⟨l,rfl,hl⟩:=alu hp
 have hsl:fh l=fh ks:=A0 hl
 have hlen:l.length<=1000000:=by
  have h1:=hl.length_eq
  have h2:=congrArg List.length hks
  simp only[eH] at h2
  omega
 have hvc:=hgot.clean
 have hsort: ∃s2,bz Q 48 [v] s1 (.tup []) s2/\nF 1 s0 s2 v ((fh ks).map bu):=by
  rcases hgot.row with⟨rfl,hx⟩|⟨hne,k,rfl,hk,h4,h5⟩
  ·refine⟨s1,bz.specW0 (hs _ (by simp)) (hH _) hW48 rfl,hgot.old,hgot.next,hgot.minw,.inl ⟨rfl,?_⟩⟩
   have hl0:l=[]:=List.map_eq_nil_iff.1 hx
   rw[<-hsl,hl0];rfl
  ·have hg1: ∀n o,n≠k->(s1.put k o).get [] n=s1.get [] n:=fun n o h=>by rw[cI,beq_eq_false_iff_ne.2 h];rfl
   rw[vj] at hk
   have hsll:(fh l).length=l.length:=(mz l).length_eq
   refine⟨_,bz.specW (n:=k) (cs':=(fh l).map bu) (hs _ (by simp)) (hH _) hW48 rfl hk ?_,fun n h=>(hg1 n _ (by omega)).trans (hgot.old n h),hgot.next,?_,.inr ⟨?_,k,?_,?_,h4,h5⟩⟩
   ·show(bif be (l.map bu).length (l.map bu).length&&bT (l.map bu).length 1000001 then(rS (l.map bu)).bind fun l=>some ((fh l).map bu) else none)=_
    have:bT (l.map bu).length 1000001=true:=eL (by rw[eH];omega)
    rw[this,aZ,bS,Hi];rfl
   ·rw[mr (by rw[hgot.minw];omega)];exact hgot.minw
   ·rw[<-hsl]
    intro hc
    have hc:=List.map_eq_nil_iff.1 hc
    rw[hc] at hsll
    exact hne (by rw[qN hsll.symm];rfl)
   ·rw[<-hsl,eH,eH,hsll]
   ·rw[cI,bS,vj,hsl];rfl
 obtain⟨s2,hr2,hgot2⟩:=hsort
 refine⟨v,s2,ey (by rw[hP];exact adF) adE adH adG (hs _ (by simp)) ?_ (hH _) (hW _ (by simp)),hgot2⟩
 unfold MA
 refine aF ?_
 unfold MB
 simp only[dt,cY,az,aA,aB,aN,aK,aw,cT,aP,aW,tA,aQ,au,cm,cj,dT,ofValue,fH]
 refine aR (gh (fU 1 ?_))
 unfold MC
 simp only[az,aA,aB,ai,aH,ak,aw,cT,cF,bN,a7,bS,tA,ah,au]
 refine fY (g:=47) (args:=[.func (.func g) [] [.ptr cb 0]]) ?_ hr (by decide) ?_
 ·simp only[callee,ai,ak,ff,aD,bk,bm,aq,oM,cT,cF,cq,cH,bS,ah]
 refine fX ?_
 simp only[az,aA,aB,ai,aN,ak,aw,cT,cF,bS,tA,ah,au,aU]
 refine aR (gh (fU 1 ?_))
 unfold MD
 simp only[az,aA,aB,ai,aH,ak,aw,cT,cF,bN,a7,bS,tA,ah,au]
 refine fY (g:=48) (args:=[v]) ?_ hr2 (by decide) ?_
 ·simp only[callee,ai,ak,ff,aD,bk,bm,aq,cT,cF,cq,cH,bS,ah,hvc]
 refine fX ?_
 simp only[az,aU]
 refine aF ?_
 unfold ME
 simp only[az,aA,aB,ai,aH,aN,ak,aw,cT,cF,bS,tA,ah,au]
 exact cd ⟨rfl,.inr rfl,cE (by simp only[ai,ah,cT,cF, *]) hvc⟩
theorem alj (hs: ∀n,n=28\/n=50\/n=81\/n=51->Q.spec n=none) (hH: ∀n,Q.specH n=none) (hW: ∀n,n=28\/n=50\/n=81->Q.specW n=none) (hW51:Q.specW 51=some wg) {g cb:Nat} {s0:St} {es:List db} {ks:List (ar×ar)} (hm:s0.minw<=s0.next) (hes:es.length<=1000000) (hks:es.map (·.key)=ks.map de) (hg:mf Tryz.prog g=true) (hgv:qR Q 2 g s0 cb es):
 ∃v s',bz Q 28 [.func (.func g) [] [.ptr cb 0],.func (.func 30) [] []] s0 v s'/\ ∃l,l.Perm ks/\nF 2 s0 s' v ((ie l).map de):=by
 have hkey: ∀e∈es, ∃a b:ar,e.key= .agg [.str a,.str b]:=fun e he=>by
  have h1:e.key∈ks.map de:=by rw[<-hks];exact List.mem_map.2 ⟨e,he,rfl⟩
  obtain⟨b,_,e2⟩:=List.mem_map.1 h1
  exact⟨b.1,b.2,e2.symm⟩
 obtain⟨v,s1,hr,xs,hgot,hp⟩:=W0 hP hh (hs _ (by simp)) (hH _) (hW _ (by simp)) (hs _ (by simp)) (hH _) (hW _ (by simp)) hm hes hkey hg hgv
 rw[hks] at hp
 obtain⟨l,rfl,hl⟩:=Wr hp
 have hlen:l.length<=1000000:=by
  have h1:=hl.length_eq
  have h2:=congrArg List.length hks
  simp only[eH] at h2
  omega
 have hvc:=hgot.clean
 have hsort: ∃s2,bz Q 51 [v,.func (.func 30) [] []] s1 (.tup []) s2/\nF 2 s0 s2 v ((ie l).map de):=by
  rcases hgot.row with⟨rfl,hx⟩|⟨hne,k,rfl,hk,h4,h5⟩
  ·refine⟨s1,bz.specW0 (hs _ (by simp)) (hH _) hW51 rfl,hgot.old,hgot.next,hgot.minw,.inl ⟨rfl,?_⟩⟩
   have hl0:l=[]:=List.map_eq_nil_iff.1 hx
   rw[hl0];rfl
  ·have hg1: ∀n o,n≠k->(s1.put k o).get [] n=s1.get [] n:=fun n o h=>by rw[cI,beq_eq_false_iff_ne.2 h];rfl
   have hsll:(ie l).length=l.length:=(sW l).length_eq
   refine⟨_,bz.specW (n:=k) (cs':=bQ ((ie l).map de)) (hs _ (by simp)) (hH _) hW51 rfl hk ?_,fun n h=>(hg1 n _ (by omega)).trans (hgot.old n h),hgot.next,?_,.inr ⟨?_,k,?_,?_,h4,h5⟩⟩
   ·show(bif be (bQ (l.map de)).length ((l.map de).length*2)&&bT (l.map de).length 1000001 then(qV (bQ (l.map de))).bind fun l=>some (bQ ((ie l).map de)) else none)=_
    have:bT (l.map de).length 1000001=true:=eL (by rw[eH];omega)
    rw[this,xe,eH,aZ,bS,Hg];rfl
   ·rw[mr (by rw[hgot.minw];omega)];exact hgot.minw
   ·intro hc
    have hc:=List.map_eq_nil_iff.1 hc
    rw[hc] at hsll
    exact hne (by rw[qN hsll.symm];rfl)
   ·rw[eH,eH,hsll]
   ·rw[cI,bS];rfl
 obtain⟨s2,hr2,hgot2⟩:=hsort
 refine⟨v,s2,ey (by rw[hP];exact adR) adQ adT adS (hs _ (by simp)) ?_ (hH _) (hW _ (by simp)),l,hl,hgot2⟩
 unfold MR
 refine aF ?_
 unfold MS
 simp only[dt,cY,az,aA,aB,aN,aK,aw,cT,aP,aW,tA,aQ,au,bE,cm,cj,dT,ofValue,fH]
 refine aR (gh (fU 1 ?_))
 unfold MT
 simp only[az,aA,aB,ai,aH,ak,aw,cT,cF,bN,a7,bS,tA,ah,au]
 refine fY (g:=50) (args:=[.func (.func g) [] [.ptr cb 0]]) ?_ hr (by decide) ?_
 ·simp only[callee,ai,ak,ff,aD,bk,bm,aq,oM,cT,cF,cq,cH,bS,ah]
 refine fX ?_
 simp only[az,aA,aB,ai,aN,ak,aw,cT,cF,bS,tA,ah,au,aU]
 refine aR (gh (fU 2 ?_))
 unfold MU
 simp only[az,aA,aB,ai,aH,ak,aw,cT,cF,bN,a7,bS,tA,ah,au]
 refine fY (g:=51) (args:=[v,.func (.func 30) [] []]) ?_ hr2 (by decide) ?_
 ·simp only[callee,ai,ak,ff,aD,bk,bm,aq,oM,cT,cF,cq,cH,bS,ah,hvc]
 refine fX ?_
 simp only[az,aU]
 refine aF ?_
 unfold MV
 simp only[az,aA,aB,ai,aH,aN,ak,aw,cT,cF,bS,tA,ah,au]
 exact cd ⟨rfl,.inr rfl,cE (by simp only[ai,ah,cT,cF, *]) hvc⟩
end
end Go.Proofs.YtbfmdojdemckbaaGreat
namespace Go.Proofs.YtbfmdojdemckbaaGreat
open Go.Ag
open Go.Sort (putRow putCells mapBlock onCells grow heap_grow_old Holds SWO)
structure GQ (w w':World):Prop where
 os:w'.os=w.os
 output:w'.output=w.output
 size:w.heap.size<=w'.heap.size
 block: ∀k,k<w.heap.size->w'.heap[k]? =w.heap[k]?
 tape:w'.tape=w.tape
 drawn:w.drawn<=w'.drawn
theorem Vc {G:Gh} {h:bv bH} {w w':World} (wr:WR G h w) (bl:GQ w w') (f:Nat->Nat->Option aj)
 (hf: ∀b o v,f b o=some v->w.heap.size<=b/\v.scal=true/\ ∃x,w'.cell? ⟨b,o,none⟩=some x/\VR G v x):
 ∃G':Gh,(∀b o v,f b o=some v->G'.ro b o=some v)/\G.le G'/\WR G' h w'/\dr G h w G' h w' 0 0:=by
 let G':Gh:= {at_:=G.at_,ro:=fun b o=>if b<w.heap.size then G.ro b o else f b o,dim:=G.dim }
 have hlt: ∀b o v,G.ro b o=some v->b<w.heap.size:=fun b o v e=>by
  obtain⟨_,x,hx,_⟩:=wr.ro b o v e
  exact World.block_lt_of_cell? w ⟨b,o,none⟩ hx
 have hle:G.le G':=⟨fun _ _ e=>e,fun b o v e=>by
  show(if b<w.heap.size then G.ro b o else f b o)=some v
  rw[if_pos (hlt b o v e)];exact e,fun _ _ e=>e⟩
 have hro: ∀b o v,G'.ro b o=some v->(b<w.heap.size/\G.ro b o=some v)\/(¬b<w.heap.size/\f b o=some v):=fun b o v e=>by
  have e:(if b<w.heap.size then G.ro b o else f b o)=some v:=e
  by_cases hb:b<w.heap.size
  ·rw[if_pos hb] at e;exact .inl ⟨hb,e⟩
  ·rw[if_neg hb] at e;exact .inr ⟨hb,e⟩
 refine⟨G',fun b o v e=>?_,hle,⟨?_,?_,?_,?_,?_,?_⟩,hle,bl.size,fun b hb _=>bl.block b hb,fun b _ o=>o,fun n a e e0=>(by have e:G.at_ n=some a:=e;rw[e] at e0;cases e0),?_,bl.os,bl.output,bl.size,fun a ha=>World.frozen?_of_block (bl.block _ ha),bl.tape,bl.drawn⟩
 ·show(if b<w.heap.size then G.ro b o else f b o)=some v
  have:=(hf b o v e).1
  rw[if_neg (by omega)];exact e
 ·intro n o e
  obtain⟨a,h1,h2,h3⟩:=wr.obj n o e
  exact⟨a,h1,h2,(h3.of_block (bl.block _ (wr.below n a h1))).mono hle⟩
 ·exact wr.sep
 ·intro b o v e
  rcases hro b o v e with⟨hb,e⟩|⟨hb,e⟩
  ·obtain⟨h1,x,h2,h3⟩:=wr.ro b o v e
   exact⟨h1,x,(World.cell?_of_block (bl.block b hb)).trans h2,h3.mono hle⟩
  ·obtain⟨_,h1,x,h2,h3⟩:=hf b o v e
   exact⟨h1,x,h2,h3.mono hle⟩
 ·intro n ob a i v e ea er
  rcases hro _ _ _ er with⟨_,er⟩|⟨hb,_⟩
  ·exact wr.apart n ob a i v e ea er
  ·exact absurd (wr.below n a ea) hb
 ·intro b d e
  obtain⟨C,el,h1,h2⟩:=wr.dim b d e
  have hb:b<w.heap.size:=by
   rcases im b w.heap.size with hb|hb
   ·exact hb
   ·rw[ux hb] at h1;cases h1
  exact⟨C,el,(bl.block b hb).trans h1,h2⟩
 ·exact fun n a e=>Nat.lt_of_lt_of_le (wr.below n a e) bl.size
 ·intro b o v hb e e0
  rcases hro b o v e with⟨_,e⟩|⟨hb',_⟩
  ·rw[e] at e0;cases e0
  ·exact absurd hb hb'
section
variable {α:Type} [Inhabited α]
theorem SS (enc:α->Value) (off:Nat) (d:Array α) (C:Array Value):(putCells enc off d C).size=C.size:=by simp[putCells]
theorem aj9 (enc:α->Value) (off:Nat) (d:Array α) (C:Array Value) {i:Nat} (hi:i<d.size) (hc:off+i<C.size):(putCells enc off d C)[off+i]? =some (enc d[i]!):=by
 simp[putCells,hc,hi]
theorem alm (enc:α->Value) (w:World) (blk off n:Nat) (d:Array α) (os:Array Go.Obj) {C:Array Value} {e:TypeId} (hb:w.heap[blk]? =some (.cells C e (0,0))) (k:Nat) (hk:k<w.heap.size):
 (grow (putRow enc (Sort.ahead w n) blk off d) os).heap[k]? =if k=blk then some (.cells (putCells enc off d C) e (0,0)) else w.heap[k]? :=by
 rw[heap_grow_old _ _ (by simpa using hk)]
 by_cases h:k=blk
 ·subst h
  simp[putRow,mapBlock,Sort.ahead,Bj,hb,onCells]
 ·have h': ¬blk=k:=fun e=>h e.symm
  simp[putRow,mapBlock,Sort.ahead,Bj,h,h']
theorem S9 {G:Gh} {h:bv bH} {w:World} (wr:WR G h w) {m:Nat} {a:Addr} {cs cs':List aj} (hl:h.get m=some (.cells cs)) (ha:G.at_ m=some a) (enc:α->Value) (d:Array α) (n:Nat) (os:Array Go.Obj)
 (hd: ∀C e,w.heap[a.block]? =some (.cells C e (0,0))->a.off+d.size<=C.size) (hc: ∀(i:Nat) v,cs'[i]? =some v->i<d.size/\v.scal=true/\VR G v (enc d[i]!)):
 ∃G',WR G' (h.set m (some (.cells cs'))) (grow (putRow enc (Sort.ahead w n) a.block a.off d) os)/\dr G h w G' (h.set m (some (.cells cs'))) (grow (putRow enc (Sort.ahead w n) a.block a.off d) os) 0 0/\VR G' (.tup []) (.tuple #[]):=by
 obtain⟨b,hb,_,C,e,hC,hdim,_⟩:=wr.obj m _ hl
 rw[ha] at hb;injection hb with hb;subst hb
 have hlt:=wr.below m a ha
 have hdC:=hd C e hC
 have hself:(dN w a.block (.cells (putCells enc a.off d C) e (0,0))).heap[a.block]? =some (.cells (putCells enc a.off d C) e (0,0)):=by rw[iZ _ _ _ _ hlt,if_pos rfl]
 obtain⟨c1,c2⟩:=wr.changed (o':=.cells cs') (ob:=.cells (putCells enc a.off d C) e (0,0)) hl ha
  ⟨_,e,hself,by rw[SS];exact hdim,fun i v hi=>by
    obtain⟨h1,h2,h3⟩:=hc i v hi
    exact⟨h2,_,aj9 enc a.off d C h1 (by omega),h3⟩⟩
  (fun i v hv=>by
   have:=(wr.apart m _ a i v hl ha hv).1
   cases this)
  (fun d' hd'=>by
   rw[hdim] at hd';injection hd' with hd'
   exact⟨_,e,rfl,by rw[SS];exact hd'⟩)
  rfl
 have hst:GQ (dN w a.block (.cells (putCells enc a.off d C) e (0,0))) (grow (putRow enc (Sort.ahead w n) a.block a.off d) os):=by
  refine⟨rfl,rfl,?_,fun k hk=>?_,rfl,?_⟩
  ·rw[vS];simp[grow]
  ·rw[vS] at hk
   rw[alm enc w a.block a.off n d os hC k hk,iZ _ _ _ _ hlt]
  ·show w.drawn<=w.drawn+n
   omega
 obtain⟨G',_,_,g3,g4⟩:=Vc c1 hst (fun _ _=>none) (by intro b o v e;cases e)
 exact⟨G',g3,(c2 0 0).trans g4 (bB _) (bB _),.tup .nil⟩
end
theorem Hh: ∀ {cs:List aj} {l:List ar},rS cs=some l->cs=l.map bu
 | [],l,h=>by
   simp only[rS,bg] at h
   subst h;rfl
 |v::cs,l,h=>by
  unfold rS at h
  split at h
  ·rename_i e;cases e
  ·rename_i a r e
   injection e with e1 e2
   subst e1;subst e2
   simp only[aG,bg] at h
   obtain⟨l,h1,rfl⟩:=h
   rw[Hh h1];rfl
  ·cases h
theorem Hf: ∀ {cs:List aj} {l:List (ar×ar)},qV cs=some l->cs=bQ (l.map de)
 | [],l,h=>by
   simp only[qV,bg] at h
   subst h;rfl
 | [v],l,h=>by
   unfold qV at h
   split at h
   ·rename_i e;cases e
   ·rename_i e;cases e
   ·cases h
 |v::u::cs,l,h=>by
  unfold qV at h
  split at h
  ·rename_i e;cases e
  ·rename_i a b r e
   injection e with e1 e2
   injection e2 with e2 e3
   subst e1;subst e2;subst e3
   simp only[aG,bg] at h
   obtain⟨l,h1,rfl⟩:=h
   rw[Hf h1];rfl
  ·cases h
def GY (f:FuncId) (sp:List aj->Option tx):Prop:=
 ∀args (G:Gh) (h:bv bH) (w:World) (xs:List Value),WR G h w->cp G args xs->
  (sp args=some none->kF Tryz.prog f ⟨xs⟩ w fun y w'=> ∃G',WR G' h w'/\dr G h w G' h w' 0 0/\VR G' (.tup []) y)/\
  ∀n g cs cs',sp args=some (some (n,g))->h.get n=some (.cells cs)->g cs=some cs'->
   kF Tryz.prog f ⟨xs⟩ w fun y w'=> ∃G',WR G' (h.set n (some (.cells cs'))) w'/\dr G h w G' (h.set n (some (.cells cs'))) w' 0 0/\VR G' (.tup []) y
theorem Hd {G:Gh} {sz m len lcap:Nat} {y:Value} (h:VR G (.arr sz m 0 len lcap) y): ∃(a b:Addr) (cap:Nat),y= .slice (some a) len cap/\G.at_ m=some b/\a.spot=none/\len<=cap/\(len=0\/(a.block=b.block/\a.off=b.off))/\(∃d,G.dim b.block=some d/\b.off+cap*sz<=d):=by
 cases h with
 |arr h1 h2 h3 h4 h5 h6 h7 h8=>
  rename_i a b cap d
  refine⟨a,b,cap,rfl,h1,h2,by omega,?_,d,h7,by simpa using h8⟩
  rcases h6 with h6|h6
  ·exact .inl (by omega)
  ·exact .inr (by simpa using h6)
theorem ali:GY 48 wh:=by
 intro args G h w xs wr hx
 refine⟨fun hsp=>?_,fun n g cs cs' hsp hl hg=>?_⟩
 ·unfold wh at hsp
  split at hsp
  ·cases hx with
   |cons p q=>
    cases q
    cases p
    refine .inr ⟨Go.Proofs.enters_of Tryz.func48 (by kernel_rfl) rfl _ _,(AnyM.slices_Sort_string_none Tryz.sort48 none 0 w).mono ?_⟩
    rintro e w' ⟨rfl,rfl⟩
    exact⟨_,rfl,G,wr,.refl,.tup .nil⟩
  ·cases hsp
  ·cases hsp
 ·unfold wh at hsp
  split at hsp
  ·cases hsp
  ·rename_i m len lcap
   simp only[bg,bL] at hsp
   obtain⟨rfl,rfl⟩:=hsp
   obtain⟨hb,hg⟩:=bX hg
   simp only[cZ] at hb
   have hlen:=ik hb.1
   have hsm:=iL hb.2
   simp only[aG,bg] at hg
   obtain⟨l,h1,rfl⟩:=hg
   have hcs:=Hh h1
   subst hcs
   rw[eH] at hlen
   cases hx with
   |cons p q=>
    cases q
    obtain⟨a,b,cap,rfl,hat,hspot,hcap,hab,d,hdim,hd⟩:=Hd p
    obtain⟨b',hb',_,C,e,hC,hdimC,hcs⟩:=wr.obj m _ hl
    rw[hat] at hb';injection hb' with hb';subst hb'
    rw[hdimC] at hdim;injection hdim with hdim
    have hCs: ∀i (hi:i<l.length),C[b.off+i]? =some (encStr l[i]):=fun i hi=>by
     obtain⟨_,x,hx1,hx2⟩:=hcs i (bu l[i]) (by rw[rE,js hi];rfl)
     cases hx2
     exact hx1
    have hsl:(fh l).length=l.length:=(mz l).length_eq
    have hfin: ∀n os, ∃G',WR G' (h.set m (some (.cells ((fh l).map bu)))) (grow (putRow encStr (Sort.ahead w n) b.block b.off (fh l).toArray) os)/\dr G h w G' (h.set m (some (.cells ((fh l).map bu)))) (grow (putRow encStr (Sort.ahead w n) b.block b.off (fh l).toArray) os) 0 0/\VR G' (.tup []) (.tuple #[]):=fun n os=>by
     refine S9 wr hl hat encStr (fh l).toArray n os (fun C' e' hC'=>?_) (fun i v hi=>?_)
     ·rw[hC] at hC';injection hC' with hC';injection hC' with hC' _ _;subst hC'
      rw[uE,hsl,hdim];omega
     ·rw[rE,Option.map_eq_some_iff] at hi
      obtain⟨s,hs,rfl⟩:=hi
      obtain⟨hi,hs⟩:=List.getElem?_eq_some_iff.1 hs
      refine⟨by simpa using hi,rfl,?_⟩
      have:(fh l).toArray[i]! =s:=by simp[hi,hs]
      rw[this];exact .str s
    rcases hab with h0|⟨hab1,hab2⟩
    ·have hl0:l=[]:=qN (by omega)
     subst hl0
     have h0':len=0:=h0
     subst h0'
     refine .inr ⟨Go.Proofs.enters_of Tryz.func48 (by kernel_rfl) rfl _ _,(AnyM.slices_Sort_string_none Tryz.sort48 (some a) cap w).mono ?_⟩
     rintro e' w' ⟨rfl,rfl⟩
     obtain⟨G',g1,g2,g3⟩:=hfin 0 #[]
     have hw:grow (putRow encStr (Sort.ahead w' 0) b.block b.off (fh []).toArray) #[]=w':=by
      rw[Go.Sort.grow_empty,Go.Sort.ahead_zero]
      exact Go.Sort.putRow_self encStr w' b.block b.off _ (fun j hj=>by simp[fh] at hj)
     rw[hw] at g1 g2
     exact⟨_,rfl,G',g1,g2,g3⟩
    ·obtain⟨ab,ao,asp⟩:=a
     simp only at hab1 hab2 hspot
     subst hab1;subst hab2;subst hspot
     have hH:Holds encStr w b.block b.off l.toArray:=fun j hj=>by
      have hj':j<l.length:=by simpa using hj
      refine⟨?_,by simp[World.frozen?,hC]⟩
      rw[nN hC,hCs j hj']
      simp[hj']
     have hbl:=wr.below m b hat
     rw[<-hlen]
     refine .inr ⟨Go.Proofs.enters_of Tryz.func48 (by kernel_rfl) rfl _ _,(AnyM.slices_Sort_string Tryz.sort48 b.block b.off cap l w hH hbl (by omega)).mono ?_⟩
     rintro e' w' ⟨rfl,n,os,rfl⟩
     rw[F6]
     obtain⟨G',g1,g2,g3⟩:=hfin n os
     exact⟨_,rfl,G',g1,g2,g3⟩
  ·cases hsp
end Go.Proofs.YtbfmdojdemckbaaGreat
namespace Go.Proofs.YtbfmdojdemckbaaGreat
open Go.Ag
def dq (k:ar):List Obj->Option Obj
 | []=>none
 |o::l=>bif k==o.id then some o else dq k l
theorem sI {k:ar}: ∀ {l:List Obj} {q:Obj},dq k l=some q->q∈l/\q.id=k
 | [],_,h=>by cases h
 |o::r,q,h=>by
  simp only[dq] at h
  cases hb:k==o.id with
  |true=>
   rw[hb] at h
   injection h with h;subst h
   have:k=o.id:=by simpa using hb
   exact⟨by simp,this.symm⟩
  |false=>
   rw[hb] at h
   obtain⟨h1,h2⟩:=sI h
   exact⟨by simp[h1],h2⟩
theorem Ry (p k:ar):hZ p k= !Ag.leBytes k p:=by
 rw[Ag.leBytes_iff,Go.Proofs.bytesLess_eq]
 by_cases h:k<=p
 ·have h1: ¬p<k:=List.not_lt.2 h
  simp[kM,h,h1]
 ·have h1:p<k:=List.not_le.1 h
  simp[kM,h,h1]
theorem I2: ∀(l:List Obj) (last:ar),pL last l=true->(∀k∈l.map (·.id),hZ last k=true)/\(l.map (·.id)).Pairwise (fun a b=>hZ a b=true)
 | [],_,_=>⟨fun k h=>(by cases h),List.Pairwise.nil⟩
 |o::r,last,h=>by
  simp only[pL] at h
  cases hb:(!iO o||Ag.leBytes o.id last) with
  |true=>rw[hb] at h;cases h
  |false=>
   rw[hb] at h
   simp only[rA] at hb
   obtain⟨h1,h2⟩:=I2 r o.id h
   have h3:hZ last o.id=true:=by rw[Ry,hb.2];rfl
   refine⟨fun k hk=>?_,List.pairwise_cons.2 ⟨h1,h2⟩⟩
   rcases List.mem_cons.1 hk with rfl|hk
   ·exact h3
   ·have h4:=h1 k hk
    rw[Go.Proofs.bytesLess_eq,decide_eq_true_eq] at h3 h4 ⊢
    exact List.lt_trans h3 h4
theorem Rx (k:ar):hZ k k=false:=by
 rw[Go.Proofs.bytesLess_eq];exact decide_eq_false (List.lt_irrefl k)
theorem Di {l:List Obj} (h:iX l=true):(l.map (·.id)).Nodup:=by
 simp only[iX,cZ] at h
 refine(I2 l [] h.1).2.imp fun hab e=>?_
 subst e
 rw[Rx] at hab;cases hab
theorem xU {l:List Obj} {k:ar}:dq k l≠none↔k∈l.map (·.id):=by
 constructor
 ·intro h
  cases e:dq k l with
  |none=>exact absurd e h
  |some q=>
   obtain⟨h1,h2⟩:=sI e
   exact List.mem_map.2 ⟨q,h1,h2⟩
 ·intro h
  induction l with
  |nil=>cases h
  |cons o r ih=>
   simp only[dq]
   cases hb:k==o.id with
   |true=>simp
   |false=>
    have hne:k≠o.id:=by simpa using hb
    simp only[fw,om] at h
    exact ih (h.resolve_left hne)
theorem vl {g:aj->Option aj}: ∀ {l:List aj},(∀v∈l,g v=some v)->eE g l=some l
 | [],_=>rfl
 |v::l,h=>by
  have ih:=vl (g:=g) (l:=l) fun u hu=>h u (by simp[hu])
  simp only[eE,h v (by simp),ih,aq]
theorem Iy (h:bv bH) {k n:Nat} {xs:List aj} {r:fD} (hp:bP (.list n xs r)=true) (hx: ∀v∈xs,dh h k v=some v):dh h (k+1) (.list n xs r)=some (.list n xs r):=by
 simp only[dh,vl hx,aq]
 cases r with
 |own m=>simp[bP] at hp
 |_=>rfl
theorem YC (h:bv bH) {o:Obj} (ho:o.Good) (k:Nat):dh h (k+4) o.val=some o.val:=by
 have hr:dh h (k+3) o.refsV=some o.refsV:=by
  have hp:=ho.pr
  rcases ho.refs with⟨e,_⟩|⟨r,e⟩
  ·rw[e];rfl
  ·rw[e] at hp ⊢
   refine Iy h hp fun v hv=>?_
   obtain⟨s,_,rfl⟩:=List.mem_map.1 hv
   rfl
 have ht:dh h (k+3) o.tagsV=some o.tagsV:=by
  have hp:=ho.pt
  rcases ho.tags with⟨e,_⟩|⟨r,e⟩
  ·rw[e];rfl
  ·rw[e] at hp ⊢
   refine Iy h hp fun v hv=>?_
   obtain⟨s,_,rfl⟩:=List.mem_map.1 hv
   rfl
 show(eE (dh h (k+3)) o.cells).bind (fun r=>some (aj.agg r))=_
 rw[vl (l:=o.cells) fun v hv=>?_]
 ·rfl
 ·simp only[Obj.cells,om,List.not_mem_nil,or_false] at hv
  rcases hv with rfl|rfl|rfl|rfl|rfl|rfl
  ·rfl
  ·rfl
  ·rfl
  ·rfl
  ·exact hr
  ·exact ht
theorem Ac (l:List ar):bC 1 bu (xF (l.map bu)) l:=by
 cases l with
 |nil=>exact .inl ⟨rfl,rfl⟩
 |cons a l=>exact .inr ⟨.no,rfl⟩
theorem XY {B:Nat} (_hB:0<B) (p:(Nat->Nat)->Nat->Prop) (mono: ∀ch n m,n<=m->p ch n->p ch m) (loc: ∀ch n,p ch n-> ∃k, ∀ch',(∀i,i<k->ch' i=ch i)->p ch' n)
 (all: ∀ch,(∀i,ch i<B)-> ∃n,p ch n): ∃N, ∀ch,(∀i,ch i<B)->p ch N:=by
 classical
 let Good:List Nat->Prop:=fun l=> ∃N, ∀ch:Nat->Nat,(∀i,ch i<B)->(∀i x,l[i]? =some x->ch i=x)->p ch N
 have step: ∀l, ¬Good l-> ∃c,c<B/\ ¬Good (l++[c]):=by
  intro l hl
  refine lW fun hc=>hl ?_
  have hc: ∀c,c<B->Good (l++[c]):=fun c h=>lW fun h'=>hc ⟨c,h,h'⟩
  have hall: ∀m,m<=B-> ∃N, ∀c,c<m-> ∀ch:Nat->Nat,(∀i,ch i<B)->(∀i x,(l++[c])[i]? =some x->ch i=x)->p ch N:=by
   intro m
   induction m with
   |zero=>exact fun _=>⟨0,fun c h=>by omega⟩
   |succ m ih=>
    intro hm
    obtain⟨N1,h1⟩:=ih (by omega)
    obtain⟨N2,h2⟩:=hc m (by omega)
    refine⟨max N1 N2,fun c hcm ch a b=>?_⟩
    by_cases h:c<m
    ·exact mono _ _ _ (Nat.le_max_left _ _) (h1 c h ch a b)
    ·have:c=m:=by omega
     subst this
     exact mono _ _ _ (Nat.le_max_right _ _) (h2 ch a b)
  obtain⟨N,hN⟩:=hall B (bB _)
  refine⟨N,fun ch a b=>hN (ch l.length) (a _) ch a fun i x hx=>?_⟩
  rcases im i l.length with h|h
  ·rw[o8 h] at hx;exact b i x hx
  ·rw[pY h] at hx
   cases hi:i-l.length with
   |zero=>
    rw[hi] at hx
    simp only[gg,bg] at hx
    have:i=l.length:=by omega
    rw[this,hx]
   |succ j=>rw[hi] at hx;simp at hx
 refine lW fun hbad=>?_
 have h0: ¬Good []:=fun⟨N,hN⟩=>hbad ⟨N,fun ch a=>hN ch a fun i x hx=>by simp at hx⟩
 let pre:Nat-> {l:List Nat // ¬Good l}:=fun n=>Nat.rec ⟨[],h0⟩ (fun _ q=>⟨q.1++[(step q.1 q.2).choose],(step q.1 q.2).choose_spec.2⟩) n
 have hlen: ∀n,(pre n).1.length=n:=by
  intro n
  induction n with
  |zero=>rfl
  |succ n ih=>
   show((pre n).1++[_]).length=_
   rw[dp,ih];rfl
 let ch:Nat->Nat:=fun n=>(step (pre n).1 (pre n).2).choose
 have hch: ∀n,ch n<B:=fun n=>(step (pre n).1 (pre n).2).choose_spec.1
 have hget: ∀n i,i<n->(pre n).1[i]? =some (ch i):=by
  intro n
  induction n with
  |zero=>intro i h;omega
  |succ n ih=>
   intro i h
   show((pre n).1++[ch n])[i]? =_
   rcases im i n with h2|h2
   ·rw[o8 (by rw[hlen];exact h2)];exact ih i h2
   ·have:i=n:=by omega
    subst this
    rw[pY (by rw[hlen];exact bB _),hlen];simp
 obtain⟨n,hn⟩:=all ch hch
 obtain⟨k,hk⟩:=loc ch n hn
 exact(pre k).2 ⟨n,fun ch' _ b=>hk ch' fun i hi=>b i _ (hget k i hi)⟩
theorem BZ (P:Program) (t:TypeId) (a b:List UInt8):fy P .gtr t (.str a) (.str b)=some (.bool (!Ag.leBytes a b)):=rfl
theorem ahC (a b:ar):(!Ag.leBytes a b)=hZ b a:=(Ry b a).symm
def vF:Sp
 | [.int .i64 _a]=>some (.bool false)
 |_=>none
theorem aiQ {sp:FuncId->Option (List aj->Option aj)} (h0:sp 187=none) (a:Int) (s:St):bz (QS sp) 187 [.int .i64 a] s (.bool false) s:=by
 refine ey ac5 ac4 ac7 ac6 h0 ?_
 unfold Lw
 refine aF ?_
 unfold Lx
 simp only[dt,cY,az,aA,aB,aN,aK,bW,aw,cT,aP,aW,tA,aQ,au,cm,cj,dT]
 refine aF ?_
 unfold Ly
 simp only[az,aA,aB,ai,aH,aN,aX,ak,aD,aw,qg,aq,bf,cT,cF,aV,dS,bS,tA,ah,au,vp]
 exact cd ⟨rfl,.inr rfl,cE (by simp only[ai,ah,cT,cF, *]) rfl⟩
theorem aiP:eN Tryz.prog 187 vF:=by
 intro args x hv G h w xs wr hx
 unfold vF at hv
 split at hv
 ·rename_i a
  injection hv with hv;subst hv
  exact gS (Q:=QT []) (gK .nil) (fun _=>gV 1) (args:=[.int .i64 a]) (v:=.bool false) (s':=s0) rfl (aiQ (sp:=fun f=>fv f []) rfl a s0) rfl ⟨1,rfl⟩ G h w xs wr hx
 ·cases hv
def jn (a b:Int):Int:=bif dz a b then-1 else bif dz b a then 1 else 0
def pj:Sp
 | [.int .i64 a,.int .i64 b]=>some (.int .i64 (jn a b))
 |_=>none
theorem WF {sp:FuncId->Option (List aj->Option aj)} (h0:sp 122=none) (h1:sp 187=some vF) (a b:Int) (s:St):bz (QS sp) 122 [.int .i64 a,.int .i64 b] s (.int .i64 (jn a b)) s:=by
 have ha:vF [.int .i64 a]=some (.bool false):=rfl
 have hb:vF [.int .i64 b]=some (.bool false):=rfl
 refine ey acj aci acp aco h0 ?_
 unfold Ka
 refine aF ?_
 unfold Kb
 simp only[dt,cY,az,aA,aB,aN,aK,bt,aw,cT,aP,aW,tA,aQ,au,bE,cm,cj,dT]
 refine aF ?_
 unfold Kc
 simp only[az,aA,aB,ai,aH,aN,dK,dI,ak,aD,bk,bm,aw,aq,bf,cT,cF,ei,bS,tA,ah,au,h1,ha]
 refine aF ?_
 unfold Kh
 simp only[az,aA,aB,ai,aH,aN,dK,dI,ak,aD,bk,bm,aw,aq,bf,cT,cF,ei,bS,tA,ah,au,h1,hb]
 refine aR (aF ?_)
 unfold Ki
 simp only[az,aA,aB,ai,aH,ak,aw,cT,cF,bS,tA,ah,au]
 refine bc (t:=false) (by simp only[ak,ai,ah,cT,cF, *]) (ck ?_)
 simp only[aU]
 refine aR (aF ?_)
 unfold Kj
 simp only[az,aA,aB,ai,aH,ak,aw,cT,cF,bS,tA,ah,au]
 refine bc (t:=false) (by simp only[ak,ai,ah,cT,cF, *]) (ck ?_)
 simp only[aU]
 refine aR (aF ?_)
 unfold Kk
 simp only[az,aA,aB,ai,aH,aX,ak,aD,aw,cQ,aq,bf,cT,cF,aV,bS,tA,ah,au]
 cases h2:dz a b with
 |true=>
  refine bc (t:=true) (by simp only[ak,ai,ah,cT,cF]) (aF ?_)
  unfold Kd
  simp only[az,aA,aB,aN,aK,bt,aw,tA,au]
  exact cd ⟨rfl,.inr rfl,cE (by simp only[ai,ah,cT,cF,jn,h2]) rfl⟩
 |false=>
  refine bc (t:=false) (by simp only[ak,ai,ah,cT,cF]) (ck ?_)
  simp only[aU]
  refine aR (aF ?_)
  unfold Ke
  simp only[az,aA,aB,ai,aH,aX,ak,aD,aw,nL,aq,bf,cT,cF,aV,bS,tA,ah,au]
  cases h3:dz b a with
  |true=>
   refine bc (t:=true) (by simp only[ak,ai,ah,cT,cF]) (aF ?_)
   unfold Kf
   simp only[az,aA,aB,aN,aK,bt,aw,tA,au]
   exact cd ⟨rfl,.inr rfl,cE (by simp only[ai,ah,cT,cF,jn,h2,h3]) rfl⟩
  |false=>
   refine bc (t:=false) (by simp only[ak,ai,ah,cT,cF]) (ck ?_)
   simp only[aU]
   refine aF ?_
   unfold Kg
   simp only[az,aA,aB,aN,aK,bt,aw,tA,au]
   exact cd ⟨rfl,.inr rfl,cE (by simp only[ai,ah,cT,cF,jn,h2,h3]) rfl⟩
def BI:eV:=[(187,vF)]
theorem U5:fT BI:=.cons aiP .nil
theorem HF:eN Tryz.prog 122 pj:=by
 intro args x hv G h w xs wr hx
 unfold pj at hv
 split at hv
 ·rename_i a b
  injection hv with hv;subst hv
  exact gS (Q:=QT BI) (gK U5) (fun _=>gV 1) (args:=[.int .i64 a,.int .i64 b]) (v:=.int .i64 (jn a b)) (s':=s0) rfl (WF (sp:=fun f=>fv f BI) rfl rfl a b s0) rfl ⟨1,rfl⟩ G h w xs wr hx
 ·cases hv
def vG:Sp
 | [.str _a]=>some (.bool false)
 |_=>none
theorem aiS {sp:FuncId->Option (List aj->Option aj)} (h0:sp 194=none) (a:ar) (s:St):bz (QS sp) 194 [.str a] s (.bool false) s:=by
 refine ey adi adh adk adj h0 ?_
 unfold LM
 refine aF ?_
 unfold LN
 simp only[dt,cY,az,aA,aB,aN,aK,bW,aw,cT,aP,aW,tA,aQ,au,cm,cj,dT]
 refine aF ?_
 unfold LO
 simp only[az,aA,aB,ai,aH,aN,aX,ak,aD,aw,uU,aq,cS,cT,cF,aV,dS,bS,tA,ah,au]
 exact cd ⟨rfl,.inr rfl,cE (by simp only[ai,ah,cT,cF, *]) rfl⟩
theorem aiR:eN Tryz.prog 194 vG:=by
 intro args x hv G h w xs wr hx
 unfold vG at hv
 split at hv
 ·rename_i a
  injection hv with hv;subst hv
  exact gS (Q:=QT []) (gK .nil) (fun _=>gV 1) (args:=[.str a]) (v:=.bool false) (s':=s0) rfl (aiS (sp:=fun f=>fv f []) rfl a s0) rfl ⟨1,rfl⟩ G h w xs wr hx
 ·cases hv
def kW (a b:ar):Int:=bif hZ a b then-1 else bif hZ b a then 1 else 0
def uZ:Sp
 | [.str a,.str b]=>some (.int .i64 (kW a b))
 |_=>none
theorem WI {sp:FuncId->Option (List aj->Option aj)} (h0:sp 188=none) (h1:sp 194=some vG) (a b:ar) (s:St):bz (QS sp) 188 [.str a,.str b] s (.int .i64 (kW a b)) s:=by
 have ha:vG [.str a]=some (.bool false):=rfl
 have hb:vG [.str b]=some (.bool false):=rfl
 refine ey ac9 ac8 adg adf h0 ?_
 unfold Lz
 refine aF ?_
 unfold LA
 simp only[dt,cY,az,aA,aB,aN,aK,bt,aw,cT,aP,aW,tA,aQ,au,bE,cm,cj,dT]
 refine aF ?_
 unfold LC
 simp only[az,aA,aB,ai,aH,aN,dK,dI,ak,aD,bk,bm,aw,aq,cS,cT,cF,ei,bS,tA,ah,au,h1,ha]
 refine aF ?_
 unfold LI
 simp only[az,aA,aB,ai,aH,aN,dK,dI,ak,aD,bk,bm,aw,aq,cS,cT,cF,ei,bS,tA,ah,au,h1,hb]
 refine aR (aF ?_)
 unfold LJ
 simp only[az,aA,aB,ai,aH,ak,aw,cT,cF,bS,tA,ah,au]
 refine bc (t:=false) (by simp only[ak,ai,ah,cT,cF, *]) (ck ?_)
 simp only[aU]
 refine aR (aF ?_)
 unfold LK
 simp only[az,aA,aB,ai,aH,ak,aw,cT,cF,bS,tA,ah,au]
 refine bc (t:=false) (by simp only[ak,ai,ah,cT,cF, *]) (ck ?_)
 simp only[aU]
 refine aR (aF ?_)
 unfold LL
 simp only[az,aA,aB,ai,aH,aX,ak,aD,aw,V4,aq,cS,cT,cF,aV,bS,tA,ah,au]
 cases h2:hZ a b with
 |true=>
  refine bc (t:=true) (by simp only[ak,ai,ah,cT,cF]) (aF ?_)
  unfold LD
  simp only[az,aA,aB,aN,aK,bt,aw,tA,au]
  exact cd ⟨rfl,.inr rfl,cE (by simp only[ai,ah,cT,cF,kW,h2]) rfl⟩
 |false=>
  refine bc (t:=false) (by simp only[ak,ai,ah,cT,cF]) (ck ?_)
  simp only[aU]
  refine aR (aF ?_)
  unfold LF
  simp only[az,aA,aB,ai,aH,aX,ak,aD,aw,aq,cS,cT,cF,aV,bS,tA,ah,au,BZ,ahC]
  cases h3:hZ b a with
  |true=>
   refine bc (t:=true) (by simp only[ak,ai,ah,cT,cF]) (aF ?_)
   unfold LG
   simp only[az,aA,aB,aN,aK,bt,aw,tA,au]
   exact cd ⟨rfl,.inr rfl,cE (by simp only[ai,ah,cT,cF,kW,h2,h3]) rfl⟩
  |false=>
   refine bc (t:=false) (by simp only[ak,ai,ah,cT,cF]) (ck ?_)
   simp only[aU]
   refine aF ?_
   unfold LH
   simp only[az,aA,aB,aN,aK,bt,aw,tA,au]
   exact cd ⟨rfl,.inr rfl,cE (by simp only[ai,ah,cT,cF,kW,h2,h3]) rfl⟩
def BL:eV:=[(194,vG)]
theorem U8:fT BL:=.cons aiR .nil
theorem WG:eN Tryz.prog 188 uZ:=by
 intro args x hv G h w xs wr hx
 unfold uZ at hv
 split at hv
 ·rename_i a b
  injection hv with hv;subst hv
  exact gS (Q:=QT BL) (gK U8) (fun _=>gV 1) (args:=[.str a,.str b]) (v:=.int .i64 (kW a b)) (s':=s0) rfl (WI (sp:=fun f=>fv f BL) rfl rfl a b s0) rfl ⟨1,rfl⟩ G h w xs wr hx
 ·cases hv
def ze (n:Int):aj:=.int .i64 n
def asInt:aj->Option Int
 | .int .i64 n=>some n
 |_=>none
theorem Vt {v:aj} {n:Int} (h:asInt v=some n):v=ze n:=by
 unfold asInt at h
 split at h
 ·injection h with h;subst h;rfl
 ·cases h
def gN (p:Int×Int):aj:=.agg [.int .i64 p.1,.int .i64 p.2]
def tD:aj->Option (Int×Int)
 | .agg [.int .i64 a,.int .i64 b]=>some (a,b)
 |_=>none
theorem wP {v:aj} {p:Int×Int} (h:tD v=some p):v=gN p:=by
 unfold tD at h
 split at h
 ·injection h with h;subst h;rfl
 ·cases h
def ld:List Int->Int
 | []=>0
 |x::l=>bif bD x 0 then ld l else x
theorem ajH {sp:FuncId->Option (List aj->Option aj)} {v:aj} {l:List Int} (hl:bC 1 ze v l) (hsmall:l.length<small) {s:St} {lc:Ag.Loc}: ∀(rest pre:List Int) (e:bj),l=pre++rest->
 ax e 3= .int .i64 0->ax e 6=v->ax e 7= .int .i64 (l.length:Nat)->ax e 8= .int .i64 (pre.length:Nat)->
 W (QS sp) 31 (.loop zz) ⟨e,18,lc⟩ s fun x fr s'=>s'=s/\fr.size=18/\((x= .exit 0/\ld rest=0/\ax fr.env 3= .int .i64 0)\/(x= .ret/\ax fr.env 2= .int .i64 (ld rest))):=by
 intro rest
 have hcl:=hl.clean
 have hsm:small=9223372036854775808:=rfl
 induction rest with
 |nil=>
  intro pre e hpre h3 h6 h7 h8
  have hl':l.length=pre.length:=by rw[hpre];simp
  refine cR ?_
  unfold zz
  refine aF ?_
  unfold DY
  simp only[az,aA,aB,aX,ak,aD,aw,cQ,aq,bf,cT,aV,da,tA,au,decide_false,h7,h8,hl',eU]
  refine aR (bc (t:=false) (by simp only[ak,ai,ah,cT, *]) ?_)
  exact eD ⟨rfl,rfl,.inl ⟨rfl,rfl,by simp only[ai,ah,cF, *]⟩⟩
 |cons a rest ih=>
  intro pre e hpre h3 h6 h7 h8
  have hlt:pre.length<l.length:=by rw[hpre];simp
  have hat:l[pre.length]? =some a:=by rw[hpre];simp
  have hia:=fun lc=>hl.at aa5 hat lc .i64
  have hwr:IntKind.i64.wrap ((pre.length:Int)+1)=((pre.length+1:Nat):Int):=by rw[ew (by omega) (by omega)];omega
  refine cR ?_
  unfold zz
  refine aF ?_
  unfold DY
  simp only[az,aA,aB,aX,ak,aD,aw,cQ,aq,bf,cT,aV,da,tA,au,dT,h7,h8,hlt]
  refine aR (bc (t:=true) (by simp only[ak,ai,ah,cT, *]) (ck ?_))
  simp only[aU]
  refine aR (cO (aF ?_))
  unfold M9
  simp only[az,aA,aB,ai,aN,bo,ek,ak,fQ,aw,wS,aq,cT,cF,aV,a7,bO,bS,tA,ah,au,fJ,h6,h8,hia,ze]
  refine aF ?_
  unfold Na
  simp only[az,aA,aB,ai,aH,aX,ak,aD,aw,qg,aq,bf,cT,cF,aV,bS,tA,ah,au,h3]
  cases hz:bD a 0 with
  |false=>
   refine bc (t:=true) (by simp only[ak,ai,ah,cT,cF,gU]) (aF ?_)
   unfold Nb
   simp only[az,aA,aB,ai,aH,aN,ak,aw,cT,cF,gU,bS,tA,ah,au]
   exact cd ⟨rfl,rfl,.inr ⟨rfl,by simp only[ai,ah,cT,cF,ld,hz]⟩⟩
  |true=>
   refine bc (t:=false) (by simp only[ak,ai,ah,cT,cF,dS]) (ck ?_)
   simp only[dP,aU]
   refine b7 ?_
   unfold Nc
   simp only[az,aA,aB,ai,aH,aX,ak,aK,aD,bt,aw,dZ,aq,bf,cT,cF,aV,dS,bS,tA,ah,au,h8,hwr,aU]
   refine(ih (pre++[a]) _ (by rw[hpre];simp) (by simp only[ai,ah,cF, *]) (by simp only[ai,ah,cF, *]) (by simp only[ai,ah,cF, *]) (by simp only[ai,ah,cT,cF,dp,aP,aW])).mono ?_
   simp only[ld,hz,cT]
   exact fun _ _ _ h=>h
theorem ajI {sp:FuncId->Option (List aj->Option aj)} (h0:sp 31=none) {v:aj} {l:List Int} (hl:bC 1 ze v l) (hsmall:l.length<small) (s:St):bz (QS sp) 31 [v] s (.int .i64 (ld l)) s:=by
 have hlen:=fun mk s=>hl.len ahL ahK mk s
 have hcl:=hl.clean
 refine ey ad4 ad3 ad6 ad5 h0 ?_
 unfold M5
 refine aF ?_
 unfold M6
 simp only[dt,cY,az,aA,aB,aN,aK,bt,aw,cT,aP,aW,tA,aQ,au,cm,cj,dT]
 refine aF ?_
 unfold M7
 simp only[az,aA,aB,aN,aK,bt,aw,tA,au]
 refine aR (aF ?_)
 unfold M8
 simp only[az,aA,aB,ai,aH,cJ,ak,aK,aD,bk,bm,bt,aw,bU,cU,bJ,aq,cT,cF,aV,cg,bS,tA,ah,au,aZ,ZJ,hcl,hlen]
 refine cO ?_
 refine(ajH hl hsmall l [] _ rfl (by simp only[ai,ah,cT,cF, *]) (by simp only[ai,ah,cT,cF, *]) (by simp only[ai,ah,cT,cF, *]) (by simp only[ai,ah,cT,cF];rfl)).mono ?_
 rintro x ⟨e,sz,lc⟩ s' ⟨rfl,hs,⟨rfl,hok,h3⟩|⟨rfl,h2⟩⟩
 ·have hs:sz=18:=hs
  subst hs
  have h3:ax e 3= .int .i64 0:=h3
  show W (QS sp) 31 _ _ _ _
  refine aF ?_
  unfold Nf
  simp only[az,aA,aB,ai,aH,aN,ak,aw,cT,bS,tA,au,h3]
  exact cd ⟨rfl,.inr rfl,cE (by simp only[ai,ah,cT,cF,hok]) rfl⟩
 ·exact⟨rfl,.inr rfl,cE h2 rfl⟩
def pN:Sp
 | [a]=>bif pures [a] then(gj 1 asInt a).bind fun l=>bif bT l.length small then some (.int .i64 (ld l)) else none else none
 |_=>none
theorem Sx:eN Tryz.prog 31 pN:=by
 intro args x hv G h w xs wr hx
 unfold pN at hv
 split at hv
 ·rename_i a
  obtain⟨hp,hv⟩:=bX hv
  simp only[aG] at hv
  obtain⟨l,h1,hv⟩:=hv
  obtain⟨hs,hv⟩:=bX hv
  injection hv with hv;subst hv
  have hl:=jb (fun v a=>Vt) h1
  exact gS (Q:=QT []) (gK .nil) (fun _=>gV 1) (args:=[a]) (v:=.int .i64 (ld l)) (s':=s0) (kA hp) (by rw[iz hp];exact ajI (sp:=fun f=>fv f []) rfl hl (iL hs) s0) rfl ⟨1,rfl⟩ G h w xs wr hx
 ·cases hv
def mX:List (Int×Int)->Int
 | []=>0
 |p::l=>bif bD (jn p.1 p.2) 0 then mX l else jn p.1 p.2
theorem Yf {sp:FuncId->Option (List aj->Option aj)} (h122:sp 122=some pj) {v:aj} {l:List (Int×Int)} (hl:bC 2 gN v l) (hsmall:l.length<small) {s:St}: ∀(rest pre:List (Int×Int)) (e:bj) (lc:Ag.Loc),l=pre++rest->
 ax e 6=v->ax e 7= .int .i64 (l.length:Nat)->ax e 8= .int .i64 (pre.length:Nat)->
 W (QS sp) 184 (.loop zp) ⟨e,21,lc⟩ s fun x fr s'=>s'=s/\fr.size=21/\((x= .exit 0/\mX rest=0)\/(x= .ret/\ax fr.env 2= .int .i64 (mX rest))):=by
 intro rest
 have hcl:=hl.clean
 have hsm:small=9223372036854775808:=rfl
 induction rest with
 |nil=>
  intro pre e lc hpre h6 h7 h8
  have hl':l.length=pre.length:=by rw[hpre];simp
  refine cR ?_
  unfold zp
  refine aF ?_
  unfold DF
  simp only[az,aA,aB,aX,ak,aD,aw,cQ,aq,bf,cT,aV,da,tA,au,decide_false,h7,h8,hl',eU]
  refine aR (bc (t:=false) (by simp only[ak,ai,ah,cT, *]) ?_)
  exact eD ⟨rfl,rfl,.inl ⟨rfl,rfl⟩⟩
 |cons a rest ih=>
  intro pre e lc hpre h6 h7 h8
  have hlt:pre.length<l.length:=by rw[hpre];simp
  have hat:l[pre.length]? =some a:=by rw[hpre];simp
  have hia:=fun lc=>hl.at aa4 hat lc .i64
  have hsp:pj [.int .i64 a.1,.int .i64 a.2]=some (.int .i64 (jn a.1 a.2)):=rfl
  have hwr:IntKind.i64.wrap ((pre.length:Int)+1)=((pre.length+1:Nat):Int):=by rw[ew (by omega) (by omega)];omega
  have n0: ∀k,fF (.int k 0)=some 0:=fun _=>rfl
  have n1: ∀k,fF (.int k 1)=some 1:=fun _=>rfl
  refine cR ?_
  unfold zp
  refine aF ?_
  unfold DF
  simp only[az,aA,aB,aX,ak,aD,aw,cQ,aq,bf,cT,aV,da,tA,au,dT,h7,h8,hlt]
  refine aR (bc (t:=true) (by simp only[ak,ai,ah,cT, *]) (ck ?_))
  simp only[aU]
  refine aR (cO (aF ?_))
  unfold Lb
  simp only[az,aA,ej,aB,ep,ai,bR,jz,gZ,bo,ez,ek,ak,aD,gl,fQ,aw,bJ,dC,ix,aq,cK,cT,cF,aV,cg,aP,aW,cut,cV,bN,a7,eR,cq,cH,bS,tA,aQ,ah,au,bE,cm,dY,aZ,dl,cj,dT,akf,alC,Uy,Zt,h6,h8,hia,gN]
  refine aF ?_
  unfold Lc
  simp only[az,aA,aB,ai,cM,bR,aN,bo,ek,dK,dI,ak,aK,aD,bk,bm,bt,cx,aw,aq,bf,cT,cF,aV,ei,a7,bO,bS,tA,aQ,ah,au,jt,aZ,dl,dT,fJ,aa1,n0,n1,h122,hsp]
  refine aF ?_
  unfold Ld
  simp only[az,aA,aB,ai,aH,aX,ak,aK,aD,bt,aw,qg,aq,bf,cT,cF,aV,bS,tA,ah,au]
  cases hz:bD (jn a.1 a.2) 0 with
  |false=>
   refine bc (t:=true) (by simp only[ak,ai,ah,cT,cF,gU]) (aF ?_)
   unfold Lf
   simp only[az,aA,aB,ai,aH,aN,ak,aw,cT,cF,gU,bS,tA,ah,au]
   exact cd ⟨rfl,rfl,.inr ⟨rfl,by simp only[ai,ah,cT,cF,mX,hz]⟩⟩
  |true=>
   refine bc (t:=false) (by simp only[ak,ai,ah,cT,cF,dS]) (ck ?_)
   simp only[dP,aU]
   refine b7 ?_
   unfold Lg
   simp only[az,aA,aB,ai,aH,aX,ak,aK,aD,bt,aw,dZ,aq,bf,cT,cF,aV,dS,bS,tA,ah,au,h8,hwr,aU]
   refine(ih (pre++[a]) _ _ (by rw[hpre];simp) (by simp only[ai,ah,cF, *]) (by simp only[ai,ah,cF, *]) (by simp only[ai,ah,cT,cF,dp,aP,aW])).mono ?_
   simp only[mX,hz,cT]
   exact fun _ _ _ h=>h
theorem Yg {sp:FuncId->Option (List aj->Option aj)} (h0:sp 184=none) (h122:sp 122=some pj) {v:aj} {l:List (Int×Int)} (hl:bC 2 gN v l) (hsmall:l.length<small) (s:St):bz (QS sp) 184 [v] s (.int .i64 (mX l)) s:=by
 have hlen:=fun mk s=>hl.len ahJ ahI mk s
 have hcl:=hl.clean
 refine ey acT acS acV acU h0 ?_
 unfold K8
 refine aF ?_
 unfold K9
 simp only[dt,cY,az,aA,aB,aN,aK,bt,aw,cT,aP,aW,tA,aQ,au,cm,cj,dT]
 refine aR (aF ?_)
 unfold La
 simp only[az,aA,aB,ai,aH,cJ,ak,aK,aD,bk,bm,bt,aw,bU,cU,bJ,aq,cT,cF,aV,cg,bS,tA,ah,au,aZ,Zu,hcl,hlen]
 refine cO ?_
 refine(Yf h122 hl hsmall l [] _ _ rfl (by simp only[ai,ah,cT,cF, *]) (by simp only[ai,ah,cT,cF, *]) (by simp only[ai,ah,cT,cF];rfl)).mono ?_
 rintro x ⟨e,sz,lc⟩ s' ⟨rfl,hs,⟨rfl,hok⟩|⟨rfl,h2⟩⟩
 ·have hs:sz=21:=hs
  subst hs
  show W (QS sp) 184 _ _ _ _
  refine aF ?_
  unfold Lh
  simp only[az,aA,aB,aN,aK,bt,aw,tA,au]
  exact cd ⟨rfl,.inr rfl,cE (by simp only[ai,ah,cT,hok]) rfl⟩
 ·exact⟨rfl,.inr rfl,cE h2 rfl⟩
def xc:Sp
 | [a]=>bif pures [a] then(gj 2 tD a).bind fun l=>bif bT l.length small then some (.int .i64 (mX l)) else none else none
 |_=>none
def BK:eV:=[(122,pj)]
theorem U7:fT BK:=.cons HF .nil
theorem Ye:eN Tryz.prog 184 xc:=by
 intro args x hv G h w xs wr hx
 unfold xc at hv
 split at hv
 ·rename_i a
  obtain⟨hp,hv⟩:=bX hv
  simp only[aG] at hv
  obtain⟨l,h1,hv⟩:=hv
  obtain⟨hs,hv⟩:=bX hv
  injection hv with hv;subst hv
  have hl:=jb (fun v a=>wP) h1
  exact gS (Q:=QT BK) (gK U7) (fun _=>gV 1) (args:=[a]) (v:=.int .i64 (mX l)) (s':=s0) (kA hp) (by rw[iz hp];exact Yg (sp:=fun f=>fv f BK) rfl rfl hl (iL hs) s0) rfl ⟨1,rfl⟩ G h w xs wr hx
 ·cases hv
def jy (a b:Int×Int):Int:=mX [(a.1,b.1),(a.2,b.2)]
theorem VW {e:bj} {x y:Operand} {a b c d:aj} (hx:ev e x=some (.agg [a,b])) (hy:ev e y=some (.agg [c,d])) (s:St):dV Tryz.prog 349 2 [(0,x),(1,y)] false e s=some (.list 2 [.agg [a,b],.agg [c,d]] .full,s):=by
 simp only[dV,Xi,aq,dQ,evc,hx,hy,nk,cT,gd,j9,aP,aW,cV,kD,aQ,bE,jt,ip,cut]
 rfl
theorem aj4 {sp:FuncId->Option (List aj->Option aj)} (h0:sp 119=none) (h184:sp 184=some xc) (a b:Int×Int) (s:St):bz (QS sp) 119 [gN a,gN b] s (.int .i64 (jy a b)) s:=by
 have hbs: ∀e s,ax e 9= .agg [.int .i64 a.1,.int .i64 b.1]->ax e 14= .agg [.int .i64 a.2,.int .i64 b.2]->dV Tryz.prog 349 2 [(0,.tmp 9),(1,.tmp 14)] false e s=some (.list 2 [.agg [.int .i64 a.1,.int .i64 b.1],.agg [.int .i64 a.2,.int .i64 b.2]] .full,s):=fun e s p q=>VW (by rw[ak,p]) (by rw[ak,q]) s
 have hsp:xc [.list 2 [.agg [.int .i64 a.1,.int .i64 b.1],.agg [.int .i64 a.2,.int .i64 b.2]] .full]=some (.int .i64 (jy a b)):=rfl
 refine ey abZ abY ab1 ab0 h0 ?_
 unfold JV
 refine aF ?_
 unfold JW
 simp only[dt,cY,az,aA,aB,ai,dA,cM,aN,jC,ak,aK,aD,bt,gl,aw,bJ,dC,aq,cK,cT,cF,cg,aP,aW,bS,tA,aQ,ah,au,bE,cm,cj,dT,Zc,Zd,gN]
 refine aF ?_
 unfold JX
 simp only[az,aA,aB,ai,dA,cM,bR,aN,lf,lg,bo,bZ,dK,dI,ak,aD,bk,bm,cx,aw,bU,bJ,dC,wS,aq,bf,jm,cT,cF,aV,cg,ei,aP,aW,cV,bN,a7,bO,gr,cq,cH,bS,tA,aQ,dc,ah,au,bE,jt,cm,aZ,cj,dT,VI,fJ,Uy,xa,Cz,Zb,dQ,hbs,h184,hsp]
 exact cd ⟨rfl,.inr rfl,cE (by simp only[ai,ah,cT,cF, *]) rfl⟩
def qA:Sp
 | [a,b]=>(tD a).bind fun p=>(tD b).bind fun q=>some (.int .i64 (jy p q))
 |_=>none
def BH:eV:=[(184,xc)]
theorem U3:fT BH:=.cons Ye .nil
theorem SI:eN Tryz.prog 119 qA:=by
 intro args x hv G h w xs wr hx
 unfold qA at hv
 split at hv
 ·simp only[aG,bg] at hv
  obtain⟨p,h1,q,h2,rfl⟩:=hv
  have h1:=wP h1
  have h2:=wP h2
  subst h1;subst h2
  exact gS (Q:=QT BH) (gK U3) (fun _=>gV 1) (args:=[gN p,gN q]) (v:=.int .i64 (jy p q)) (s':=s0) rfl (aj4 (sp:=fun f=>fv f BH) rfl rfl p q s0) rfl ⟨1,rfl⟩ G h w xs wr hx
 ·cases hv
end Go.Proofs.YtbfmdojdemckbaaGreat
namespace Go.Proofs.YtbfmdojdemckbaaGreat
open Go.Ag
open Go.Sort (putRow grow Holds SWO HoldsK putRowK flatK get_flatK size_flatK)
theorem WN {sp:FuncId->Option (List aj->Option aj)} (h0:sp 53=none) (h83:sp 83=some mS) (a b:ar) (s:St):bz (QS sp) 53 [.str a,.str b] s (.int .i64 (dM a b)) s:=by
 have hsp:mS [.str a,.str b]=some (.int .i64 (dM a b)):=rfl
 refine ey afm afl afo afn h0 ?_
 unfold OU
 refine aF ?_
 unfold OV
 simp only[dt,cY,az,aA,aB,aN,aK,bt,aw,cT,aP,aW,tA,aQ,au,bE,cm,cj,dT]
 refine aF ?_
 unfold OW
 simp only[az,aA,aB,ai,aH,aN,dK,dI,ak,aD,bk,bm,aw,aq,cS,cT,cF,ei,bS,tA,ah,au,h83,hsp]
 exact cd ⟨rfl,.inr rfl,cE (by simp only[ai,ah,cT,cF, *]) rfl⟩
theorem WM {sp:FuncId->Option (List aj->Option aj)} (h32:sp 32=none) (h0:sp 53=none) (h83:sp 83=some mS) (a b:ar) (s:St):bz (QS sp) 32 [.str a,.str b] s (.int .i64 (dM a b)) s:=by
 refine ey ad8 ad7 aea ad9 h32 ?_
 unfold Ng
 refine aF ?_
 unfold Nh
 simp only[dt,cY,az,aA,aB,aN,aK,bt,aw,cT,aP,aW,tA,aQ,au,bE,cm,cj,dT]
 refine aR (gh (fU 2 ?_))
 unfold Ni
 simp only[az,aA,aB,ai,aH,ak,aw,cT,cF,bN,a7,bS,tA,ah,au]
 refine fY (g:=53) (args:=[.str a,.str b]) ?_ (WN h0 h83 a b s) (by decide) ?_
 ·simp only[callee,ai,ak,ff,aD,bk,bm,aq,cS,cT,cF,cq,cH,bS,ah]
 refine fX ?_
 simp only[az,aA,aB,ai,aN,ak,aw,cT,cF,bS,tA,ah,au,aU]
 exact cd ⟨rfl,.inr rfl,cE (by simp only[ai,ah,cT,cF, *]) rfl⟩
def BO:eV:=[(83,mS)]
theorem Vb:fT BO:=.cons Cg .nil
theorem WK:eN Tryz.prog 32 mS:=by
 intro args x hv G h w xs wr hx
 unfold mS at hv
 split at hv
 ·rename_i a b
  injection hv with hv;subst hv
  exact gS (Q:=QT BO) (gK Vb) (fun _=>gV 1) (args:=[.str a,.str b]) (v:=.int .i64 (dM a b)) (s':=s0) rfl (WM (sp:=fun f=>fv f BO) rfl rfl rfl a b s0) rfl ⟨1,rfl⟩ G h w xs wr hx
 ·cases hv
theorem ajG (x y:Int):ld [x,y]=bif bD x 0 then y else x:=by
 simp only[ld]
 cases h:bD y 0 with
 |true=>
  have:y=0:=by simpa[bD] using h
  subst this
  cases bD x 0<;>rfl
 |false=>cases bD x 0<;>rfl
theorem V0 {e:bj} {x y:Operand} {a b:Int} (hx:ev e x=some (.int .i64 a)) (hy:ev e y=some (.int .i64 b)) (s:St):dV Tryz.prog 55 2 [(0,x),(1,y)] false e s=some (.list 1 [.int .i64 a,.int .i64 b] .full,s):=by
 simp only[dV,HW,aq,dQ,evc,hx,hy,nk,cT,gd,j9,aP,aW,cV,kD,aQ,bE,jt,ip,cut]
 rfl
theorem Wk {sp:FuncId->Option (List aj->Option aj)} (h0:sp 30=none) (h32:sp 32=some mS) (h31:sp 31=some pN) (a b:ar×ar) {s:St} (hm:s.minw<=s.next):bz (QS sp) 30 [de a,de b] s (.int .i64 (gJ a b)) s:=by
 have hs1:mS [.str a.1,.str b.1]=some (.int .i64 (dM a.1 b.1)):=rfl
 have hs2:mS [.str a.2,.str b.2]=some (.int .i64 (dM a.2 b.2)):=rfl
 have hor:pN [.list 1 [.int .i64 (dM a.1 b.1),.int .i64 (dM a.2 b.2)] .full]=some (.int .i64 (gJ a b)):=by
  have h1:pN [.list 1 [.int .i64 (dM a.1 b.1),.int .i64 (dM a.2 b.2)] .full]=some (.int .i64 (ld [dM a.1 b.1,dM a.2 b.2])):=rfl
  rw[h1,ajG];rfl
 have hbs: ∀e s,ax e 9= .int .i64 (dM a.1 b.1)->ax e 14= .int .i64 (dM a.2 b.2)->dV Tryz.prog 55 2 [(0,.tmp 9),(1,.tmp 14)] false e s=some (.list 1 [.int .i64 (dM a.1 b.1),.int .i64 (dM a.2 b.2)] .full,s):=fun e s p q=>V0 (by rw[ak,p]) (by rw[ak,q]) s
 refine ey ad0 adZ ad2 ad1 h0 ?_
 unfold MZ
 refine aF ?_
 unfold M3
 simp only[dt,cY,az,aA,aB,ai,dA,cM,aN,jC,ak,aK,aD,bt,gl,aw,bJ,dC,aq,cK,cT,cF,cg,aP,aW,bS,tA,aQ,ah,au,bE,cm,cj,dT,ZH,ZI,de]
 refine lr hm ?_
 unfold M4
 simp only[eJ,eI,eK,isStore,ai,dA,cM,bR,aN,lg,bo,bZ,dK,dI,ak,aD,bk,bm,cx,aw,bU,bJ,aq,cS,jm,cT,cF,aV,cg,ei,a7,bO,bS,tA,aQ,dc,ah,au,aZ,dH,XL,XM,ZG,h32,hs1,hs2,hbs,h31,hor]
 exact cd ⟨rfl,.inr rfl,cE (by simp only[ai,ah,cT,cF, *]) rfl⟩
def rR:aj->Option (ar×ar)
 | .agg [.str a,.str b]=>some (a,b)
 |_=>none
theorem yQ {v:aj} {c:ar×ar} (h:rR v=some c):v=de c:=by
 unfold rR at h
 split at h
 ·injection h with h;subst h;rfl
 ·cases h
def Hu:Sp
 | [p,q]=>(rR p).bind fun a=>(rR q).bind fun b=>some (.int .i64 (gJ a b))
 |_=>none
def BN:eV:=[(32,mS),(31,pN)]
theorem Va:fT BN:=.cons WK (.cons Sx .nil)
theorem Wj:eN Tryz.prog 30 Hu:=by
 intro args x hv G h w xs wr hx
 unfold Hu at hv
 split at hv
 ·simp only[aG,bg] at hv
  obtain⟨a,h1,b,h2,rfl⟩:=hv
  have h1:=yQ h1
  have h2:=yQ h2
  subst h1;subst h2
  exact gS (Q:=QT BN) (gK Va) (fun _=>gV 1) (args:=[de a,de b]) (v:=.int .i64 (gJ a b)) (s':=s0) rfl (Wk (sp:=fun f=>fv f BN) rfl rfl rfl a b (bB _)) rfl ⟨1,rfl⟩ G h w xs wr hx
 ·cases hv
theorem Cc: ∀a:ar,dM a a=0
 | []=>rfl
 |x::a=>by
  have:bT x.toNat x.toNat=false:=by rw[dl];exact decide_eq_false (eU _)
  simp only[dM,this,cF,Cc a]
theorem HI (a b:ar):dM b a= -dM a b:=by
 induction a generalizing b with
 |nil=>cases b<;>rfl
 |cons x a ih=>
  cases b with
  |nil=>rfl
  |cons y b=>
   simp only[dM]
   rcases Nat.lt_trichotomy x.toNat y.toNat with h|h|h
   ·have h1:bT x.toNat y.toNat=true:=eL h
    have h2:bT y.toNat x.toNat=false:=by rw[dl];exact decide_eq_false (by omega)
    rw[h1,h2];rfl
   ·have h1:bT x.toNat y.toNat=false:=by rw[dl];exact decide_eq_false (by omega)
    have h2:bT y.toNat x.toNat=false:=by rw[dl];exact decide_eq_false (by omega)
    rw[h1,h2];exact ih b
   ·have h1:bT x.toNat y.toNat=false:=by rw[dl];exact decide_eq_false (by omega)
    have h2:bT y.toNat x.toNat=true:=eL h
    rw[h1,h2];rfl
theorem wW {a b:ar} (h:dM a b=0):a=b:=by
 induction a generalizing b with
 |nil=>cases b with
  |nil=>rfl
  |cons y b=>simp[dM] at h
 |cons x a ih=>
  cases b with
  |nil=>simp[dM] at h
  |cons y b=>
   simp only[dM] at h
   cases h1:bT x.toNat y.toNat with
   |true=>rw[h1] at h;simp at h
   |false=>
    rw[h1] at h
    cases h2:bT y.toNat x.toNat with
    |true=>rw[h2] at h;simp at h
    |false=>
     rw[h2] at h
     have e:x.toNat=y.toNat:=by
      rw[dl] at h1 h2
      have:=of_decide_eq_false h1
      have:=of_decide_eq_false h2
      omega
     rw[UInt8.toNat_inj.1 e,ih h]
theorem HJ {a b c:ar} (h1:dM a b<0) (h2:dM b c<0):dM a c<0:=by
 induction a generalizing b c with
 |nil=>
  cases b with
  |nil=>simp[dM] at h1
  |cons y b=>
   cases c with
   |nil=>simp[dM] at h2
   |cons z c=>simp[dM]
 |cons x a ih=>
  cases b with
  |nil=>simp[dM] at h1
  |cons y b=>
   cases c with
   |nil=>simp[dM] at h2
   |cons z c=>
    simp only[dM,dl] at h1 h2 ⊢
    by_cases p:x.toNat<y.toNat
    ·by_cases q:y.toNat<z.toNat
     ·simp[show x.toNat<z.toNat by omega]
     ·by_cases q2:z.toNat<y.toNat
      ·simp[q,q2] at h2
      ·simp[show x.toNat<z.toNat by omega]
    ·by_cases p2:y.toNat<x.toNat
     ·simp[p,p2] at h1
     ·by_cases q:y.toNat<z.toNat
      ·simp[show x.toNat<z.toNat by omega]
      ·by_cases q2:z.toNat<y.toNat
       ·simp[q,q2] at h2
       ·simp only[p,p2,q,q2,decide_false,cF] at h1 h2
        simp only[show¬x.toNat<z.toNat by omega,show¬z.toNat<x.toNat by omega,decide_false,cF]
        exact ih h1 h2
theorem u0 (a b:ar×ar):gJ a b=if dM a.1 b.1=0 then dM a.2 b.2 else dM a.1 b.1:=by
 unfold gJ
 by_cases h:dM a.1 b.1=0
 ·have:bD (dM a.1 b.1) 0=true:=by simp[bD,h]
  rw[this,if_pos h];rfl
 ·have:bD (dM a.1 b.1) 0=false:=by simp[bD,h]
  rw[this,if_neg h];rfl
theorem Cd (a b:ar×ar):gJ b a= -gJ a b:=by
 rw[u0,u0,HI a.1 b.1,HI a.2 b.2]
 by_cases h:dM a.1 b.1=0
 ·rw[if_pos h,if_pos (by omega)]
 ·rw[if_neg h,if_neg (by omega)]
theorem Ce {a b:ar×ar} (h:gJ a b=0):a=b:=by
 rw[u0] at h
 by_cases h1:dM a.1 b.1=0
 ·rw[if_pos h1] at h
  exact Prod.ext (wW h1) (wW h)
 ·rw[if_neg h1] at h;exact absurd h h1
theorem WS (a:ar×ar):gJ a a=0:=by
 rw[u0,if_pos (Cc _),Cc]
theorem HK {a b c:ar×ar} (h1:gJ a b<0) (h2:gJ b c<0):gJ a c<0:=by
 rw[u0] at h1 h2 ⊢
 by_cases p:dM a.1 b.1=0
 ·rw[if_pos p] at h1
  have e:=wW p
  by_cases q:dM b.1 c.1=0
  ·rw[if_pos q] at h2
   rw[e,if_pos q]
   exact HJ h1 h2
  ·rw[if_neg q] at h2
   rw[e,if_neg q];exact h2
 ·rw[if_neg p] at h1
  by_cases q:dM b.1 c.1=0
  ·have e:=wW q
   rw[<-e,if_neg p];exact h1
  ·rw[if_neg q] at h2
   have:=HJ h1 h2
   rw[if_neg (by omega)];exact this
theorem uq:SWO (ltOf gJ) where
 irrefl x:=by simp[ltOf,WS]
 trans x y z h1 h2:=by
  simp only[ltOf,decide_eq_true_eq] at*
  exact HK h1 h2
 ntrans x y z h1 h2:=by
  simp only[ltOf,decide_eq_false_iff_not] at*
  intro h3
  rcases Int.lt_trichotomy (gJ x y) 0 with p|p|p
  ·exact h1 p
  ·rw[Ce p] at h3;exact h2 h3
  ·have p2:gJ y x<0:=by rw[Cd x y];omega
   exact h2 (HK p2 h3)
theorem Ug (x y:ar×ar) (h1:ltOf gJ x y=false) (h2:ltOf gJ y x=false):x=y:=by
 simp only[ltOf,decide_eq_false_iff_not] at h1 h2
 rw[Cd x y] at h2
 exact Ce (by omega)
theorem RR (x y:ar×ar):Ai x y=ltOf gJ x y:=rfl
theorem I5 (x:ar×ar): ∀l:List (ar×ar),l.Pairwise (fun a b=>(!ltOf gJ b a)=true)->(tQ x l).Pairwise (fun a b=>(!ltOf gJ b a)=true)
 | [],_=>by simp[tQ]
 |y::l,h=>by
  simp only[tQ]
  cases e:Ai y x with
  |true=>
   refine List.pairwise_cons.2 ⟨fun z hz=>?_,I5 x l (List.pairwise_cons.1 h).2⟩
   rcases List.mem_cons.1 ((Dl x l).mem_iff.1 hz) with rfl|hz
   ·rw[RR] at e
    cases hc:ltOf gJ z y with
    |false=>rfl
    |true=>have:=uq.trans _ _ _ hc e;rw[uq.irrefl] at this;cases this
   ·exact(List.pairwise_cons.1 h).1 z hz
  |false=>
   rw[RR] at e
   refine List.pairwise_cons.2 ⟨fun z hz=>?_,h⟩
   rcases List.mem_cons.1 hz with rfl|hz
   ·rw[e];rfl
   ·have h1:=(List.pairwise_cons.1 h).1 z hz
    simp only[te] at h1 ⊢
    exact uq.ntrans _ _ _ h1 e
theorem yj: ∀l,(ie l).Pairwise (fun a b=>(!ltOf gJ b a)=true)
 | []=>.nil
 |x::l=>I5 x _ (yj l)
theorem TE {l r:List (ar×ar)} (h:l.Perm r) (hl:l.Pairwise (fun a b=>(!ltOf gJ b a)=true)) (hr:r.Pairwise (fun a b=>(!ltOf gJ b a)=true)):l=r:=by
 refine List.Perm.eq_of_pairwise (le:=fun a b=>(!ltOf gJ b a)=true) (fun a b _ _ h1 h2=>?_) hl hr h
 simp only[te] at h1 h2
 exact Ug a b h2 h1
theorem alg (l:List (ar×ar)):l.mergeSort (fun x y=> !(ltOf gJ) y x)=ie l:=by
 refine TE ((List.mergeSort_perm l _).trans (sW l).symm) (List.pairwise_mergeSort (fun a b c h1 h2=>?_) (fun a b=>?_) l) (yj l)
 ·simp only[te] at*
  exact uq.ntrans _ _ _ h2 h1
 ·cases h:ltOf gJ b a with
  |false=>rfl
  |true=>
   cases h2:ltOf gJ a b with
   |false=>rfl
   |true=>have:=uq.trans _ _ _ h h2;rw[uq.irrefl] at this;cases this
theorem F7 {l r:List (ar×ar)} (h:l.Perm r):ie l=ie r:=
 TE (((sW l).trans h).trans (sW r).symm) (yj l) (yj r)
def nR (c:ar×ar):List Value:=[.string ⟨⟨c.1⟩⟩,.string ⟨⟨c.2⟩⟩]
def G0:Gh:= {at_:=fun _=>none,ro:=fun _ _=>none,dim:=fun _=>none }
theorem wr0 (w:World):WR G0 .nil w:=
 ⟨fun _ _ h=>(by cases h),fun _ _ _ _ h=>absurd rfl h,fun _ _ _ h=>(by cases h),fun _ _ _ _ _ h=>(by cases h),fun _ _ h=>(by cases h),fun _ _ h=>(by cases h)⟩
theorem amu {a b:World} (h1:a.heap=b.heap) (h2:a.tape=b.tape) (h3:a.drawn=b.drawn) (h4:a.os=b.os) (h5:a.output=b.output):a=b:=by
 obtain⟨_,_,_,_,_⟩:=a
 obtain⟨_,_,_,_,_⟩:=b
 cases h1;cases h2;cases h3;cases h4;cases h5;rfl
theorem WT {α:Type} [Inhabited α] {g:Nat} {sp:Sp} (hsp:eN Tryz.prog g sp) (eg: ∀args w,(callFunc g args).run Tryz.prog w= .ok (.enter g args) w) {enc:α->List Value} {encA:α->aj} (hv: ∀G x,VR G (encA x) (.agg (enc x).toArray)) {cf:α->α->Int} (hcf: ∀x y,sp [encA x,encA y]=some (.int .i64 (cf x y))) (k blk off size:Nat) (w:World):CmpLays Tryz.prog g #[] enc k cf blk off size w:=by
 intro m os dk _ x y
 generalize sortWorldK enc k w blk off m dk os=W
 have hc:=hsp _ _ (hcf x y) G0 .nil W [.agg (enc x).toArray,.agg (enc y).toArray] (wr0 W) (.cons (hv _ x) (.cons (hv _ y) .nil))
 rcases hc with⟨y',w',h1,_⟩|⟨_,h2⟩
 ·rw[eg] at h1;cases h1
 ·refine h2.mono ?_
  rintro e w' ⟨v,rfl,G',_,x1,x2⟩
  cases x2
  refine⟨rfl,w'.drawn-W.drawn,w'.heap.extract W.heap.size w'.heap.size,?_⟩
  have hq:=x1.quiet
  have hsz:=x1.size
  have hheap:w'.heap=W.heap++w'.heap.extract W.heap.size w'.heap.size:=by
   apply Array.ext_getElem?
   intro i
   by_cases hi:i<W.heap.size
   ·rw[Array.getElem?_append_left hi]
    exact x1.keep i hi fun ho=>by
     obtain⟨n,a,h,_⟩:=ho
     exact h rfl
   ·rw[Array.getElem?_append_right (by omega),Array.getElem?_extract]
    by_cases hj:i-W.heap.size<w'.heap.size-W.heap.size
    ·rw[if_pos (by omega),show W.heap.size+(i-W.heap.size)=i by omega]
    ·rw[if_neg (by omega),ux (by omega)]
  have hd:=hq.2.2.2.2.2
  refine amu hheap hq.2.2.2.2.1 ?_ hq.1 hq.2.1
  show w'.drawn=W.drawn+(w'.drawn-W.drawn)
  omega
theorem CL: ∀(l:List (ar×ar)) (t:Nat) (v:aj),(bQ (l.map de))[t]? =some v-> ∃h:t / 2<l.length, ∃s:ar,v= .str s/\(nR l[t / 2])[t % 2]! = .string ⟨⟨s⟩⟩
 | [],t,v,h=>by simp[bQ] at h
 |c::l,0,v,h=>by
  have h:some (aj.str c.1)=some v:=h
  injection h with h;subst h
  exact⟨by simp,c.1,rfl,rfl⟩
 |c::l,1,v,h=>by
  have h:some (aj.str c.2)=some v:=h
  injection h with h;subst h
  exact⟨by simp,c.2,rfl,rfl⟩
 |c::l,t+2,v,h=>by
  have h:(bQ (l.map de))[t]? =some v:=h
  obtain⟨h1,s,h2,h3⟩:=CL l t v h
  have e1:(t+2) / 2=t / 2+1:=by omega
  have e2:(t+2) % 2=t % 2:=by omega
  refine⟨by rw[e1,aP];omega,s,h2,?_⟩
  rw[<-h3]
  simp[e1,e2]
theorem alh:GY 51 wg:=by
 have eg: ∀args w,(callFunc 30 args).run Tryz.prog w= .ok (.enter 30 args) w:=Go.Proofs.enters_of Tryz.func30 (by kernel_rfl) rfl
 intro args G h w xs wr hx
 refine⟨fun hsp=>?_,fun n g cs cs' hsp hl hg=>?_⟩
 ·unfold wg at hsp
  split at hsp
  ·cases hx with
   |cons p q=>
    cases q with
    |cons q r=>
     cases r
     cases p
     cases q with
     |func q1 q2=>
      cases q1
      cases q2
      refine .inr ⟨Go.Proofs.enters_of Tryz.func51 (by kernel_rfl) rfl _ _,(AnyF.slices_SortFunc_none Tryz.sortF51 none 0 (.func (.func 30) #[] #[]) w).mono ?_⟩
      rintro e w' ⟨rfl,rfl⟩
      exact⟨_,rfl,G,wr,.refl,.tup .nil⟩
  ·cases hsp
  ·cases hsp
 ·unfold wg at hsp
  split at hsp
  ·cases hsp
  ·rename_i m len lcap
   simp only[bg,bL] at hsp
   obtain⟨rfl,rfl⟩:=hsp
   obtain⟨hb,hg⟩:=bX hg
   simp only[cZ] at hb
   have hlen:=ik hb.1
   have hsm:=iL hb.2
   simp only[aG,bg] at hg
   obtain⟨l,h1,rfl⟩:=hg
   have hcs:=Hf h1
   subst hcs
   rw[xe] at hlen
   have hlen:l.length=len:=by omega
   cases hx with
   |cons p q=>
    cases q with
    |cons q r=>
    cases r
    cases q with
    |func q1 q2=>
    cases q1
    cases q2
    obtain⟨a,b,cap,rfl,hat,hspot,hcap,hab,d,hdim,hd⟩:=Hd p
    obtain⟨b',hb',_,C,e,hC,hdimC,hcs⟩:=wr.obj m _ hl
    rw[hat] at hb';injection hb' with hb';subst hb'
    rw[hdimC] at hdim;injection hdim with hdim
    have hsl:(ie l).length=l.length:=(sW l).length_eq
    have hfin: ∀n os, ∃G',WR G' (h.set m (some (.cells (bQ ((ie l).map de))))) (sortWorldK nR 2 w b.block b.off n (ie l).toArray os)/\dr G h w G' (h.set m (some (.cells (bQ ((ie l).map de))))) (sortWorldK nR 2 w b.block b.off n (ie l).toArray os) 0 0/\VR G' (.tup []) (.tuple #[]):=fun n os=>by
     refine S9 wr hl hat id (flatK nR 2 (ie l).toArray) n os (fun C' e' hC'=>?_) (fun i v hi=>?_)
     ·rw[hC] at hC';injection hC' with hC';injection hC' with hC' _ _;subst hC'
      rw[size_flatK,uE,hsl,hdim];omega
     ·obtain⟨h1,s,rfl,h3⟩:=CL (ie l) i v hi
      have hi2:i<(ie l).toArray.size*2:=by rw[uE];omega
      refine⟨by rw[size_flatK];exact hi2,rfl,?_⟩
      show VR G (.str s) ((flatK nR 2 (ie l).toArray)[i]!)
      rw[get_flatK _ _ _ _ hi2]
      have:(ie l).toArray[i / 2]! =(ie l)[i / 2]:=by simp[h1]
      rw[this,h3];exact .str s
    rcases hab with h0|⟨hab1,hab2⟩
    ·have hl0:l=[]:=qN (by omega)
     subst hl0
     have h0':len=0:=h0
     subst h0'
     refine .inr ⟨Go.Proofs.enters_of Tryz.func51 (by kernel_rfl) rfl _ _,(AnyF.slices_SortFunc_none Tryz.sortF51 (some a) cap (.func (.func 30) #[] #[]) w).mono ?_⟩
     rintro e' w' ⟨rfl,rfl⟩
     obtain⟨G',g1,g2,g3⟩:=hfin 0 #[]
     have hw:sortWorldK nR 2 w' b.block b.off 0 (ie []).toArray #[]=w':=by
      show grow (putRowK nR 2 (Go.Sort.ahead w' 0) b.block b.off (ie []).toArray) #[]=w'
      rw[Go.Sort.grow_empty,Go.Sort.ahead_zero]
      exact Go.Sort.putRowK_self nR 2 w' b.block b.off _ (fun j hj=>by rw[size_flatK] at hj;simp[ie] at hj)
     rw[hw] at g1 g2
     exact⟨_,rfl,G',g1,g2,g3⟩
    ·obtain⟨ab,ao,asp⟩:=a
     simp only at hab1 hab2 hspot
     subst hab1;subst hab2;subst hspot
     have hH:HoldsK nR 2 w b.block b.off l.toArray:=fun j hj=>by
      have hj':j<l.toArray.size*2:=by rw[size_flatK] at hj;exact hj
      have hj2:j<(bQ (l.map de)).length:=by rw[xe];simpa using hj'
      refine⟨?_,by simp[World.frozen?,hC]⟩
      obtain⟨_,x,hx1,hx2⟩:=hcs j _ (js hj2)
      obtain⟨h1,s,h2,h3⟩:=CL l j _ (js hj2)
      rw[h2] at hx2
      cases hx2
      rw[nN hC,hx1]
      show some _=some ((flatK nR 2 l.toArray)[j]!)
      rw[get_flatK _ _ _ _ hj']
      have e1:l.toArray[j / 2]! =l[j / 2]:=by simp[h1]
      rw[e1,h3]
     have hbl:=wr.below m b hat
     have hO:=AnyQ.slices_SortFunc_total Tryz.sortF51 2 Tryz.isAgg31 Tryz.sizeOf31 nR (fun _=>rfl) (fun x v hv=>by simp[nR] at hv;rcases hv with rfl|rfl<;>rfl) gJ uq 30 #[] b.block b.off cap l.toArray w eg
      (WT Wj eg (encA:=de) (fun G x=>.agg rfl (.cons (.str _) (.cons (.str _) .nil))) (fun x y=>rfl) 2 b.block b.off _ w) hH hbl (by rw[uE];omega) Ug
     rw[<-hlen]
     refine .inr ⟨Go.Proofs.enters_of Tryz.func51 (by kernel_rfl) rfl _ _,Calls.mono (R:=fun e w'=>e= .returned (.tuple #[])/\ ∃n os,w'=sortWorldK nR 2 w b.block b.off n (l.mergeSort fun x y=> !(ltOf gJ) y x).toArray os) (by simp at hO;exact hO) ?_⟩
     rintro e' w' ⟨rfl,n,os,rfl⟩
     rw[alg]
     obtain⟨G',g1,g2,g3⟩:=hfin n os
     exact⟨_,rfl,G',g1,g2,g3⟩
  ·cases hsp
end Go.Proofs.YtbfmdojdemckbaaGreat
namespace Go.Proofs.YtbfmdojdemckbaaGreat
open Go.Ag
def iq:List ar->List ar->Int
 | [],[]=>0
 | [],_::_=> -1
 |_::_,[]=>1
 |a::x,b::y=>bif bD (kW a b) 0 then iq x y else kW a b
theorem alt {sp:FuncId->Option (List aj->Option aj)} (h188:sp 188=some uZ) {v u:aj} {l r:List ar} (hl:bC 1 bu v l) (hr:bC 1 bu u r) (hsmall:l.length<small) {s:St} {lc:Ag.Loc}: ∀(rest rest2 pre pre2:List ar) (e:bj),l=pre++rest->r=pre2++rest2->pre.length=pre2.length->
 ax e 0=v->ax e 1=u->ax e 9=v->ax e 10= .int .i64 (l.length:Nat)->ax e 11= .int .i64 (pre.length:Nat)->
 W (QS sp) 123 (.loop zm) ⟨e,36,lc⟩ s fun x fr s'=>s'=s/\fr.size=36/\((x= .exit 0/\iq rest rest2=(bif decide (l.length<r.length) then-1 else 0)/\ax fr.env 0=v/\ax fr.env 1=u)\/(x= .ret/\ax fr.env 4= .int .i64 (iq rest rest2))):=by
 intro rest
 have hcl:=hl.clean
 have hcr:=hr.clean
 have hlen2:=fun mk s=>hr.len iI iW mk s
 have hsm:small=9223372036854775808:=rfl
 induction rest with
 |nil=>
  intro rest2 pre pre2 e hpre hpre2 hpp h0 h1 h9 h10 h11
  have hl':l.length=pre.length:=by rw[hpre];simp
  have hr':r.length=pre2.length+rest2.length:=by rw[hpre2];simp
  refine cR ?_
  unfold zm
  refine aF ?_
  unfold DB
  simp only[az,aA,aB,aX,ak,aD,aw,cQ,aq,bf,cT,aV,da,tA,au,decide_false,h10,h11,hl',eU]
  refine aR (bc (t:=false) (by simp only[ak,ai,ah,cT, *]) ?_)
  refine eD ⟨rfl,rfl,.inl ⟨rfl,?_,by simp only[ai,ah,cF, *],by simp only[ai,ah,cF, *]⟩⟩
  cases rest2 with
  |nil=>
   have:decide (pre.length<r.length)=false:=decide_eq_false (by simp at hr';omega)
   rw[this];rfl
  |cons b y=>
   have:decide (pre.length<r.length)=true:=decide_eq_true (by simp at hr';omega)
   rw[this];rfl
 |cons a rest ih=>
  intro rest2 pre pre2 e hpre hpre2 hpp h0 h1 h9 h10 h11
  have hlt:pre.length<l.length:=by rw[hpre];simp
  have hat:l[pre.length]? =some a:=by rw[hpre];simp
  have hr':r.length=pre2.length+rest2.length:=by rw[hpre2];simp
  have hia:=fun lc=>hl.at lJ hat lc .i64
  have hwr:IntKind.i64.wrap ((pre.length:Int)+1)=((pre.length+1:Nat):Int):=by rw[ew (by omega) (by omega)];omega
  refine cR ?_
  unfold zm
  refine aF ?_
  unfold DB
  simp only[az,aA,aB,aX,ak,aD,aw,cQ,aq,bf,cT,aV,da,tA,au,dT,h10,h11,hlt]
  refine aR (bc (t:=true) (by simp only[ak,ai,ah,cT, *]) (ck ?_))
  simp only[aU]
  refine aR (cO (aF ?_))
  unfold Ks
  simp only[az,aA,aB,ai,aH,aN,bo,ek,ak,fQ,aw,kV,aq,cT,cF,aV,a7,bO,bS,tA,ah,au,dH,h9,h11,hia,bu]
  refine aR (aF ?_)
  unfold Kt
  have hge:iG ((r.length:Nat):Int) ((pre.length:Nat):Int)=decide (r.length<=pre.length):=sj _ _
  simp only[az,aA,aB,ai,aH,aX,cJ,ak,aD,bk,bm,aw,bU,nK,cU,bJ,aq,bf,cT,cF,aV,cg,bS,tA,ah,au,aZ,h1,hcr,hlen2,hge]
  cases rest2 with
  |nil=>
   have:decide (r.length<=pre.length)=true:=decide_eq_true (by simp at hr';omega)
   refine bc (t:=true) (by simp only[ak,ai,ah,cT,cF,this]) (aF ?_)
   unfold Ku
   simp only[az,aA,aB,aN,aK,bt,aw,tA,au]
   exact cd ⟨rfl,rfl,.inr ⟨rfl,by simp only[ai,ah,cT,cF,iq]⟩⟩
  |cons b y=>
   have hnle:decide (r.length<=pre.length)=false:=decide_eq_false (by simp at hr';omega)
   have hat2:r[pre.length]? =some b:=by rw[hpre2,hpp];simp
   have hib:=fun lc=>hr.at lJ hat2 lc .i64
   have hsp:uZ [.str a,.str b]=some (.int .i64 (kW a b)):=rfl
   refine bc (t:=false) (by simp only[ak,ai,ah,cT,cF,hnle]) (ck ?_)
   simp only[aU]
   refine aF ?_
   unfold Kv
   simp only[az,aA,aB,ai,aH,aN,bo,ek,ak,fQ,aw,kV,aq,cT,cF,aV,a7,bO,bS,tA,ah,au,dH,h1,hib,bu]
   refine aF ?_
   unfold Kw
   simp only[az,aA,aB,ai,aH,aN,dK,dI,ak,aD,bk,bm,aw,aq,cS,cT,cF,ei,bS,tA,ah,au,h188,hsp]
   refine aF ?_
   unfold Kx
   simp only[az,aA,aB,ai,aH,aX,ak,aK,aD,bt,aw,qg,aq,bf,cT,cF,aV,bS,tA,ah,au]
   cases hz:bD (kW a b) 0 with
   |false=>
    refine bc (t:=true) (by simp only[ak,ai,ah,cT,cF,gU]) (aF ?_)
    unfold Ky
    simp only[az,aA,aB,ai,aH,aN,ak,aw,cT,cF,gU,bS,tA,ah,au]
    exact cd ⟨rfl,rfl,.inr ⟨rfl,by simp only[ai,ah,cT,cF,iq,hz]⟩⟩
   |true=>
    refine bc (t:=false) (by simp only[ak,ai,ah,cT,cF,dS]) (ck ?_)
    simp only[dP,aU]
    refine b7 ?_
    unfold Ko
    simp only[az,aA,aB,ai,aH,aX,ak,aK,aD,bt,aw,dZ,aq,bf,cT,cF,aV,dS,bS,tA,ah,au,h11,hwr,aU]
    refine(ih y (pre++[a]) (pre2++[b]) _ (by rw[hpre];simp) (by rw[hpre2];simp) (by simp[hpp]) (by simp only[ai,ah,cF, *]) (by simp only[ai,ah,cF, *]) (by simp only[ai,ah,cF, *]) (by simp only[ai,ah,cF, *]) (by simp only[ai,ah,cT,cF,dp,aP,aW])).mono ?_
    simp only[iq,hz,cT]
    exact fun _ _ _ h=>h
theorem alv {sp:FuncId->Option (List aj->Option aj)} (h0:sp 123=none) (h188:sp 188=some uZ) {v u:aj} {l r:List ar} (hl:bC 1 bu v l) (hr:bC 1 bu u r) (hsmall:l.length<small) (s:St):bz (QS sp) 123 [v,u] s (.int .i64 (iq l r)) s:=by
 have hlen:=fun mk s=>hl.len iI iW mk s
 have hlen2:=fun mk s=>hr.len iI iW mk s
 have hcl:=hl.clean
 have hcr:=hr.clean
 refine ey acr acq act acs h0 ?_
 unfold Kl
 refine aF ?_
 unfold Km
 simp only[dt,cY,az,aA,aB,aN,aK,bt,aw,cT,aP,aW,tA,aQ,au,bE,cm,cj,dT]
 refine aR (aF ?_)
 unfold Kn
 simp only[az,aA,aB,ai,aH,cJ,ak,aK,aD,bk,bm,bt,aw,bU,cU,bJ,aq,cT,cF,aV,cg,bS,tA,ah,au,aZ,Zh,hcl,hlen]
 refine cO ?_
 refine(alt h188 hl hr hsmall l r [] [] _ rfl rfl rfl (by simp only[ai,ah,cT,cF, *]) (by simp only[ai,ah,cT,cF, *]) (by simp only[ai,ah,cT,cF, *]) (by simp only[ai,ah,cT,cF, *]) (by simp only[ai,ah,cT,cF];rfl)).mono ?_
 rintro x ⟨e,sz,lc⟩ s' ⟨rfl,hs,⟨rfl,hok,e0,e1⟩|⟨rfl,h2⟩⟩
 ·have hs:sz=36:=hs
  subst hs
  have e0:ax e 0=v:=e0
  have e1:ax e 1=u:=e1
  show W (QS sp) 123 _ _ _ _
  refine aR (aF ?_)
  unfold Kp
  simp only[az,aA,aB,ai,aH,aX,cJ,ak,aD,bk,bm,aw,bU,cQ,cU,bJ,aq,bf,cT,cF,aV,cg,da,bS,tA,ah,au,aZ,Zi,Zj,e0,e1,hcl,hcr,hlen,hlen2]
  cases hd:decide (l.length<r.length) with
  |true=>
   refine bc (t:=true) (by simp only[ak,ai,ah,cT,cF]) (aF ?_)
   unfold Kq
   simp only[az,aA,aB,aN,aK,bt,aw,tA,au]
   exact cd ⟨rfl,.inr rfl,cE (by simp only[ai,ah,cT,cF,hok,hd]) rfl⟩
  |false=>
   refine bc (t:=false) (by simp only[ak,ai,ah,cT,cF]) (ck ?_)
   simp only[aU]
   refine aF ?_
   unfold Kr
   simp only[az,aA,aB,aN,aK,bt,aw,tA,au]
   exact cd ⟨rfl,.inr rfl,cE (by simp only[ai,ah,cT,cF,hok,hd]) rfl⟩
 ·exact⟨rfl,.inr rfl,cE h2 rfl⟩
def sX:Sp
 | [a,b]=>bif pures [a,b] then(gj 1 lC a).bind fun l=>(gj 1 lC b).bind fun r=>bif bT l.length small then some (.int .i64 (iq l r)) else none else none
 |_=>none
def BJ:eV:=[(188,uZ)]
theorem U6:fT BJ:=.cons WG .nil
theorem als:eN Tryz.prog 123 sX:=by
 intro args x hv G h w xs wr hx
 unfold sX at hv
 split at hv
 ·rename_i a b
  obtain⟨hp,hv⟩:=bX hv
  simp only[aG] at hv
  obtain⟨l,h1,r,h2,hv⟩:=hv
  obtain⟨hs,hv⟩:=bX hv
  injection hv with hv;subst hv
  have hl:=jb (fun v a=>oE) h1
  have hr:=jb (fun v a=>oE) h2
  exact gS (Q:=QT BJ) (gK U6) (fun _=>gV 1) (args:=[a,b]) (v:=.int .i64 (iq l r)) (s':=s0) (kA hp) (by rw[iz hp];exact alv (sp:=fun f=>fv f BJ) rfl rfl hl hr (iL hs) s0) rfl ⟨1,rfl⟩ G h w xs wr hx
 ·cases hv
def gq:List cz->List ar
 | []=>[]
 |t::l=>t.1::t.2::gq l
theorem Gy: ∀l:List cz,(gq l).length=2*l.length
 | []=>rfl
 |t::l=>by simp only[gq,aP,Gy l];omega
def rP (s:St) (ov:aj) (acc:List ar):Prop:=(ov= .nils/\acc=[])\/(acc≠ []/\ ∃k,ov= .list 1 (acc.map bu) (.own k)/\s.get [] k=some .tok)
theorem rP.clean {s:St} {ov:aj} {acc:List ar} (h:rP s ov acc):ov.clean=true:=by
 rcases h with⟨rfl,_⟩|⟨_,k,rfl,_⟩<;>rfl
theorem VX {e:bj} {x y:Operand} {a b:ar} (hx:ev e x=some (.str a)) (hy:ev e y=some (.str b)) (s:St):dV Tryz.prog 37 2 [(0,x),(1,y)] false e s=some (.list 1 [.str a,.str b] .full,s):=by
 simp only[dV,qj,aq,dQ,evc,hx,hy,nk,cT,gd,j9,aP,aW,cV,kD,aQ,bE,jt,ip,cut]
 rfl
theorem Vs {s:St} {ov:aj} {acc:List ar} (h:rP s ov acc) (hlen:acc.length<900000) (a b:ar):
 ∃ov' s',jN Tryz.prog [] 37 ov (.list 1 [.str a,.str b] .full) false s=some (ov',s')/\rP s' ov' (acc++[a,b])/\s'.ci=s.ci:=by
 rcases h with⟨rfl,rfl⟩|⟨hne,k,rfl,hk⟩
 ·refine⟨.list 1 [.str a,.str b] (.own s.next),s.new .tok,?_,.inr ⟨by simp,s.next,rfl,?_⟩,rfl⟩
  ·have:lk 2 16=true:=uj (by omega) (by omega)
   simp only[jN,qj,aq,j2,aZ,bS,cT,lA,kr,aP,aW,aQ,bE,this,cF]
  ·rw[df,bS];rfl
 ·refine⟨.list 1 ((acc++[a,b]).map bu) (.own s.next),(s.put k none).new .tok,?_,.inr ⟨by simp,s.next,rfl,?_⟩,rfl⟩
  ·have:lk (acc.length+2) 16=true:=uj (by omega) (by omega)
   simp only[jN,qj,aq,j2,aZ,bS,cT,lA,hk,eH,aP,aW,aQ,bE,this,gf,List.map_append,fw,rF,bu]
  ·rw[df,pH,bS];rfl
theorem amr {sp:FuncId->Option (List aj->Option aj)} {v:aj} {l:List cz} (hl:bC 2 eC v l) (hsmall:l.length<=400000): ∀(rest pre:List cz) (e:bj) (lc:Ag.Loc) (s:St) (ov:aj),l=pre++rest->rP s ov (gq pre)->
 ax e 3=ov->ax e 6=v->ax e 7= .int .i64 (l.length:Nat)->ax e 8= .int .i64 (pre.length:Nat)->
 W (QS sp) 124 (.loop zn) ⟨e,21,lc⟩ s fun x fr s'=>x= .exit 0/\fr.size=21/\s'.ci=s.ci/\ ∃ov',rP s' ov' (gq l)/\ax fr.env 3=ov':=by
 have wapp: ∀(p q:List cz),gq (p++q)=gq p++gq q:=by
  intro p q
  induction p with
  |nil=>rfl
  |cons t p ih=>simp only[cH,gq,ih]
 intro rest
 have hcl:=hl.clean
 induction rest with
 |nil=>
  intro pre e lc s ov hpre hO h3 h6 h7 h8
  have hl':l.length=pre.length:=by rw[hpre];simp
  have hpp:pre=l:=by rw[hpre];simp
  refine cR ?_
  unfold zn
  refine aF ?_
  unfold DC
  simp only[az,aA,aB,aX,ak,aD,aw,cQ,aq,bf,cT,aV,da,tA,au,decide_false,h7,h8,hl',eU]
  refine aR (bc (t:=false) (by simp only[ak,ai,ah,cT, *]) ?_)
  exact eD ⟨rfl,rfl,rfl,ov,by rw[<-hpp];exact hO,by simp only[ai,ah,cF, *]⟩
 |cons t rest ih=>
  intro pre e lc s ov hpre hO h3 h6 h7 h8
  have hlt:pre.length<l.length:=by rw[hpre];simp
  have hat:l[pre.length]? =some t:=by rw[hpre];simp
  have hia:=fun lc=>hl.at si hat lc .i64
  have hwr:IntKind.i64.wrap ((pre.length:Int)+1)=((pre.length+1:Nat):Int):=by rw[ew (by omega) (by omega)];omega
  obtain⟨ov',s',happ,hO',hci⟩:=Vs hO (by rw[Gy];omega) t.1 t.2
  have hoc:=hO.clean
  have hoc':=hO'.clean
  have hbs: ∀e s,ax e 14= .str t.1->ax e 16= .str t.2->dV Tryz.prog 37 2 [(0,.tmp 14),(1,.tmp 16)] false e s=some (.list 1 [.str t.1,.str t.2] .full,s):=fun e s p q=>VX (by rw[ak,p]) (by rw[ak,q]) s
  refine cR ?_
  unfold zn
  refine aF ?_
  unfold DC
  simp only[az,aA,aB,aX,ak,aD,aw,cQ,aq,bf,cT,aV,da,tA,au,dT,h7,h8,hlt]
  refine aR (bc (t:=true) (by simp only[ak,ai,ah,cT, *]) (ck ?_))
  simp only[aU]
  refine aR (cO (aF ?_))
  unfold KD
  simp only[az,aA,ej,aB,ep,ai,bR,jz,gZ,bo,ez,ek,ak,aD,gl,fQ,aw,bJ,dC,ix,aq,cK,cT,cF,aV,cg,aP,aW,cut,cV,bN,a7,eR,cq,cH,bS,tA,aQ,ah,au,bE,cm,dY,aZ,dl,cj,dT,x7,Gk,Bi,Zm,h6,h8,hia,eC]
  refine b7 ?_
  unfold KE
  simp only[az,aA,aB,ai,cM,bR,aH,aN,lg,bo,bZ,cJ,ak,aD,bk,bm,cx,aw,bU,oI,bJ,aq,jm,cT,cF,aV,cg,a7,bO,bS,tA,aQ,dc,ah,au,aZ,dH,oN,vh,vq,Zk,Zl,h3,hoc,hbs,happ,dP,aU]
  refine b7 ?_
  unfold KF
  simp only[az,aA,aB,ai,aH,aX,ak,aK,aD,bt,aw,dZ,aq,bf,cT,cF,aV,bS,tA,ah,au,h8,hwr,aU]
  refine(ih (pre++[t]) _ _ s' ov' (by rw[hpre];simp) (by rw[wapp];exact hO') (by simp only[ai,ah,cT,cF, *]) (by simp only[ai,ah,cF, *]) (by simp only[ai,ah,cF, *]) (by simp only[ai,ah,cT,cF,dp,aP,aW])).mono ?_
  rintro x fr s'' ⟨h1,h2,h4,h5⟩
  exact⟨h1,h2,h4.trans hci,h5⟩
theorem ams {sp:FuncId->Option (List aj->Option aj)} (h0:sp 124=none) {v:aj} {l:List cz} (hl:bC 2 eC v l) (hsmall:l.length<=400000) (s:St): ∃ov s',bz (QS sp) 124 [v] s ov s'/\(rP s' ov (gq l)/\s'.ci=s.ci):=by
 have hlen:=fun mk s=>hl.len pD pC mk s
 have hcl:=hl.clean
 refine bz.ofEx acv acu acx acw h0 ?_
 unfold Kz
 refine aF ?_
 unfold KA
 simp only[dt,cY,az,aA,aB,aN,aK,aw,cT,aP,aW,tA,aQ,au,cm,cj,dT,ofValue,fH]
 refine aF ?_
 unfold KB
 simp only[az,aA,aB,aN,aK,aw,tA,au,ofValue,fH]
 refine aR (aF ?_)
 unfold KC
 simp only[az,aA,aB,ai,aH,cJ,ak,aK,aD,bk,bm,bt,aw,bU,cU,bJ,aq,cT,cF,aV,cg,bS,tA,ah,au,aZ,Zn,hcl,hlen]
 refine cO ?_
 refine(amr hl hsmall l [] _ _ s .nils rfl (.inl ⟨rfl,rfl⟩) (by simp only[ai,ah,cT,cF, *]) (by simp only[ai,ah,cT,cF, *]) (by simp only[ai,ah,cT,cF, *]) (by simp only[ai,ah,cT,cF];rfl)).mono ?_
 rintro x ⟨e,sz,lc⟩ s' ⟨rfl,hs,hci,ov',hO,h3⟩
 have hs:sz=21:=hs
 subst hs
 have h3:ax e 3=ov':=h3
 show W (QS sp) 124 _ _ _ _
 refine aF ?_
 unfold KG
 simp only[az,aA,aB,ai,aH,aN,ak,aw,cT,bS,tA,au,h3]
 exact cd ⟨.inr rfl,ov',cE (by simp only[ai,ah,cT,cF, *]) hO.clean,hO,hci⟩
def s9:Sp
 | [a]=>bif pures [a] then(gj 2 oH a).bind fun l=>bif cy l.length 400000 then some (xF ((gq l).map bu)) else none else none
 |_=>none
theorem YD {s:St} {ov:aj} {acc:List ar} (h:rP s ov acc):jW s.heap ov (xF (acc.map bu)):=by
 rcases h with⟨rfl,rfl⟩|⟨hne,k,rfl,_⟩
 ·exact⟨1,rfl⟩
 ·refine⟨2,?_⟩
  show(eE (dh s.heap 1) (acc.map bu)).bind (fun ys=>some (aj.list 1 ys .no))=_
  rw[vl fun v hv=>?_]
  ·cases acc with
   |nil=>exact absurd rfl hne
   |cons a l=>rfl
  ·obtain⟨o,_,rfl⟩:=List.mem_map.1 hv
   rfl
theorem amq:eN Tryz.prog 124 s9:=by
 intro args x hv G h w xs wr hx
 unfold s9 at hv
 split at hv
 ·rename_i a
  obtain⟨hp,hv⟩:=bX hv
  simp only[aG] at hv
  obtain⟨l,h1,hv⟩:=hv
  obtain⟨hs,hv⟩:=bX hv
  injection hv with hv;subst hv
  have hl:=jb (fun v a=>rT) h1
  obtain⟨ov,s',hr,hO,hci⟩:=ams (sp:=fun f=>fv f []) rfl hl (iL hs) s0
  exact gS (Q:=QT []) (gK .nil) (fun _=>gV 1) (args:=[a]) (kA hp) (by rw[iz hp];exact hr) hci (YD hO) G h w xs wr hx
 ·cases hv
noncomputable def QM (sp:FuncId->Option (List aj->Option aj)) (ch:Nat->Nat):cw:= {P:=Tryz.prog,hint:=bI,spec:=sp,ch:=ch,kmax:=fun _=>1000000,specW:=fun f=>bif be f 48 then some wh else bif be f 51 then some wg else none }
theorem bF (sp:FuncId->Option (List aj->Option aj)) (ch:Nat->Nat):(QM sp ch).P=Tryz.prog:=rfl
theorem gD (sp:FuncId->Option (List aj->Option aj)) (ch:Nat->Nat):(QM sp ch).hint=bI:=rfl
theorem qS (sp:FuncId->Option (List aj->Option aj)) (ch:Nat->Nat):(QM sp ch).spec=sp:=rfl
noncomputable def R8 (s:St):aj->Option (aj×St)
 | .int _ _=>some (.map s.next,s.new (.map [] 0))
 |_=>none
theorem aiI (s:St) (k:IntKind) (n:Int):R8 s (.int k n)=some (.map s.next,s.new (.map [] 0)):=rfl
theorem aiK (e:bj) (x:Operand) (s:St):mp Tryz.prog 61 e (some x) s=(ev e x).bind (R8 s):=by
 have h:Tryz.prog.underlying 61=some (.map 9 67):=by kernel_rfl
 simp only[mp,h,aq]
 rfl
def uw:Obj:=⟨[],0,0,0,.nils,.nils,[],[]⟩
def nI:List (ar×aj)->Nat->List Obj->List (ar×aj)
 |L,_,[]=>L
 |L,p,o::r=>nI (eG o.id (.ptr p 0) L) (p+1) r
noncomputable def t8 (s:St) (o:Obj) (m:Nat) (L:List (ar×aj)):St:=
 ((s.new (.cells uw.cells)).put s.next (some (.cells o.cells))).put m (some (.map (cP 0 (eG o.id (.ptr s.next 0) L)) (eG o.id (.ptr s.next 0) L).length))
structure Bw (s s':St) (m k:Nat) (rest:List Obj) (L:List (ar×aj)):Prop where
 next:s'.next=k+rest.length
 ci:s'.ci=s.ci
 minw:s'.minw=s.minw
 old: ∀n,n<k->n≠m->s'.get [] n=s.get [] n
 map:s'.get [] m=some (.map (cP 0 L) L.length)
 obj: ∀(i:Nat) (o:Obj),rest[i]? =some o->s'.get [] (k+i)=some (.cells o.cells)
section
variable {sp:FuncId->Option (List aj->Option aj)} {ch:Nat->Nat}
theorem ai1 {v:aj} {l:List Obj} (hl:bC 6 Obj.val v l) (hsmall:l.length<small) {m:Nat}: ∀(rest pre:List Obj) (e:bj) (lc:Ag.Loc) (s:St) (L:List (ar×aj)),l=pre++rest->m<s.next->s.minw<=m->
 s.get [] m=some (.map (cP 0 L) L.length)->ax e 3= .map m->ax e 11=v->ax e 12= .int .i64 (l.length:Nat)->ax e 13= .int .i64 (pre.length:Nat)->
 W (QM sp ch) 23 (.loop vr) ⟨e,22,lc⟩ s fun x fr s'=>x= .exit 0/\fr.size=22/\ax fr.env 3= .map m/\Bw s s' m s.next rest (nI L s.next rest):=by
 intro rest
 have hcl:=hl.clean
 have hsm:small=9223372036854775808:=rfl
 induction rest with
 |nil=>
  intro pre e lc s L hpre hm hmw hs h3 h11 h12 h13
  have hl:l.length=pre.length:=by rw[hpre];simp
  refine cR ?_
  unfold vr
  refine aF ?_
  unfold DM
  simp only[az,aA,aB,aX,ak,aD,aw,cQ,aq,bf,cT,bF,da,tA,au,decide_false,h12,h13,hl,eU]
  refine aR (bc (t:=false) (by simp only[ak,ai,ah,cT, *]) ?_)
  refine eD ⟨rfl,rfl,?_,rfl,rfl,rfl,fun _ _ _=>rfl,hs,fun i o h=>by simp at h⟩
  simp only[ai,ah,cF, *]
 |cons o rest ih=>
  intro pre e lc s L hpre hm hmw hs h3 h11 h12 h13
  have hlt:pre.length<l.length:=by rw[hpre];simp
  have hat:l[pre.length]? =some o:=by rw[hpre];simp
  have hia:=fun lc=>hl.at xk hat lc .i64
  have hwr:IntKind.i64.wrap ((pre.length:Int)+1)=((pre.length+1:Nat):Int):=by rw[ew (by omega) (by omega)];omega
  have hne:(m==s.next)=false:=beq_eq_false_iff_ne.2 (by omega)
  have hs1:((s.new (.cells uw.cells)).put s.next (some (.cells o.cells))).get [] m=some (.map (cP 0 L) L.length):=by
   rw[cI,df,hne];exact hs
  have hup:=yo sd Ap hs1 o.id (.ptr s.next 0)
  simp only[Obj.cells,uw] at hup
  have hS:W (QM sp ch) 23 (.loop vr) ⟨e,22,lc⟩ s=W (QM sp ch) 23 (.loop vr) ⟨e,22,lc⟩ s:=rfl
  refine cR ?_
  unfold vr
  refine aF ?_
  unfold DM
  simp only[az,aA,aB,aX,ak,aD,aw,cQ,aq,bf,cT,bF,da,tA,au,dT,h12,h13,hlt]
  refine aR (bc (t:=true) (by simp only[ak,ai,ah,cT, *]) (ck ?_))
  simp only[aU]
  refine aR (cO (aF ?_))
  unfold Mo
  simp only[az,aA,ej,aB,ep,ai,gZ,bo,ez,ek,ak,aD,jc,fQ,aw,bJ,dC,aq,cK,cT,cF,bF,gD,aP,aW,cut,cV,bN,a7,gr,eR,cq,iA,bS,tA,aQ,ah,au,bE,cm,dY,aZ,dl,cj,dT,pR,A6,Bh,ZB,h11,h13,hia,Obj.val,Obj.cells,kz,ky,df]
  refine b7 ?_
  unfold Mp
  simp only[az,aA,ej,aB,ep,ai,aH,bo,bZ,ua,ak,aD,aw,ui,aq,cS,dW,fZ,cT,cF,bF,a7,bO,bS,tA,dc,ah,au,dH,qZ,h3,dv,du,cI,hup,dP,aU]
  refine b7 ?_
  unfold Mq
  simp only[az,aA,aB,ai,aH,aX,ak,aK,aD,bt,aw,dZ,aq,bf,cT,cF,bF,bS,tA,ah,au,h13,hwr,aU]
  have hst:((s.new (.cells uw.cells)).put s.next (some (.cells o.cells))).put m (some (.map (cP 0 (eG o.id (.ptr s.next 0) L)) (eG o.id (.ptr s.next 0) L).length))=t8 s o m L:=rfl
  simp only[Obj.cells,uw] at hst
  rw[hst]
  have hn:(t8 s o m L).next=s.next+1:=rfl
  have hg: ∀n,(t8 s o m L).get [] n=bif n==m then some (.map (cP 0 (eG o.id (.ptr s.next 0) L)) (eG o.id (.ptr s.next 0) L).length) else bif n==s.next then some (.cells o.cells) else s.get [] n:=by
   intro n
   simp only[t8,cI,df]
   cases n==m<;>cases n==s.next<;>rfl
  have hmin:(t8 s o m L).minw=s.minw:=by
   simp only[t8,St.put,St.new]
   have h1:cy s.minw s.next=true:=eL (by omega)
   have h2:cy s.minw m=true:=eL hmw
   simp only[h1,h2,cT]
  refine(ih (pre++[o]) _ _ (t8 s o m L) (eG o.id (.ptr s.next 0) L) (by rw[hpre];simp) (by rw[hn];omega) (by rw[hmin];exact hmw) (by rw[hg];simp) (by simp only[ai,ah,cF, *]) (by simp only[ai,ah,cF, *]) (by simp only[ai,ah,cF, *]) (by simp only[ai,ah,cT,cF,dp,aP,aW])).mono ?_
  rintro x fr s' ⟨rfl,h1,h2,a1,a2,a3,a4,a5,a6⟩
  rw[hn] at a1 a4 a5 a6
  refine⟨rfl,h1,h2,by rw[a1,aP];omega,a2,a3.trans hmin,fun n h3 h4=>?_,a5,fun i q hq=>?_⟩
  ·rw[a4 n (by omega) h4,hg,beq_eq_false_iff_ne.2 h4,beq_eq_false_iff_ne.2 (by omega:n≠s.next)];rfl
  ·cases i with
   |zero=>
    simp only[gg,bg] at hq
    subst hq
    rw[dc,a4 s.next (by omega) (by omega),hg,beq_eq_false_iff_ne.2 (by omega:s.next≠m)]
    simp
   |succ i=>
    rw[show s.next+(i+1)=s.next+1+i by omega]
    exact a6 i q (by simpa using hq)
theorem Fz (h23:sp 23=none) {v:aj} {l:List Obj} (hl:bC 6 Obj.val v l) (hsmall:l.length<small) (s:St) (hm:s.minw<=s.next): ∃s',bz (QM sp ch) 23 [.agg [v]] s (.map s.next) s'/\Bw s s' s.next (s.next+1) l (nI [] (s.next+1) l):=by
 have hlen:=fun mk s=>hl.len tW tU mk s
 have hcl:=hl.clean
 have key: ∃u s',bz (QM sp ch) 23 [.agg [v]] s u s'/\(u= .map s.next/\Bw s s' s.next (s.next+1) l (nI [] (s.next+1) l)):=by
  refine bz.ofEx adv adu adx adw h23 ?_
  unfold Ma
  refine aF ?_
  unfold Ml
  simp only[dt,cY,az,aA,aB,ai,dA,aN,jC,ak,aK,aD,gl,aw,bJ,dC,aq,cK,cT,gD,aP,aW,bS,tA,aQ,au,cm,cj,dT,Zz,ofValue,fH]
  refine aF ?_
  unfold Mm
  simp only[az,aA,aB,ai,dA,cM,bR,aN,bo,bZ,vO,cJ,ak,aD,bk,bm,cx,aw,bU,cU,bJ,aq,cT,cF,bF,gD,a7,bO,bS,tA,dc,ah,au,aZ,oc,mU,ZC,hcl,hlen,aiK,aiI]
  refine aR (aF ?_)
  unfold Mn
  simp only[az,aA,aB,ai,dA,cM,bR,aH,bo,bZ,cJ,ak,aK,aD,bk,bm,bt,cx,aw,bU,cU,bJ,aq,cT,cF,bF,gD,a7,bO,bS,tA,dc,ah,au,aZ,oc,mU,ZA,hcl,hlen]
  refine cO ?_
  refine(ai1 hl hsmall (m:=s.next) l [] _ _ (s.new (.map [] 0)) [] rfl (by show s.next<s.next+1;omega) hm ?_ (by simp only[ai,ah,cT,cF, *]) (by simp only[ai,ah,cT,cF, *]) (by simp only[ai,ah,cT,cF, *]) (by simp only[ai,ah,cT,cF];rfl)).mono ?_
  ·rw[df,bS];rfl
  rintro x ⟨e,sz,lc⟩ s' ⟨rfl,hs,h3,a1,a2,a3,a4,a5,a6⟩
  have hs:sz=22:=hs
  subst hs
  have h3:ax e 3= .map s.next:=h3
  show W (QM sp ch) 23 _ _ _ _
  refine aF ?_
  unfold Mr
  simp only[az,aA,aB,ai,aH,aN,ak,aw,cT,bS,tA,au,h3]
  refine cd ⟨.inr rfl,.map s.next,cE ?_ rfl,rfl,a1,a2,a3,fun n h4 h5=>?_,a5,a6⟩
  ·simp only[ai,ah,cT,cF, *]
  ·rw[a4 n h4 h5,df,beq_eq_false_iff_ne.2 h5];rfl
 obtain⟨u,s',h1,rfl,h2⟩:=key
 exact⟨s',h1,h2⟩
end
inductive PV (s:St):aj->Option Obj->Prop
 |nil:PV s .nilp none
 |at_ {p:Nat} {o:Obj}:s.get [] p=some (.cells o.cells)->o.Good->PV s (.ptr p 0) (some o)
def dX:Option Obj->Option Obj->Bool
 |none,none=>true
 |some o,some q=>na o q
 |_,_=>false
theorem vP:fy Tryz.prog .eql 67 .nilp .nilp=some (.bool true):=by kernel_rfl
theorem vQ (n o:Nat):fy Tryz.prog .eql 67 (.ptr n o) .nilp=some (.bool false):=by kernel_rfl
theorem ajU (n o:Nat):fy Tryz.prog .eql 67 .nilp (.ptr n o)=some (.bool false):=by kernel_rfl
theorem uc:fy Tryz.prog .neq 67 .nilp .nilp=some (.bool false):=by kernel_rfl
theorem rp (n o:Nat):fy Tryz.prog .neq 67 (.ptr n o) .nilp=some (.bool true):=by kernel_rfl
theorem iP:ofValue (.pointer none)=some .nilp:=rfl
theorem iU:(aj.nilp).clean=true:=rfl
theorem fG (lc:Ag.Loc) (n o:Nat):sG lc (.ptr n o)=some (.ptr n o):=rfl
theorem sh (s:St) (mk:bn) (n:Nat):s.top.get mk n=s.get mk n:=rfl
section
variable {sp:FuncId->Option (List aj->Option aj)} {ch:Nat->Nat}
theorem F3 (h43:sp 43=none) (h16:sp 16=some rm) {s:St} (hm:s.minw<=s.next) {a b:aj} {p q:Option Obj} (ha:PV s a p) (hb:PV s b q):bz (QM sp ch) 43 [a,b] s (.bool (dX p q)) s:=by
 refine ey aeH aeG aeJ aeI h43 ?_
 unfold Oe
 refine aF ?_
 unfold Og
 simp only[dt,cY,az,aA,aB,aN,aK,bW,aw,cT,aP,aW,tA,aQ,au,bE,cm,cj,dT]
 refine aR (aF ?_)
 unfold Oh
 cases ha with
 |nil=>
  cases hb with
  |nil=>
   simp only[az,aA,dB,aB,gp,j8,ai,aH,di,aX,ak,aK,aD,bW,dj,eA,aw,aq,cT,cF,bF,bS,tA,ah,au,iP,iU,vP]
   refine bc (t:=true) (by simp only[ak,ai,ah,cT,cF, *]) (aF ?_)
   unfold zF
   simp only[az,aA,aB,ai,aH,aN,aX,ak,aD,aw,aq,cT,cF,bF,bS,tA,ah,au,iU,vP]
   exact cd ⟨rfl,.inr rfl,cE (by simp only[ai,ah,cT,cF,dX]) rfl⟩
  |at_ h1 h2=>
   simp only[az,aA,dB,aB,gp,j8,ai,aH,di,aX,ak,aK,aD,bW,dj,eA,aw,aq,cT,cF,bF,bS,tA,ah,au,iP,iU,vP]
   refine bc (t:=true) (by simp only[ak,ai,ah,cT,cF, *]) (aF ?_)
   unfold zF
   simp only[az,aA,aB,ai,aH,aN,aX,ak,aD,aw,aq,dW,cT,cF,bF,bS,tA,ah,au,iU,ajU]
   exact cd ⟨rfl,.inr rfl,cE (by simp only[ai,ah,cT,cF,dX]) rfl⟩
 |at_ h1 h2=>
  cases hb with
  |nil=>
   simp only[az,aA,dB,aB,eP,gn,ai,aH,di,aX,ak,aK,aD,bW,dj,d7,aw,aq,dW,cT,cF,bF,bS,tA,ah,au,iP,iU,vP,vQ]
   refine bc (t:=true) (by simp only[ak,ai,ah,cT,cF, *]) (aF ?_)
   unfold zF
   simp only[az,aA,aB,ai,aH,aN,aX,ak,aD,aw,aq,dW,cT,cF,bF,bS,tA,ah,au,iU,vQ]
   exact cd ⟨rfl,.inr rfl,cE (by simp only[ai,ah,cT,cF,dX]) rfl⟩
  |at_ h3 h4=>
   have hos:=ajK h2 h4
   simp only[Obj.val,Obj.cells] at hos
   simp only[Obj.cells] at h1 h3
   simp only[az,aA,dB,aB,eP,gn,ai,aH,di,aX,ak,aK,aD,bW,dj,d7,aw,aq,dW,cT,cF,bF,bS,tA,ah,au,iP,iU,vQ]
   refine bc (t:=false) (by simp only[ak,ai,ah,cT,cF, *]) (ck ?_)
   simp only[aU]
   refine lr hm ?_
   unfold Oi
   simp only[eJ,eI,eK,isStore,ai,aH,aN,bo,fI,dK,dI,ak,aD,bk,bm,aw,aq,cK,cT,cF,bF,qS,aP,aW,cut,bN,a7,eR,bS,tA,aQ,ah,au,bE,aZ,pR,fG,dv,sh,h1,h3,du,h16,hos]
   exact cd ⟨rfl,.inr rfl,cE (by simp only[ai,ah,cT,cF,dX]) rfl⟩
def at_ (k:ar) (L:List (ar×aj)):aj:=(look k L).getD .nilp
theorem rb {s:St} {m:Nat} {L:List (ar×aj)} {c:Nat} (hs:s.get [] m=some (.map (cP 0 L) c)) (k:ar):lM Tryz.prog [] 61 (.map m) (.str k) false s=some (at_ k L):=E7 sd Ap amI hs k
theorem PV.clean {s:St} {a:aj} {p:Option Obj} (h:PV s a p):a.clean=true:=by cases h<;>rfl
end
abbrev Cf:=ar×ar
def oK (c:Cf):aj:=.agg [.str c.1,.str c.2]
def eW (n:Nat):List Cf->List db
 | []=>[]
 |c::l=>⟨oK c,.bool true,n⟩::eW (n+1) l
def qi (a b:Cf):Bool:=bif a.1==b.1 then bif a.2==b.2 then true else false else false
theorem yR (a b:Cf):qi a b=true↔a=b:=by
 obtain⟨a1,a2⟩:=a
 obtain⟨b1,b2⟩:=b
 unfold qi
 constructor
 ·intro h
  cases h1:a1==b1 with
  |false=>simp only[h1,cF,qK] at h
  |true=>
   cases h2:a2==b2 with
   |false=>simp only[h1,h2,cT,cF,qK] at h
   |true=>rw[eq_of_beq h1,eq_of_beq h2]
 ·intro h
  cases h
  simp
def mh (k:Cf):List Cf->Bool
 | []=>false
 |c::l=>bif qi k c then true else mh k l
def dG (k:Cf) (l:List Cf):List Cf:=bif mh k l then l else l++[k]
def n8 (k:Cf):List Cf->Nat
 | []=>0
 |c::l=>bif qi k c then 0 else n8 k l+1
theorem Fb {k:Cf}: ∀ {l:List Cf},mh k l=true↔k∈l
 | []=>by simp[mh]
 |c::l=>by
  simp only[mh,om]
  cases h:qi k c with
  |true=>simp[(yR k c).1 h]
  |false=>
   have hne:k≠c:=fun e=>by rw[(yR k c).2 e] at h;cases h
   simp[hne,Fb (l:=l)]
theorem t6 {k x:Cf} {l:List Cf}:x∈dG k l↔x=k\/x∈l:=by
 unfold dG
 cases h:mh k l with
 |true=>
  have:=Fb.1 h
  simp only[cT]
  exact⟨.inr,fun h'=>h'.elim (fun e=>e▸this) id⟩
 |false=>simp only[cF,List.mem_append,p8];exact⟨Or.symm,Or.symm⟩
theorem tz {k:Cf} {l:List Cf} (h:l.Nodup):(dG k l).Nodup:=by
 unfold dG
 cases hk:mh k l with
 |true=>exact h
 |false=>
  have hn:k ∉ l:=fun hm=>by rw[Fb.2 hm] at hk;cases hk
  refine List.nodup_append.2 ⟨h,by simp,fun a ha b hb e=>?_⟩
  simp only[p8] at hb
  subst hb;subst e;exact hn ha
theorem aiL (a b:List UInt8):nW Tryz.prog 63 (.agg [.str a,.str b])=some (31,4):=by kernel_rfl
theorem Xu (a b c d:List UInt8):ki Tryz.prog 8 31 (.agg [.str a,.str b]) (.agg [.str c,.str d])=some (qi (a,b) (c,d)):=by
 have h:ki Tryz.prog 8 31 (.agg [.str a,.str b]) (.agg [.str c,.str d])=(some (a==c)).bind fun r=>bif r then(some (b==d)).bind fun r=>bif r then some true else some false else some false:=by kernel_rfl
 rw[h]
 unfold qi
 cases a==c<;>cases b==d<;>rfl
theorem Ii: ∀(l:List Cf) (k:Cf) (n i:Nat),kn Tryz.prog 31 (oK k) (eW n l) i=some (bif mh k l then some (i+n8 k l,⟨oK k,.bool true,n+n8 k l⟩) else none)
 | [],k,n,i=>rfl
 |c::l,k,n,i=>by
  have he:ki Tryz.prog 8 31 (oK k) (oK c)=some (qi k c):=Xu _ _ _ _
  simp only[eW,kn,he,aq,mh,n8]
  cases h:qi k c with
  |true=>
   have:=(yR k c).1 h
   subst this
   simp
  |false=>
   simp only[cF]
   rw[Ii l k (n+1) (i+1)]
   cases mh k l with
   |false=>rfl
   |true=>
    simp only[cT]
    rw[show i+1+n8 k l=i+(n8 k l+1) by omega,show n+1+n8 k l=n+(n8 k l+1) by omega]
theorem HY: ∀(l r:List Cf) (n:Nat),eW n (l++r)=eW n l++eW (n+l.length) r
 | [],r,n=>rfl
 |a::l,r,n=>by simp only[cH,eW,HY l r (n+1),aP];congr 3;omega
theorem HZ {k:Cf}: ∀ {l:List Cf} {n:Nat},mh k l=true->(eW n l).set (n8 k l) ⟨oK k,.bool true,n+n8 k l⟩=eW n l
 | [],_,h=>by cases h
 |c::l,n,h=>by
  simp only[mh] at h
  simp only[n8,eW]
  cases hc:qi k c with
  |true=>
   have:=(yR k c).1 hc
   subst this
   simp
  |false=>
   rw[hc] at h
   have ih:=HZ (l:=l) (n:=n+1) h
   simp only[cF,List.set_cons_succ]
   rw[show n+(n8 k l+1)=n+1+n8 k l by omega,ih]
theorem amb {s:St} {m:Nat} {l:List Cf} (hs:s.get [] m=some (.map (eW 0 l) l.length)) (k:Cf):
 lS Tryz.prog [] 63 (.map m) (oK k) (.bool true) s=some (s.put m (some (.map (eW 0 (dG k l)) (dG k l).length))):=by
 have hk:nW Tryz.prog 63 (oK k)=some (31,4):=aiL _ _
 simp only[lS,hk,aq,hs,Ii l k 0 0,dG]
 cases h:mh k l with
 |false=>simp only[cF,dp,aP,aW,HY,aQ];rfl
 |true=>
  have hks:su (oK k) (oK k)=true:=by simp[oK,su,tG,v8]
  have:=HZ (n:=0) h
  rw[aQ] at this
  simp only[cT,aQ,hks,this]
section
variable {sp:FuncId->Option (List aj->Option aj)} {ch:Nat->Nat}
theorem xT (h45:sp 45=none) {s:St} {x mb mo mt mu md:Nat} {C:List Cf} (hx:s.get [] x=some (.cells [.map mb,.map mo,.map mt,.map mu,.map md])) (hd:s.get [] md=some (.map (eW 0 C) C.length)) (id what:ar):
 bz (QM sp ch) 45 [.ptr x 0,.str id,.str what] s (jQ []) (s.put md (some (.map (eW 0 (dG (id,what) C)) (dG (id,what) C).length))):=by
 have hup:=amb hd (id,what)
 simp only[oK] at hup
 refine ey aeQ aeP aeS aeR h45 ?_
 unfold Oz
 refine b7 ?_
 unfold OA
 have hbd: ∀e,ax e 10= .str id->ax e 11= .str what->gm Tryz.prog 31 [(0,.tmp 10),(1,.tmp 11)] e=some (.agg [.str id,.str what]):=fun e p q=>by
  rw[VJ]
  simp only[GF,aq,dQ,evc,ev,p,q,cS,cT]
  rfl
 simp only[dt,cY,az,aA,ej,aB,ep,ai,aH,lf,bo,bZ,ua,fI,ak,aK,aD,bW,aw,ui,aq,gI,cK,fZ,cT,cF,bF,aP,aW,a7,bO,bS,tA,aQ,ah,au,bE,cm,cj,dT,FN,H8,fG,dv,hx,du,hbd,hup]
 exact⟨.inl trivial,[],rfl,rfl⟩
end
theorem TQ {v u:aj} {l r:List ar} (hl:bC 1 bu v l) (hu:bC 1 bu u r) (hv:bP v=true) (hu2:bP u=true) (hs:l.length<small):sX [v,u]=some (.int .i64 (iq l r)):=by
 have q1:bT l.length small=true:=eL hs
 simp only[sX,pures,hv,hu2,gf,cT,jI oG hl,jI oG hu,aq,q1]
theorem Ur {v:aj} {l:List cz} (hl:bC 2 eC v l) (hv:bP v=true) (hs:l.length<=400000):s9 [v]=some (xF ((gq l).map bu)):=by
 have q1:cy l.length 400000=true:=eL hs
 simp only[s9,pures,hv,gf,cT,jI rU hl,aq,q1]
theorem RB (l:List ar):bP (xF (l.map bu))=true:=by
 cases l with
 |nil=>rfl
 |cons a l=>
  show(pures ((a::l).map bu)&&true)=true
  rw[x4 TP];rfl
def l7 (a b:Obj):Int:=ld [jn a.kind b.kind,jy (a.x,a.y) (b.x,b.y),iq a.refs b.refs,iq (gq a.tags) (gq b.tags)]
theorem VZ {e:bj} {x y z u:Operand} {a b c d:Int} (hx:ev e x=some (.int .i64 a)) (hy:ev e y=some (.int .i64 b)) (hz:ev e z=some (.int .i64 c)) (hu:ev e u=some (.int .i64 d)) (s:St):dV Tryz.prog 55 4 [(0,x),(1,y),(2,z),(3,u)] false e s=some (.list 1 [.int .i64 a,.int .i64 b,.int .i64 c,.int .i64 d] .full,s):=by
 simp only[dV,HW,aq,dQ,evc,hx,hy,hz,hu,nk,cT,gd,j9,aP,aW,cV,kD,aQ,bE,jt,ip,cut]
 rfl
section
variable {sp:FuncId->Option (List aj->Option aj)} {ch:Nat->Nat}
theorem WW (h77:sp 77=none) (h122:sp 122=some pj) (h119:sp 119=some qA) (h123:sp 123=some sX) (h124:sp 124=some s9) (h31:sp 31=some pN) {s:St} (hm:s.minw<=s.next) {p q:Nat} {a b:Obj} (ha:s.get [] p=some (.cells a.cells)) (hb:s.get [] q=some (.cells b.cells)) (ga:a.Good) (gb:b.Good) (ta:a.tags.length<=400000) (tb:b.tags.length<=400000):
 bz (QM sp ch) 77 [.ptr p 0,.ptr q 0] s (.int .i64 (l7 a b)) s:=by
 have ha:s.top.get [] p=some (.cells a.cells):=ha
 have hb:s.top.get [] q=some (.cells b.cells):=hb
 simp only[Obj.cells] at ha hb
 have c1:=ga.refs.clean
 have c2:=gb.refs.clean
 have c3:=ga.tags.clean
 have c4:=gb.tags.clean
 have k1:pj [.int .i64 a.kind,.int .i64 b.kind]=some (.int .i64 (jn a.kind b.kind)):=rfl
 have k2:qA [.agg [.int .i64 a.x,.int .i64 a.y],.agg [.int .i64 b.x,.int .i64 b.y]]=some (.int .i64 (jy (a.x,a.y) (b.x,b.y))):=rfl
 have k3:=TQ ga.refs gb.refs ga.pr gb.pr ga.reflen
 have k4:=Ur ga.tags ga.pt ta
 have k5:=Ur gb.tags gb.pt tb
 have k6:=TQ (Ac (gq a.tags)) (Ac (gq b.tags)) (RB _) (RB _) (by have hsm:small=9223372036854775808:=rfl;rw[Gy];omega)
 have c5:=(Ac (gq a.tags)).clean
 have c6:=(Ac (gq b.tags)).clean
 have k7:pN [.list 1 [.int .i64 (jn a.kind b.kind),.int .i64 (jy (a.x,a.y) (b.x,b.y)),.int .i64 (iq a.refs b.refs),.int .i64 (iq (gq a.tags) (gq b.tags))] .full]=some (.int .i64 (l7 a b)):=rfl
 have hbs: ∀e s,ax e 13= .int .i64 (jn a.kind b.kind)->ax e 22= .int .i64 (jy (a.x,a.y) (b.x,b.y))->ax e 31= .int .i64 (iq a.refs b.refs)->ax e 42= .int .i64 (iq (gq a.tags) (gq b.tags))->dV Tryz.prog 55 4 [(0,.tmp 13),(1,.tmp 22),(2,.tmp 31),(3,.tmp 42)] false e s=some (.list 1 [.int .i64 (jn a.kind b.kind),.int .i64 (jy (a.x,a.y) (b.x,b.y)),.int .i64 (iq a.refs b.refs),.int .i64 (iq (gq a.tags) (gq b.tags))] .full,s):=fun e s p q r t=>VZ (by rw[ak,p]) (by rw[ak,q]) (by rw[ak,r]) (by rw[ak,t]) s
 refine ey agO agN agQ agP h77 ?_
 unfold Ql
 refine aF ?_
 unfold Qm
 simp only[dt,cY,az,aA,aB,aN,aK,bt,aw,cT,aP,aW,tA,aQ,au,bE,cm,cj,dT]
 refine lr hm ?_
 unfold Qn
 simp only[eJ,eI,eK,isStore,ai,aH,aN,lg,bo,bZ,fI,dK,dI,ak,aD,bk,bm,aw,bU,bJ,aq,bf,cK,jm,cT,cF,bF,gD,qS,aP,aW,cut,bN,a7,bO,eR,bS,tA,aQ,ah,au,bE,aZ,fJ,jf,ic,kR,lI,vg,ma,tJ,aaG,fG,dv,ha,hb,du,c1,c2,c3,c4,c5,c6,h122,k1,h119,k2,h123,k3,h124,k4,k5,k6,hbs,h31,k7]
 exact cd ⟨rfl,.inr rfl,cE (by simp only[ai,ah,cT,cF, *]) rfl⟩
def pB (a b:aj) (p q:Option Obj):aj:=
 match p,q with
 |none,_=>b
 |some _,none=>a
 |some o,some t=>bif dz (l7 t o) 0 then b else a
theorem UW {Q:cw} {f:FuncId} {d t:Tmp} {bb:Bool} {x:Operand} {av:Array Operand} {ts:Array TypeId} {l:List cD} {e:bj} {sz:Nat} {lc:Ag.Loc} {s s1:St} {g:FuncId} {args:List aj} {v:aj} {N:Fr->St->Prop} (hw:oY (ax e t) bb=true)
 (hc:callee e ⟨.value x,av,ts⟩=some (g,args)) (hr:bz Q g args s v s1) (hd:d<sz) (hk:WL Q f l ⟨e.set d (some v),sz,lc⟩ s1 N):
 WL Q f (⟨some d,.call ⟨.value x,av,ts⟩,.when t bb⟩::l) ⟨e,sz,lc⟩ s N:=
 WL.call (by rw[ut];exact hw) rfl (fun b=>by simp) hc hr (iw.2 ⟨hd,rfl⟩) hk
theorem Rz (h46:sp 46=none) (h77:sp 77=none) (h122:sp 122=some pj) (h119:sp 119=some qA) (h123:sp 123=some sX) (h124:sp 124=some s9) (h31:sp 31=some pN) {s:St} (hm:s.minw<=s.next) {a b:aj} {p q:Option Obj} (ha:PV s a p) (hb:PV s b q)
 (tp: ∀o,p=some o->o.tags.length<=400000) (tq: ∀o,q=some o->o.tags.length<=400000):bz (QM sp ch) 46 [a,b] s (pB a b p q) s:=by
 have ca:=ha.clean
 have cb:=hb.clean
 refine ey aeU aeT aeW aeV h46 ?_
 unfold OB
 refine aF ?_
 unfold OC
 simp only[dt,cY,az,aA,aB,aN,aK,aw,cT,aP,aW,tA,aQ,au,bE,cm,cj,dT,iP]
 cases ha with
 |nil=>
  refine aR (aF ?_)
  unfold zL
  simp only[az,aA,dB,aB,gp,j8,Bd,ai,aH,di,aX,ak,aK,aD,bW,dj,eA,aw,aq,cT,cF,bF,bS,tA,ah,au,iP,iU,vP]
  refine bc (t:=true) (by simp only[ak,ai,ah,cT,cF, *]) (aF ?_)
  unfold D8
  simp only[az,aA,aB,ai,aH,aN,ak,aw,cT,cF,bS,tA,ah,au]
  exact cd ⟨rfl,.inr rfl,cE (by simp only[ai,ah,cT,cF,pB]) cb⟩
 |at_ h1 h2=>
  cases hb with
  |nil=>
   refine aR (aF ?_)
   unfold zL
   simp only[az,aA,dB,aB,eP,gp,jr,gn,ai,aH,di,aX,ak,aK,aD,bW,dj,d7,aw,aq,dW,cT,cF,bF,bS,tA,ah,au,iP,iU,vQ,uc]
   refine bc (t:=false) (by simp only[ak,ai,ah,cT,cF, *]) (ck ?_)
   simp only[aU]
   refine aF ?_
   unfold D9
   simp only[az,aA,aB,ai,aH,aN,ak,aw,cT,cF,bS,tA,ah,au]
   exact cd ⟨rfl,.inr rfl,cE (by simp only[ai,ah,cT,cF,pB]) rfl⟩
  |at_ h3 h4=>
   rename_i pa oa pb ob
   have hcmp:=WW (ch:=ch) h77 h122 h119 h123 h124 h31 hm h3 h1 h4 h2 (tq _ rfl) (tp _ rfl)
   refine aR (aR (gh (fU 8 ?_)))
   unfold zL
   simp only[az,aA,dB,aB,eP,hQ,gn,ai,aH,aX,ak,aK,aD,aw,aq,dW,cT,cF,bF,bN,a7,bS,tA,ah,au,iP,iU,vQ,rp]
   refine UW (g:=77) (args:=[.ptr pb 0,.ptr pa 0]) (by simp only[ai,ah,cT,cF,hQ]) ?_ hcmp (by decide) ?_
   ·simp only[callee,ai,ak,ff,aD,bk,bm,aq,dW,cT,cF,cq,cH,bS,ah]
   refine fX ?_
   simp only[az,aA,dB,aB,eP,hQ,gn,ai,di,aX,ak,aK,aD,bW,bt,dj,eA,d7,aw,cQ,aq,bf,cT,cF,bF,bS,tA,ah,au,aU]
   cases hl:dz (l7 ob oa) 0 with
   |true=>
    refine bc (t:=true) (by simp only[ak,ai,ah,cT,cF]) (aF ?_)
    unfold D8
    simp only[az,aA,aB,ai,aH,aN,ak,aw,cT,cF,bS,tA,ah,au]
    exact cd ⟨rfl,.inr rfl,cE (by simp only[ai,ah,cT,cF,pB,hl]) (by simp only[pB,hl,cT];rfl)⟩
   |false=>
    refine bc (t:=false) (by simp only[ak,ai,ah,cT,cF]) (ck ?_)
    simp only[aU]
    refine aF ?_
    unfold D9
    simp only[az,aA,aB,ai,aH,aN,ak,aw,cT,cF,bS,tA,ah,au]
    exact cd ⟨rfl,.inr rfl,cE (by simp only[ai,ah,cT,cF,pB,hl]) (by simp only[pB,hl,cF];rfl)⟩
end
def nY (a b:Int×Int):Int×Int:=bif dz (jy b a) 0 then b else a
theorem Wc {e:bj} {x:Operand} {av:Array Operand} {ts:Array TypeId} (h:ev e x=some (.func (.func 119) [] [])):callee e ⟨.value x,av,ts⟩=(evcs e av.toList).bind fun args=>some (119,args):=by
 simp only[callee,h,aq,cq,iA]
theorem vU {Q:cw} (hP:Q.P=Tryz.prog) {e:bj} {n g:Nat} {lc:Ag.Loc} {s:St} {t:Tmp} {a b:aj} (h:ax e t= .lref t g 0) (hl:lc.get t g=some [a,b]): ∃vs,gQ Q [] ⟨e,n,lc⟩ s [.cell t 36]=some vs/\jQ vs= .agg [a,b]:=by
 refine⟨[.agg [a,b]],?_,rfl⟩
 simp only[gQ,x8,h,hP,cx,hl,aq,jf,cut,nq,bN,aZ,aP,aW,bS,cT,cK,aQ,bE]
theorem aiF {sp:FuncId->Option (List aj->Option aj)} (h118:sp 118=none) (h119:sp 119=some qA) (a b:Int×Int) {s:St} (hm:s.minw<=s.next):bz (QS sp) 118 [.list 2 [gN a,gN b] .full,.func (.func 119) [] []] s (gN (nY a b)) s:=by
 have hsp:qA [.agg [.int .i64 b.1,.int .i64 b.2],.agg [.int .i64 a.1,.int .i64 a.2]]=some (.int .i64 (jy b a)):=rfl
 have w2:IntKind.i64.wrap (1+1)=2:=rfl
 have t1:dz ((2:Nat):Int) 1=false:=rfl
 have t2:dz 1 ((2:Nat):Int)=true:=rfl
 have t3:dz 2 ((2:Nat):Int)=false:=rfl
 have n0: ∀k,fF (.int k 0)=some 0:=fun _=>rfl
 have n1: ∀k,fF (.int k 1)=some 1:=fun _=>rfl
 have a0: ∀x y:aj,iJ [x,y] 0=x:=fun _ _=>rfl
 have a1: ∀x y:aj,iJ [x,y] 1=y:=fun _ _=>rfl
 refine ey abU abT abX abW h118 ?_
 unfold JO
 refine aF ?_
 unfold JP
 simp only[dt,cY,az,aA,aB,dA,gZ,gl,bJ,dC,aq,cT,aV,cg,aP,aW,tA,aQ,au,bE,cm,cj,dT,wu,Y8,gN]
 refine aR (aR (b7 ?_))
 unfold JQ
 simp only[az,aA,aB,ai,aH,aX,cJ,ak,aK,aD,bk,bm,bt,aw,bU,cQ,cU,bJ,aq,bf,jm,cT,cF,aV,cg,aP,aW,bS,tA,aQ,ah,au,bE,aZ,Ad,Za,t1,aU]
 refine bc (t:=false) (by simp only[ak,ai,ah,cT,cF, *]) (ck ?_)
 simp only[aU]
 refine aF ?_
 unfold JR
 simp only[az,aA,ej,aB,ep,ai,dA,cM,bR,jz,aH,gZ,bo,ez,ek,ak,aK,aD,bt,gl,fQ,aw,bJ,dC,ix,aq,cK,cT,cF,aV,cg,aP,aW,cut,cV,bN,a7,eR,cq,cH,bS,tA,aQ,ah,au,bE,cm,i9,dY,aZ,dl,cj,dT,jf,ru,wu,Df,Y9,n0,a0]
 refine aR (aF ?_)
 unfold JS
 simp only[az,aA,aB,aN,aK,bt,aw,tA,au]
 refine cO (cR ?_)
 unfold zj
 refine aR (aR (b7 ?_))
 unfold zk
 simp only[az,aA,aB,ai,aH,aX,cJ,ak,aD,bk,bm,aw,bU,cQ,cU,bJ,aq,bf,jm,cT,cF,aV,cg,aP,aW,bS,tA,aQ,ah,au,bE,aZ,Ad,Dd,t2,aU]
 refine bc (t:=true) (by simp only[ak,ai,ah,cT,cF, *]) (ck ?_)
 simp only[aU]
 refine aR (cO (lr hm ?_))
 unfold JT
 simp only[eJ,eI,eK,isStore,ai,bR,aH,bo,aX,ek,dK,ak,aK,aD,bk,bm,bt,cx,fQ,aw,cQ,dC,aq,bf,cK,cT,cF,aV,ei,aP,aW,cut,bN,a7,eR,bS,tA,aQ,ah,au,bE,i9,aZ,dl,dT,jf,Df,n1,a1,Wc,h119,hsp]
 cases hz:dz (jy b a) 0 with
 |true=>
  have hm2:nY a b=b:=by simp only[nY,hz,cT]
  rw[hm2]
  refine bc (t:=true) (by simp only[ak,ai,ah,cT,cF]) (b7 ?_)
  unfold JU
  simp only[az,aA,ej,aB,ep,ai,bR,jz,aH,bo,ez,ek,ak,aD,fQ,aw,dC,ix,aq,cK,cT,cF,aV,aP,aW,cut,cV,bN,a7,eR,cq,cH,bS,tA,aQ,ah,au,bE,cm,i9,dY,aZ,dl,cj,dT,jf,ru,Df,n1,a1,dP,aU]
  refine b7 ?_
  try unfold Dy
  simp only[az,aA,aB,ai,aH,aN,aX,ak,aK,aD,bt,aw,dZ,aq,bf,cT,cF,aV,bS,tA,ah,au,w2,aU]
  refine cR ?_
  try unfold zj
  refine aR (aR (b7 ?_))
  try unfold zk
  simp only[az,aA,aB,ai,aH,aX,cJ,ak,aD,bk,bm,aw,bU,cQ,cU,bJ,aq,bf,jm,cT,cF,aV,cg,aP,aW,bS,tA,aQ,ah,au,bE,aZ,Ad,Dd,t3,aU]
  refine bc (t:=false) (by simp only[ak,ai,ah,cT,cF, *]) (eD ?_)
  show W (QS sp) 118 _ _ _ _
  refine aF ?_
  unfold Dz
  simp only[az,aA,ej,aB,ep,ai,bR,bo,ez,ak,aD,cx,aw,dC,ix,aq,cK,cT,cF,aV,aP,aW,cut,cV,bN,a7,cq,cH,bS,tA,aQ,ah,au,bE,cm,dY,aZ,dl,cj,dT,jf,ru]
  refine cd ⟨rfl,.inr rfl,?_⟩
  exact vU (g:=1) rfl (by simp only[ai,ah,cT,cF, *]) (by simp only[bR,ah,cT,cF])
 |false=>
  have hm2:nY a b=a:=by simp only[nY,hz,cF]
  rw[hm2]
  refine bc (t:=false) (by simp only[ak,ai,ah,cT,cF]) (ck ?_)
  simp only[dP,aU]
  refine b7 ?_
  try unfold Dy
  simp only[az,aA,aB,ai,aH,aN,aX,ak,aK,aD,bt,aw,dZ,aq,bf,cT,cF,aV,bS,tA,ah,au,w2,aU]
  refine cR ?_
  try unfold zj
  refine aR (aR (b7 ?_))
  try unfold zk
  simp only[az,aA,aB,ai,aH,aX,cJ,ak,aD,bk,bm,aw,bU,cQ,cU,bJ,aq,bf,jm,cT,cF,aV,cg,aP,aW,bS,tA,aQ,ah,au,bE,aZ,Ad,Dd,t3,aU]
  refine bc (t:=false) (by simp only[ak,ai,ah,cT,cF, *]) (eD ?_)
  show W (QS sp) 118 _ _ _ _
  refine aF ?_
  unfold Dz
  simp only[az,aA,ej,aB,ep,ai,bR,bo,ez,ak,aD,cx,aw,dC,ix,aq,cK,cT,cF,aV,aP,aW,cut,cV,bN,a7,cq,cH,bS,tA,aQ,ah,au,bE,cm,dY,aZ,dl,cj,dT,jf,ru]
  refine cd ⟨rfl,.inr rfl,?_⟩
  exact vU (g:=1) rfl (by simp only[ai,ah,cT,cF, *]) (by simp only[bR,ah,cT,cF])
def sE:Sp
 | [.list 2 [p,q] .full,.func (.func 119) [] []]=>(tD p).bind fun a=>(tD q).bind fun b=>some (gN (nY a b))
 |_=>none
def BG:eV:=[(119,qA)]
theorem U0:fT BG:=.cons SI .nil
theorem aiE:eN Tryz.prog 118 sE:=by
 intro args x hv G h w xs wr hx
 unfold sE at hv
 split at hv
 ·simp only[aG,bg] at hv
  obtain⟨a,h1,b,h2,rfl⟩:=hv
  have h1:=wP h1
  have h2:=wP h2
  subst h1;subst h2
  exact gS (Q:=QT BG) (gK U0) (fun _=>gV 1) (args:=[.list 2 [gN a,gN b] .full,.func (.func 119) [] []]) (s':=s0) rfl (aiF (sp:=fun f=>fv f BG) rfl rfl a b (bB _)) rfl ⟨2,rfl⟩ G h w xs wr hx
 ·cases hv
def jE (a b:Int×Int):Bool:=bif bD a.1 b.1 then bif bD a.2 b.2 then true else false else false
def oW (b o t:Int×Int):Bool:= !(jE o t||jE t b||jE o b)
def nb (b o t:Int×Int):Int×Int:=bif jE o t||jE t b then o else bif jE o b then t else nY o t
theorem VT {e:bj} {x y:Operand} {a b c d:aj} (hx:ev e x=some (.agg [a,b])) (hy:ev e y=some (.agg [c,d])) (s:St):dV Tryz.prog 192 2 [(0,x),(1,y)] false e s=some (.list 2 [.agg [a,b],.agg [c,d]] .full,s):=by
 simp only[dV,Xf,aq,dQ,evc,hx,hy,nk,cT,gd,j9,aP,aW,cV,kD,aQ,bE,jt,ip,cut]
 rfl
section
variable {sp:FuncId->Option (List aj->Option aj)} {ch:Nat->Nat}
theorem ajX (h75:sp 75=none) {x:Nat} {id:ar} (b o t:Int×Int) (hb:oW b o t=false) (s:St):bz (QM sp ch) 75 [.ptr x 0,.str id,gN b,gN o,gN t] s (gN (nb b o t)) s:=by
 refine ey PT PS PZ PY h75 ?_
 unfold Er
 refine aF ?_
 unfold Es
 simp only[dt,cY,az,aA,aB,ai,dA,cM,gZ,jC,ak,aD,gl,bJ,dC,aq,cK,cT,cF,bF,gD,aP,aW,bS,tA,aQ,ah,au,bE,cm,cj,dT,wu,IM,IP,IQ,IL,gN]
 refine aR (cO (aR (aR (b7 ?_))))
 unfold Et
 have f1:(bif bD o.1 t.1 then bif bD o.2 t.2 then true else false else false)=jE o t:=rfl
 have f2:(bif bD t.1 b.1 then bif bD t.2 b.2 then true else false else false)=jE t b:=rfl
 have f3:(bif bD o.1 b.1 then bif bD o.2 b.2 then true else false else false)=jE o b:=rfl
 simp only[az,aA,aB,ai,bR,aN,bo,aX,ak,aD,cx,aw,aq,cK,cT,cF,bF,aP,aW,cut,bN,a7,bS,tA,aQ,ah,au,bE,aZ,jf,pP,f1,aU]
 cases h1:jE o t with
 |true=>
  have hm:nb b o t=o:=by simp only[nb,h1,Bool.true_or,cT]
  rw[hm]
  refine bc (t:=true) (by simp only[ak,ai,ah,cT,cF]) (ck ?_)
  simp only[aU]
  refine bc (t:=true) (by simp only[ak,ai,ah,cT,cF]) (aF ?_)
  unfold Ev
  simp only[az,aA,ej,aB,ep,ai,bR,jz,bo,ez,ak,aD,cx,aw,dC,ix,aq,cK,cT,cF,bF,aP,aW,cut,cV,bN,a7,cq,cH,bS,tA,aQ,ah,au,bE,cm,dY,aZ,dl,cj,dT,jf,ru]
  refine cd ⟨rfl,.inr rfl,?_⟩
  exact vU (g:=1) rfl (by simp only[ai,ah,cT,cF, *]) (by simp only[bR,ah,cT,cF])
 |false=>
  refine bc (t:=false) (by simp only[ak,ai,ah,cT,cF]) (b7 ?_)
  unfold Eu
  simp only[az,aA,aB,ai,bR,aN,bo,aX,ak,aD,cx,aw,aq,cK,cT,cF,bF,aP,aW,cut,bN,a7,bS,tA,aQ,ah,au,bE,aZ,jf,pP,f2,aU]
  cases h2:jE t b with
  |true=>
   have hm:nb b o t=o:=by simp only[nb,h1,h2,jU,cT]
   rw[hm]
   refine bc (t:=true) (by simp only[ak,ai,ah,cT,cF]) (aF ?_)
   unfold Ev
   simp only[az,aA,ej,aB,ep,ai,bR,jz,bo,ez,ak,aD,cx,aw,dC,ix,aq,cK,cT,cF,bF,aP,aW,cut,cV,bN,a7,cq,cH,bS,tA,aQ,ah,au,bE,cm,dY,aZ,dl,cj,dT,jf,ru]
   refine cd ⟨rfl,.inr rfl,?_⟩
   exact vU (g:=1) rfl (by simp only[ai,ah,cT,cF, *]) (by simp only[bR,ah,cT,cF])
  |false=>
   have h3:jE o b=true:=by
    simp only[oW,h1,h2,jU,Bool.not_eq_false'] at hb;exact hb
   have hm:nb b o t=t:=by simp only[nb,h1,h2,h3,Bool.or_self,cT,cF]
   rw[hm]
   refine bc (t:=false) (by simp only[ak,ai,ah,cT,cF]) ?_
   refine aR (b7 ?_)
   unfold Ew
   simp only[az,aA,aB,ai,bR,aN,bo,aX,ak,aD,cx,aw,aq,cK,cT,cF,bF,aP,aW,cut,bN,a7,bS,tA,aQ,ah,au,bE,aZ,jf,pP,f3,aU]
   refine bc (t:=true) (by simp only[ak,ai,ah,cT,cF,h3]) (aF ?_)
   unfold PU
   simp only[az,aA,ej,aB,ep,ai,bR,jz,bo,ez,ak,aD,cx,aw,dC,ix,aq,cK,cT,cF,bF,aP,aW,cut,cV,bN,a7,cq,cH,bS,tA,aQ,ah,au,bE,cm,dY,aZ,dl,cj,dT,jf,ru]
   refine cd ⟨rfl,.inr rfl,?_⟩
   exact vU (g:=1) rfl (by simp only[ai,ah,cT,cF, *]) (by simp only[bR,ah,cT,cF])
theorem ajW (h75:sp 75=none) (h45:sp 45=none) (h118:sp 118=some sE) {s:St} {x mb mo mt mu md:Nat} {C:List Cf} (hx:s.get [] x=some (.cells [.map mb,.map mo,.map mt,.map mu,.map md])) (hd:s.get [] md=some (.map (eW 0 C) C.length)) {id:ar} (b o t:Int×Int) (hb:oW b o t=true):
 bz (QM sp ch) 75 [.ptr x 0,.str id,gN b,gN o,gN t] s (gN (nb b o t)) (s.put md (some (.map (eW 0 (dG (id,[97,116]) C)) (dG (id,[97,116]) C).length))):=by
 have hnote:=xT (ch:=ch) h45 hx hd id [97,116]
 simp only[oW,te,rA] at hb
 obtain⟨⟨h1,h2⟩,h3⟩:=hb
 have hm:nb b o t=nY o t:=by simp only[nb,h1,h2,h3,Bool.or_self,cF]
 have hms:sE [.list 2 [.agg [.int .i64 o.1,.int .i64 o.2],.agg [.int .i64 t.1,.int .i64 t.2]] .full,.func (.func 119) [] []]=some (.agg [.int .i64 (nY o t).1,.int .i64 (nY o t).2]):=rfl
 have hbs: ∀e s,ax e 27= .agg [.int .i64 o.1,.int .i64 o.2]->ax e 28= .agg [.int .i64 t.1,.int .i64 t.2]->dV Tryz.prog 192 2 [(0,.tmp 27),(1,.tmp 28)] false e s=some (.list 2 [.agg [.int .i64 o.1,.int .i64 o.2],.agg [.int .i64 t.1,.int .i64 t.2]] .full,s):=fun e s p q=>VT (by rw[ak,p]) (by rw[ak,q]) s
 have f1:(bif bD o.1 t.1 then bif bD o.2 t.2 then true else false else false)=false:=h1
 have f2:(bif bD t.1 b.1 then bif bD t.2 b.2 then true else false else false)=false:=h2
 have f3:(bif bD o.1 b.1 then bif bD o.2 b.2 then true else false else false)=false:=h3
 rw[hm]
 refine ey PT PS PZ PY h75 ?_
 unfold Er
 refine aF ?_
 unfold Es
 simp only[dt,cY,az,aA,aB,ai,dA,cM,gZ,jC,ak,aD,gl,bJ,dC,aq,cK,cT,cF,bF,gD,aP,aW,bS,tA,aQ,ah,au,bE,cm,cj,dT,wu,IM,IP,IQ,IL,gN]
 refine aR (cO (aR (aR (b7 ?_))))
 unfold Et
 simp only[az,aA,aB,ai,bR,aN,bo,aX,ak,aD,cx,aw,aq,cK,cT,cF,bF,aP,aW,cut,bN,a7,bS,tA,aQ,ah,au,bE,aZ,jf,pP,f1,aU]
 refine bc (t:=false) (by simp only[ak,ai,ah,cT,cF, *]) (b7 ?_)
 unfold Eu
 simp only[az,aA,aB,ai,bR,aN,bo,aX,ak,aD,cx,aw,aq,cK,cT,cF,bF,aP,aW,cut,bN,a7,bS,tA,aQ,ah,au,bE,aZ,jf,pP,f2,aU]
 refine bc (t:=false) (by simp only[ak,ai,ah,cT,cF, *]) (aR (b7 ?_))
 unfold Ew
 simp only[az,aA,aB,ai,bR,aN,bo,aX,ak,aD,cx,aw,aq,cK,cT,cF,bF,aP,aW,cut,bN,a7,bS,tA,aQ,ah,au,bE,aZ,jf,pP,f3,aU]
 refine bc (t:=false) (by simp only[ak,ai,ah,cT,cF, *]) (ck ?_)
 simp only[dP,aU]
 refine aR (gh (fU 2 ?_))
 unfold PW
 simp only[az,aA,aB,ai,aH,ak,aw,cT,cF,bN,a7,bS,tA,ah,au]
 refine fY (g:=45) (args:=[.ptr x 0,.str id,.str [97,116]]) ?_ hnote (by decide) ?_
 ·simp only[callee,ai,ak,aK,ff,aD,bk,bm,jB,aq,cS,dW,cT,cF,cq,cH,bS,ah]
 refine fX ?_
 simp only[az,aU]
 refine aF ?_
 unfold PX
 simp only[az,aA,ej,aB,ep,ai,bR,jz,lg,bo,ez,dK,dI,ak,ff,aD,bk,bm,cx,aw,bU,bJ,dC,ix,aq,cK,jm,oM,cT,cF,bF,gD,qS,aP,aW,cut,cV,bN,a7,cq,cH,bS,tA,aQ,ah,au,bE,cm,dY,aZ,dl,cj,dT,jf,ru,aat,hbs,h118,hms]
 refine cd ⟨rfl,.inr rfl,?_⟩
 exact vU (g:=1) rfl (by simp only[ai,ah,cT,cF, *]) (by simp only[bR,ah,cT,cF])
end
end Go.Proofs.YtbfmdojdemckbaaGreat
