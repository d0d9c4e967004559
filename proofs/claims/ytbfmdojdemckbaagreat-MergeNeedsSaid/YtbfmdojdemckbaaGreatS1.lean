/- Ranges over functions; contracts on the sorting of rows; comparing of lists; merge.objects, same, note, compare, point. -/
import Derived.Test.YtbfmdojdemckbaaGreatZ2
import Derived.Test.YtbfmdojdemckbaaGreatZ1
import Derived.Test.YtbfmdojdemckbaaGreatK2
open Go.Ag.aj renaming cells→ld,clean→n7
open Array renaming getElem?_eq_none→vh,getElem?_modify→B0
open Bool renaming and_eq_true→df,and_false→mi,and_self→fL,and_true→dX,false_eq_true→rB,false_or→jI,not_eq_false'→pP,not_eq_true'→rC,not_false→ej,not_true→dg,or_eq_false_iff→mj,or_false→lf,or_self→lg,true_and→iq
open Classical renaming byContradiction→ml
open List renaming all_cons→li,append_assoc→xb,append_nil→iQ,cons_append→cP,drop_succ_cons→gZ,drop_zero→nH,drop→aZ,eq_nil_of_length_eq_zero→rE,filter_cons→yY,getElem?_append_left→pS,getElem?_append_right→qF,getElem?_cons_zero→gj,getElem?_eq_getElem→j2,getElem?_map→vk,head?_cons→bE,length_append→dw,length_cons→aR,length_filter_le→rF,length_map→fw,length_nil→aY,map_cons→fS,map_nil→sJ,mem_append_left→B8,mem_cons→qH,mem_singleton→qI,nil_append→cy,nodup_cons→xc,size_toArray→vq,take_succ_cons→e7,take→bO
open Nat renaming add_zero→cQ,beq→bo,ble_eq_true_of_le→fe,ble→cK,blt→cg,eq_of_beq_eq_true→iI,le_of_ble_eq_true→iu,le_refl→bK,le_succ→kF,le_trans→gN,lt_irrefl→ff,lt_or_ge→iJ,lt_succ_self→iC,reduceAdd→bJ,reduceBEq→ah,reduceLT→ar,reduceLeDiff→ck,reduceMul→jJ,zero_add→aQ,zero_lt_succ→fG,zero_mul→lk
open Go.Op renaming bytesLess→iE
open Option renaming bind_eq_some_iff→aN,bind_some→aq
open Option.some renaming injEq→bp
open Prod.mk renaming injEq→bX
open Go.Ag.bv renaming of2→dZ
open Go.Ag.W renaming block→cR,cond→bc,exit→eL,loop1→cY,region→gH,reg→cp,ret→bP,sdrawQ→ll,seq→aV,skip→b7,sreg→aF
namespace Go.Proofs.YtbfmdojdemckbaaGreat
open Go.Ag
theorem uV {n b:Nat} (hn:n<=1000000) (hb:b<=88):l7 n b=true:=by
 unfold l7
 apply fe
 have:(n*2+1024)*b<=2001024*88:=Nat.mul_le_mul (by omega) hb
 omega
theorem CM (a b c d e:Nat):(aj.arr a b c d e).cells=[.arr a b c d e]:=rfl
theorem CO (a b c d e:Nat):(aj.arr a b c d e).clean=true:=rfl
theorem nm {s:St} {n:Nat} {o:Option bR} (h:s.minw<=n):(s.put n o).minw=s.minw:=by
 show(bif cK s.minw n then s.minw else n)=s.minw
 rw[fe h];rfl
structure iw (sz:Nat) (s0 s:St) (bx lo lim:Nat) (lob:bR) (xs:List aj):Prop where
 old: ∀n,n<s0.next->s.get [] n=s0.get [] n
 lt:s0.next<=bx/\bx<lo/\lo<=lim/\lim<s.next
 minw:s.minw=s0.minw
 box: ∃v,s.get [] bx=some (.cells [v])/\((v= .nils/\xs=[])\/(xs≠ []/\ ∃k,v= .arr sz k 0 xs.length xs.length/\s.get [] k=some (.cells (cj xs))/\lim<k/\k<s.next))
 loop:s.get [] lo=some lob
theorem tk: ∀(a b:List aj),cj (a++b)=cj a++cj b
 | [],b=>rfl
 |x::a,b=>by
  have ih:=tk a b
  show x.cells++cj (a++b)=(x.cells++cj a)++cj b
  rw[ih,xb]
theorem Jl {sz:Nat}: ∀ {xs:List aj},(∀x∈xs,x.cells.length=sz)->(cj xs).length=xs.length*sz
 | [],_=>by simp[cj]
 |x::xs,h=>by
  have ih:=Jl (xs:=xs) fun y hy=>h y (by simp[hy])
  show(x.cells++cj xs).length=_
  rw[dw,ih,h x (by simp),aR,Nat.add_mul];omega
theorem H2 {t:TypeId} {E:EI} {sz:Nat} (hE:jG Tryz.prog t=some E) (hn:E.n=sz) (hb:E.b<=88) {s0 s:St} {bx lo lim:Nat} {xs:List aj} {x:aj} (hsz: ∀y∈xs++[x],y.cells.length=sz) (hlen:xs.length<1000000) (hm:s0.minw<=s0.next)
 (_h1: ∀n,n<s0.next->s.get [] n=s0.get [] n) (h2:s0.next<=bx/\bx<lo/\lo<=lim/\lim<s.next) (h3:s.minw=s0.minw) {v:aj} (h4:(v= .nils/\xs=[])\/(xs≠ []/\ ∃k,v= .arr sz k 0 xs.length xs.length/\s.get [] k=some (.cells (cj xs))/\lim<k/\k<s.next)):
 ∃s1,j6 Tryz.prog [] t v (.list sz [x] .full) true s=some (.arr sz s.next 0 (xs.length+1) (xs.length+1),s1)/\s1.get [] s.next=some (.cells (cj (xs++[x])))/\s1.next=s.next+1/\s1.minw=s0.minw/\(∀n,n<=lim->s1.get [] n=s.get [] n)/\s1.ci=s.ci:=by
 subst hn
 have hr:l7 (xs.length+1) E.b=true:=uV (by omega) hb
 rcases h4 with⟨rfl,rfl⟩|⟨hne,k,rfl,hk,hl,hlt⟩
 ·refine⟨s.new (.cells (cj [x])),?_,?_,rfl,h3,fun n hn=>?_,rfl⟩
  ·have hr:l7 1 E.b=true:=hr
   simp only[j6,hE,aq,ku,aX,bS,cT,mp,kP,aR,aY,aQ,hr]
  ·rw[dy,bS];rfl
  ·rw[dy,beq_eq_false_iff_ne.2 (by omega:n≠s.next)];rfl
 ·have hfl:(cj xs).length=xs.length*E.n:=Jl fun y hy=>hsz y (by simp[hy])
  have hfx:cj [x]=x.cells:=by show x.cells++cj []=_;simp[cj]
  refine⟨(s.put k none).new (.cells (cj (xs++[x]))),?_,?_,rfl,?_,fun n hn=>?_,rfl⟩
  ·simp only[j6,hE,aq,ku,aX,bS,cT,mp,hk,aR,aY,aQ,hr,hfl,fL,nH,hfx,tk]
  ·rw[dy,qs,bS];rfl
  ·show(s.put k none).minw=_
   rw[nm (by omega),h3]
  ·rw[dy,qs,beq_eq_false_iff_ne.2 (by omega:n≠s.next),cF,cX,beq_eq_false_iff_ne.2 (by omega:n≠k)];rfl
section
variable {sp:FuncId->Option (List aj->Option aj)} {Q:cI} (hP:Q.P=Tryz.prog) (hh:Q.hint=bL)
include hP hh
theorem aor {s0 s:St} {bx lo lim:Nat} {E:bq} {xs:List aj} {x:aB} (hE:ay E 2= .ptr bx 0) (hsz: ∀y∈xs,y.cells.length=1) (hlen:xs.length<1000000) (hm:s0.minw<=s0.next)
 (c:iw 1 s0 s bx lo lim (.loop 78 E 13 [7] tu tw none) xs):
 ∃s',qL Q lo [.str x] s (.bool true) s'/\iw 1 s0 s' bx lo lim (.loop 78 E 13 [7] tu tw none) (xs++[.str x])/\(∀n,n<=lim->n≠bx->n≠lo->s'.get [] n=s.get [] n)/\s.next<=s'.next:=by
 obtain⟨v,hv,hrow⟩:=c.box
 obtain⟨l1,l2,l3,l4⟩:=c.lt
 have hg1: ∀n,n≠lo->(s.put lo none).get [] n=s.get [] n:=fun n hn=>by rw[cX,beq_eq_false_iff_ne.2 hn];rfl
 have hm1:(s.put lo none).minw=s0.minw:=by rw[nm (by rw[c.minw];omega),c.minw]
 have hrow1:(v= .nils/\xs=[])\/(xs≠ []/\ ∃k,v= .arr 1 k 0 xs.length xs.length/\(s.put lo none).get [] k=some (.cells (cj xs))/\lim<k/\k<(s.put lo none).next):=by
  rcases hrow with h|⟨h1,k,h2,h3,h4,h5⟩
  ·exact .inl h
  ·exact .inr ⟨h1,k,h2,(hg1 k (by omega)).trans h3,h4,h5⟩
 obtain⟨s1,a1,a2,a3,a4,a5,_⟩:=H2 qQ rfl (by decide) (x:=.str x) (fun y hy=>by
  rcases List.mem_append.1 hy with hy|hy
  ·exact hsz y hy
  ·simp only[qI] at hy;subst hy;rfl) hlen hm (fun n hn=>(hg1 n (by omega)).trans (c.old n hn)) ⟨l1,l2,l3,l4⟩ hm1 hrow1
 have a3:s1.next=s.next+1:=a3
 have hbx1:s1.get [] bx=some (.cells [v]):=by rw[a5 bx (by omega),hg1 bx (by omega)];exact hv
 have hbx0:(s.put lo none).get [] bx=some (.cells [v]):=(hg1 bx (by omega)).trans hv
 have hvc:v.clean=true:=by rcases hrow with⟨rfl,_⟩|⟨_,k,rfl,_⟩<;>rfl
 refine⟨(s1.put bx (some (.cells [.arr 1 s.next 0 (xs.length+1) (xs.length+1)]))).put lo (some (.loop 78 E 13 [7] tu tw none)),?_,⟨fun n hn=>?_,⟨l1,l2,l3,?_⟩,?_,⟨.arr 1 s.next 0 (xs.length+1) (xs.length+1),?_,.inr ⟨by simp,s.next,?_,?_,l4,?_⟩⟩,?_⟩,fun n hn h1 h2=>?_,?_⟩
 ·refine qL.of (env':=E.set 7 (some (.str x))) c.loop rfl rfl ajW ajX ?_
  unfold Sh
  refine cp ?_
  unfold Sl
  simp only[aw,az,aA,ai,aM,ak,au,cT,bS,tA,ar]
  unfold Si
  refine cR (cp ?_)
  unfold Sm
  have hbs: ∀e s,ay e 9= .str x->ey Tryz.prog 37 1 [(0,.tmp 9)] false e s=some (.list 1 [.str x] .full,s):=fun e s p=>by
   simp only[ey,qQ,aq,ee,evc,ev,p,n7,cT,gU,ld,aR,aY,dl,lk,aQ,jJ,iL,cut]
   rfl
  simp only[aw,az,eD,aA,eE,ai,aG,lL,bn,eN,cG,ak,aD,bh,bk,au,bZ,ph,bG,aq,jD,cT,cF,aR,aY,dl,bO,aZ,bE,gZ,cy,iQ,bS,tA,aQ,ah,ar,ck,dX,aX,dA,cd,dT,fT,yO,wh,hP,hh,hE,dH,hbx0,dG,adj,adk,hbs,hvc,a1,kW,hbx1,kV,CM,CO,dM]
  try rfl
 ·rw[cX,beq_eq_false_iff_ne.2 (by omega:n≠lo),cF,cX,beq_eq_false_iff_ne.2 (by omega:n≠bx),cF,a5 n (by omega),hg1 n (by omega)];exact c.old n hn
 ·show lim<s1.next
  omega
 ·rw[nm,nm,a4]
  ·rw[a4];omega
  ·rw[nm (by rw[a4];omega),a4];omega
 ·rw[cX,beq_eq_false_iff_ne.2 (by omega:bx≠lo),cF,cX,bS];rfl
 ·simp only[dw,aR,aY]
 ·rw[cX,beq_eq_false_iff_ne.2 (by omega:s.next≠lo),cF,cX,beq_eq_false_iff_ne.2 (by omega:s.next≠bx),cF];exact a2
 ·show s.next<s1.next
  omega
 ·rw[cX,bS];rfl
 ·rw[cX,beq_eq_false_iff_ne.2 h2,cF,cX,beq_eq_false_iff_ne.2 h1,cF,a5 n hn,hg1 n h2]
 ·show s.next<=s1.next
  omega
theorem aos {s0 s:St} {bx lo lim:Nat} {E:bq} {xs:List aj} {a b:aB} (hE:ay E 2= .ptr bx 0) (hsz: ∀y∈xs,y.cells.length=2) (hlen:xs.length<1000000) (hm:s0.minw<=s0.next)
 (c:iw 2 s0 s bx lo lim (.loop 81 E 13 [7] tx tz none) xs):
 ∃s',qL Q lo [.agg [.str a,.str b]] s (.bool true) s'/\iw 2 s0 s' bx lo lim (.loop 81 E 13 [7] tx tz none) (xs++[.agg [.str a,.str b]])/\(∀n,n<=lim->n≠bx->n≠lo->s'.get [] n=s.get [] n)/\s.next<=s'.next:=by
 obtain⟨v,hv,hrow⟩:=c.box
 obtain⟨l1,l2,l3,l4⟩:=c.lt
 obtain⟨sA,hsA⟩: ∃sA,sA=((s.put lo none).new (.cells [.str [],.str []])).put s.next (some (.cells [.str a,.str b])):=⟨_,rfl⟩
 have nA:sA.next=s.next+1:=by rw[hsA];rfl
 have hg1: ∀n,n≠lo->n≠s.next->sA.get [] n=s.get [] n:=fun n hn hn2=>by
  rw[hsA,cX,beq_eq_false_iff_ne.2 hn2,cF,dy,qs,beq_eq_false_iff_ne.2 hn2,cF,cX,beq_eq_false_iff_ne.2 hn];rfl
 have hm0:(s.put lo none).minw=s0.minw:=by rw[nm (by rw[c.minw];omega),c.minw]
 have hm1:sA.minw=s0.minw:=by
  rw[hsA,nm]
  ·exact hm0
  ·show(s.put lo none).minw<=s.next
   rw[hm0];omega
 have hrow1:(v= .nils/\xs=[])\/(xs≠ []/\ ∃k,v= .arr 2 k 0 xs.length xs.length/\sA.get [] k=some (.cells (cj xs))/\lim<k/\k<sA.next):=by
  rcases hrow with h|⟨h1,k,h2,h3,h4,h5⟩
  ·exact .inl h
  ·exact .inr ⟨h1,k,h2,(hg1 k (by omega) (by omega)).trans h3,h4,by omega⟩
 obtain⟨s1,a1,a2,a3,a4,a5,_⟩:=H2 IP rfl (by decide) (x:=.agg [.str a,.str b]) (fun y hy=>by
  rcases List.mem_append.1 hy with hy|hy
  ·exact hsz y hy
  ·simp only[qI] at hy;subst hy;rfl) hlen hm (fun n hn=>(hg1 n (by omega) (by omega)).trans (c.old n hn)) ⟨l1,l2,l3,by omega⟩ hm1 hrow1
 rw[nA] at a1 a2 a3
 have hbx1:s1.get [] bx=some (.cells [v]):=by rw[a5 bx (by omega),hg1 bx (by omega) (by omega)];exact hv
 have hbx0:sA.get [] bx=some (.cells [v]):=(hg1 bx (by omega) (by omega)).trans hv
 have hself:sA.get [] s.next=some (.cells [.str a,.str b]):=by rw[hsA,cX,bS];rfl
 have hnew:((s.put lo none).new (.cells [.str [],.str []])).get [] s.next=some (.cells [.str [],.str []]):=by rw[dy,qs,bS];rfl
 have hvc:v.clean=true:=by rcases hrow with⟨rfl,_⟩|⟨_,k,rfl,_⟩<;>rfl
 refine⟨(s1.put bx (some (.cells [.arr 2 (s.next+1) 0 (xs.length+1) (xs.length+1)]))).put lo (some (.loop 81 E 13 [7] tx tz none)),?_,⟨fun n hn=>?_,⟨l1,l2,l3,?_⟩,?_,⟨.arr 2 (s.next+1) 0 (xs.length+1) (xs.length+1),?_,.inr ⟨by simp,s.next+1,?_,?_,by omega,?_⟩⟩,?_⟩,fun n hn h1 h2=>?_,?_⟩
 ·refine qL.of (env':=E.set 7 (some (.agg [.str a,.str b]))) c.loop rfl rfl aj3 aj4 ?_
  unfold Sq
  refine cp ?_
  unfold Sv
  have hpn:(s.put lo none).next=s.next:=rfl
  simp only[aw,az,eD,aA,eE,ai,gY,eN,ak,aD,i9,bG,dj,aq,cu,cT,cF,aR,aY,dl,bO,aZ,gZ,cy,iQ,bS,tA,aQ,ah,ar,bJ,ck,dX,aX,dA,cd,dT,Hw,Wr,hP,hh,adp,kW,hpn,hnew,kV]
  rw[<-hsA]
  unfold Sr
  refine cR (cp ?_)
  unfold Sw
  have hbs: ∀e s,ay e 9= .agg [.str a,.str b]->ey Tryz.prog 27 1 [(0,.tmp 9)] false e s=some (.list 2 [.agg [.str a,.str b]] .full,s):=fun e s p=>by
   simp only[ey,IP,aq,ee,evc,ev,p,n7,cT,gU,ld,aR,aY,dl,lk,aQ,bJ,jJ,iL,cut]
   rfl
  simp only[aw,az,eD,aA,eE,ai,lL,bn,eN,cG,ak,aD,bh,bk,au,bZ,ph,bG,aq,jD,cT,cF,aR,aY,cut,dl,bO,aZ,bE,gZ,e7,cy,iQ,bS,and_true,tA,aQ,ah,ar,bJ,ck,dX,aX,dA,cd,dT,VB,VC,apl,ad5,hP,hh,hE,dH,hbx0,hself,dG,adm,adn,hbs,hvc,a1,kW,hbx1,kV,CM,CO,dM]
  try rfl
 ·rw[cX,beq_eq_false_iff_ne.2 (by omega:n≠lo),cF,cX,beq_eq_false_iff_ne.2 (by omega:n≠bx),cF,a5 n (by omega),hg1 n (by omega) (by omega)];exact c.old n hn
 ·show lim<s1.next
  omega
 ·rw[nm,nm,a4]
  ·rw[a4];omega
  ·rw[nm (by rw[a4];omega),a4];omega
 ·rw[cX,beq_eq_false_iff_ne.2 (by omega:bx≠lo),cF,cX,bS];rfl
 ·simp only[dw,aR,aY]
 ·rw[cX,beq_eq_false_iff_ne.2 (by omega:s.next+1≠lo),cF,cX,beq_eq_false_iff_ne.2 (by omega:s.next+1≠bx),cF];exact a2
 ·show s.next+1<s1.next
  omega
 ·rw[cX,bS];rfl
 ·rw[cX,beq_eq_false_iff_ne.2 h2,cF,cX,beq_eq_false_iff_ne.2 h1,cF,a5 n hn,hg1 n h2 (by omega)]
 ·show s.next<=s1.next
  omega
end
section
variable {Q:cI} {f:FuncId} {e:bq} {sz:Nat} {lc:Ag.Loc} {s:St} {d:Option Tmp} {g:SG} {mk:bt}
theorem Bl (t:TypeId) (x:Operand):eP Q f ⟨d,.range t x,g⟩ mk ⟨e,sz,lc⟩ s=(evc e x).bind fun x=>ii (l6 Q.P mk t x s) lc:=rfl
theorem qx (x:Operand) (b:Bool):eP Q f ⟨d,.next x b,g⟩ mk ⟨e,sz,lc⟩ s=(evc e x).bind fun it=>ii (kR mk Q.ch Q.kmax it b s) lc:=rfl
theorem Bj (x:Operand):eP Q f ⟨d,.entry x,g⟩ mk ⟨e,sz,lc⟩ s=(evc e x).bind fun it=>gi (qa mk it s) lc s:=rfl
end
theorem an0 {s:St} {m c:Nat} {es:List dx} (hs:s.get [] m=some (.map es c)):l6 Tryz.prog [] 61 (.map m) s=some (.ptr s.next 0,s.new (.iter (some m) c [] c)):=by
 have h:Tryz.prog.underlying 61=some (.map 9 67):=by kernel_rfl
 simp only[l6,h,aq,hs]
theorem C8: ∀(L:List (aB×aj)) (n:Nat) (e:dx),e∈c8 n L->n<=e.born/\e.born<n+L.length
 | [],n,e,h=>by cases h
 |(a,v)::L,n,e,h=>by
  rcases List.mem_cons.1 h with rfl|h
  ·exact⟨bK _,by simp only[aR];omega⟩
  ·have:=C8 L (n+1) e h
   simp only[aR];omega
theorem Da: ∀(L:List (aB×aj)) (n:Nat) (e:dx),e∈c8 n L-> ∃k v,e.key= .str k/\e.val=v/\(k,v)∈L
 | [],n,e,h=>by cases h
 |(a,v)::L,n,e,h=>by
  rcases List.mem_cons.1 h with rfl|h
  ·exact⟨a,v,rfl,rfl,by simp⟩
  ·obtain⟨k,u,h1,h2,h3⟩:=Da L (n+1) e h
   exact⟨k,u,h1,h2,by simp[h3]⟩
theorem IZ: ∀(L:List (aB×aj)) (n:Nat) (k:aB) (v:aj),(k,v)∈L-> ∃e∈c8 n L,e.key= .str k
 | [],n,k,v,h=>by cases h
 |(a,u)::L,n,k,v,h=>by
  rcases List.mem_cons.1 h with h|h
  ·cases h;exact⟨_,List.mem_cons_self,rfl⟩
  ·obtain⟨e,h1,h2⟩:=IZ L (n+1) k v h
   exact⟨e,List.mem_cons_of_mem _ h1,h2⟩
theorem zw: ∀(L:List (aB×aj)) (n:Nat) (e:dx),e∈c8 n L->se e.born (c8 n L)=some e
 | [],n,e,h=>by cases h
 |(a,v)::L,n,e,h=>by
  simp only[c8,se]
  rcases List.mem_cons.1 h with rfl|h
  ·simp
  ·have h1:=C8 L (n+1) e h
   have:bo n e.born=false:=by
    rw[aX];exact beq_eq_false_iff_ne.2 (by omega)
   rw[this]
   exact zw L (n+1) e h
theorem oQ {seen:List Nat} {es:List dx} {e:dx}:e∈dK seen es↔e∈es/\e.born ∉ seen:=by
 simp only[dK,List.mem_filter,rC,List.any_eq_false]
 constructor
 ·rintro⟨h1,h2⟩
  exact⟨h1,fun hm=>h2 _ hm (by simp)⟩
 ·rintro⟨h1,h2⟩
  refine⟨h1,fun b hb hc=>h2 ?_⟩
  have:=iI hc
  subst this;exact hb
theorem BT {seen:List Nat}: ∀ {es:List dx} {e:dx},e∈dK seen es->(dK (seen++[e.born]) es).length<(dK seen es).length:=by
 intro es e h
 have hsub: ∀es:List dx,dK (seen++[e.born]) es=(dK seen es).filter fun x=> !bo x.born e.born:=by
  intro es
  simp only[dK,List.filter_filter]
  congr 1
  funext x
  simp only[List.any_append,List.any_cons,List.any_nil,lf]
  cases seen.any (bo x.born)<;>simp
 rw[hsub]
 refine Nat.lt_of_le_of_ne (rF _ _) fun hc=>?_
 have:=List.length_filter_eq_length_iff.1 hc e h
 simp at this
structure It (s:St) (it m:Nat) (L:List (aB×aj)) (seen:List Nat):Prop where
 hi:s.get [] it=some (.iter (some m) L.length seen L.length)
 hm:s.get [] m=some (.map (c8 0 L) L.length)
theorem It.calm {s:St} {it m:Nat} {L:List (aB×aj)} {seen:List Nat} (c:It s it m L seen) (ch kmax:Nat->Nat):kR [] ch kmax (.ptr it 0) false s=nV ch kmax it m L.length seen L.length (dK seen (c8 0 L)) s:=by
 simp only[kR,c.hi,c.hm,aq,cF]
 have:(!seen.isEmpty&& !(c8 0 L).isEmpty&&(c8 0 L).all fun e=>cK L.length e.born)=false:=by
  cases L with
  |nil=>simp[c8]
  |cons x L=>
   obtain⟨a,v⟩:=x
   have:((c8 0 ((a,v)::L)).all fun e=>cK ((a,v)::L).length e.born)=false:=by
    simp only[c8,li,aR]
    have:cK (L.length+1) 0=false:=rfl
    rw[this];rfl
   rw[this,mi]
 rw[this];rfl
theorem It.done {s:St} {it m:Nat} {L:List (aB×aj)} {seen:List Nat} (c:It s it m L seen) (ch kmax:Nat->Nat) (h:dK seen (c8 0 L)=[]):kR [] ch kmax (.ptr it 0) false s=some (.tup [.bool false],s):=by
 rw[c.calm,h];rfl
theorem It.step {s:St} {it m:Nat} {L:List (aB×aj)} {seen:List Nat} (c:It s it m L seen) (ch kmax:Nat->Nat) (hk: ∀i,L.length<=kmax i) (h:dK seen (c8 0 L)≠ []):
 ∃e s',e∈dK seen (c8 0 L)/\kR [] ch kmax (.ptr it 0) false s=some (.tup [.bool true,e.key,e.val],s')/\(∀n,s'.get [] n=(s.put it (some (.iter (some m) L.length (seen++[e.born]) L.length))).get [] n)/\s'.next=s.next/\s'.minw=(s.put it none).minw/\s'.ci<=s.ci+1:=by
 rw[c.calm]
 have hall: ∀e∈dK seen (c8 0 L),cg e.born L.length=true:=fun e he=>by
  have:=C8 L 0 e (oQ.1 he).1
  exact fe (by omega)
 have hlen:(dK seen (c8 0 L)).length<=L.length:=by
  have h1:(dK seen (c8 0 L)).length<=(c8 0 L).length:=rF _ _
  have h2: ∀(L:List (aB×aj)) n,(c8 n L).length=L.length:=by
   intro L
   induction L with
   |nil=>intro n;rfl
   |cons x L ih=>intro n;obtain⟨a,v⟩:=x;simp only[c8,aR,ih]
  rw[h2] at h1;exact h1
 cases hu:dK seen (c8 0 L) with
 |nil=>exact absurd hu h
 |cons e r=>
  rw[hu] at hall hlen
  have hb:((e::r).all fun e=>cg e.born L.length)=true:=List.all_eq_true.2 hall
  cases r with
  |nil=>
   refine⟨e,(pL it m L.length L.length seen e s).2,by simp,?_,fun n=>rfl,rfl,rfl,kF _⟩
   simp only[nV,hb,cT];rfl
  |cons e2 r=>
   have hkm:cK (e::e2::r).length (kmax s.ci)=true:=fe (gN hlen (hk _))
   have hlt:ch s.ci % (e::e2::r).length<(e::e2::r).length:=Nat.mod_lt _ (by simp)
   refine⟨(e::e2::r)[ch s.ci % (e::e2::r).length], { (pL it m L.length L.length seen (e::e2::r)[ch s.ci % (e::e2::r).length] s).2 with ci:=s.ci+1 },List.getElem_mem _,?_,fun n=>rfl,rfl,rfl,bK _⟩
   simp only[nV,hb,cT,hkm,j2 hlt,aq]
   rfl
theorem It.entry {s:St} {it m:Nat} {L:List (aB×aj)} {seen:List Nat} {e:dx} (c:It s it m L (seen++[e.born])) (he:e∈c8 0 L):qa [] (.ptr it 0) s=some (.tup [e.key,e.val]):=by
 simp only[qa,c.hi,c.hm,aq,aX,bS,cT,List.getLast?_append,List.getLast?_singleton,Option.some_or,zw L 0 e he]
structure kj (s:St) (it m:Nat) (es:List dx) (seen:List Nat):Prop where
 hi:s.get [] it=some (.iter (some m) es.length seen es.length)
 hm:s.get [] m=some (.map es es.length)
structure y6 (es:List dx):Prop where
 lt: ∀e∈es,e.born<es.length
 nd:(es.map (·.born)).Nodup
theorem Jc: ∀ {es:List dx} {e:dx},(es.map (·.born)).Nodup->e∈es->se e.born es=some e
 | [],_,_,h=>by cases h
 |x::es,e,hn,h=>by
  simp only[fS,xc] at hn
  simp only[se]
  rcases List.mem_cons.1 h with rfl|h
  ·simp
  ·have:bo x.born e.born=false:=by
    rw[aX]
    exact beq_eq_false_iff_ne.2 fun he=>hn.1 (by rw[he];exact List.mem_map.2 ⟨e,h,rfl⟩)
   rw[this]
   exact Jc hn.2 h
theorem I9 {e:dx}: ∀ {l:List dx},(l.map (·.born)).Nodup->e∈l->l.Perm (e::l.filter fun x=> !bo x.born e.born)
 | [],_,h=>by cases h
 |x::l,hn,h=>by
  have hn0:=hn
  simp only[fS,xc] at hn
  rcases List.mem_cons.1 h with rfl|h
  ·have h1:bo e.born e.born=true:=by simp
   have h2:l.filter (fun x=> !bo x.born e.born)=l:=List.filter_eq_self.2 fun y hy=>by
    have:bo y.born e.born=false:=by
     rw[aX]
     exact beq_eq_false_iff_ne.2 fun he=>hn.1 (by rw[<-he];exact List.mem_map.2 ⟨y,hy,rfl⟩)
    rw[this];rfl
   rw[yY,h1,h2];exact .refl _
  ·have h1:bo x.born e.born=false:=by
    rw[aX]
    exact beq_eq_false_iff_ne.2 fun he=>hn.1 (by rw[he];exact List.mem_map.2 ⟨e,h,rfl⟩)
   rw[yY,h1]
   exact((I9 hn.2 h).cons x).trans (.swap e x _)
theorem Hj {seen:List Nat} {es:List dx} {e:dx} (hn:(es.map (·.born)).Nodup) (h:e∈dK seen es):(dK seen es).Perm (e::dK (seen++[e.born]) es):=by
 have hsub:dK (seen++[e.born]) es=(dK seen es).filter fun x=> !bo x.born e.born:=by
  simp only[dK,List.filter_filter]
  congr 1
  funext x
  simp only[List.any_append,List.any_cons,List.any_nil,lf]
  cases seen.any (bo x.born)<;>simp
 rw[hsub]
 exact I9 (hn.sublist (List.Sublist.map _ List.filter_sublist)) h
section
variable {s:St} {it m:Nat} {es:List dx} {seen:List Nat} (hb:y6 es)
include hb
theorem kj.calm (c:kj s it m es seen) (ch kmax:Nat->Nat):kR [] ch kmax (.ptr it 0) false s=nV ch kmax it m es.length seen es.length (dK seen es) s:=by
 simp only[kR,c.hi,c.hm,aq,cF]
 have:(!seen.isEmpty&& !es.isEmpty&&es.all fun e=>cK es.length e.born)=false:=by
  cases hes:es with
  |nil=>simp
  |cons x l=>
   have h0:=hb.lt x (by rw[hes];simp)
   have:cK (x::l).length x.born=false:=by
    cases hc:cK (x::l).length x.born with
    |false=>rfl
    |true=>have:=iu hc;rw[hes] at h0;omega
   simp only[li,this,Bool.false_and,mi]
 rw[this];rfl
theorem kj.done (c:kj s it m es seen) (ch kmax:Nat->Nat) (h:dK seen es=[]):kR [] ch kmax (.ptr it 0) false s=some (.tup [.bool false],s):=by
 rw[c.calm hb,h];rfl
theorem kj.step (c:kj s it m es seen) (ch kmax:Nat->Nat) (hk: ∀i,es.length<=kmax i) (h:dK seen es≠ []):
 ∃e s',e∈dK seen es/\kR [] ch kmax (.ptr it 0) false s=some (.tup [.bool true,e.key,e.val],s')/\(∀n,s'.get [] n=(s.put it (some (.iter (some m) es.length (seen++[e.born]) es.length))).get [] n)/\s'.next=s.next/\s'.minw=(s.put it none).minw:=by
 rw[c.calm hb]
 have hall: ∀e∈dK seen es,cg e.born es.length=true:=fun e he=>fe (hb.lt e (oQ.1 he).1)
 have hlen:(dK seen es).length<=es.length:=rF _ _
 cases hu:dK seen es with
 |nil=>exact absurd hu h
 |cons e r=>
  rw[hu] at hall hlen
  have hbb:((e::r).all fun e=>cg e.born es.length)=true:=List.all_eq_true.2 hall
  cases r with
  |nil=>
   refine⟨e,(pL it m es.length es.length seen e s).2,by simp,?_,fun n=>rfl,rfl,rfl⟩
   simp only[nV,hbb,cT];rfl
  |cons e2 r=>
   have hkm:cK (e::e2::r).length (kmax s.ci)=true:=fe (gN hlen (hk _))
   have hlt:ch s.ci % (e::e2::r).length<(e::e2::r).length:=Nat.mod_lt _ (by simp)
   refine⟨(e::e2::r)[ch s.ci % (e::e2::r).length], { (pL it m es.length es.length seen (e::e2::r)[ch s.ci % (e::e2::r).length] s).2 with ci:=s.ci+1 },List.getElem_mem _,?_,fun n=>rfl,rfl,rfl⟩
   simp only[nV,hbb,cT,hkm,j2 hlt,aq]
   rfl
theorem kj.entry {e:dx} (c:kj s it m es (seen++[e.born])) (he:e∈es):qa [] (.ptr it 0) s=some (.tup [e.key,e.val]):=by
 simp only[qa,c.hi,c.hm,aq,aX,bS,cT,List.getLast?_append,List.getLast?_singleton,Option.some_or,Jc hb.nd he]
end
theorem iw.step {sz:Nat} {s0 s s2:St} {bx lo lim:Nat} {lob:bR} {xs:List aj} (c:iw sz s0 s bx lo lim lob xs) (hl:lo<lim) (hm:s0.minw<=s0.next) {ob:bR} (hg: ∀n,s2.get [] n=(s.put lim (some ob)).get [] n) (hn:s2.next=s.next) (hw:s2.minw=(s.put lim none).minw):iw sz s0 s2 bx lo lim lob xs:=by
 obtain⟨l1,l2,l3,l4⟩:=c.lt
 have key: ∀n,n≠lim->s2.get [] n=s.get [] n:=fun n h=>by rw[hg,cX,beq_eq_false_iff_ne.2 h];rfl
 refine⟨fun n h=>(key n (by omega)).trans (c.old n h),⟨l1,l2,l3,by omega⟩,?_,?_,(key lo (by omega)).trans c.loop⟩
 ·rw[hw,nm (by rw[c.minw];omega)];exact c.minw
 ·obtain⟨v,h1,h2⟩:=c.box
  refine⟨v,(key bx (by omega)).trans h1,?_⟩
  rcases h2 with h2|⟨h3,k,h4,h5,h6,h7⟩
  ·exact .inl h2
  ·exact .inr ⟨h3,k,h4,(key k (by omega)).trans h5,h6,by omega⟩
def rM (Q:cI) (sz:Nat) (s0:St) (bx lo lim:Nat) (lob:bR) (es:List dx):Prop:=
 ∀(s:St) (xs:List aj) (k:aj),iw sz s0 s bx lo lim lob xs->k∈es.map (·.key)->xs.length<es.length->(∀y∈xs,y∈es.map (·.key))-> ∃s',qL Q lo [k] s (.bool true) s'/\iw sz s0 s' bx lo lim lob (xs++[k])/\(∀n,n<=lim->n≠bx->n≠lo->s'.get [] n=s.get [] n)/\s.next<=s'.next
theorem Hq {e:bq} {x:Operand} {av:Array Operand} {ts:Array TypeId} {n:Nat} (h:ev e x=some (.yld n)):yieldee e ⟨.value x,av,ts⟩=(evcs e av.toList).bind fun args=>some (n,args):=by
 simp only[yieldee,h,aq]
theorem Co {Q:cI} {f:FuncId} {d:Tmp} {x:Operand} {av:Array Operand} {ts:Array TypeId} {l:List cV} {e:bq} {sz:Nat} {lc:Ag.Loc} {s s1:St} {n:Nat} {args:List aj} {v:aj} {N:Fr->St->Prop}
 (hc:yieldee e ⟨.value x,av,ts⟩=some (n,args)) (hr:qL Q n args s v s1) (hd:d<sz) (hk:WL Q f l ⟨e.set d (some v),sz,lc⟩ s1 N):
 WL Q f (⟨some d,.call ⟨.value x,av,ts⟩,.aw⟩::l) ⟨e,sz,lc⟩ s N:=
 WL.yld rfl rfl hc hr (iO.2 ⟨hd,rfl⟩) hk
section
variable {Q:cI} (hP:Q.P=Tryz.prog) (hh:Q.hint=bL) {ch kmax:Nat->Nat} (hch:Q.ch=ch) (hkm:Q.kmax=kmax)
 {es:List dx} (hb:y6 es) (hkx: ∀i,es.length<=kmax i)
include hP hh hch hkm hb hkx
theorem akR {sz:Nat} {s0:St} {bx lo it m:Nat} {lob:bR} (hlo:lo<it) (hm:m<s0.next) (hmw:s0.minw<=s0.next) (ht:rM Q sz s0 bx lo it lob es) (hkey: ∀e∈es, ∃k:aB,e.key= .str k): ∀(n:Nat) (seen:List Nat) (e:bq) (lc:Ag.Loc) (s:St) (xs:List aj),(dK seen es).length<=n->iw sz s0 s bx lo it lob xs->kj s it m es seen->(xs++(dK seen es).map (·.key)).Perm (es.map (·.key))->ay e 5= .ptr it 0->ay e 0= .yld lo->
 W Q 49 (.loop x4) ⟨e,14,lc⟩ s fun x _ s'=>x= .exit 0/\ ∃xs',iw sz s0 s' bx lo it lob xs'/\xs'.Perm (es.map (·.key))/\s.next<=s'.next:=by
 have _:=hP
 have _:=hh
 intro n
 induction n with
 |zero=>
  intro seen e lc s xs hn c i hp h5 h1
  have hu:dK seen es=[]:=rE (Nat.le_zero.1 hn)
  have hd:=i.done hb ch kmax hu
  rw[hu,sJ,iQ] at hp
  refine cY ?_
  unfold x4
  refine aF ?_
  unfold Aj
  simp only[aw,az,aA,ai,jm,ak,aD,au,bZ,aq,ez,cT,bS,tA,ar,qx,h5,hch,hkm,hd,iy,gj]
  refine aV (bc (t:=false) (by simp only[ak,ai,ah,cT,cF, *]) ?_)
  exact eL ⟨rfl,xs,c,hp,bK _⟩
 |succ n ih=>
  intro seen e lc s xs hn c i hp h5 h1
  by_cases hu:dK seen es=[]
  ·have hd:=i.done hb ch kmax hu
   rw[hu,sJ,iQ] at hp
   refine cY ?_
   unfold x4
   refine aF ?_
   unfold Aj
   simp only[aw,az,aA,ai,jm,ak,aD,au,bZ,aq,ez,cT,bS,tA,ar,qx,h5,hch,hkm,hd,iy,gj]
   refine aV (bc (t:=false) (by simp only[ak,ai,ah,cT,cF, *]) ?_)
   exact eL ⟨rfl,xs,c,hp,bK _⟩
  ·obtain⟨en,s2,hen,hnx,hg,hnn,hw⟩:=i.step hb ch kmax hkx hu
   have hmem:=(oQ.1 hen).1
   obtain⟨l1,l2,l3,l4⟩:=c.lt
   have c2:=c.step hlo hmw hg hnn hw
   have i2:kj s2 it m es (seen++[en.born]):=⟨by rw[hg,cX,bS];rfl,by rw[hg,cX,beq_eq_false_iff_ne.2 (by omega:m≠it)];exact i.hm⟩
   have hent:=i2.entry hb hmem
   have hless:=BT hen
   have hpu:=Hj hb.nd hen
   have hlen:xs.length<es.length:=by
    have h2:=hp.length_eq
    have h3:=hpu.length_eq
    simp only[dw,fw,aR] at h2 h3
    omega
   have hxs: ∀y∈xs,y∈es.map (·.key):=fun y hy=>hp.mem_iff.1 (B8 _ hy)
   obtain⟨s3,hy,c3,hg3,hn3⟩:=ht s2 xs en.key c2 (List.mem_map.2 ⟨en,hmem,rfl⟩) hlen hxs
   have i3:kj s3 it m es (seen++[en.born]):=⟨by rw[hg3 it (bK _) (by omega) (by omega)];exact i2.hi,by rw[hg3 m (by omega) (by omega) (by omega)];exact i2.hm⟩
   have hp3:((xs++[en.key])++(dK (seen++[en.born]) es).map (·.key)).Perm (es.map (·.key)):=by
    refine List.Perm.trans ?_ hp
    rw[xb]
    have h9:=(hpu.map (fun e:dx=>e.key)).symm
    rw[fS] at h9
    exact List.Perm.append_left xs h9
   obtain⟨k,hke⟩:=hkey en hmem
   rw[hke] at hnx hent hy c3 hp3
   refine cY ?_
   unfold x4
   refine aF ?_
   unfold Aj
   simp only[aw,az,aA,ai,jm,ak,aD,au,bZ,aq,ez,cT,bS,tA,ar,qx,h5,hch,hkm,hnx,iy,gj]
   refine aV (bc (t:=true) (by simp only[ak,ai,ah,cT,cF, *]) (b7 ?_))
   simp only[aW]
   refine cR (aF ?_)
   unfold P0
   simp only[aw,az,aA,ai,aM,jm,ak,aD,au,aq,ez,cT,cF,bS,tA,ah,ar,Bj,h5,hent,iy,gj]
   refine aV (gH (gd 2 ?_))
   unfold P1
   simp only[aw,az,aA,ai,aG,ak,au,cT,cF,bO,aZ,bS,tA,ah,ar,h1]
   refine Co (n:=lo) (args:=[.str k]) ?_ hy (by decide) ?_
   ·rw[Hq (n:=lo) (by simp only[ak,ai,ah,cT,cF])]
    simp only[ai,ak,aD,bh,bk,aq,cw,cT,cF,bS,ah]
   refine gp ?_
   simp only[aw,az,aA,ai,fp,ak,aD,au,fq,aq,eJ,cT,cF,dg,bS,tA,ah,ar,aW]
   refine bc (t:=false) (by simp only[ak,ai,ah,cT,cF, *]) (b7 ?_)
   simp only[dM,aW]
   refine(ih (seen++[en.born]) _ _ s3 _ (by omega) c3 i3 hp3 (by simp only[ai,ah,cF, *]) (by simp only[ai,ah,cF, *])).mono ?_
   rintro x fr s' ⟨rfl,xs',q1,q2,q3⟩
   exact⟨rfl,xs',q1,q2,by omega⟩
theorem akS (hsp:Q.spec 49=none) (hsH:Q.specH 49=none) (hsW:Q.specW 49=none) {sz:Nat} {s0 s:St} {bx lo lim m cb:Nat} {lob:bR} (hmw:s0.minw<=s0.next) (hm:m<s0.next) (hcb:cb<s0.next) (hc:s0.get [] cb=some (.cells [.map m])) (hmm:s0.get [] m=some (.map es es.length)) (c:iw sz s0 s bx lo lim lob [])
 (ht:rM Q sz s0 bx lo s.next lob es) (hkey: ∀e∈es, ∃k:aB,e.key= .str k): ∃s',bv Q 49 [.yld lo,.ptr cb 0] s (.tup []) s'/\ ∃xs lim',iw sz s0 s' bx lo lim' lob xs/\xs.Perm (es.map (·.key))/\s.next<=s'.next:=by
 obtain⟨l1,l2,l3,l4⟩:=c.lt
 have hr:l6 Tryz.prog [] 61 (.map m) s=some (.ptr s.next 0,s.new (.iter (some m) es.length [] es.length)):=by
  have h:Tryz.prog.underlying 61=some (.map 9 67):=by kernel_rfl
  simp only[l6,h,aq,(c.old m hm).trans hmm]
 have hcb2:s.get [] cb=some (.cells [.map m]):=(c.old cb hcb).trans hc
 have hg2: ∀n,n<s.next->(s.new (.iter (some m) es.length [] es.length)).get [] n=s.get [] n:=fun n h=>by rw[dy,beq_eq_false_iff_ne.2 (by omega:n≠s.next)];rfl
 have c2:iw sz s0 (s.new (.iter (some m) es.length [] es.length)) bx lo s.next lob []:=by
  obtain⟨v,b1,b2⟩:=c.box
  refine⟨fun n h=>(hg2 n (by omega)).trans (c.old n h),⟨l1,l2,by omega,iC _⟩,c.minw,⟨v,(hg2 bx (by omega)).trans b1,.inl ?_⟩,(hg2 lo (by omega)).trans c.loop⟩
  rcases b2 with b2|⟨b2,_⟩
  ·exact b2
  ·exact absurd rfl b2
 have i2:kj (s.new (.iter (some m) es.length [] es.length)) s.next m es []:=⟨by rw[dy,bS];rfl,by rw[hg2 m (by omega)];exact(c.old m hm).trans hmm⟩
 have key: ∃u s',bv Q 49 [.yld lo,.ptr cb 0] s u s'/\(u= .tup []/\ ∃xs lim',iw sz s0 s' bx lo lim' lob xs/\xs.Perm (es.map (·.key))/\s.next<=s'.next):=by
  refine bv.ofEx (by rw[hP];exact aii) aih aik aij hsp ?_ hsH hsW
  unfold PY
  refine aF ?_
  unfold PZ
  simp only[dr,cZ,aw,az,aA,ai,bn,ak,aD,au,bZ,aq,gr,cT,cF,aR,aY,aZ,bE,bS,tA,aQ,ah,ar,bJ,ck,cd,dT,nX,hP,dH,hcb2,dG,Bl,hr]
  refine cR ?_
  refine(akR hP hh hch hkm hb hkx (by omega:lo<s.next) hm hmw ht hkey es.length [] _ _ _ [] (rF _ _) c2 i2 ?_ (by simp only[ai,ah,cT,cF, *]) (by simp only[ai,ah,cT,cF, *])).mono ?_
  ·rw[cy]
   have:dK [] es=es:=by simp[dK]
   rw[this]
  rintro x ⟨e,sz',lc⟩ s' ⟨rfl,xs,q1,q2,q3⟩
  exact⟨.inl rfl,.tup [],⟨[],rfl,rfl⟩,rfl,xs,_,q1,q2,gN (kF _) q3⟩
 obtain⟨u,s',k1,rfl,k2⟩:=key
 exact⟨s',k1,k2⟩
theorem akO {sz:Nat} {s0:St} {bx lo it m:Nat} {lob:bR} (hlo:lo<it) (hm:m<s0.next) (hmw:s0.minw<=s0.next) (ht:rM Q sz s0 bx lo it lob es) (hkey: ∀e∈es, ∃k:aB,e.key= .str k): ∀(n:Nat) (seen:List Nat) (e:bq) (lc:Ag.Loc) (s:St) (xs:List aj),(dK seen es).length<=n->iw sz s0 s bx lo it lob xs->kj s it m es seen->(xs++(dK seen es).map (·.key)).Perm (es.map (·.key))->ay e 5= .ptr it 0->ay e 0= .yld lo->
 W Q 185 (.loop xY) ⟨e,14,lc⟩ s fun x _ s'=>x= .exit 0/\ ∃xs',iw sz s0 s' bx lo it lob xs'/\xs'.Perm (es.map (·.key))/\s.next<=s'.next:=by
 have _:=hP
 have _:=hh
 intro n
 induction n with
 |zero=>
  intro seen e lc s xs hn c i hp h5 h1
  have hu:dK seen es=[]:=rE (Nat.le_zero.1 hn)
  have hd:=i.done hb ch kmax hu
  rw[hu,sJ,iQ] at hp
  refine cY ?_
  unfold xY
  refine aF ?_
  unfold zR
  simp only[aw,az,aA,ai,jm,ak,aD,au,bZ,aq,ez,cT,bS,tA,ar,qx,h5,hch,hkm,hd,iy,gj]
  refine aV (bc (t:=false) (by simp only[ak,ai,ah,cT,cF, *]) ?_)
  exact eL ⟨rfl,xs,c,hp,bK _⟩
 |succ n ih=>
  intro seen e lc s xs hn c i hp h5 h1
  by_cases hu:dK seen es=[]
  ·have hd:=i.done hb ch kmax hu
   rw[hu,sJ,iQ] at hp
   refine cY ?_
   unfold xY
   refine aF ?_
   unfold zR
   simp only[aw,az,aA,ai,jm,ak,aD,au,bZ,aq,ez,cT,bS,tA,ar,qx,h5,hch,hkm,hd,iy,gj]
   refine aV (bc (t:=false) (by simp only[ak,ai,ah,cT,cF, *]) ?_)
   exact eL ⟨rfl,xs,c,hp,bK _⟩
  ·obtain⟨en,s2,hen,hnx,hg,hnn,hw⟩:=i.step hb ch kmax hkx hu
   have hmem:=(oQ.1 hen).1
   obtain⟨l1,l2,l3,l4⟩:=c.lt
   have c2:=c.step hlo hmw hg hnn hw
   have i2:kj s2 it m es (seen++[en.born]):=⟨by rw[hg,cX,bS];rfl,by rw[hg,cX,beq_eq_false_iff_ne.2 (by omega:m≠it)];exact i.hm⟩
   have hent:=i2.entry hb hmem
   have hless:=BT hen
   have hpu:=Hj hb.nd hen
   have hlen:xs.length<es.length:=by
    have h2:=hp.length_eq
    have h3:=hpu.length_eq
    simp only[dw,fw,aR] at h2 h3
    omega
   have hxs: ∀y∈xs,y∈es.map (·.key):=fun y hy=>hp.mem_iff.1 (B8 _ hy)
   obtain⟨s3,hy,c3,hg3,hn3⟩:=ht s2 xs en.key c2 (List.mem_map.2 ⟨en,hmem,rfl⟩) hlen hxs
   have i3:kj s3 it m es (seen++[en.born]):=⟨by rw[hg3 it (bK _) (by omega) (by omega)];exact i2.hi,by rw[hg3 m (by omega) (by omega) (by omega)];exact i2.hm⟩
   have hp3:((xs++[en.key])++(dK (seen++[en.born]) es).map (·.key)).Perm (es.map (·.key)):=by
    refine List.Perm.trans ?_ hp
    rw[xb]
    have h9:=(hpu.map (fun e:dx=>e.key)).symm
    rw[fS] at h9
    exact List.Perm.append_left xs h9
   obtain⟨k,hke⟩:=hkey en hmem
   rw[hke] at hnx hent hy c3 hp3
   refine cY ?_
   unfold xY
   refine aF ?_
   unfold zR
   simp only[aw,az,aA,ai,jm,ak,aD,au,bZ,aq,ez,cT,bS,tA,ar,qx,h5,hch,hkm,hnx,iy,gj]
   refine aV (bc (t:=true) (by simp only[ak,ai,ah,cT,cF, *]) (b7 ?_))
   simp only[aW]
   refine cR (aF ?_)
   unfold Mt
   simp only[aw,az,aA,ai,aM,jm,ak,aD,au,aq,ez,cT,cF,bS,tA,ah,ar,Bj,h5,hent,iy,gj]
   refine aV (gH (gd 2 ?_))
   unfold Mu
   simp only[aw,az,aA,ai,aG,ak,au,cT,cF,bO,aZ,bS,tA,ah,ar,h1]
   refine Co (n:=lo) (args:=[.str k]) ?_ hy (by decide) ?_
   ·rw[Hq (n:=lo) (by simp only[ak,ai,ah,cT,cF])]
    simp only[ai,ak,aD,bh,bk,aq,cw,cT,cF,bS,ah]
   refine gp ?_
   simp only[aw,az,aA,ai,fp,ak,aD,au,fq,aq,eJ,cT,cF,dg,bS,tA,ah,ar,aW]
   refine bc (t:=false) (by simp only[ak,ai,ah,cT,cF, *]) (b7 ?_)
   simp only[dM,aW]
   refine(ih (seen++[en.born]) _ _ s3 _ (by omega) c3 i3 hp3 (by simp only[ai,ah,cF, *]) (by simp only[ai,ah,cF, *])).mono ?_
   rintro x fr s' ⟨rfl,xs',q1,q2,q3⟩
   exact⟨rfl,xs',q1,q2,by omega⟩
theorem akP (hsp:Q.spec 185=none) (hsH:Q.specH 185=none) (hsW:Q.specW 185=none) {sz:Nat} {s0 s:St} {bx lo lim m cb:Nat} {lob:bR} (hmw:s0.minw<=s0.next) (hm:m<s0.next) (hcb:cb<s0.next) (hc:s0.get [] cb=some (.cells [.map m])) (hmm:s0.get [] m=some (.map es es.length)) (c:iw sz s0 s bx lo lim lob [])
 (ht:rM Q sz s0 bx lo s.next lob es) (hkey: ∀e∈es, ∃k:aB,e.key= .str k): ∃s',bv Q 185 [.yld lo,.ptr cb 0] s (.tup []) s'/\ ∃xs lim',iw sz s0 s' bx lo lim' lob xs/\xs.Perm (es.map (·.key))/\s.next<=s'.next:=by
 obtain⟨l1,l2,l3,l4⟩:=c.lt
 have hr:l6 Tryz.prog [] 195 (.map m) s=some (.ptr s.next 0,s.new (.iter (some m) es.length [] es.length)):=by
  have h:Tryz.prog.underlying 195=some (.map 9 196):=by kernel_rfl
  simp only[l6,h,aq,(c.old m hm).trans hmm]
 have hcb2:s.get [] cb=some (.cells [.map m]):=(c.old cb hcb).trans hc
 have hg2: ∀n,n<s.next->(s.new (.iter (some m) es.length [] es.length)).get [] n=s.get [] n:=fun n h=>by rw[dy,beq_eq_false_iff_ne.2 (by omega:n≠s.next)];rfl
 have c2:iw sz s0 (s.new (.iter (some m) es.length [] es.length)) bx lo s.next lob []:=by
  obtain⟨v,b1,b2⟩:=c.box
  refine⟨fun n h=>(hg2 n (by omega)).trans (c.old n h),⟨l1,l2,by omega,iC _⟩,c.minw,⟨v,(hg2 bx (by omega)).trans b1,.inl ?_⟩,(hg2 lo (by omega)).trans c.loop⟩
  rcases b2 with b2|⟨b2,_⟩
  ·exact b2
  ·exact absurd rfl b2
 have i2:kj (s.new (.iter (some m) es.length [] es.length)) s.next m es []:=⟨by rw[dy,bS];rfl,by rw[hg2 m (by omega)];exact(c.old m hm).trans hmm⟩
 have key: ∃u s',bv Q 185 [.yld lo,.ptr cb 0] s u s'/\(u= .tup []/\ ∃xs lim',iw sz s0 s' bx lo lim' lob xs/\xs.Perm (es.map (·.key))/\s.next<=s'.next):=by
  refine bv.ofEx (by rw[hP];exact afO) afN afQ afP hsp ?_ hsH hsW
  unfold Mr
  refine aF ?_
  unfold Ms
  simp only[dr,cZ,aw,az,aA,ai,bn,ak,aD,au,bZ,aq,gr,cT,cF,aR,aY,aZ,bE,bS,tA,aQ,ah,ar,bJ,ck,cd,dT,an2,hP,dH,hcb2,dG,Bl,hr]
  refine cR ?_
  refine(akO hP hh hch hkm hb hkx (by omega:lo<s.next) hm hmw ht hkey es.length [] _ _ _ [] (rF _ _) c2 i2 ?_ (by simp only[ai,ah,cT,cF, *]) (by simp only[ai,ah,cT,cF, *])).mono ?_
  ·rw[cy]
   have:dK [] es=es:=by simp[dK]
   rw[this]
  rintro x ⟨e,sz',lc⟩ s' ⟨rfl,xs,q1,q2,q3⟩
  exact⟨.inl rfl,.tup [],⟨[],rfl,rfl⟩,rfl,xs,_,q1,q2,gN (kF _) q3⟩
 obtain⟨u,s',k1,rfl,k2⟩:=key
 exact⟨s',k1,k2⟩
theorem akT {sz:Nat} {s0:St} {bx lo it m:Nat} {lob:bR} (hlo:lo<it) (hm:m<s0.next) (hmw:s0.minw<=s0.next) (ht:rM Q sz s0 bx lo it lob es) (hkey: ∀e∈es, ∃a b:aB,e.key= .agg [.str a,.str b]): ∀(n:Nat) (seen:List Nat) (e:bq) (lc:Ag.Loc) (s:St) (xs:List aj),(dK seen es).length<=n->iw sz s0 s bx lo it lob xs->kj s it m es seen->(xs++(dK seen es).map (·.key)).Perm (es.map (·.key))->ay e 5= .ptr it 0->ay e 0= .yld lo->
 W Q 52 (.loop x5) ⟨e,14,lc⟩ s fun x _ s'=>x= .exit 0/\ ∃xs',iw sz s0 s' bx lo it lob xs'/\xs'.Perm (es.map (·.key))/\s.next<=s'.next:=by
 intro n
 induction n with
 |zero=>
  intro seen e lc s xs hn c i hp h5 h1
  have hu:dK seen es=[]:=rE (Nat.le_zero.1 hn)
  have hd:=i.done hb ch kmax hu
  rw[hu,sJ,iQ] at hp
  refine cY ?_
  unfold x5
  refine aF ?_
  unfold Ak
  simp only[aw,az,aA,ai,jm,ak,aD,au,bZ,aq,ez,cT,bS,tA,ar,qx,h5,hch,hkm,hd,iy,gj]
  refine aV (bc (t:=false) (by simp only[ak,ai,ah,cT,cF, *]) ?_)
  exact eL ⟨rfl,xs,c,hp,bK _⟩
 |succ n ih=>
  intro seen e lc s xs hn c i hp h5 h1
  by_cases hu:dK seen es=[]
  ·have hd:=i.done hb ch kmax hu
   rw[hu,sJ,iQ] at hp
   refine cY ?_
   unfold x5
   refine aF ?_
   unfold Ak
   simp only[aw,az,aA,ai,jm,ak,aD,au,bZ,aq,ez,cT,bS,tA,ar,qx,h5,hch,hkm,hd,iy,gj]
   refine aV (bc (t:=false) (by simp only[ak,ai,ah,cT,cF, *]) ?_)
   exact eL ⟨rfl,xs,c,hp,bK _⟩
  ·obtain⟨en,s2,hen,hnx,hg,hnn,hw⟩:=i.step hb ch kmax hkx hu
   have hmem:=(oQ.1 hen).1
   obtain⟨l1,l2,l3,l4⟩:=c.lt
   have c2:=c.step hlo hmw hg hnn hw
   have i2:kj s2 it m es (seen++[en.born]):=⟨by rw[hg,cX,bS];rfl,by rw[hg,cX,beq_eq_false_iff_ne.2 (by omega:m≠it)];exact i.hm⟩
   have hent:=i2.entry hb hmem
   have hless:=BT hen
   have hpu:=Hj hb.nd hen
   have hlen:xs.length<es.length:=by
    have h2:=hp.length_eq
    have h3:=hpu.length_eq
    simp only[dw,fw,aR] at h2 h3
    omega
   have hxs: ∀y∈xs,y∈es.map (·.key):=fun y hy=>hp.mem_iff.1 (B8 _ hy)
   obtain⟨s3,hy,c3,hg3,hn3⟩:=ht s2 xs en.key c2 (List.mem_map.2 ⟨en,hmem,rfl⟩) hlen hxs
   have i3:kj s3 it m es (seen++[en.born]):=⟨by rw[hg3 it (bK _) (by omega) (by omega)];exact i2.hi,by rw[hg3 m (by omega) (by omega) (by omega)];exact i2.hm⟩
   have hp3:((xs++[en.key])++(dK (seen++[en.born]) es).map (·.key)).Perm (es.map (·.key)):=by
    refine List.Perm.trans ?_ hp
    rw[xb]
    have h9:=(hpu.map (fun e:dx=>e.key)).symm
    rw[fS] at h9
    exact List.Perm.append_left xs h9
   obtain⟨a,b,hke⟩:=hkey en hmem
   rw[hke] at hnx hent hy c3 hp3
   refine cY ?_
   unfold x5
   refine aF ?_
   unfold Ak
   simp only[aw,az,aA,ai,jm,ak,aD,au,bZ,aq,ez,cT,bS,tA,ar,qx,h5,hch,hkm,hnx,iy,gj]
   refine aV (bc (t:=true) (by simp only[ak,ai,ah,cT,cF, *]) (b7 ?_))
   simp only[aW]
   refine cR (aF ?_)
   unfold P7
   simp only[aw,az,eD,aA,eE,ai,bU,iW,gY,eN,jm,ak,aD,fv,au,bG,dj,ik,aq,cu,ez,cT,cF,aR,aY,dl,bO,aZ,cy,cP,bS,tA,aQ,ah,ar,bJ,ck,dX,aX,dA,cd,dT,Hw,Wr,acv,hP,hh,Bj,h5,hent,iy,gj]
   refine aV (gH (gd 2 ?_))
   unfold P8
   simp only[aw,az,aA,ai,bU,aG,bn,ak,bT,au,aq,cT,cF,aR,aY,cut,bO,aZ,bS,tA,aQ,ah,ar,bJ,aX,VC,hP,h1]
   refine Co (n:=lo) (args:=[.agg [.str a,.str b]]) ?_ hy (by decide) ?_
   ·rw[Hq (n:=lo) (by simp only[ak,ai,ah,cT,cF])]
    simp only[ai,ak,aD,bh,bk,aq,cu,cT,cF,bS,ah]
   refine gp ?_
   simp only[aw,az,aA,ai,fp,ak,aD,au,fq,aq,eJ,cT,cF,dg,bS,tA,ah,ar,aW]
   refine bc (t:=false) (by simp only[ak,ai,ah,cT,cF, *]) (b7 ?_)
   simp only[dM,aW]
   refine(ih (seen++[en.born]) _ _ s3 _ (by omega) c3 i3 hp3 (by simp only[ai,ah,cF, *]) (by simp only[ai,ah,cF, *])).mono ?_
   rintro x fr s' ⟨rfl,xs',q1,q2,q3⟩
   exact⟨rfl,xs',q1,q2,by omega⟩
theorem akU (hsp:Q.spec 52=none) (hsH:Q.specH 52=none) (hsW:Q.specW 52=none) {sz:Nat} {s0 s:St} {bx lo lim m cb:Nat} {lob:bR} (hmw:s0.minw<=s0.next) (hm:m<s0.next) (hcb:cb<s0.next) (hc:s0.get [] cb=some (.cells [.map m])) (hmm:s0.get [] m=some (.map es es.length)) (c:iw sz s0 s bx lo lim lob [])
 (ht:rM Q sz s0 bx lo s.next lob es) (hkey: ∀e∈es, ∃a b:aB,e.key= .agg [.str a,.str b]): ∃s',bv Q 52 [.yld lo,.ptr cb 0] s (.tup []) s'/\ ∃xs lim',iw sz s0 s' bx lo lim' lob xs/\xs.Perm (es.map (·.key))/\s.next<=s'.next:=by
 obtain⟨l1,l2,l3,l4⟩:=c.lt
 have hr:l6 Tryz.prog [] 63 (.map m) s=some (.ptr s.next 0,s.new (.iter (some m) es.length [] es.length)):=by
  have h:Tryz.prog.underlying 63=some (.map 31 4):=by kernel_rfl
  simp only[l6,h,aq,(c.old m hm).trans hmm]
 have hcb2:s.get [] cb=some (.cells [.map m]):=(c.old cb hcb).trans hc
 have hg2: ∀n,n<s.next->(s.new (.iter (some m) es.length [] es.length)).get [] n=s.get [] n:=fun n h=>by rw[dy,beq_eq_false_iff_ne.2 (by omega:n≠s.next)];rfl
 have c2:iw sz s0 (s.new (.iter (some m) es.length [] es.length)) bx lo s.next lob []:=by
  obtain⟨v,b1,b2⟩:=c.box
  refine⟨fun n h=>(hg2 n (by omega)).trans (c.old n h),⟨l1,l2,by omega,iC _⟩,c.minw,⟨v,(hg2 bx (by omega)).trans b1,.inl ?_⟩,(hg2 lo (by omega)).trans c.loop⟩
  rcases b2 with b2|⟨b2,_⟩
  ·exact b2
  ·exact absurd rfl b2
 have i2:kj (s.new (.iter (some m) es.length [] es.length)) s.next m es []:=⟨by rw[dy,bS];rfl,by rw[hg2 m (by omega)];exact(c.old m hm).trans hmm⟩
 have key: ∃u s',bv Q 52 [.yld lo,.ptr cb 0] s u s'/\(u= .tup []/\ ∃xs lim',iw sz s0 s' bx lo lim' lob xs/\xs.Perm (es.map (·.key))/\s.next<=s'.next):=by
  refine bv.ofEx (by rw[hP];exact aiy) aix aiA aiz hsp ?_ hsH hsW
  unfold P5
  refine aF ?_
  unfold P6
  simp only[dr,cZ,aw,az,aA,ai,bn,ak,aD,au,bZ,aq,gr,cT,cF,aR,aY,aZ,bE,bS,tA,aQ,ah,ar,bJ,ck,cd,dT,GH,hP,dH,hcb2,dG,Bl,hr]
  refine cR ?_
  refine(akT hP hh hch hkm hb hkx (by omega:lo<s.next) hm hmw ht hkey es.length [] _ _ _ [] (rF _ _) c2 i2 ?_ (by simp only[ai,ah,cT,cF, *]) (by simp only[ai,ah,cT,cF, *])).mono ?_
  ·rw[cy]
   have:dK [] es=es:=by simp[dK]
   rw[this]
  rintro x ⟨e,sz',lc⟩ s' ⟨rfl,xs,q1,q2,q3⟩
  exact⟨.inl rfl,.tup [],⟨[],rfl,rfl⟩,rfl,xs,_,q1,q2,gN (kF _) q3⟩
 obtain⟨u,s',k1,rfl,k2⟩:=key
 exact⟨s',k1,k2⟩
end
structure oq (sz:Nat) (s0 s:St) (v:aj) (xs:List aj):Prop where
 old: ∀n,n<s0.next->s.get [] n=s0.get [] n
 next:s0.next<=s.next
 minw:s.minw=s0.minw
 row:(v= .nils/\xs=[])\/(xs≠ []/\ ∃k,v= .arr sz k 0 xs.length xs.length/\s.get [] k=some (.cells (cj xs))/\s0.next<=k/\k<s.next)
theorem oq.clean {sz:Nat} {s0 s:St} {v:aj} {xs:List aj} (g:oq sz s0 s v xs):v.clean=true:=by
 rcases g.row with⟨rfl,_⟩|⟨_,k,rfl,_⟩<;>rfl
def sX:List aj->Option (List aB)
 | []=>some []
 | .str a::l=>(sX l).bind fun r=>some (a::r)
 |_=>none
def rO:List aj->Option (List (aB×aB))
 | []=>some []
 | .str a:: .str b::l=>(rO l).bind fun r=>some ((a,b)::r)
 |_=>none
theorem H8: ∀l:List aB,sX (l.map bB)=some l
 | []=>rfl
 |a::l=>by
  show(sX (l.map bB)).bind _=_
  rw[H8 l];rfl
theorem xw:(aj.nils).cells=[.nils]:=rfl
theorem wc: ∀l:List aB,cj (l.map bB)=l.map bB
 | []=>rfl
 |a::l=>by
  show(bB a).cells++cj (l.map bB)=_
  rw[wc l];rfl
def dP (c:aB×aB):aj:=.agg [.str c.1,.str c.2]
theorem H6: ∀l:List (aB×aB),rO (cj (l.map dP))=some l
 | []=>rfl
 |a::l=>by
  show(rO (cj (l.map dP))).bind _=_
  rw[H6 l];rfl
theorem xN: ∀l:List (aB×aB),(cj (l.map dP)).length=l.length*2
 | []=>rfl
 |a::l=>by
  show([aj.str a.1,aj.str a.2]++cj (l.map dP)).length=_
  rw[dw,xN l,aR,aR,aR,aY];omega
def im (a b:aB×aB):Int:=bif bz (eM a.1 b.1) 0 then eM a.2 b.2 else eM a.1 b.1
def AW (a b:aB×aB):Bool:=di (im a b) 0
def uA (x:aB×aB):List (aB×aB)->List (aB×aB)
 | []=>[x]
 |y::l=>bif AW y x then y::uA x l else x::y::l
def iH:List (aB×aB)->List (aB×aB)
 | []=>[]
 |x::l=>uA x (iH l)
theorem DX (x:aB×aB): ∀l,(uA x l).Perm (x::l)
 | []=>.refl _
 |y::l=>by
  simp only[uA]
  cases AW y x with
  |true=>exact((DX x l).cons y).trans (.swap x y l)
  |false=>exact .refl _
theorem tS: ∀l,(iH l).Perm l
 | []=>.refl _
 |x::l=>(DX x _).trans ((tS l).cons x)
def wY:List aj->Option uj
 | [.nils]=>some none
 | [.arr 1 m 0 len _]=>some (some (m,fun cs=>bif bo cs.length len&&cg len 1000001 then(sX cs).bind fun l=>some ((fC l).map bB) else none))
 |_=>none
def wX:List aj->Option uj
 | [.nils,.func (.func 30) [] []]=>some none
 | [.arr 2 m 0 len _,.func (.func 30) [] []]=>some (some (m,fun cs=>bif bo cs.length (len*2)&&cg len 1000001 then(rO cs).bind fun l=>some (cj ((iH l).map dP)) else none))
 |_=>none
section
variable {Q:cI} (hP:Q.P=Tryz.prog) (hh:Q.hint=bL)
include hP hh
theorem apI {s0:St} {bx lo lim:Nat} {E:bq} {es:List dx} (hE:ay E 2= .ptr bx 0) (hm:s0.minw<=s0.next) (hes:es.length<=1000000) (hkey: ∀e∈es, ∃k:aB,e.key= .str k):rM Q 1 s0 bx lo lim (.loop 78 E 13 [7] tu tw none) es:=by
 intro s xs k c hk hl hxs
 obtain⟨e,he,rfl⟩:=List.mem_map.1 hk
 obtain⟨b,hb⟩:=hkey e he
 rw[hb]
 refine aor hP hh hE (fun y hy=>?_) (by omega) hm c
 obtain⟨e2,he2,rfl⟩:=List.mem_map.1 (hxs y hy)
 obtain⟨b2,hb2⟩:=hkey e2 he2
 rw[hb2];rfl
theorem apJ {s0:St} {bx lo lim:Nat} {E:bq} {es:List dx} (hE:ay E 2= .ptr bx 0) (hm:s0.minw<=s0.next) (hes:es.length<=1000000) (hkey: ∀e∈es, ∃a b:aB,e.key= .agg [.str a,.str b]):rM Q 2 s0 bx lo lim (.loop 81 E 13 [7] tx tz none) es:=by
 intro s xs k c hk hl hxs
 obtain⟨e,he,rfl⟩:=List.mem_map.1 hk
 obtain⟨a,b,hb⟩:=hkey e he
 rw[hb]
 refine aos hP hh hE (fun y hy=>?_) (by omega) hm c
 obtain⟨e2,he2,rfl⟩:=List.mem_map.1 (hxs y hy)
 obtain⟨a2,b2,hb2⟩:=hkey e2 he2
 rw[hb2];rfl
def rJ (Q:cI) (sz g:Nat) (s0:St) (cb:Nat) (es:List dx):Prop:=
 ∀(s:St) (bx lo lim:Nat) (lob:bR),iw sz s0 s bx lo lim lob []->rM Q sz s0 bx lo s.next lob es-> ∃s',bv Q g [.yld lo,.ptr cb 0] s (.tup []) s'/\ ∃xs lim',iw sz s0 s' bx lo lim' lob xs/\xs.Perm (es.map (·.key))/\s.next<=s'.next
theorem XV (h78:Q.spec 78=none) (hH78:Q.specH 78=none) (hW78:Q.specW 78=none) {g cb:Nat} {s0:St} {es:List dx} (hm:s0.minw<=s0.next) (hes:es.length<=1000000) (hkey: ∀e∈es, ∃k:aB,e.key= .str k) (hg:nc Tryz.prog g=true) (hgv:rJ Q 1 g s0 cb es):
 ∃v s',bv Q 78 [.nils,.func (.func g) [] [.ptr cb 0]] s0 v s'/\ ∃xs,oq 1 s0 s' v xs/\xs.Perm (es.map (·.key)):=by
 refine bv.ofEx (by rw[hP];exact ajZ) ajV aj1 aj0 h78 ?_ hH78 hW78
 unfold Sg
 refine aF ?_
 unfold Sj
 simp only[dr,cZ,aw,az,aA,ai,aM,iA,ak,aH,aD,i9,au,bG,aq,vH,cT,cF,aR,aY,bS,tA,aQ,ah,ar,bJ,ck,cd,dT,adl,hh,i9,ofValue,gD,xw]
 refine aV (aF ?_)
 unfold Sk
 simp only[aw,az,aA,ai,aG,ak,au,cT,cF,bS,tA,ah,ar]
 have hg1: ∀n o,n<s0.next->((s0.new (.cells [.nils])).new o).get [] n=s0.get [] n:=fun n o h=>by
  rw[dy,jF,beq_eq_false_iff_ne.2 (by omega:n≠s0.next+1),cF,dy,beq_eq_false_iff_ne.2 (by omega:n≠s0.next)];rfl
 have hcol: ∀lob,iw 1 s0 ((s0.new (.cells [.nils])).new lob) s0.next (s0.next+1) (s0.next+1) lob []:=fun lob=>
  ⟨fun n h=>hg1 n lob h,⟨bK _,iC _,bK _,iC _⟩,rfl,⟨.nils,by rw[dy,jF,beq_eq_false_iff_ne.2 (by omega:s0.next≠s0.next+1),cF,dy,bS];rfl,.inl ⟨rfl,rfl⟩⟩,by rw[dy,jF,bS];rfl⟩
 obtain⟨s1,hr,xs,lim',c1,hp,hn1⟩:=hgv _ s0.next (s0.next+1) (s0.next+1) _ (hcol (.loop 78 ((((cZ 0 [.nils,.func (.func g) [] [.ptr cb 0]]).set 2 (some (.ptr s0.next 0))).set 4 (some .nils)).set 6 (some (.func (.func g) [] [.ptr cb 0]))) 13 [7] tu tw none)) (apI hP hh (by simp only[ai,ah,cT,cF, *]) hm hes hkey)
 obtain⟨l1,l2,l3,l4⟩:=c1.lt
 obtain⟨v,hv,hrow⟩:=c1.box
 have hvc:v.clean=true:=by rcases hrow with⟨rfl,_⟩|⟨_,k,rfl,_⟩<;>rfl
 have hk1: ∀n,n≠s0.next+1->(s1.put (s0.next+1) none).get [] n=s1.get [] n:=fun n h=>by rw[cX,beq_eq_false_iff_ne.2 h];rfl
 have hbx:(s1.put (s0.next+1) none).get [] s0.next=some (.cells [v]):=(hk1 _ (by omega)).trans hv
 refine cR (W.rfun (h:=g) (first:=[]) (captured:=[.ptr cb 0]) (v:=.tup []) (s1:=s1) (by simp only[ak,ai,ah,cT,cF]) ?_ hr c1.loop ?_)
 ·rw[hP,hg,ajY];rfl
 simp only[uN,dM,aW,jF]
 refine aF ?_
 unfold Sn
 simp only[aw,az,aA,ai,aM,bn,ak,au,aq,cT,cF,aZ,bE,bS,tA,ah,ar,fT,hP,dH,hbx,dG]
 refine bP ⟨.inr rfl,v,bV (by simp only[ai,ah,cT,cF, *]) hvc,xs,⟨fun n h=>(hk1 n (by omega)).trans (c1.old n h),?_,?_,?_⟩,hp⟩
 ·show s0.next<=s1.next
  omega
 ·rw[nm (by rw[c1.minw];omega)];exact c1.minw
 ·rcases hrow with h|⟨h1,k,h2,h3,h4,h5⟩
  ·exact .inl h
  ·exact .inr ⟨h1,k,h2,(hk1 k (by omega)).trans h3,by omega,h5⟩
theorem Y8 (h78:Q.spec 78=none) (hH78:Q.specH 78=none) (hW78:Q.specW 78=none) (h47:Q.spec 47=none) (hH47:Q.specH 47=none) (hW47:Q.specW 47=none) {g cb:Nat} {s0:St} {es:List dx} (hm:s0.minw<=s0.next) (hes:es.length<=1000000) (hkey: ∀e∈es, ∃k:aB,e.key= .str k) (hg:nc Tryz.prog g=true) (hgv:rJ Q 1 g s0 cb es):
 ∃v s',bv Q 47 [.func (.func g) [] [.ptr cb 0]] s0 v s'/\ ∃xs,oq 1 s0 s' v xs/\xs.Perm (es.map (·.key)):=by
 obtain⟨v,s',hr,xs,hgot,hp⟩:=XV hP hh h78 hH78 hW78 hm hes hkey hg hgv
 have hvc:=hgot.clean
 refine⟨v,s',dZ (by rw[hP];exact aie) aid aig aif h47 ?_ hH47 hW47,xs,hgot,hp⟩
 unfold PU
 refine aF ?_
 unfold PW
 simp only[dr,cZ,aw,az,aA,aM,aH,au,cT,aR,aY,tA,aQ,ar,ck,cd,dT,ofValue,gD]
 refine aV (gH (gd 1 ?_))
 unfold PX
 simp only[aw,az,aA,ai,aG,ak,au,cT,cF,bO,aZ,bS,tA,ah,ar]
 refine gq (g:=78) (args:=[.nils,.func (.func g) [] [.ptr cb 0]]) ?_ hr (by decide) ?_
 ·simp only[callee,ai,ak,aH,fA,aD,bh,bk,aq,vH,oG,cT,cF,cy,cP,bS,ah,ofValue,gD]
 refine gp ?_
 simp only[aw,az,aA,ai,aM,ak,au,cT,cF,bS,tA,ah,ar,aW]
 exact bP ⟨rfl,.inr rfl,bV (by simp only[ai,ah,cT,cF, *]) hvc⟩
theorem XW (h81:Q.spec 81=none) (hH81:Q.specH 81=none) (hW81:Q.specW 81=none) {g cb:Nat} {s0:St} {es:List dx} (hm:s0.minw<=s0.next) (hes:es.length<=1000000) (hkey: ∀e∈es, ∃a b:aB,e.key= .agg [.str a,.str b]) (hg:nc Tryz.prog g=true) (hgv:rJ Q 2 g s0 cb es):
 ∃v s',bv Q 81 [.nils,.func (.func g) [] [.ptr cb 0]] s0 v s'/\ ∃xs,oq 2 s0 s' v xs/\xs.Perm (es.map (·.key)):=by
 refine bv.ofEx (by rw[hP];exact aj6) aj2 aj8 aj7 h81 ?_ hH81 hW81
 unfold So
 refine aF ?_
 unfold Ss
 simp only[dr,cZ,aw,az,aA,ai,aM,iA,ak,aH,aD,i9,au,bG,aq,vH,cT,cF,aR,aY,bS,tA,aQ,ah,ar,bJ,ck,cd,dT,ado,hh,i9,ofValue,gD,xw]
 refine aV (aF ?_)
 unfold Su
 simp only[aw,az,aA,ai,aG,ak,au,cT,cF,bS,tA,ah,ar]
 have hg1: ∀n o,n<s0.next->((s0.new (.cells [.nils])).new o).get [] n=s0.get [] n:=fun n o h=>by
  rw[dy,jF,beq_eq_false_iff_ne.2 (by omega:n≠s0.next+1),cF,dy,beq_eq_false_iff_ne.2 (by omega:n≠s0.next)];rfl
 have hcol: ∀lob,iw 2 s0 ((s0.new (.cells [.nils])).new lob) s0.next (s0.next+1) (s0.next+1) lob []:=fun lob=>
  ⟨fun n h=>hg1 n lob h,⟨bK _,iC _,bK _,iC _⟩,rfl,⟨.nils,by rw[dy,jF,beq_eq_false_iff_ne.2 (by omega:s0.next≠s0.next+1),cF,dy,bS];rfl,.inl ⟨rfl,rfl⟩⟩,by rw[dy,jF,bS];rfl⟩
 obtain⟨s1,hr,xs,lim',c1,hp,hn1⟩:=hgv _ s0.next (s0.next+1) (s0.next+1) _ (hcol (.loop 81 ((((cZ 0 [.nils,.func (.func g) [] [.ptr cb 0]]).set 2 (some (.ptr s0.next 0))).set 4 (some .nils)).set 6 (some (.func (.func g) [] [.ptr cb 0]))) 13 [7] tx tz none)) (apJ hP hh (by simp only[ai,ah,cT,cF, *]) hm hes hkey)
 obtain⟨l1,l2,l3,l4⟩:=c1.lt
 obtain⟨v,hv,hrow⟩:=c1.box
 have hvc:v.clean=true:=by rcases hrow with⟨rfl,_⟩|⟨_,k,rfl,_⟩<;>rfl
 have hk1: ∀n,n≠s0.next+1->(s1.put (s0.next+1) none).get [] n=s1.get [] n:=fun n h=>by rw[cX,beq_eq_false_iff_ne.2 h];rfl
 have hbx:(s1.put (s0.next+1) none).get [] s0.next=some (.cells [v]):=(hk1 _ (by omega)).trans hv
 refine cR (W.rfun (h:=g) (first:=[]) (captured:=[.ptr cb 0]) (v:=.tup []) (s1:=s1) (by simp only[ak,ai,ah,cT,cF]) ?_ hr c1.loop ?_)
 ·rw[hP,hg,aj5];rfl
 simp only[uN,dM,aW,jF]
 refine aF ?_
 unfold Sx
 simp only[aw,az,aA,ai,aM,bn,ak,au,aq,cT,cF,aZ,bE,bS,tA,ah,ar,VB,hP,dH,hbx,dG]
 refine bP ⟨.inr rfl,v,bV (by simp only[ai,ah,cT,cF, *]) hvc,xs,⟨fun n h=>(hk1 n (by omega)).trans (c1.old n h),?_,?_,?_⟩,hp⟩
 ·show s0.next<=s1.next
  omega
 ·rw[nm (by rw[c1.minw];omega)];exact c1.minw
 ·rcases hrow with h|⟨h1,k,h2,h3,h4,h5⟩
  ·exact .inl h
  ·exact .inr ⟨h1,k,h2,(hk1 k (by omega)).trans h3,by omega,h5⟩
theorem Y9 (h81:Q.spec 81=none) (hH81:Q.specH 81=none) (hW81:Q.specW 81=none) (h50:Q.spec 50=none) (hH50:Q.specH 50=none) (hW50:Q.specW 50=none) {g cb:Nat} {s0:St} {es:List dx} (hm:s0.minw<=s0.next) (hes:es.length<=1000000) (hkey: ∀e∈es, ∃a b:aB,e.key= .agg [.str a,.str b]) (hg:nc Tryz.prog g=true) (hgv:rJ Q 2 g s0 cb es):
 ∃v s',bv Q 50 [.func (.func g) [] [.ptr cb 0]] s0 v s'/\ ∃xs,oq 2 s0 s' v xs/\xs.Perm (es.map (·.key)):=by
 obtain⟨v,s',hr,xs,hgot,hp⟩:=XW hP hh h81 hH81 hW81 hm hes hkey hg hgv
 have hvc:=hgot.clean
 refine⟨v,s',dZ (by rw[hP];exact aiu) ait aiw aiv h50 ?_ hH50 hW50,xs,hgot,hp⟩
 unfold P2
 refine aF ?_
 unfold P3
 simp only[dr,cZ,aw,az,aA,aM,aH,au,cT,aR,aY,tA,aQ,ar,ck,cd,dT,ofValue,gD]
 refine aV (gH (gd 1 ?_))
 unfold P4
 simp only[aw,az,aA,ai,aG,ak,au,cT,cF,bO,aZ,bS,tA,ah,ar]
 refine gq (g:=81) (args:=[.nils,.func (.func g) [] [.ptr cb 0]]) ?_ hr (by decide) ?_
 ·simp only[callee,ai,ak,aH,fA,aD,bh,bk,aq,vH,oG,cT,cF,cy,cP,bS,ah,ofValue,gD]
 refine gp ?_
 simp only[aw,az,aA,ai,aM,ak,au,cT,cF,bS,tA,ah,ar,aW]
 exact bP ⟨rfl,.inr rfl,bV (by simp only[ai,ah,cT,cF, *]) hvc⟩
omit hP hh in
theorem apc {xs:List aj} {ks:List aB} (h:xs.Perm (ks.map bB)): ∃l:List aB,xs=l.map bB/\l.Perm ks:=by
 have hx: ∃l:List aB,xs=l.map bB:=by
  have: ∀(xs:List aj),(∀x∈xs, ∃b:aB,x=bB b)-> ∃l:List aB,xs=l.map bB:=by
   intro xs
   induction xs with
   |nil=>exact fun _=>⟨[],rfl⟩
   |cons x xs ih=>
    intro hx
    obtain⟨b,rfl⟩:=hx x (by simp)
    obtain⟨l,rfl⟩:=ih fun y hy=>hx y (by simp[hy])
    exact⟨b::l,rfl⟩
  refine this xs fun x hx=>?_
  obtain⟨b,_,e⟩:=List.mem_map.1 (h.mem_iff.1 hx)
  exact⟨b,e.symm⟩
 obtain⟨l,rfl⟩:=hx
 have hinj:Function.Injective bB:=fun a b e=>by
  have e:aj.str a=aj.str b:=e
  injection e
 have key: ∀(l r:List aB),(l.map bB).Perm (r.map bB)->l.Perm r:=by
  intro l r hp
  have h1:=hp.map (fun v=>match v with| .str b=>b|_=>([]:aB))
  have h2: ∀l:List aB,(l.map bB).map (fun v=>match v with| .str b=>b|_=>([]:aB))=l:=by
   intro l
   induction l with
   |nil=>rfl
   |cons a l ih=>
    rw[fS,fS,ih];rfl
  rw[h2,h2] at h1
  exact h1
 exact⟨l,rfl,key l ks h⟩
omit hP hh in
theorem YK {xs:List aj} {ks:List (aB×aB)} (h:xs.Perm (ks.map dP)): ∃l:List (aB×aB),xs=l.map dP/\l.Perm ks:=by
 have hx: ∃l:List (aB×aB),xs=l.map dP:=by
  have: ∀(xs:List aj),(∀x∈xs, ∃b:aB×aB,x=dP b)-> ∃l:List (aB×aB),xs=l.map dP:=by
   intro xs
   induction xs with
   |nil=>exact fun _=>⟨[],rfl⟩
   |cons x xs ih=>
    intro hx
    obtain⟨b,rfl⟩:=hx x (by simp)
    obtain⟨l,rfl⟩:=ih fun y hy=>hx y (by simp[hy])
    exact⟨b::l,rfl⟩
  refine this xs fun x hx=>?_
  obtain⟨b,_,e⟩:=List.mem_map.1 (h.mem_iff.1 hx)
  exact⟨b,e.symm⟩
 obtain⟨l,rfl⟩:=hx
 have key: ∀(l r:List (aB×aB)),(l.map dP).Perm (r.map dP)->l.Perm r:=by
  intro l r hp
  have h1:=hp.map (fun v=>match v with| .agg [.str a,.str b]=>(a,b)|_=>(([],[]):aB×aB))
  have h2: ∀l:List (aB×aB),(l.map dP).map (fun v=>match v with| .agg [.str a,.str b]=>(a,b)|_=>(([],[]):aB×aB))=l:=by
   intro l
   induction l with
   |nil=>rfl
   |cons a l ih=>
    rw[fS,fS,ih];rfl
  rw[h2,h2] at h1
  exact h1
 exact⟨l,rfl,key l ks h⟩
theorem Wc (hs: ∀n,n=25\/n=47\/n=78\/n=48->Q.spec n=none) (hH: ∀n,Q.specH n=none) (hW: ∀n,n=25\/n=47\/n=78->Q.specW n=none) (hW48:Q.specW 48=some wY) {g cb:Nat} {s0:St} {es:List dx} {ks:List aB} (hm:s0.minw<=s0.next) (hes:es.length<=1000000) (hks:es.map (·.key)=ks.map bB) (hg:nc Tryz.prog g=true) (hgv:rJ Q 1 g s0 cb es):
 ∃v s',bv Q 25 [.func (.func g) [] [.ptr cb 0]] s0 v s'/\oq 1 s0 s' v ((fC ks).map bB):=by
 have hkey: ∀e∈es, ∃k:aB,e.key= .str k:=fun e he=>by
  have h1:e.key∈ks.map bB:=by rw[<-hks];exact List.mem_map.2 ⟨e,he,rfl⟩
  obtain⟨b,_,e2⟩:=List.mem_map.1 h1
  exact⟨b,e2.symm⟩
 obtain⟨v,s1,hr,xs,hgot,hp⟩:=Y8 hP hh (hs _ (by simp)) (hH _) (hW _ (by simp)) (hs _ (by simp)) (hH _) (hW _ (by simp)) hm hes hkey hg hgv
 rw[hks] at hp
 obtain⟨l,rfl,hl⟩:=apc hp
 have hsl:fC l=fC ks:=V9 hl
 have hlen:l.length<=1000000:=by
  have h1:=hl.length_eq
  have h2:=congrArg List.length hks
  simp only[fw] at h2
  omega
 have hvc:=hgot.clean
 have hsort: ∃s2,bv Q 48 [v] s1 (.tup []) s2/\oq 1 s0 s2 v ((fC ks).map bB):=by
  rcases hgot.row with⟨rfl,hx⟩|⟨hne,k,rfl,hk,h4,h5⟩
  ·refine⟨s1,bv.specW0 (hs _ (by simp)) (hH _) hW48 rfl,hgot.old,hgot.next,hgot.minw,.inl ⟨rfl,?_⟩⟩
   have hl0:l=[]:=List.map_eq_nil_iff.1 hx
   rw[<-hsl,hl0];rfl
  ·have hg1: ∀n o,n≠k->(s1.put k o).get [] n=s1.get [] n:=fun n o h=>by rw[cX,beq_eq_false_iff_ne.2 h];rfl
   rw[wc] at hk
   have hsll:(fC l).length=l.length:=(kU l).length_eq
   refine⟨_,bv.specW (n:=k) (cs':=(fC l).map bB) (hs _ (by simp)) (hH _) hW48 rfl hk ?_,fun n h=>(hg1 n _ (by omega)).trans (hgot.old n h),hgot.next,?_,.inr ⟨?_,k,?_,?_,h4,h5⟩⟩
   ·show(bif bo (l.map bB).length (l.map bB).length&&cg (l.map bB).length 1000001 then(sX (l.map bB)).bind fun l=>some ((fC l).map bB) else none)=_
    have:cg (l.map bB).length 1000001=true:=fe (by rw[fw];omega)
    rw[this,aX,bS,H8];rfl
   ·rw[nm (by rw[hgot.minw];omega)];exact hgot.minw
   ·rw[<-hsl]
    intro hc
    have hc:=List.map_eq_nil_iff.1 hc
    rw[hc] at hsll
    exact hne (by rw[rE hsll.symm];rfl)
   ·rw[<-hsl,fw,fw,hsll]
   ·rw[cX,bS,wc,hsl];rfl
 obtain⟨s2,hr2,hgot2⟩:=hsort
 refine⟨v,s2,dZ (by rw[hP];exact agB) agA agD agC (hs _ (by simp)) ?_ (hH _) (hW _ (by simp)),hgot2⟩
 unfold NK
 refine aF ?_
 unfold NL
 simp only[dr,cZ,aw,az,aA,aM,aH,au,cT,aR,aY,tA,aQ,ar,ck,cd,dT,ofValue,gD]
 refine aV (gH (gd 1 ?_))
 unfold NM
 simp only[aw,az,aA,ai,aG,ak,au,cT,cF,bO,aZ,bS,tA,ah,ar]
 refine gq (g:=47) (args:=[.func (.func g) [] [.ptr cb 0]]) ?_ hr (by decide) ?_
 ·simp only[callee,ai,ak,fA,aD,bh,bk,aq,oG,cT,cF,cy,cP,bS,ah]
 refine gp ?_
 simp only[aw,az,aA,ai,aM,ak,au,cT,cF,bS,tA,ah,ar,aW]
 refine aV (gH (gd 1 ?_))
 unfold NN
 simp only[aw,az,aA,ai,aG,ak,au,cT,cF,bO,aZ,bS,tA,ah,ar]
 refine gq (g:=48) (args:=[v]) ?_ hr2 (by decide) ?_
 ·simp only[callee,ai,ak,fA,aD,bh,bk,aq,cT,cF,cy,cP,bS,ah,hvc]
 refine gp ?_
 simp only[aw,aW]
 refine aF ?_
 unfold NP
 simp only[aw,az,aA,ai,aG,aM,ak,au,cT,cF,bS,tA,ah,ar]
 exact bP ⟨rfl,.inr rfl,bV (by simp only[ai,ah,cT,cF, *]) hvc⟩
theorem ao3 (hs: ∀n,n=28\/n=50\/n=81\/n=51->Q.spec n=none) (hH: ∀n,Q.specH n=none) (hW: ∀n,n=28\/n=50\/n=81->Q.specW n=none) (hW51:Q.specW 51=some wX) {g cb:Nat} {s0:St} {es:List dx} {ks:List (aB×aB)} (hm:s0.minw<=s0.next) (hes:es.length<=1000000) (hks:es.map (·.key)=ks.map dP) (hg:nc Tryz.prog g=true) (hgv:rJ Q 2 g s0 cb es):
 ∃v s',bv Q 28 [.func (.func g) [] [.ptr cb 0],.func (.func 30) [] []] s0 v s'/\ ∃l,l.Perm ks/\oq 2 s0 s' v ((iH l).map dP):=by
 have hkey: ∀e∈es, ∃a b:aB,e.key= .agg [.str a,.str b]:=fun e he=>by
  have h1:e.key∈ks.map dP:=by rw[<-hks];exact List.mem_map.2 ⟨e,he,rfl⟩
  obtain⟨b,_,e2⟩:=List.mem_map.1 h1
  exact⟨b.1,b.2,e2.symm⟩
 obtain⟨v,s1,hr,xs,hgot,hp⟩:=Y9 hP hh (hs _ (by simp)) (hH _) (hW _ (by simp)) (hs _ (by simp)) (hH _) (hW _ (by simp)) hm hes hkey hg hgv
 rw[hks] at hp
 obtain⟨l,rfl,hl⟩:=YK hp
 have hlen:l.length<=1000000:=by
  have h1:=hl.length_eq
  have h2:=congrArg List.length hks
  simp only[fw] at h2
  omega
 have hvc:=hgot.clean
 have hsort: ∃s2,bv Q 51 [v,.func (.func 30) [] []] s1 (.tup []) s2/\oq 2 s0 s2 v ((iH l).map dP):=by
  rcases hgot.row with⟨rfl,hx⟩|⟨hne,k,rfl,hk,h4,h5⟩
  ·refine⟨s1,bv.specW0 (hs _ (by simp)) (hH _) hW51 rfl,hgot.old,hgot.next,hgot.minw,.inl ⟨rfl,?_⟩⟩
   have hl0:l=[]:=List.map_eq_nil_iff.1 hx
   rw[hl0];rfl
  ·have hg1: ∀n o,n≠k->(s1.put k o).get [] n=s1.get [] n:=fun n o h=>by rw[cX,beq_eq_false_iff_ne.2 h];rfl
   have hsll:(iH l).length=l.length:=(tS l).length_eq
   refine⟨_,bv.specW (n:=k) (cs':=cj ((iH l).map dP)) (hs _ (by simp)) (hH _) hW51 rfl hk ?_,fun n h=>(hg1 n _ (by omega)).trans (hgot.old n h),hgot.next,?_,.inr ⟨?_,k,?_,?_,h4,h5⟩⟩
   ·show(bif bo (cj (l.map dP)).length ((l.map dP).length*2)&&cg (l.map dP).length 1000001 then(rO (cj (l.map dP))).bind fun l=>some (cj ((iH l).map dP)) else none)=_
    have:cg (l.map dP).length 1000001=true:=fe (by rw[fw];omega)
    rw[this,xN,fw,aX,bS,H6];rfl
   ·rw[nm (by rw[hgot.minw];omega)];exact hgot.minw
   ·intro hc
    have hc:=List.map_eq_nil_iff.1 hc
    rw[hc] at hsll
    exact hne (by rw[rE hsll.symm];rfl)
   ·rw[fw,fw,hsll]
   ·rw[cX,bS];rfl
 obtain⟨s2,hr2,hgot2⟩:=hsort
 refine⟨v,s2,dZ (by rw[hP];exact agN) agM agP agO (hs _ (by simp)) ?_ (hH _) (hW _ (by simp)),l,hl,hgot2⟩
 unfold N0
 refine aF ?_
 unfold N3
 simp only[dr,cZ,aw,az,aA,aM,aH,au,cT,aR,aY,tA,aQ,ar,bJ,ck,cd,dT,ofValue,gD]
 refine aV (gH (gd 1 ?_))
 unfold N4
 simp only[aw,az,aA,ai,aG,ak,au,cT,cF,bO,aZ,bS,tA,ah,ar]
 refine gq (g:=50) (args:=[.func (.func g) [] [.ptr cb 0]]) ?_ hr (by decide) ?_
 ·simp only[callee,ai,ak,fA,aD,bh,bk,aq,oG,cT,cF,cy,cP,bS,ah]
 refine gp ?_
 simp only[aw,az,aA,ai,aM,ak,au,cT,cF,bS,tA,ah,ar,aW]
 refine aV (gH (gd 2 ?_))
 unfold N5
 simp only[aw,az,aA,ai,aG,ak,au,cT,cF,bO,aZ,bS,tA,ah,ar]
 refine gq (g:=51) (args:=[v,.func (.func 30) [] []]) ?_ hr2 (by decide) ?_
 ·simp only[callee,ai,ak,fA,aD,bh,bk,aq,oG,cT,cF,cy,cP,bS,ah,hvc]
 refine gp ?_
 simp only[aw,aW]
 refine aF ?_
 unfold N7
 simp only[aw,az,aA,ai,aG,aM,ak,au,cT,cF,bS,tA,ah,ar]
 exact bP ⟨rfl,.inr rfl,bV (by simp only[ai,ah,cT,cF, *]) hvc⟩
end
end Go.Proofs.YtbfmdojdemckbaaGreat
namespace Go.Proofs.YtbfmdojdemckbaaGreat
open Go.Ag
open Go.Sort (putRow putCells mapBlock onCells grow heap_grow_old Holds SWO)
structure HG (w w':World):Prop where
 os:w'.os=w.os
 output:w'.output=w.output
 size:w.heap.size<=w'.heap.size
 block: ∀k,k<w.heap.size->w'.heap[k]? =w.heap[k]?
 tape:w'.tape=w.tape
 drawn:w.drawn<=w'.drawn
theorem XL {G:Gh} {h:bD bR} {w w':World} (wr:WR G h w) (bl:HG w w') (f:Nat->Nat->Option aj)
 (hf: ∀b o v,f b o=some v->w.heap.size<=b/\v.scal=true/\ ∃x,w'.cell? ⟨b,o,none⟩=some x/\VR G v x):
 ∃G':Gh,(∀b o v,f b o=some v->G'.ro b o=some v)/\G.le G'/\WR G' h w'/\dF G h w G' h w' 0 0:=by
 let G':Gh:= {at_:=G.at_,ro:=fun b o=>if b<w.heap.size then G.ro b o else f b o,dim:=G.dim }
 have hlt: ∀b o v,G.ro b o=some v->b<w.heap.size:=fun b o v e=>by
  obtain⟨_,x,hx,_⟩:=wr.ro b o v e
  exact World.block_lt_of_cell? w ⟨b,o,none⟩ hx
 have hle:G.le G':=⟨fun _ _ e=>e,fun b o v e=>by
  show(if b<w.heap.size then G.ro b o else f b o)=some v
  rw[if_pos (hlt b o v e)];exact e,fun _ _ e=>e⟩
 have hro: ∀b o v,G'.ro b o=some v->(b<w.heap.size/\G.ro b o=some v)\/(¬b<w.heap.size/\f b o=some v):=fun b o v e=>by
  have e:(if b<w.heap.size then G.ro b o else f b o)=some v:=e
  by_cases hb:b<w.heap.size
  ·rw[if_pos hb] at e;exact .inl ⟨hb,e⟩
  ·rw[if_neg hb] at e;exact .inr ⟨hb,e⟩
 refine⟨G',fun b o v e=>?_,hle,⟨?_,?_,?_,?_,?_,?_⟩,hle,bl.size,fun b hb _=>bl.block b hb,fun b _ o=>o,fun n a e e0=>(by have e:G.at_ n=some a:=e;rw[e] at e0;cases e0),?_,bl.os,bl.output,bl.size,fun a ha=>World.frozen?_of_block (bl.block _ ha),bl.tape,bl.drawn⟩
 ·show(if b<w.heap.size then G.ro b o else f b o)=some v
  have:=(hf b o v e).1
  rw[if_neg (by omega)];exact e
 ·intro n o e
  obtain⟨a,h1,h2,h3⟩:=wr.obj n o e
  exact⟨a,h1,h2,(h3.of_block (bl.block _ (wr.below n a h1))).mono hle⟩
 ·exact wr.sep
 ·intro b o v e
  rcases hro b o v e with⟨hb,e⟩|⟨hb,e⟩
  ·obtain⟨h1,x,h2,h3⟩:=wr.ro b o v e
   exact⟨h1,x,(World.cell?_of_block (bl.block b hb)).trans h2,h3.mono hle⟩
  ·obtain⟨_,h1,x,h2,h3⟩:=hf b o v e
   exact⟨h1,x,h2,h3.mono hle⟩
 ·intro n ob a i v e ea er
  rcases hro _ _ _ er with⟨_,er⟩|⟨hb,_⟩
  ·exact wr.apart n ob a i v e ea er
  ·exact absurd (wr.below n a ea) hb
 ·intro b d e
  obtain⟨C,el,h1,h2⟩:=wr.dim b d e
  have hb:b<w.heap.size:=by
   rcases iJ b w.heap.size with hb|hb
   ·exact hb
   ·rw[vh hb] at h1;cases h1
  exact⟨C,el,(bl.block b hb).trans h1,h2⟩
 ·exact fun n a e=>Nat.lt_of_lt_of_le (wr.below n a e) bl.size
 ·intro b o v hb e e0
  rcases hro b o v e with⟨_,e⟩|⟨hb',_⟩
  ·rw[e] at e0;cases e0
  ·exact absurd hb hb'
section
variable {α:Type} [Inhabited α]
theorem Vt (enc:α->Value) (off:Nat) (d:Array α) (C:Array Value):(putCells enc off d C).size=C.size:=by simp[putCells]
theorem anT (enc:α->Value) (off:Nat) (d:Array α) (C:Array Value) {i:Nat} (hi:i<d.size) (hc:off+i<C.size):(putCells enc off d C)[off+i]? =some (enc d[i]!):=by
 simp[putCells,hc,hi]
theorem ao5 (enc:α->Value) (w:World) (blk off n:Nat) (d:Array α) (os:Array Go.Obj) {C:Array Value} {e:TypeId} (hb:w.heap[blk]? =some (.cells C e (0,0))) (k:Nat) (hk:k<w.heap.size):
 (grow (putRow enc (Sort.ahead w n) blk off d) os).heap[k]? =if k=blk then some (.cells (putCells enc off d C) e (0,0)) else w.heap[k]? :=by
 rw[heap_grow_old _ _ (by simpa using hk)]
 by_cases h:k=blk
 ·subst h
  simp[putRow,mapBlock,Sort.ahead,B0,hb,onCells]
 ·have h': ¬blk=k:=fun e=>h e.symm
  simp[putRow,mapBlock,Sort.ahead,B0,h,h']
theorem VM {G:Gh} {h:bD bR} {w:World} (wr:WR G h w) {m:Nat} {a:Addr} {cs cs':List aj} (hl:h.get m=some (.cells cs)) (ha:G.at_ m=some a) (enc:α->Value) (d:Array α) (n:Nat) (os:Array Go.Obj)
 (hd: ∀C e,w.heap[a.block]? =some (.cells C e (0,0))->a.off+d.size<=C.size) (hc: ∀(i:Nat) v,cs'[i]? =some v->i<d.size/\v.scal=true/\VR G v (enc d[i]!)):
 ∃G',WR G' (h.set m (some (.cells cs'))) (grow (putRow enc (Sort.ahead w n) a.block a.off d) os)/\dF G h w G' (h.set m (some (.cells cs'))) (grow (putRow enc (Sort.ahead w n) a.block a.off d) os) 0 0/\VR G' (.tup []) (.tuple #[]):=by
 obtain⟨b,hb,_,C,e,hC,hdim,_⟩:=wr.obj m _ hl
 rw[ha] at hb;injection hb with hb;subst hb
 have hlt:=wr.below m a ha
 have hdC:=hd C e hC
 have hself:(ef w a.block (.cells (putCells enc a.off d C) e (0,0))).heap[a.block]? =some (.cells (putCells enc a.off d C) e (0,0)):=by rw[jn _ _ _ _ hlt,if_pos rfl]
 obtain⟨c1,c2⟩:=wr.changed (o':=.cells cs') (ob:=.cells (putCells enc a.off d C) e (0,0)) hl ha
  ⟨_,e,hself,by rw[Vt];exact hdim,fun i v hi=>by
    obtain⟨h1,h2,h3⟩:=hc i v hi
    exact⟨h2,_,anT enc a.off d C h1 (by omega),h3⟩⟩
  (fun i v hv=>by
   have:=(wr.apart m _ a i v hl ha hv).1
   cases this)
  (fun d' hd'=>by
   rw[hdim] at hd';injection hd' with hd'
   exact⟨_,e,rfl,by rw[Vt];exact hd'⟩)
  rfl
 have hst:HG (ef w a.block (.cells (putCells enc a.off d C) e (0,0))) (grow (putRow enc (Sort.ahead w n) a.block a.off d) os):=by
  refine⟨rfl,rfl,?_,fun k hk=>?_,rfl,?_⟩
  ·rw[wM];simp[grow]
  ·rw[wM] at hk
   rw[ao5 enc w a.block a.off n d os hC k hk,jn _ _ _ _ hlt]
  ·show w.drawn<=w.drawn+n
   omega
 obtain⟨G',_,_,g3,g4⟩:=XL c1 hst (fun _ _=>none) (by intro b o v e;cases e)
 exact⟨G',g3,(c2 0 0).trans g4 (bK _) (bK _),.tup .nil⟩
end
theorem H7: ∀ {cs:List aj} {l:List aB},sX cs=some l->cs=l.map bB
 | [],l,h=>by
   simp only[sX,bp] at h
   subst h;rfl
 |v::cs,l,h=>by
  unfold sX at h
  split at h
  ·rename_i e;cases e
  ·rename_i a r e
   injection e with e1 e2
   subst e1;subst e2
   simp only[aN,bp] at h
   obtain⟨l,h1,rfl⟩:=h
   rw[H7 h1];rfl
  ·cases h
theorem H5: ∀ {cs:List aj} {l:List (aB×aB)},rO cs=some l->cs=cj (l.map dP)
 | [],l,h=>by
   simp only[rO,bp] at h
   subst h;rfl
 | [v],l,h=>by
   unfold rO at h
   split at h
   ·rename_i e;cases e
   ·rename_i e;cases e
   ·cases h
 |v::u::cs,l,h=>by
  unfold rO at h
  split at h
  ·rename_i e;cases e
  ·rename_i a b r e
   injection e with e1 e2
   injection e2 with e2 e3
   subst e1;subst e2;subst e3
   simp only[aN,bp] at h
   obtain⟨l,h1,rfl⟩:=h
   rw[H5 h1];rfl
  ·cases h
def HO (f:FuncId) (sp:List aj->Option uj):Prop:=
 ∀args (G:Gh) (h:bD bR) (w:World) (xs:List Value),WR G h w->cU G args xs->
  (sp args=some none->lp Tryz.prog f ⟨xs⟩ w fun y w'=> ∃G',WR G' h w'/\dF G h w G' h w' 0 0/\VR G' (.tup []) y)/\
  ∀n g cs cs',sp args=some (some (n,g))->h.get n=some (.cells cs)->g cs=some cs'->
   lp Tryz.prog f ⟨xs⟩ w fun y w'=> ∃G',WR G' (h.set n (some (.cells cs'))) w'/\dF G h w G' (h.set n (some (.cells cs'))) w' 0 0/\VR G' (.tup []) y
theorem H3 {G:Gh} {sz m len lcap:Nat} {y:Value} (h:VR G (.arr sz m 0 len lcap) y): ∃(a b:Addr) (cap:Nat),y= .slice (some a) len cap/\G.at_ m=some b/\a.spot=none/\len<=cap/\(len=0\/(a.block=b.block/\a.off=b.off))/\(∃d,G.dim b.block=some d/\b.off+cap*sz<=d):=by
 cases h with
 |arr h1 h2 h3 h4 h5 h6 h7 h8=>
  rename_i a b cap d
  refine⟨a,b,cap,rfl,h1,h2,by omega,?_,d,h7,by simpa using h8⟩
  rcases h6 with h6|h6
  ·exact .inl (by omega)
  ·exact .inr (by simpa using h6)
theorem ao2:HO 48 wY:=by
 intro args G h w xs wr hx
 refine⟨fun hsp=>?_,fun n g cs cs' hsp hl hg=>?_⟩
 ·unfold wY at hsp
  split at hsp
  ·cases hx with
   |cons p q=>
    cases q
    cases p
    refine .inr ⟨Go.Proofs.enters_of Tryz.func48 (by kernel_rfl) rfl _ _,(AnyM.slices_Sort_string_none Tryz.sort48 none 0 w).mono ?_⟩
    rintro e w' ⟨rfl,rfl⟩
    exact⟨_,rfl,G,wr,.refl,.tup .nil⟩
  ·cases hsp
  ·cases hsp
 ·unfold wY at hsp
  split at hsp
  ·cases hsp
  ·rename_i m len lcap
   simp only[bp,bX] at hsp
   obtain⟨rfl,rfl⟩:=hsp
   obtain⟨hb,hg⟩:=cq hg
   simp only[df] at hb
   have hlen:=iI hb.1
   have hsm:=iu hb.2
   simp only[aN,bp] at hg
   obtain⟨l,h1,rfl⟩:=hg
   have hcs:=H7 h1
   subst hcs
   rw[fw] at hlen
   cases hx with
   |cons p q=>
    cases q
    obtain⟨a,b,cap,rfl,hat,hspot,hcap,hab,d,hdim,hd⟩:=H3 p
    obtain⟨b',hb',_,C,e,hC,hdimC,hcs⟩:=wr.obj m _ hl
    rw[hat] at hb';injection hb' with hb';subst hb'
    rw[hdimC] at hdim;injection hdim with hdim
    have hCs: ∀i (hi:i<l.length),C[b.off+i]? =some (encStr l[i]):=fun i hi=>by
     obtain⟨_,x,hx1,hx2⟩:=hcs i (bB l[i]) (by rw[vk,j2 hi];rfl)
     cases hx2
     exact hx1
    have hsl:(fC l).length=l.length:=(kU l).length_eq
    have hfin: ∀n os, ∃G',WR G' (h.set m (some (.cells ((fC l).map bB)))) (grow (putRow encStr (Sort.ahead w n) b.block b.off (fC l).toArray) os)/\dF G h w G' (h.set m (some (.cells ((fC l).map bB)))) (grow (putRow encStr (Sort.ahead w n) b.block b.off (fC l).toArray) os) 0 0/\VR G' (.tup []) (.tuple #[]):=fun n os=>by
     refine VM wr hl hat encStr (fC l).toArray n os (fun C' e' hC'=>?_) (fun i v hi=>?_)
     ·rw[hC] at hC';injection hC' with hC';injection hC' with hC' _ _;subst hC'
      rw[vq,hsl,hdim];omega
     ·rw[vk,Option.map_eq_some_iff] at hi
      obtain⟨s,hs,rfl⟩:=hi
      obtain⟨hi,hs⟩:=List.getElem?_eq_some_iff.1 hs
      refine⟨by simpa using hi,rfl,?_⟩
      have:(fC l).toArray[i]! =s:=by simp[hi,hs]
      rw[this];exact .str s
    rcases hab with h0|⟨hab1,hab2⟩
    ·have hl0:l=[]:=rE (by omega)
     subst hl0
     have h0':len=0:=h0
     subst h0'
     refine .inr ⟨Go.Proofs.enters_of Tryz.func48 (by kernel_rfl) rfl _ _,(AnyM.slices_Sort_string_none Tryz.sort48 (some a) cap w).mono ?_⟩
     rintro e' w' ⟨rfl,rfl⟩
     obtain⟨G',g1,g2,g3⟩:=hfin 0 #[]
     have hw:grow (putRow encStr (Sort.ahead w' 0) b.block b.off (fC []).toArray) #[]=w':=by
      rw[Go.Sort.grow_empty,Go.Sort.ahead_zero]
      exact Go.Sort.putRow_self encStr w' b.block b.off _ (fun j hj=>by simp[fC] at hj)
     rw[hw] at g1 g2
     exact⟨_,rfl,G',g1,g2,g3⟩
    ·obtain⟨ab,ao,asp⟩:=a
     simp only at hab1 hab2 hspot
     subst hab1;subst hab2;subst hspot
     have hH:Holds encStr w b.block b.off l.toArray:=fun j hj=>by
      have hj':j<l.length:=by simpa using hj
      refine⟨?_,by simp[World.frozen?,hC]⟩
      rw[oE hC,hCs j hj']
      simp[hj']
     have hbl:=wr.below m b hat
     rw[<-hlen]
     refine .inr ⟨Go.Proofs.enters_of Tryz.func48 (by kernel_rfl) rfl _ _,(AnyM.slices_Sort_string Tryz.sort48 b.block b.off cap l w hH hbl (by omega)).mono ?_⟩
     rintro e' w' ⟨rfl,n,os,rfl⟩
     rw[GY]
     obtain⟨G',g1,g2,g3⟩:=hfin n os
     exact⟨_,rfl,G',g1,g2,g3⟩
  ·cases hsp
end Go.Proofs.YtbfmdojdemckbaaGreat
namespace Go.Proofs.YtbfmdojdemckbaaGreat
open Go.Ag
def br (k:aB):List Obj->Option Obj
 | []=>none
 |o::l=>bif k==o.id then some o else br k l
theorem ju {k:aB}: ∀ {l:List Obj} {q:Obj},br k l=some q->q∈l/\q.id=k
 | [],_,h=>by cases h
 |o::r,q,h=>by
  simp only[br] at h
  cases hb:k==o.id with
  |true=>
   rw[hb] at h
   injection h with h;subst h
   have:k=o.id:=by simpa using hb
   exact⟨by simp,this.symm⟩
  |false=>
   rw[hb] at h
   obtain⟨h1,h2⟩:=ju h
   exact⟨by simp[h1],h2⟩
theorem yd (p k:aB):iE p k= !Ag.leBytes k p:=by
 rw[Ag.leBytes_iff,Go.Proofs.bytesLess_eq]
 by_cases h:k<=p
 ·have h1: ¬p<k:=List.not_lt.2 h
  simp[ky,h,h1]
 ·have h1:p<k:=List.not_le.1 h
  simp[ky,h,h1]
theorem TY {k:aB} (h:gS k=true):Ag.leBytes k []=false:=by
 cases k with
 |nil=>cases h
 |cons a k=>rfl
theorem amt {k:aB} (h:gS k=true):(k== [])=false:=by
 cases k with
 |nil=>cases h
 |cons a k=>rfl
theorem WJ: ∀(l:List cM) (p:Option aB) (last:aB),(p=none/\last=[]\/p=some last)->pJ p l=true->ma last l=true
 | [],_,_,_,_=>rfl
 |t::r,p,last,hp,h=>by
  simp only[pJ] at h
  cases hb:qD p t with
  |true=>rw[hb] at h;cases h
  |false=>
   rw[hb] at h
   simp only[qD,mj,pP] at hb
   obtain⟨⟨⟨h1,h2⟩,h3⟩,h4⟩:=hb
   have h5:Ag.leBytes t.1 last=false:=by
    rcases hp with⟨rfl,rfl⟩|rfl
    ·exact TY h1
    ·simp only[rd,pP] at h4
     rw[yd,rC] at h4
     exact h4
   have h6:(t.2== [])=false:=by
    have: ¬t.2.length<1:=of_decide_eq_false h2
    cases ht:t.2 with
    |nil=>rw[ht] at this;simp at this
    |cons _ _=>rfl
   simp only[ma,kX,h1,h5,h6,h3,dg,lg,cF]
   exact WJ r (some t.1) t.1 (.inr rfl) h
theorem VE (kind:Int): ∀(l:List aB) (p:Option aB) (last:aB) (seen:List aB),(p=none/\last=[]\/p=some last)->nu kind p seen l=true->nM kind last seen l=false
 | [],_,_,_,_,_=>rfl
 |r::l,p,last,seen,hp,h=>by
  simp only[nu] at h
  cases hb:qz kind p seen r with
  |true=>rw[hb] at h;cases h
  |false=>
   rw[hb] at h
   simp only[qz,mj,pP] at hb
   obtain⟨⟨h1,h2⟩,h3⟩:=hb
   have h4:(bz kind 2&&(r==last))=false:=by
    rcases hp with⟨rfl,rfl⟩|rfl
    ·rw[amt h1,mi]
    ·have:yz (some last) r=(r==last):=by
      show(last==r)=(r==last)
      by_cases e:r=last
      ·subst e;rfl
      ·rw[beq_eq_false_iff_ne.2 e,beq_eq_false_iff_ne.2 (Ne.symm e)]
     rw[this] at h2;exact h2
   simp only[nM,vd,h1,h3,h4,dg,lg,jI]
   exact VE kind l (some r) r (lA r seen) (.inr rfl) h
theorem an9 {o:Obj} (h:nw o=true):eK o=true:=by
 simp only[nw,df,rC] at h
 obtain⟨⟨⟨⟨h1,h2⟩,h3⟩,h4⟩,h5⟩:=h
 unfold rh at h4
 cases h60:decide (60<o.tags.length) with
 |true=>rw[h60] at h4;cases h4
 |false=>
 rw[h60] at h4
 have ht:gM o.tags=true:=by
  have: ¬60<o.tags.length:=of_decide_eq_false h60
  simp only[gM,WJ o.tags none [] (.inl ⟨rfl,rfl⟩) h4,iq]
  exact decide_eq_true (by omega)
 unfold ri at h5
 cases h20:decide (2000<o.refs.length) with
 |true=>rw[h20] at h5;cases h5
 |false=>
 rw[h20] at h5
 cases hr:nu o.kind none [] o.refs with
 |false=>rw[hr] at h5;cases h5
 |true=>
 rw[hr] at h5
 simp only[cT,cF] at h5
 have hw:=VE o.kind o.refs none [] [] (.inl ⟨rfl,rfl⟩) hr
 have hleast:decide (o.refs.length<pw o.kind)=false:=by
  apply decide_eq_false
  unfold pw
  unfold rU at h5
  cases k1:bz o.kind 1 with
  |true=>
   have e:o.kind=1:=by simpa[bz] using k1
   rw[e];exact Nat.not_lt_zero _
  |false=>
  rw[k1] at h5
  cases k2:bz o.kind 2 with
  |true=>rw[k2] at h5;simp only[cT,cF,decide_eq_true_eq] at h5 ⊢;omega
  |false=>
  rw[k2] at h5
  cases k3:bz o.kind 3 with
  |true=>rw[k3] at h5;simp only[cT,cF,decide_eq_true_eq] at h5 ⊢;omega
  |false=>
  rw[k3] at h5
  cases k4:bz o.kind 4 with
  |true=>rw[k4] at h5;simp only[cT,cF,decide_eq_true_eq] at h5 ⊢;omega
  |false=>
  rw[k4] at h5
  simp only[cF,beq_iff_eq] at h5
  cases bz o.kind 5<;>simp only[cT,cF]<;>omega
 have hh:lV o=false:=by simp only[lV,h2,h1,ht,hleast,h20,dg,lg]
 unfold eK
 rw[hh,hw]
 simp only[cF]
 unfold xq at h3
 unfold rU at h5
 cases k1:bz o.kind 1 with
 |true=>
  rw[k1] at h3 h5
  simp only[cT] at h3 h5 ⊢
  rw[h5,h3];rfl
 |false=>
  rw[k1] at h3 h5
  simp only[cF] at h3 h5 ⊢
  cases k5:bz o.kind 5 with
  |false=>simp only[cF];exact h3
  |true=>
   have e:o.kind=5:=by simpa[bz] using k5
   rw[e] at h5
   have h5:(o.refs.length==3)=true:=h5
   simp only[cT,h5,h3,fL]
theorem UY: ∀(l:List Obj) (p:Option aB) (last:aB),(p=none/\last=[]\/p=some last)->rg p l=true->l0 last l=true
 | [],_,_,_,_=>rfl
 |o::r,p,last,hp,h=>by
  simp only[rg] at h
  cases hb:sr p o with
  |true=>rw[hb] at h;cases h
  |false=>
   rw[hb] at h
   simp only[sr,mj,pP] at hb
   obtain⟨h1,h4⟩:=hb
   have hn:gS o.id=true:=by
    simp only[nw,df] at h1;exact h1.1.1.1.1
   have h5:Ag.leBytes o.id last=false:=by
    rcases hp with⟨rfl,rfl⟩|rfl
    ·exact TY hn
    ·simp only[rd,pP] at h4
     rw[yd,rC] at h4
     exact h4
   simp only[l0,an9 h1,h5,dg,lg,cF]
   exact UY r (some o.id) o.id (.inr rfl) h
theorem an8 {l:List Obj} (h:pK l=true):jV l=true:=by
 unfold pK at h
 cases hl:decide (1000000<l.length) with
 |true=>rw[hl] at h;cases h
 |false=>
  rw[hl] at h
  have: ¬1000000<l.length:=of_decide_eq_false hl
  simp only[jV,UY l none [] (.inl ⟨rfl,rfl⟩) h,iq]
  exact decide_eq_true (by omega)
theorem JR: ∀(l:List Obj) (last:aB),l0 last l=true->(∀k∈l.map (·.id),iE last k=true)/\(l.map (·.id)).Pairwise (fun a b=>iE a b=true)
 | [],_,_=>⟨fun k h=>(by cases h),List.Pairwise.nil⟩
 |o::r,last,h=>by
  simp only[l0] at h
  cases hb:(!eK o||Ag.leBytes o.id last) with
  |true=>rw[hb] at h;cases h
  |false=>
   rw[hb] at h
   simp only[mj] at hb
   obtain⟨h1,h2⟩:=JR r o.id h
   have h3:iE last o.id=true:=by rw[yd,hb.2];rfl
   refine⟨fun k hk=>?_,List.pairwise_cons.2 ⟨h1,h2⟩⟩
   rcases List.mem_cons.1 hk with rfl|hk
   ·exact h3
   ·have h4:=h1 k hk
    rw[Go.Proofs.bytesLess_eq,decide_eq_true_eq] at h3 h4 ⊢
    exact List.lt_trans h3 h4
theorem ak4 (k:aB):iE k k=false:=by
 rw[Go.Proofs.bytesLess_eq];exact decide_eq_false (List.lt_irrefl k)
theorem DV {l:List Obj} (h:jV l=true):(l.map (·.id)).Nodup:=by
 simp only[jV,df] at h
 refine(JR l [] h.1).2.imp fun hab e=>?_
 subst e
 rw[ak4] at hab;cases hab
theorem yq {l:List Obj} {k:aB}:br k l≠none↔k∈l.map (·.id):=by
 constructor
 ·intro h
  cases e:br k l with
  |none=>exact absurd e h
  |some q=>
   obtain⟨h1,h2⟩:=ju e
   exact List.mem_map.2 ⟨q,h1,h2⟩
 ·intro h
  induction l with
  |nil=>cases h
  |cons o r ih=>
   simp only[br]
   cases hb:k==o.id with
   |true=>simp
   |false=>
    have hne:k≠o.id:=by simpa using hb
    simp only[fS,qH] at h
    exact ih (h.resolve_left hne)
theorem Jg {k:aB}: ∀(l:List Obj) (i:Nat),hZ k l i≠none->br k l≠none
 | [],_,h=>absurd rfl h
 |o::r,i,h=>by
  simp only[hZ] at h
  simp only[br]
  cases hb:k==o.id with
  |true=>simp
  |false=>
   have hne:k≠o.id:=by simpa using hb
   have:(o.id==k)=false:=beq_eq_false_iff_ne.2 (Ne.symm hne)
   rw[this] at h
   exact Jg r (i+1) h
theorem VD (l:List Obj) (kind:Int): ∀(rs:List aB) (i:Nat),mM l kind i rs=0-> ∀r∈rs,br r l≠none
 | [],_,_,r,h=>by cases h
 |a::rs,i,h,r,hr=>by
  simp only[mM] at h
  cases hf:hZ a l 0 with
  |none=>rw[hf] at h;cases h
  |some kq=>
   rw[hf] at h
   simp only at h
   cases hk:bz kq.2.kind (oY kind (i:Nat)) with
   |false=>rw[hk] at h;cases h
   |true=>
    rw[hk] at h
    rcases List.mem_cons.1 hr with rfl|hr
    ·exact Jg l 0 (by rw[hf];simp)
    ·exact VD l kind rs (i+1) h r hr
theorem HV (l:List Obj): ∀(r:List Obj),sW l r=true-> ∀q∈r, ∀k∈q.refs,br k l≠none
 | [],_,q,h=>by cases h
 |o::r,h,q,hq=>by
  simp only[sW] at h
  cases hz:bz (mM l o.kind 0 o.refs) 0 with
  |false=>rw[hz] at h;cases h
  |true=>
   rw[hz] at h
   rcases List.mem_cons.1 hq with rfl|hq
   ·exact VD l q.kind q.refs 0 (by simpa[bz] using hz)
   ·exact HV l r h q hq
theorem CR {l:List Obj} (h:pm l=true):jV l=true/\ ∀q∈l, ∀k∈q.refs,br k l≠none:=by
 unfold pm at h
 cases hr:pK l with
 |false=>rw[hr] at h;cases h
 |true=>rw[hr] at h;exact⟨an8 hr,HV l l h⟩
theorem we {g:aj->Option aj}: ∀ {l:List aj},(∀v∈l,g v=some v)->eU g l=some l
 | [],_=>rfl
 |v::l,h=>by
  have ih:=we (g:=g) (l:=l) fun u hu=>h u (by simp[hu])
  simp only[eU,h v (by simp),ih,aq]
theorem Js (h:bD bR) {k n:Nat} {xs:List aj} {r:fZ} (hp:cx (.list n xs r)=true) (hx: ∀v∈xs,dt h k v=some v):dt h (k+1) (.list n xs r)=some (.list n xs r):=by
 simp only[dt,we hx,aq]
 cases r with
 |own m=>simp[cx] at hp
 |_=>rfl
theorem DK (h:bD bR) {o:Obj} (ho:o.Good) (k:Nat):dt h (k+4) o.val=some o.val:=by
 have hr:dt h (k+3) o.refsV=some o.refsV:=by
  have hp:=ho.pr
  rcases ho.refs with⟨e,_⟩|⟨r,e⟩
  ·rw[e];rfl
  ·rw[e] at hp ⊢
   refine Js h hp fun v hv=>?_
   obtain⟨s,_,rfl⟩:=List.mem_map.1 hv
   rfl
 have ht:dt h (k+3) o.tagsV=some o.tagsV:=by
  have hp:=ho.pt
  rcases ho.tags with⟨e,_⟩|⟨r,e⟩
  ·rw[e];rfl
  ·rw[e] at hp ⊢
   refine Js h hp fun v hv=>?_
   obtain⟨s,_,rfl⟩:=List.mem_map.1 hv
   rfl
 show(eU (dt h (k+3)) o.cells).bind (fun r=>some (aj.agg r))=_
 rw[we (l:=o.cells) fun v hv=>?_]
 ·rfl
 ·simp only[Obj.cells,qH,List.not_mem_nil,or_false] at hv
  rcases hv with rfl|rfl|rfl|rfl|rfl|rfl
  ·rfl
  ·rfl
  ·rfl
  ·rfl
  ·exact hr
  ·exact ht
theorem AP (l:List aB):bH 1 bB (yf (l.map bB)) l:=by
 cases l with
 |nil=>exact .inl ⟨rfl,rfl⟩
 |cons a l=>exact .inr ⟨.no,rfl⟩
theorem fan {B:Nat} (_hB:0<B) (p:(Nat->Nat)->Nat->Prop) (mono: ∀ch n m,n<=m->p ch n->p ch m) (loc: ∀ch n,p ch n-> ∃k, ∀ch',(∀i,i<k->ch' i=ch i)->p ch' n)
 (all: ∀ch,(∀i,ch i<B)-> ∃n,p ch n): ∃N, ∀ch,(∀i,ch i<B)->p ch N:=by
 classical
 let Good:List Nat->Prop:=fun l=> ∃N, ∀ch:Nat->Nat,(∀i,ch i<B)->(∀i x,l[i]? =some x->ch i=x)->p ch N
 have step: ∀l, ¬Good l-> ∃c,c<B/\ ¬Good (l++[c]):=by
  intro l hl
  refine ml fun hc=>hl ?_
  have hc: ∀c,c<B->Good (l++[c]):=fun c h=>ml fun h'=>hc ⟨c,h,h'⟩
  have hall: ∀m,m<=B-> ∃N, ∀c,c<m-> ∀ch:Nat->Nat,(∀i,ch i<B)->(∀i x,(l++[c])[i]? =some x->ch i=x)->p ch N:=by
   intro m
   induction m with
   |zero=>exact fun _=>⟨0,fun c h=>by omega⟩
   |succ m ih=>
    intro hm
    obtain⟨N1,h1⟩:=ih (by omega)
    obtain⟨N2,h2⟩:=hc m (by omega)
    refine⟨max N1 N2,fun c hcm ch a b=>?_⟩
    by_cases h:c<m
    ·exact mono _ _ _ (Nat.le_max_left _ _) (h1 c h ch a b)
    ·have:c=m:=by omega
     subst this
     exact mono _ _ _ (Nat.le_max_right _ _) (h2 ch a b)
  obtain⟨N,hN⟩:=hall B (bK _)
  refine⟨N,fun ch a b=>hN (ch l.length) (a _) ch a fun i x hx=>?_⟩
  rcases iJ i l.length with h|h
  ·rw[pS h] at hx;exact b i x hx
  ·rw[qF h] at hx
   cases hi:i-l.length with
   |zero=>
    rw[hi] at hx
    simp only[gj,bp] at hx
    have:i=l.length:=by omega
    rw[this,hx]
   |succ j=>rw[hi] at hx;simp at hx
 refine ml fun hbad=>?_
 have h0: ¬Good []:=fun⟨N,hN⟩=>hbad ⟨N,fun ch a=>hN ch a fun i x hx=>by simp at hx⟩
 let pre:Nat-> {l:List Nat // ¬Good l}:=fun n=>Nat.rec ⟨[],h0⟩ (fun _ q=>⟨q.1++[(step q.1 q.2).choose],(step q.1 q.2).choose_spec.2⟩) n
 have hlen: ∀n,(pre n).1.length=n:=by
  intro n
  induction n with
  |zero=>rfl
  |succ n ih=>
   show((pre n).1++[_]).length=_
   rw[dw,ih];rfl
 let ch:Nat->Nat:=fun n=>(step (pre n).1 (pre n).2).choose
 have hch: ∀n,ch n<B:=fun n=>(step (pre n).1 (pre n).2).choose_spec.1
 have hget: ∀n i,i<n->(pre n).1[i]? =some (ch i):=by
  intro n
  induction n with
  |zero=>intro i h;omega
  |succ n ih=>
   intro i h
   show((pre n).1++[ch n])[i]? =_
   rcases iJ i n with h2|h2
   ·rw[pS (by rw[hlen];exact h2)];exact ih i h2
   ·have:i=n:=by omega
    subst this
    rw[qF (by rw[hlen];exact bK _),hlen];simp
 obtain⟨n,hn⟩:=all ch hch
 obtain⟨k,hk⟩:=loc ch n hn
 exact(pre k).2 ⟨n,fun ch' _ b=>hk ch' fun i hi=>b i _ (hget k i hi)⟩
theorem Yq (P:Program) (t:TypeId) (a b:List UInt8):gf P .gtr t (.str a) (.str b)=some (.bool (!Ag.leBytes a b)):=rfl
theorem ak5 (a b:aB):(!Ag.leBytes a b)=iE b a:=(yd b a).symm
def wz:Sp
 | [.int .i64 _a]=>some (.bool false)
 |_=>none
theorem amw {sp:FuncId->Option (List aj->Option aj)} (h0:sp 187=none) (a:Int) (s:St):bv (QS sp) 187 [.int .i64 a] s (.bool false) s:=by
 refine dZ afW afV afY afX h0 ?_
 unfold MD
 refine aF ?_
 unfold ME
 simp only[dr,cZ,aw,az,aA,aM,aH,bF,au,cT,aR,aY,tA,aQ,ar,ck,cd,dT]
 refine aF ?_
 unfold MF
 simp only[aw,az,aA,ai,aG,aM,aU,ak,aD,au,pg,aq,a7,cT,cF,aP,dg,bS,tA,ah,ar,adY]
 exact bP ⟨rfl,.inr rfl,bV (by simp only[ai,ah,cT,cF, *]) rfl⟩
theorem amv:ek Tryz.prog 187 wz:=by
 intro args x hv G h w xs wr hx
 unfold wz at hv
 split at hv
 ·rename_i a
  injection hv with hv;subst hv
  exact fD (Q:=QT []) (fB .nil) (fun _=>fG 1) (args:=[.int .i64 a]) (v:=.bool false) (s':=s0) rfl (amw (sp:=fun f=>eR f []) rfl a s0) rfl ⟨1,rfl⟩ G h w xs wr hx
 ·cases hv
def m8 (a b:Int):Int:=bif di a b then-1 else bif di b a then 1 else 0
def p9:Sp
 | [.int .i64 a,.int .i64 b]=>some (.int .i64 (m8 a b))
 |_=>none
theorem YX {sp:FuncId->Option (List aj->Option aj)} (h0:sp 122=none) (h1:sp 187=some wz) (a b:Int) (s:St):bv (QS sp) 122 [.int .i64 a,.int .i64 b] s (.int .i64 (m8 a b)) s:=by
 have ha:wz [.int .i64 a]=some (.bool false):=rfl
 have hb:wz [.int .i64 b]=some (.bool false):=rfl
 refine dZ aeX aeW ae3 ae2 h0 ?_
 unfold KS
 refine aF ?_
 unfold KT
 simp only[dr,cZ,aw,az,aA,aM,aH,bm,au,cT,aR,aY,tA,aQ,ar,bJ,ck,cd,dT]
 refine aF ?_
 unfold KU
 simp only[aw,az,aA,ai,aG,aM,dc,da,ak,aD,bh,bk,au,aq,a7,cT,cF,dq,bS,tA,ah,ar,h1,ha]
 refine aF ?_
 unfold K0
 simp only[aw,az,aA,ai,aG,aM,dc,da,ak,aD,bh,bk,au,aq,a7,cT,cF,dq,bS,tA,ah,ar,h1,hb]
 refine aV (aF ?_)
 unfold K1
 simp only[aw,az,aA,ai,aG,ak,au,cT,cF,bS,tA,ah,ar]
 refine bc (t:=false) (by simp only[ak,ai,ah,cT,cF, *]) (b7 ?_)
 simp only[aW]
 refine aV (aF ?_)
 unfold K4
 simp only[aw,az,aA,ai,aG,ak,au,cT,cF,bS,tA,ah,ar]
 refine bc (t:=false) (by simp only[ak,ai,ah,cT,cF, *]) (b7 ?_)
 simp only[aW]
 refine aV (aF ?_)
 unfold K6
 simp only[aw,az,aA,ai,aG,aU,ak,aD,au,cE,aq,a7,cT,cF,aP,bS,tA,ah,ar]
 cases h2:di a b with
 |true=>
  refine bc (t:=true) (by simp only[ak,ai,ah,cT,cF]) (aF ?_)
  unfold KV
  simp only[aw,az,aA,aM,aH,bm,au,tA,ar]
  exact bP ⟨rfl,.inr rfl,bV (by simp only[ai,ah,cT,cF,m8,h2]) rfl⟩
 |false=>
  refine bc (t:=false) (by simp only[ak,ai,ah,cT,cF]) (b7 ?_)
  simp only[aW]
  refine aV (aF ?_)
  unfold KW
  simp only[aw,az,aA,ai,aG,aU,ak,aD,au,iT,aq,a7,cT,cF,aP,bS,tA,ah,ar]
  cases h3:di b a with
  |true=>
   refine bc (t:=true) (by simp only[ak,ai,ah,cT,cF]) (aF ?_)
   unfold KX
   simp only[aw,az,aA,aM,aH,bm,au,tA,ar]
   exact bP ⟨rfl,.inr rfl,bV (by simp only[ai,ah,cT,cF,m8,h2,h3]) rfl⟩
  |false=>
   refine bc (t:=false) (by simp only[ak,ai,ah,cT,cF]) (b7 ?_)
   simp only[aW]
   refine aF ?_
   unfold KZ
   simp only[aw,az,aA,aM,aH,bm,au,tA,ar]
   exact bP ⟨rfl,.inr rfl,bV (by simp only[ai,ah,cT,cF,m8,h2,h3]) rfl⟩
def Ct:fh:=[(187,wz)]
theorem XE:fI Ct:=.cons amv .nil
theorem IA:ek Tryz.prog 122 p9:=by
 intro args x hv G h w xs wr hx
 unfold p9 at hv
 split at hv
 ·rename_i a b
  injection hv with hv;subst hv
  exact fD (Q:=QT Ct) (fB XE) (fun _=>fG 1) (args:=[.int .i64 a,.int .i64 b]) (v:=.int .i64 (m8 a b)) (s':=s0) rfl (YX (sp:=fun f=>eR f Ct) rfl rfl a b s0) rfl ⟨1,rfl⟩ G h w xs wr hx
 ·cases hv
def wA:Sp
 | [.str _a]=>some (.bool false)
 |_=>none
theorem amy {sp:FuncId->Option (List aj->Option aj)} (h0:sp 194=none) (a:aB) (s:St):bv (QS sp) 194 [.str a] s (.bool false) s:=by
 refine dZ age agd agh agf h0 ?_
 unfold MV
 refine aF ?_
 unfold MW
 simp only[dr,cZ,aw,az,aA,aM,aH,bF,au,cT,aR,aY,tA,aQ,ar,ck,cd,dT]
 refine aF ?_
 unfold MX
 simp only[aw,az,aA,ai,aG,aM,aU,ak,aD,au,qM,aq,cw,cT,cF,aP,dg,bS,tA,ah,ar]
 exact bP ⟨rfl,.inr rfl,bV (by simp only[ai,ah,cT,cF, *]) rfl⟩
theorem amx:ek Tryz.prog 194 wA:=by
 intro args x hv G h w xs wr hx
 unfold wA at hv
 split at hv
 ·rename_i a
  injection hv with hv;subst hv
  exact fD (Q:=QT []) (fB .nil) (fun _=>fG 1) (args:=[.str a]) (v:=.bool false) (s':=s0) rfl (amy (sp:=fun f=>eR f []) rfl a s0) rfl ⟨1,rfl⟩ G h w xs wr hx
 ·cases hv
def qP (a b:aB):Int:=bif iE a b then-1 else bif iE b a then 1 else 0
def vK:Sp
 | [.str a,.str b]=>some (.int .i64 (qP a b))
 |_=>none
theorem YZ {sp:FuncId->Option (List aj->Option aj)} (h0:sp 188=none) (h1:sp 194=some wA) (a b:aB) (s:St):bv (QS sp) 188 [.str a,.str b] s (.int .i64 (qP a b)) s:=by
 have ha:wA [.str a]=some (.bool false):=rfl
 have hb:wA [.str b]=some (.bool false):=rfl
 refine dZ af0 afZ af8 af7 h0 ?_
 unfold MG
 refine aF ?_
 unfold MH
 simp only[dr,cZ,aw,az,aA,aM,aH,bm,au,cT,aR,aY,tA,aQ,ar,bJ,ck,cd,dT]
 refine aF ?_
 unfold MI
 simp only[aw,az,aA,ai,aG,aM,dc,da,ak,aD,bh,bk,au,aq,cw,cT,cF,dq,bS,tA,ah,ar,h1,ha]
 refine aF ?_
 unfold MP
 simp only[aw,az,aA,ai,aG,aM,dc,da,ak,aD,bh,bk,au,aq,cw,cT,cF,dq,bS,tA,ah,ar,h1,hb]
 refine aV (aF ?_)
 unfold MQ
 simp only[aw,az,aA,ai,aG,ak,au,cT,cF,bS,tA,ah,ar]
 refine bc (t:=false) (by simp only[ak,ai,ah,cT,cF, *]) (b7 ?_)
 simp only[aW]
 refine aV (aF ?_)
 unfold MR
 simp only[aw,az,aA,ai,aG,ak,au,cT,cF,bS,tA,ah,ar]
 refine bc (t:=false) (by simp only[ak,ai,ah,cT,cF, *]) (b7 ?_)
 simp only[aW]
 refine aV (aF ?_)
 unfold MS
 simp only[aw,az,aA,ai,aG,aU,ak,aD,au,Yr,aq,cw,cT,cF,aP,bS,tA,ah,ar]
 cases h2:iE a b with
 |true=>
  refine bc (t:=true) (by simp only[ak,ai,ah,cT,cF]) (aF ?_)
  unfold MJ
  simp only[aw,az,aA,aM,aH,bm,au,tA,ar]
  exact bP ⟨rfl,.inr rfl,bV (by simp only[ai,ah,cT,cF,qP,h2]) rfl⟩
 |false=>
  refine bc (t:=false) (by simp only[ak,ai,ah,cT,cF]) (b7 ?_)
  simp only[aW]
  refine aV (aF ?_)
  unfold MM
  simp only[aw,az,aA,ai,aG,aU,ak,aD,au,aq,cw,cT,cF,aP,bS,tA,ah,ar,Yq,ak5]
  cases h3:iE b a with
  |true=>
   refine bc (t:=true) (by simp only[ak,ai,ah,cT,cF]) (aF ?_)
   unfold MN
   simp only[aw,az,aA,aM,aH,bm,au,tA,ar]
   exact bP ⟨rfl,.inr rfl,bV (by simp only[ai,ah,cT,cF,qP,h2,h3]) rfl⟩
  |false=>
   refine bc (t:=false) (by simp only[ak,ai,ah,cT,cF]) (b7 ?_)
   simp only[aW]
   refine aF ?_
   unfold MO
   simp only[aw,az,aA,aM,aH,bm,au,tA,ar]
   exact bP ⟨rfl,.inr rfl,bV (by simp only[ai,ah,cT,cF,qP,h2,h3]) rfl⟩
def Cw:fh:=[(194,wA)]
theorem XH:fI Cw:=.cons amx .nil
theorem YY:ek Tryz.prog 188 vK:=by
 intro args x hv G h w xs wr hx
 unfold vK at hv
 split at hv
 ·rename_i a b
  injection hv with hv;subst hv
  exact fD (Q:=QT Cw) (fB XH) (fun _=>fG 1) (args:=[.str a,.str b]) (v:=.int .i64 (qP a b)) (s':=s0) rfl (YZ (sp:=fun f=>eR f Cw) rfl rfl a b s0) rfl ⟨1,rfl⟩ G h w xs wr hx
 ·cases hv
def zH (n:Int):aj:=.int .i64 n
def asInt:aj->Option Int
 | .int .i64 n=>some n
 |_=>none
theorem XZ {v:aj} {n:Int} (h:asInt v=some n):v=zH n:=by
 unfold asInt at h
 split at h
 ·injection h with h;subst h;rfl
 ·cases h
def ib (p:Int×Int):aj:=.agg [.int .i64 p.1,.int .i64 p.2]
def un:aj->Option (Int×Int)
 | .agg [.int .i64 a,.int .i64 b]=>some (a,b)
 |_=>none
theorem xp {v:aj} {p:Int×Int} (h:un v=some p):v=ib p:=by
 unfold un at h
 split at h
 ·injection h with h;subst h;rfl
 ·cases h
def pF:List Int->Int
 | []=>0
 |x::l=>bif bz x 0 then pF l else x
theorem anx {sp:FuncId->Option (List aj->Option aj)} {v:aj} {l:List Int} (hl:bH 1 zH v l) (hsmall:l.length<small) {s:St} {lc:Ag.Loc}: ∀(rest pre:List Int) (e:bq),l=pre++rest->
 ay e 3= .int .i64 0->ay e 6=v->ay e 7= .int .i64 (l.length:Nat)->ay e 8= .int .i64 (pre.length:Nat)->
 W (QS sp) 31 (.loop zY) ⟨e,18,lc⟩ s fun x fr s'=>s'=s/\fr.size=18/\((x= .exit 0/\pF rest=0/\ay fr.env 3= .int .i64 0)\/(x= .ret/\ay fr.env 2= .int .i64 (pF rest))):=by
 intro rest
 have hcl:=hl.clean
 have hsm:small=9223372036854775808:=rfl
 induction rest with
 |nil=>
  intro pre e hpre h3 h6 h7 h8
  have hl':l.length=pre.length:=by rw[hpre];simp
  refine cY ?_
  unfold zY
  refine aF ?_
  unfold EB
  simp only[aw,az,aA,aU,ak,aD,au,cE,aq,a7,cT,aP,cN,tA,ar,decide_false,h7,h8,hl',ff]
  refine aV (bc (t:=false) (by simp only[ak,ai,ah,cT, *]) ?_)
  exact eL ⟨rfl,rfl,.inl ⟨rfl,rfl,by simp only[ai,ah,cF, *]⟩⟩
 |cons a rest ih=>
  intro pre e hpre h3 h6 h7 h8
  have hlt:pre.length<l.length:=by rw[hpre];simp
  have hat:l[pre.length]? =some a:=by rw[hpre];simp
  have hia:=fun lc=>hl.at adP hat lc .i64
  have hwr:IntKind.i64.wrap ((pre.length:Int)+1)=((pre.length+1:Nat):Int):=by rw[eh (by omega) (by omega)];omega
  refine cY ?_
  unfold zY
  refine aF ?_
  unfold EB
  simp only[aw,az,aA,aU,ak,aD,au,cE,aq,a7,cT,aP,cN,tA,ar,dT,h7,h8,hlt]
  refine aV (bc (t:=true) (by simp only[ak,ai,ah,cT, *]) (b7 ?_))
  simp only[aW]
  refine aV (cR (aF ?_))
  unfold Oj
  simp only[aw,az,aA,ai,aM,bn,dI,ak,dR,au,xu,aq,cT,cF,aP,aZ,bE,bS,tA,ah,ar,eC,h6,h8,hia,zH]
  refine aF ?_
  unfold Ol
  simp only[aw,az,aA,ai,aG,aU,ak,aD,au,pg,aq,a7,cT,cF,aP,bS,tA,ah,ar,h3]
  cases hz:bz a 0 with
  |false=>
   refine bc (t:=true) (by simp only[ak,ai,ah,cT,cF,ej]) (aF ?_)
   unfold Om
   simp only[aw,az,aA,ai,aG,aM,ak,au,cT,cF,ej,bS,tA,ah,ar]
   exact bP ⟨rfl,rfl,.inr ⟨rfl,by simp only[ai,ah,cT,cF,pF,hz]⟩⟩
  |true=>
   refine bc (t:=false) (by simp only[ak,ai,ah,cT,cF,dg]) (b7 ?_)
   simp only[dM,aW]
   refine cp ?_
   unfold On
   simp only[aw,az,aA,ai,aG,aU,ak,aH,aD,bm,au,dW,aq,a7,cT,cF,aP,dg,bS,tA,ah,ar,h8,hwr,aW]
   refine(ih (pre++[a]) _ (by rw[hpre];simp) (by simp only[ai,ah,cF, *]) (by simp only[ai,ah,cF, *]) (by simp only[ai,ah,cF, *]) (by simp only[ai,ah,cT,cF,dw,aR,aY])).mono ?_
   simp only[pF,hz,cT]
   exact fun _ _ _ h=>h
theorem anz {sp:FuncId->Option (List aj->Option aj)} (h0:sp 31=none) {v:aj} {l:List Int} (hl:bH 1 zH v l) (hsmall:l.length<small) (s:St):bv (QS sp) 31 [v] s (.int .i64 (pF l)) s:=by
 have hlen:=fun mk s=>hl.len alh alg mk s
 have hcl:=hl.clean
 refine dZ ag0 agZ ag4 ag3 h0 ?_
 unfold Oe
 refine aF ?_
 unfold Og
 simp only[dr,cZ,aw,az,aA,aM,aH,bm,au,cT,aR,aY,tA,aQ,ar,ck,cd,dT]
 refine aF ?_
 unfold Oh
 simp only[aw,az,aA,aM,aH,bm,au,tA,ar]
 refine aV (aF ?_)
 unfold Oi
 simp only[aw,az,aA,ai,aG,cG,ak,aH,aD,bh,bk,bm,au,bZ,cW,bG,aq,cT,cF,aP,bW,bS,tA,ah,ar,aX,ace,hcl,hlen]
 refine cR ?_
 refine(anx hl hsmall l [] _ rfl (by simp only[ai,ah,cT,cF, *]) (by simp only[ai,ah,cT,cF, *]) (by simp only[ai,ah,cT,cF, *]) (by simp only[ai,ah,cT,cF];rfl)).mono ?_
 rintro x ⟨e,sz,lc⟩ s' ⟨rfl,hs,⟨rfl,hok,h3⟩|⟨rfl,h2⟩⟩
 ·have hs:sz=18:=hs
  subst hs
  have h3:ay e 3= .int .i64 0:=h3
  show W (QS sp) 31 _ _ _ _
  refine aF ?_
  unfold Oo
  simp only[aw,az,aA,ai,aG,aM,ak,au,cT,bS,tA,ar,h3]
  exact bP ⟨rfl,.inr rfl,bV (by simp only[ai,ah,cT,cF,hok]) rfl⟩
 ·exact⟨rfl,.inr rfl,bV h2 rfl⟩
def qw:Sp
 | [a]=>bif pures [a] then(ic 1 asInt a).bind fun l=>bif cg l.length small then some (.int .i64 (pF l)) else none else none
 |_=>none
theorem Vd:ek Tryz.prog 31 qw:=by
 intro args x hv G h w xs wr hx
 unfold qw at hv
 split at hv
 ·rename_i a
  obtain⟨hp,hv⟩:=cq hv
  simp only[aN] at hv
  obtain⟨l,h1,hv⟩:=hv
  obtain⟨hs,hv⟩:=cq hv
  injection hv with hv;subst hv
  have hl:=jA (fun v a=>XZ) h1
  exact fD (Q:=QT []) (fB .nil) (fun _=>fG 1) (args:=[a]) (v:=.int .i64 (pF l)) (s':=s0) (kZ hp) (by rw[iP hp];exact anz (sp:=fun f=>eR f []) rfl hl (iu hs) s0) rfl ⟨1,rfl⟩ G h w xs wr hx
 ·cases hv
def sf:List (Int×Int)->Int
 | []=>0
 |p::l=>bif bz (m8 p.1 p.2) 0 then sf l else m8 p.1 p.2
theorem aaC {sp:FuncId->Option (List aj->Option aj)} (h122:sp 122=some p9) {v:aj} {l:List (Int×Int)} (hl:bH 2 ib v l) (hsmall:l.length<small) {s:St}: ∀(rest pre:List (Int×Int)) (e:bq) (lc:Ag.Loc),l=pre++rest->
 ay e 6=v->ay e 7= .int .i64 (l.length:Nat)->ay e 8= .int .i64 (pre.length:Nat)->
 W (QS sp) 184 (.loop zQ) ⟨e,21,lc⟩ s fun x fr s'=>s'=s/\fr.size=21/\((x= .exit 0/\sf rest=0)\/(x= .ret/\ay fr.env 2= .int .i64 (sf rest))):=by
 intro rest
 have hcl:=hl.clean
 have hsm:small=9223372036854775808:=rfl
 induction rest with
 |nil=>
  intro pre e lc hpre h6 h7 h8
  have hl':l.length=pre.length:=by rw[hpre];simp
  refine cY ?_
  unfold zQ
  refine aF ?_
  unfold Eh
  simp only[aw,az,aA,aU,ak,aD,au,cE,aq,a7,cT,aP,cN,tA,ar,decide_false,h7,h8,hl',ff]
  refine aV (bc (t:=false) (by simp only[ak,ai,ah,cT, *]) ?_)
  exact eL ⟨rfl,rfl,.inl ⟨rfl,rfl⟩⟩
 |cons a rest ih=>
  intro pre e lc hpre h6 h7 h8
  have hlt:pre.length<l.length:=by rw[hpre];simp
  have hat:l[pre.length]? =some a:=by rw[hpre];simp
  have hia:=fun lc=>hl.at adO hat lc .i64
  have hsp:p9 [.int .i64 a.1,.int .i64 a.2]=some (.int .i64 (m8 a.1 a.2)):=rfl
  have hwr:IntKind.i64.wrap ((pre.length:Int)+1)=((pre.length+1:Nat):Int):=by rw[eh (by omega) (by omega)];omega
  have n0: ∀k,fV (.int k 0)=some 0:=fun _=>rfl
  have n1: ∀k,fV (.int k 1)=some 1:=fun _=>rfl
  refine cY ?_
  unfold zQ
  refine aF ?_
  unfold Eh
  simp only[aw,az,aA,aU,ak,aD,au,cE,aq,a7,cT,aP,cN,tA,ar,dT,h7,h8,hlt]
  refine aV (bc (t:=true) (by simp only[ak,ai,ah,cT, *]) (b7 ?_))
  simp only[aW]
  refine aV (cR (aF ?_))
  unfold Ml
  simp only[aw,az,eD,aA,eE,ai,bU,iW,gY,bn,eN,dI,ak,aD,fv,dR,au,bG,dj,ik,aq,cu,cT,cF,aP,bW,aR,aY,cut,dl,bO,aZ,e7,cy,cP,bS,tA,aQ,ah,ar,bJ,ck,dX,aX,dA,cd,dT,an3,apk,W4,abV,h6,h8,hia,ib]
  refine aF ?_
  unfold Mm
  simp only[aw,az,aA,ai,cJ,bU,aM,bn,dI,dc,da,ak,aH,aD,bh,bk,bm,bT,au,aq,a7,cT,cF,aP,dq,aZ,bE,bS,tA,aQ,ah,ar,jJ,aX,dA,dT,eC,adL,n0,n1,h122,hsp]
  refine aF ?_
  unfold Mn
  simp only[aw,az,aA,ai,aG,aU,ak,aH,aD,bm,au,pg,aq,a7,cT,cF,aP,bS,tA,ah,ar]
  cases hz:bz (m8 a.1 a.2) 0 with
  |false=>
   refine bc (t:=true) (by simp only[ak,ai,ah,cT,cF,ej]) (aF ?_)
   unfold Mo
   simp only[aw,az,aA,ai,aG,aM,ak,au,cT,cF,ej,bS,tA,ah,ar]
   exact bP ⟨rfl,rfl,.inr ⟨rfl,by simp only[ai,ah,cT,cF,sf,hz]⟩⟩
  |true=>
   refine bc (t:=false) (by simp only[ak,ai,ah,cT,cF,dg]) (b7 ?_)
   simp only[dM,aW]
   refine cp ?_
   unfold Mp
   simp only[aw,az,aA,ai,aG,aU,ak,aH,aD,bm,au,dW,aq,a7,cT,cF,aP,dg,bS,tA,ah,ar,h8,hwr,aW]
   refine(ih (pre++[a]) _ _ (by rw[hpre];simp) (by simp only[ai,ah,cF, *]) (by simp only[ai,ah,cF, *]) (by simp only[ai,ah,cT,cF,dw,aR,aY])).mono ?_
   simp only[sf,hz,cT]
   exact fun _ _ _ h=>h
theorem aaD {sp:FuncId->Option (List aj->Option aj)} (h0:sp 184=none) (h122:sp 122=some p9) {v:aj} {l:List (Int×Int)} (hl:bH 2 ib v l) (hsmall:l.length<small) (s:St):bv (QS sp) 184 [v] s (.int .i64 (sf l)) s:=by
 have hlen:=fun mk s=>hl.len alf ale mk s
 have hcl:=hl.clean
 refine dZ afK afJ afM afL h0 ?_
 unfold Mh
 refine aF ?_
 unfold Mi
 simp only[dr,cZ,aw,az,aA,aM,aH,bm,au,cT,aR,aY,tA,aQ,ar,ck,cd,dT]
 refine aV (aF ?_)
 unfold Mj
 simp only[aw,az,aA,ai,aG,cG,ak,aH,aD,bh,bk,bm,au,bZ,cW,bG,aq,cT,cF,aP,bW,bS,tA,ah,ar,aX,abW,hcl,hlen]
 refine cR ?_
 refine(aaC h122 hl hsmall l [] _ _ rfl (by simp only[ai,ah,cT,cF, *]) (by simp only[ai,ah,cT,cF, *]) (by simp only[ai,ah,cT,cF];rfl)).mono ?_
 rintro x ⟨e,sz,lc⟩ s' ⟨rfl,hs,⟨rfl,hok⟩|⟨rfl,h2⟩⟩
 ·have hs:sz=21:=hs
  subst hs
  show W (QS sp) 184 _ _ _ _
  refine aF ?_
  unfold Mq
  simp only[aw,az,aA,aM,aH,bm,au,tA,ar]
  exact bP ⟨rfl,.inr rfl,bV (by simp only[ai,ah,cT,hok]) rfl⟩
 ·exact⟨rfl,.inr rfl,bV h2 rfl⟩
def xM:Sp
 | [a]=>bif pures [a] then(ic 2 un a).bind fun l=>bif cg l.length small then some (.int .i64 (sf l)) else none else none
 |_=>none
def Cv:fh:=[(122,p9)]
theorem XG:fI Cv:=.cons IA .nil
theorem aaB:ek Tryz.prog 184 xM:=by
 intro args x hv G h w xs wr hx
 unfold xM at hv
 split at hv
 ·rename_i a
  obtain⟨hp,hv⟩:=cq hv
  simp only[aN] at hv
  obtain⟨l,h1,hv⟩:=hv
  obtain⟨hs,hv⟩:=cq hv
  injection hv with hv;subst hv
  have hl:=jA (fun v a=>xp) h1
  exact fD (Q:=QT Cv) (fB XG) (fun _=>fG 1) (args:=[a]) (v:=.int .i64 (sf l)) (s':=s0) (kZ hp) (by rw[iP hp];exact aaD (sp:=fun f=>eR f Cv) rfl rfl hl (iu hs) s0) rfl ⟨1,rfl⟩ G h w xs wr hx
 ·cases hv
def oH (a b:Int×Int):Int:=sf [(a.1,b.1),(a.2,b.2)]
theorem Yk {e:bq} {x y:Operand} {a b c d:aj} (hx:ev e x=some (.agg [a,b])) (hy:ev e y=some (.agg [c,d])) (s:St):ey Tryz.prog 349 2 [(0,x),(1,y)] false e s=some (.list 2 [.agg [a,b],.agg [c,d]] .full,s):=by
 simp only[ey,Zp,aq,ee,evc,hx,hy,n7,cT,gU,ld,aR,aY,dl,lk,aQ,bJ,jJ,iL,cut]
 rfl
theorem anO {sp:FuncId->Option (List aj->Option aj)} (h0:sp 119=none) (h184:sp 184=some xM) (a b:Int×Int) (s:St):bv (QS sp) 119 [ib a,ib b] s (.int .i64 (oH a b)) s:=by
 have hbs: ∀e s,ay e 9= .agg [.int .i64 a.1,.int .i64 b.1]->ay e 14= .agg [.int .i64 a.2,.int .i64 b.2]->ey Tryz.prog 349 2 [(0,.tmp 9),(1,.tmp 14)] false e s=some (.list 2 [.agg [.int .i64 a.1,.int .i64 b.1],.agg [.int .i64 a.2,.int .i64 b.2]] .full,s):=fun e s p q=>Yk (by rw[ak,p]) (by rw[ak,q]) s
 have hsp:xM [.list 2 [.agg [.int .i64 a.1,.int .i64 b.1],.agg [.int .i64 a.2,.int .i64 b.2]] .full]=some (.int .i64 (oH a b)):=rfl
 refine dZ aeL aeK aeN aeM h0 ?_
 unfold KG
 refine aF ?_
 unfold KH
 simp only[dr,cZ,aw,az,aA,ai,dp,cJ,aM,iA,ak,aH,aD,bm,fv,au,bG,dj,aq,cu,cT,cF,bW,aR,aY,bS,tA,aQ,ah,ar,bJ,ck,cd,dT,abx,aby,ib]
 refine aF ?_
 unfold KI
 simp only[aw,az,aA,ai,dp,cJ,bU,aM,lK,lL,bn,bN,dc,da,ak,aD,bh,bk,bT,au,bZ,bG,dj,xu,aq,a7,jD,cT,cF,aP,bW,dq,aR,aY,dl,bO,aZ,bE,gZ,cy,cP,bS,tA,aQ,cQ,ah,ar,bJ,jJ,ck,aX,cd,dT,X7,eC,W4,rZ,xJ,abw,ee,hbs,h184,hsp]
 exact bP ⟨rfl,.inr rfl,bV (by simp only[ai,ah,cT,cF, *]) rfl⟩
def rf:Sp
 | [a,b]=>(un a).bind fun p=>(un b).bind fun q=>some (.int .i64 (oH p q))
 |_=>none
def Cs:fh:=[(184,xM)]
theorem XD:fI Cs:=.cons aaB .nil
theorem Vm:ek Tryz.prog 119 rf:=by
 intro args x hv G h w xs wr hx
 unfold rf at hv
 split at hv
 ·simp only[aN,bp] at hv
  obtain⟨p,h1,q,h2,rfl⟩:=hv
  have h1:=xp h1
  have h2:=xp h2
  subst h1;subst h2
  exact fD (Q:=QT Cs) (fB XD) (fun _=>fG 1) (args:=[ib p,ib q]) (v:=.int .i64 (oH p q)) (s':=s0) rfl (anO (sp:=fun f=>eR f Cs) rfl rfl p q s0) rfl ⟨1,rfl⟩ G h w xs wr hx
 ·cases hv
end Go.Proofs.YtbfmdojdemckbaaGreat
namespace Go.Proofs.YtbfmdojdemckbaaGreat
open Go.Ag
open Go.Sort (putRow grow Holds SWO HoldsK putRowK flatK get_flatK size_flatK)
theorem Y2 {sp:FuncId->Option (List aj->Option aj)} (h0:sp 53=none) (h83:sp 83=some nP) (a b:aB) (s:St):bv (QS sp) 53 [.str a,.str b] s (.int .i64 (eM a b)) s:=by
 have hsp:nP [.str a,.str b]=some (.int .i64 (eM a b)):=rfl
 refine dZ aiC aiB aiE aiD h0 ?_
 unfold P9
 refine aF ?_
 unfold Qa
 simp only[dr,cZ,aw,az,aA,aM,aH,bm,au,cT,aR,aY,tA,aQ,ar,bJ,ck,cd,dT]
 refine aF ?_
 unfold Qb
 simp only[aw,az,aA,ai,aG,aM,dc,da,ak,aD,bh,bk,au,aq,cw,cT,cF,dq,bS,tA,ah,ar,h83,hsp]
 exact bP ⟨rfl,.inr rfl,bV (by simp only[ai,ah,cT,cF, *]) rfl⟩
theorem Y1 {sp:FuncId->Option (List aj->Option aj)} (h32:sp 32=none) (h0:sp 53=none) (h83:sp 83=some nP) (a b:aB) (s:St):bv (QS sp) 32 [.str a,.str b] s (.int .i64 (eM a b)) s:=by
 refine dZ ag6 ag5 ag8 ag7 h32 ?_
 unfold Oq
 refine aF ?_
 unfold Ot
 simp only[dr,cZ,aw,az,aA,aM,aH,bm,au,cT,aR,aY,tA,aQ,ar,bJ,ck,cd,dT]
 refine aV (gH (gd 2 ?_))
 unfold Ou
 simp only[aw,az,aA,ai,aG,ak,au,cT,cF,bO,aZ,bS,tA,ah,ar]
 refine gq (g:=53) (args:=[.str a,.str b]) ?_ (Y2 h0 h83 a b s) (by decide) ?_
 ·simp only[callee,ai,ak,fA,aD,bh,bk,aq,cw,cT,cF,cy,cP,bS,ah]
 refine gp ?_
 simp only[aw,az,aA,ai,aM,ak,au,cT,cF,bS,tA,ah,ar,aW]
 exact bP ⟨rfl,.inr rfl,bV (by simp only[ai,ah,cT,cF, *]) rfl⟩
def Cz:fh:=[(83,nP)]
theorem XK:fI Cz:=.cons CU .nil
theorem Y0:ek Tryz.prog 32 nP:=by
 intro args x hv G h w xs wr hx
 unfold nP at hv
 split at hv
 ·rename_i a b
  injection hv with hv;subst hv
  exact fD (Q:=QT Cz) (fB XK) (fun _=>fG 1) (args:=[.str a,.str b]) (v:=.int .i64 (eM a b)) (s':=s0) rfl (Y1 (sp:=fun f=>eR f Cz) rfl rfl rfl a b s0) rfl ⟨1,rfl⟩ G h w xs wr hx
 ·cases hv
theorem anw (x y:Int):pF [x,y]=bif bz x 0 then y else x:=by
 simp only[pF]
 cases h:bz y 0 with
 |true=>
  have:y=0:=by simpa[bz] using h
  subst this
  cases bz x 0<;>rfl
 |false=>cases bz x 0<;>rfl
theorem Yo {e:bq} {x y:Operand} {a b:Int} (hx:ev e x=some (.int .i64 a)) (hy:ev e y=some (.int .i64 b)) (s:St):ey Tryz.prog 55 2 [(0,x),(1,y)] false e s=some (.list 1 [.int .i64 a,.int .i64 b] .full,s):=by
 simp only[ey,IR,aq,ee,evc,hx,hy,n7,cT,gU,ld,aR,aY,dl,lk,aQ,bJ,jJ,iL,cut]
 rfl
theorem YH {sp:FuncId->Option (List aj->Option aj)} (h0:sp 30=none) (h32:sp 32=some nP) (h31:sp 31=some qw) (a b:aB×aB) {s:St} (hm:s.minw<=s.next):bv (QS sp) 30 [dP a,dP b] s (.int .i64 (im a b)) s:=by
 have hs1:nP [.str a.1,.str b.1]=some (.int .i64 (eM a.1 b.1)):=rfl
 have hs2:nP [.str a.2,.str b.2]=some (.int .i64 (eM a.2 b.2)):=rfl
 have hor:qw [.list 1 [.int .i64 (eM a.1 b.1),.int .i64 (eM a.2 b.2)] .full]=some (.int .i64 (im a b)):=by
  have h1:qw [.list 1 [.int .i64 (eM a.1 b.1),.int .i64 (eM a.2 b.2)] .full]=some (.int .i64 (pF [eM a.1 b.1,eM a.2 b.2])):=rfl
  rw[h1,anw];rfl
 have hbs: ∀e s,ay e 9= .int .i64 (eM a.1 b.1)->ay e 14= .int .i64 (eM a.2 b.2)->ey Tryz.prog 55 2 [(0,.tmp 9),(1,.tmp 14)] false e s=some (.list 1 [.int .i64 (eM a.1 b.1),.int .i64 (eM a.2 b.2)] .full,s):=fun e s p q=>Yo (by rw[ak,p]) (by rw[ak,q]) s
 refine dZ agW agV agY agX h0 ?_
 unfold Ob
 refine aF ?_
 unfold Oc
 simp only[dr,cZ,aw,az,aA,ai,dp,cJ,aM,iA,ak,aH,aD,bm,fv,au,bG,dj,aq,cu,cT,cF,bW,aR,aY,bS,tA,aQ,ah,ar,bJ,ck,cd,dT,acb,acd,dP]
 refine ll hm ?_
 unfold Od
 simp only[d8,d7,ec,isStore,ai,dp,cJ,bU,aM,lL,bn,bN,dc,da,ak,aD,bh,bk,bT,au,bZ,bG,aq,cw,jD,cT,cF,aP,bW,dq,aZ,bE,bS,tA,aQ,cQ,ah,ar,aX,dv,Z4,Z6,aca,h32,hs1,hs2,hbs,h31,hor]
 exact bP ⟨rfl,.inr rfl,bV (by simp only[ai,ah,cT,cF, *]) rfl⟩
def zl:aj->Option (aB×aB)
 | .agg [.str a,.str b]=>some (a,b)
 |_=>none
theorem H4 {v:aj} {c:aB×aB} (h:zl v=some c):v=dP c:=by
 unfold zl at h
 split at h
 ·injection h with h;subst h;rfl
 ·cases h
def Io:Sp
 | [p,q]=>(zl p).bind fun a=>(zl q).bind fun b=>some (.int .i64 (im a b))
 |_=>none
def Cy:fh:=[(32,nP),(31,qw)]
theorem XJ:fI Cy:=.cons Y0 (.cons Vd .nil)
theorem YG:ek Tryz.prog 30 Io:=by
 intro args x hv G h w xs wr hx
 unfold Io at hv
 split at hv
 ·simp only[aN,bp] at hv
  obtain⟨a,h1,b,h2,rfl⟩:=hv
  have h1:=H4 h1
  have h2:=H4 h2
  subst h1;subst h2
  exact fD (Q:=QT Cy) (fB XJ) (fun _=>fG 1) (args:=[dP a,dP b]) (v:=.int .i64 (im a b)) (s':=s0) rfl (YH (sp:=fun f=>eR f Cy) rfl rfl rfl a b (bK _)) rfl ⟨1,rfl⟩ G h w xs wr hx
 ·cases hv
theorem CT: ∀a:aB,eM a a=0
 | []=>rfl
 |x::a=>by
  have:cg x.toNat x.toNat=false:=by rw[dA];exact decide_eq_false (ff _)
  simp only[eM,this,cF,CT a]
theorem IB (a b:aB):eM b a= -eM a b:=by
 induction a generalizing b with
 |nil=>cases b<;>rfl
 |cons x a ih=>
  cases b with
  |nil=>rfl
  |cons y b=>
   simp only[eM]
   rcases Nat.lt_trichotomy x.toNat y.toNat with h|h|h
   ·have h1:cg x.toNat y.toNat=true:=fe h
    have h2:cg y.toNat x.toNat=false:=by rw[dA];exact decide_eq_false (by omega)
    rw[h1,h2];rfl
   ·have h1:cg x.toNat y.toNat=false:=by rw[dA];exact decide_eq_false (by omega)
    have h2:cg y.toNat x.toNat=false:=by rw[dA];exact decide_eq_false (by omega)
    rw[h1,h2];exact ih b
   ·have h1:cg x.toNat y.toNat=false:=by rw[dA];exact decide_eq_false (by omega)
    have h2:cg y.toNat x.toNat=true:=fe h
    rw[h1,h2];rfl
theorem zn {a b:aB} (h:eM a b=0):a=b:=by
 induction a generalizing b with
 |nil=>cases b with
  |nil=>rfl
  |cons y b=>simp[eM] at h
 |cons x a ih=>
  cases b with
  |nil=>simp[eM] at h
  |cons y b=>
   simp only[eM] at h
   cases h1:cg x.toNat y.toNat with
   |true=>rw[h1] at h;simp at h
   |false=>
    rw[h1] at h
    cases h2:cg y.toNat x.toNat with
    |true=>rw[h2] at h;simp at h
    |false=>
     rw[h2] at h
     have e:x.toNat=y.toNat:=by
      rw[dA] at h1 h2
      have:=of_decide_eq_false h1
      have:=of_decide_eq_false h2
      omega
     rw[UInt8.toNat_inj.1 e,ih h]
theorem IC {a b c:aB} (h1:eM a b<0) (h2:eM b c<0):eM a c<0:=by
 induction a generalizing b c with
 |nil=>
  cases b with
  |nil=>simp[eM] at h1
  |cons y b=>
   cases c with
   |nil=>simp[eM] at h2
   |cons z c=>simp[eM]
 |cons x a ih=>
  cases b with
  |nil=>simp[eM] at h1
  |cons y b=>
   cases c with
   |nil=>simp[eM] at h2
   |cons z c=>
    simp only[eM,dA] at h1 h2 ⊢
    by_cases p:x.toNat<y.toNat
    ·by_cases q:y.toNat<z.toNat
     ·simp[show x.toNat<z.toNat by omega]
     ·by_cases q2:z.toNat<y.toNat
      ·simp[q,q2] at h2
      ·simp[show x.toNat<z.toNat by omega]
    ·by_cases p2:y.toNat<x.toNat
     ·simp[p,p2] at h1
     ·by_cases q:y.toNat<z.toNat
      ·simp[show x.toNat<z.toNat by omega]
      ·by_cases q2:z.toNat<y.toNat
       ·simp[q,q2] at h2
       ·simp only[p,p2,q,q2,decide_false,cF] at h1 h2
        simp only[show¬x.toNat<z.toNat by omega,show¬z.toNat<x.toNat by omega,decide_false,cF]
        exact ih h1 h2
theorem xC (a b:aB×aB):im a b=if eM a.1 b.1=0 then eM a.2 b.2 else eM a.1 b.1:=by
 unfold im
 by_cases h:eM a.1 b.1=0
 ·have:bz (eM a.1 b.1) 0=true:=by simp[bz,h]
  rw[this,if_pos h];rfl
 ·have:bz (eM a.1 b.1) 0=false:=by simp[bz,h]
  rw[this,if_neg h];rfl
theorem IE (a b:aB×aB):im b a= -im a b:=by
 rw[xC,xC,IB a.1 b.1,IB a.2 b.2]
 by_cases h:eM a.1 b.1=0
 ·rw[if_pos h,if_pos (by omega)]
 ·rw[if_neg h,if_neg (by omega)]
theorem IH {a b:aB×aB} (h:im a b=0):a=b:=by
 rw[xC] at h
 by_cases h1:eM a.1 b.1=0
 ·rw[if_pos h1] at h
  exact Prod.ext (zn h1) (zn h)
 ·rw[if_neg h1] at h;exact absurd h h1
theorem Y4 (a:aB×aB):im a a=0:=by
 rw[xC,if_pos (CT _),CT]
theorem IG {a b c:aB×aB} (h1:im a b<0) (h2:im b c<0):im a c<0:=by
 rw[xC] at h1 h2 ⊢
 by_cases p:eM a.1 b.1=0
 ·rw[if_pos p] at h1
  have e:=zn p
  by_cases q:eM b.1 c.1=0
  ·rw[if_pos q] at h2
   rw[e,if_pos q]
   exact IC h1 h2
  ·rw[if_neg q] at h2
   rw[e,if_neg q];exact h2
 ·rw[if_neg p] at h1
  by_cases q:eM b.1 c.1=0
  ·have e:=zn q
   rw[<-e,if_neg p];exact h1
  ·rw[if_neg q] at h2
   have:=IC h1 h2
   rw[if_neg (by omega)];exact this
theorem u5:SWO (ltOf im) where
 irrefl x:=by simp[ltOf,Y4]
 trans x y z h1 h2:=by
  simp only[ltOf,decide_eq_true_eq] at*
  exact IG h1 h2
 ntrans x y z h1 h2:=by
  simp only[ltOf,decide_eq_false_iff_not] at*
  intro h3
  rcases Int.lt_trichotomy (im x y) 0 with p|p|p
  ·exact h1 p
  ·rw[IH p] at h3;exact h2 h3
  ·have p2:im y x<0:=by rw[IE x y];omega
   exact h2 (IG p2 h3)
theorem WM (x y:aB×aB) (h1:ltOf im x y=false) (h2:ltOf im y x=false):x=y:=by
 simp only[ltOf,decide_eq_false_iff_not] at h1 h2
 rw[IE x y] at h2
 exact IH (by omega)
theorem Us (x y:aB×aB):AW x y=ltOf im x y:=rfl
theorem JU (x:aB×aB): ∀l:List (aB×aB),l.Pairwise (fun a b=>(!ltOf im b a)=true)->(uA x l).Pairwise (fun a b=>(!ltOf im b a)=true)
 | [],_=>by simp[uA]
 |y::l,h=>by
  simp only[uA]
  cases e:AW y x with
  |true=>
   refine List.pairwise_cons.2 ⟨fun z hz=>?_,JU x l (List.pairwise_cons.1 h).2⟩
   rcases List.mem_cons.1 ((DX x l).mem_iff.1 hz) with rfl|hz
   ·rw[Us] at e
    cases hc:ltOf im z y with
    |false=>rfl
    |true=>have:=u5.trans _ _ _ hc e;rw[u5.irrefl] at this;cases this
   ·exact(List.pairwise_cons.1 h).1 z hz
  |false=>
   rw[Us] at e
   refine List.pairwise_cons.2 ⟨fun z hz=>?_,h⟩
   rcases List.mem_cons.1 hz with rfl|hz
   ·rw[e];rfl
   ·have h1:=(List.pairwise_cons.1 h).1 z hz
    simp only[rC] at h1 ⊢
    exact u5.ntrans _ _ _ h1 e
theorem BI: ∀l,(iH l).Pairwise (fun a b=>(!ltOf im b a)=true)
 | []=>.nil
 |x::l=>JU x _ (BI l)
theorem Wb {l r:List (aB×aB)} (h:l.Perm r) (hl:l.Pairwise (fun a b=>(!ltOf im b a)=true)) (hr:r.Pairwise (fun a b=>(!ltOf im b a)=true)):l=r:=by
 refine List.Perm.eq_of_pairwise (le:=fun a b=>(!ltOf im b a)=true) (fun a b _ _ h1 h2=>?_) hl hr h
 simp only[rC] at h1 h2
 exact WM a b h2 h1
theorem ao0 (l:List (aB×aB)):l.mergeSort (fun x y=> !(ltOf im) y x)=iH l:=by
 refine Wb ((List.mergeSort_perm l _).trans (tS l).symm) (List.pairwise_mergeSort (fun a b c h1 h2=>?_) (fun a b=>?_) l) (BI l)
 ·simp only[rC] at*
  exact u5.ntrans _ _ _ h2 h1
 ·cases h:ltOf im b a with
  |false=>rfl
  |true=>
   cases h2:ltOf im a b with
   |false=>rfl
   |true=>have:=u5.trans _ _ _ h h2;rw[u5.irrefl] at this;cases this
theorem Wa {l r:List (aB×aB)} (h:l.Perm r):iH l=iH r:=
 Wb (((tS l).trans h).trans (tS r).symm) (BI l) (BI r)
def oJ (c:aB×aB):List Value:=[.string ⟨⟨c.1⟩⟩,.string ⟨⟨c.2⟩⟩]
def G0:Gh:= {at_:=fun _=>none,ro:=fun _ _=>none,dim:=fun _=>none }
theorem wr0 (w:World):WR G0 .nil w:=
 ⟨fun _ _ h=>(by cases h),fun _ _ _ _ h=>absurd rfl h,fun _ _ _ h=>(by cases h),fun _ _ _ _ _ h=>(by cases h),fun _ _ h=>(by cases h),fun _ _ h=>(by cases h)⟩
theorem aqp {a b:World} (h1:a.heap=b.heap) (h2:a.tape=b.tape) (h3:a.drawn=b.drawn) (h4:a.os=b.os) (h5:a.output=b.output):a=b:=by
 obtain⟨_,_,_,_,_⟩:=a
 obtain⟨_,_,_,_,_⟩:=b
 cases h1;cases h2;cases h3;cases h4;cases h5;rfl
theorem Y5 {α:Type} [Inhabited α] {g:Nat} {sp:Sp} (hsp:ek Tryz.prog g sp) (eg: ∀args w,(callFunc g args).run Tryz.prog w= .ok (.enter g args) w) {enc:α->List Value} {encA:α->aj} (hv: ∀G x,VR G (encA x) (.agg (enc x).toArray)) {cf:α->α->Int} (hcf: ∀x y,sp [encA x,encA y]=some (.int .i64 (cf x y))) (k blk off size:Nat) (w:World):CmpLays Tryz.prog g #[] enc k cf blk off size w:=by
 intro m os dk _ x y
 generalize sortWorldK enc k w blk off m dk os=W
 have hc:=hsp _ _ (hcf x y) G0 .nil W [.agg (enc x).toArray,.agg (enc y).toArray] (wr0 W) (.cons (hv _ x) (.cons (hv _ y) .nil))
 rcases hc with⟨y',w',h1,_⟩|⟨_,h2⟩
 ·rw[eg] at h1;cases h1
 ·refine h2.mono ?_
  rintro e w' ⟨v,rfl,G',_,x1,x2⟩
  cases x2
  refine⟨rfl,w'.drawn-W.drawn,w'.heap.extract W.heap.size w'.heap.size,?_⟩
  have hq:=x1.quiet
  have hsz:=x1.size
  have hheap:w'.heap=W.heap++w'.heap.extract W.heap.size w'.heap.size:=by
   apply Array.ext_getElem?
   intro i
   by_cases hi:i<W.heap.size
   ·rw[Array.getElem?_append_left hi]
    exact x1.keep i hi fun ho=>by
     obtain⟨n,a,h,_⟩:=ho
     exact h rfl
   ·rw[Array.getElem?_append_right (by omega),Array.getElem?_extract]
    by_cases hj:i-W.heap.size<w'.heap.size-W.heap.size
    ·rw[if_pos (by omega),show W.heap.size+(i-W.heap.size)=i by omega]
    ·rw[if_neg (by omega),vh (by omega)]
  have hd:=hq.2.2.2.2.2
  refine aqp hheap hq.2.2.2.2.1 ?_ hq.1 hq.2.1
  show w'.drawn=W.drawn+(w'.drawn-W.drawn)
  omega
theorem Dt: ∀(l:List (aB×aB)) (t:Nat) (v:aj),(cj (l.map dP))[t]? =some v-> ∃h:t / 2<l.length, ∃s:aB,v= .str s/\(oJ l[t / 2])[t % 2]! = .string ⟨⟨s⟩⟩
 | [],t,v,h=>by simp[cj] at h
 |c::l,0,v,h=>by
  have h:some (aj.str c.1)=some v:=h
  injection h with h;subst h
  exact⟨by simp,c.1,rfl,rfl⟩
 |c::l,1,v,h=>by
  have h:some (aj.str c.2)=some v:=h
  injection h with h;subst h
  exact⟨by simp,c.2,rfl,rfl⟩
 |c::l,t+2,v,h=>by
  have h:(cj (l.map dP))[t]? =some v:=h
  obtain⟨h1,s,h2,h3⟩:=Dt l t v h
  have e1:(t+2) / 2=t / 2+1:=by omega
  have e2:(t+2) % 2=t % 2:=by omega
  refine⟨by rw[e1,aR];omega,s,h2,?_⟩
  rw[<-h3]
  simp[e1,e2]
theorem ao1:HO 51 wX:=by
 have eg: ∀args w,(callFunc 30 args).run Tryz.prog w= .ok (.enter 30 args) w:=Go.Proofs.enters_of Tryz.func30 (by kernel_rfl) rfl
 intro args G h w xs wr hx
 refine⟨fun hsp=>?_,fun n g cs cs' hsp hl hg=>?_⟩
 ·unfold wX at hsp
  split at hsp
  ·cases hx with
   |cons p q=>
    cases q with
    |cons q r=>
     cases r
     cases p
     cases q with
     |func q1 q2=>
      cases q1
      cases q2
      refine .inr ⟨Go.Proofs.enters_of Tryz.func51 (by kernel_rfl) rfl _ _,(AnyF.slices_SortFunc_none Tryz.sortF51 none 0 (.func (.func 30) #[] #[]) w).mono ?_⟩
      rintro e w' ⟨rfl,rfl⟩
      exact⟨_,rfl,G,wr,.refl,.tup .nil⟩
  ·cases hsp
  ·cases hsp
 ·unfold wX at hsp
  split at hsp
  ·cases hsp
  ·rename_i m len lcap
   simp only[bp,bX] at hsp
   obtain⟨rfl,rfl⟩:=hsp
   obtain⟨hb,hg⟩:=cq hg
   simp only[df] at hb
   have hlen:=iI hb.1
   have hsm:=iu hb.2
   simp only[aN,bp] at hg
   obtain⟨l,h1,rfl⟩:=hg
   have hcs:=H5 h1
   subst hcs
   rw[xN] at hlen
   have hlen:l.length=len:=by omega
   cases hx with
   |cons p q=>
    cases q with
    |cons q r=>
    cases r
    cases q with
    |func q1 q2=>
    cases q1
    cases q2
    obtain⟨a,b,cap,rfl,hat,hspot,hcap,hab,d,hdim,hd⟩:=H3 p
    obtain⟨b',hb',_,C,e,hC,hdimC,hcs⟩:=wr.obj m _ hl
    rw[hat] at hb';injection hb' with hb';subst hb'
    rw[hdimC] at hdim;injection hdim with hdim
    have hsl:(iH l).length=l.length:=(tS l).length_eq
    have hfin: ∀n os, ∃G',WR G' (h.set m (some (.cells (cj ((iH l).map dP))))) (sortWorldK oJ 2 w b.block b.off n (iH l).toArray os)/\dF G h w G' (h.set m (some (.cells (cj ((iH l).map dP))))) (sortWorldK oJ 2 w b.block b.off n (iH l).toArray os) 0 0/\VR G' (.tup []) (.tuple #[]):=fun n os=>by
     refine VM wr hl hat id (flatK oJ 2 (iH l).toArray) n os (fun C' e' hC'=>?_) (fun i v hi=>?_)
     ·rw[hC] at hC';injection hC' with hC';injection hC' with hC' _ _;subst hC'
      rw[size_flatK,vq,hsl,hdim];omega
     ·obtain⟨h1,s,rfl,h3⟩:=Dt (iH l) i v hi
      have hi2:i<(iH l).toArray.size*2:=by rw[vq];omega
      refine⟨by rw[size_flatK];exact hi2,rfl,?_⟩
      show VR G (.str s) ((flatK oJ 2 (iH l).toArray)[i]!)
      rw[get_flatK _ _ _ _ hi2]
      have:(iH l).toArray[i / 2]! =(iH l)[i / 2]:=by simp[h1]
      rw[this,h3];exact .str s
    rcases hab with h0|⟨hab1,hab2⟩
    ·have hl0:l=[]:=rE (by omega)
     subst hl0
     have h0':len=0:=h0
     subst h0'
     refine .inr ⟨Go.Proofs.enters_of Tryz.func51 (by kernel_rfl) rfl _ _,(AnyF.slices_SortFunc_none Tryz.sortF51 (some a) cap (.func (.func 30) #[] #[]) w).mono ?_⟩
     rintro e' w' ⟨rfl,rfl⟩
     obtain⟨G',g1,g2,g3⟩:=hfin 0 #[]
     have hw:sortWorldK oJ 2 w' b.block b.off 0 (iH []).toArray #[]=w':=by
      show grow (putRowK oJ 2 (Go.Sort.ahead w' 0) b.block b.off (iH []).toArray) #[]=w'
      rw[Go.Sort.grow_empty,Go.Sort.ahead_zero]
      exact Go.Sort.putRowK_self oJ 2 w' b.block b.off _ (fun j hj=>by rw[size_flatK] at hj;simp[iH] at hj)
     rw[hw] at g1 g2
     exact⟨_,rfl,G',g1,g2,g3⟩
    ·obtain⟨ab,ao,asp⟩:=a
     simp only at hab1 hab2 hspot
     subst hab1;subst hab2;subst hspot
     have hH:HoldsK oJ 2 w b.block b.off l.toArray:=fun j hj=>by
      have hj':j<l.toArray.size*2:=by rw[size_flatK] at hj;exact hj
      have hj2:j<(cj (l.map dP)).length:=by rw[xN];simpa using hj'
      refine⟨?_,by simp[World.frozen?,hC]⟩
      obtain⟨_,x,hx1,hx2⟩:=hcs j _ (j2 hj2)
      obtain⟨h1,s,h2,h3⟩:=Dt l j _ (j2 hj2)
      rw[h2] at hx2
      cases hx2
      rw[oE hC,hx1]
      show some _=some ((flatK oJ 2 l.toArray)[j]!)
      rw[get_flatK _ _ _ _ hj']
      have e1:l.toArray[j / 2]! =l[j / 2]:=by simp[h1]
      rw[e1,h3]
     have hbl:=wr.below m b hat
     have hO:=AnyQ.slices_SortFunc_total Tryz.sortF51 2 Tryz.isAgg31 Tryz.sizeOf31 oJ (fun _=>rfl) (fun x v hv=>by simp[oJ] at hv;rcases hv with rfl|rfl<;>rfl) im u5 30 #[] b.block b.off cap l.toArray w eg
      (Y5 YG eg (encA:=dP) (fun G x=>.agg rfl (.cons (.str _) (.cons (.str _) .nil))) (fun x y=>rfl) 2 b.block b.off _ w) hH hbl (by rw[vq];omega) WM
     rw[<-hlen]
     refine .inr ⟨Go.Proofs.enters_of Tryz.func51 (by kernel_rfl) rfl _ _,Calls.mono (R:=fun e w'=>e= .returned (.tuple #[])/\ ∃n os,w'=sortWorldK oJ 2 w b.block b.off n (l.mergeSort fun x y=> !(ltOf im) y x).toArray os) (by simp at hO;exact hO) ?_⟩
     rintro e' w' ⟨rfl,n,os,rfl⟩
     rw[ao0]
     obtain⟨G',g1,g2,g3⟩:=hfin n os
     exact⟨_,rfl,G',g1,g2,g3⟩
  ·cases hsp
end Go.Proofs.YtbfmdojdemckbaaGreat
namespace Go.Proofs.YtbfmdojdemckbaaGreat
open Go.Ag
def lB:List aB->List aB->Int
 | [],[]=>0
 | [],_::_=> -1
 |_::_,[]=>1
 |a::x,b::y=>bif bz (qP a b) 0 then lB x y else qP a b
theorem apb {sp:FuncId->Option (List aj->Option aj)} (h188:sp 188=some vK) {v u:aj} {l r:List aB} (hl:bH 1 bB v l) (hr:bH 1 bB u r) (hsmall:l.length<small) {s:St} {lc:Ag.Loc}: ∀(rest rest2 pre pre2:List aB) (e:bq),l=pre++rest->r=pre2++rest2->pre.length=pre2.length->
 ay e 0=v->ay e 1=u->ay e 9=v->ay e 10= .int .i64 (l.length:Nat)->ay e 11= .int .i64 (pre.length:Nat)->
 W (QS sp) 123 (.loop zM) ⟨e,36,lc⟩ s fun x fr s'=>s'=s/\fr.size=36/\((x= .exit 0/\lB rest rest2=(bif decide (l.length<r.length) then-1 else 0)/\ay fr.env 0=v/\ay fr.env 1=u)\/(x= .ret/\ay fr.env 4= .int .i64 (lB rest rest2))):=by
 intro rest
 have hcl:=hl.clean
 have hcr:=hr.clean
 have hlen2:=fun mk s=>hr.len iV jl mk s
 have hsm:small=9223372036854775808:=rfl
 induction rest with
 |nil=>
  intro rest2 pre pre2 e hpre hpre2 hpp h0 h1 h9 h10 h11
  have hl':l.length=pre.length:=by rw[hpre];simp
  have hr':r.length=pre2.length+rest2.length:=by rw[hpre2];simp
  refine cY ?_
  unfold zM
  refine aF ?_
  unfold Ec
  simp only[aw,az,aA,aU,ak,aD,au,cE,aq,a7,cT,aP,cN,tA,ar,decide_false,h10,h11,hl',ff]
  refine aV (bc (t:=false) (by simp only[ak,ai,ah,cT, *]) ?_)
  refine eL ⟨rfl,rfl,.inl ⟨rfl,?_,by simp only[ai,ah,cF, *],by simp only[ai,ah,cF, *]⟩⟩
  cases rest2 with
  |nil=>
   have:decide (pre.length<r.length)=false:=decide_eq_false (by simp at hr';omega)
   rw[this];rfl
  |cons b y=>
   have:decide (pre.length<r.length)=true:=decide_eq_true (by simp at hr';omega)
   rw[this];rfl
 |cons a rest ih=>
  intro rest2 pre pre2 e hpre hpre2 hpp h0 h1 h9 h10 h11
  have hlt:pre.length<l.length:=by rw[hpre];simp
  have hat:l[pre.length]? =some a:=by rw[hpre];simp
  have hr':r.length=pre2.length+rest2.length:=by rw[hpre2];simp
  have hia:=fun lc=>hl.at lF hat lc .i64
  have hwr:IntKind.i64.wrap ((pre.length:Int)+1)=((pre.length+1:Nat):Int):=by rw[eh (by omega) (by omega)];omega
  refine cY ?_
  unfold zM
  refine aF ?_
  unfold Ec
  simp only[aw,az,aA,aU,ak,aD,au,cE,aq,a7,cT,aP,cN,tA,ar,dT,h10,h11,hlt]
  refine aV (bc (t:=true) (by simp only[ak,ai,ah,cT, *]) (b7 ?_))
  simp only[aW]
  refine aV (cR (aF ?_))
  unfold Lf
  simp only[aw,az,aA,ai,aG,aM,bn,dI,ak,dR,au,ji,aq,cT,cF,aP,aZ,bE,bS,tA,ah,ar,dv,h9,h11,hia,bB]
  refine aV (aF ?_)
  unfold Lg
  have hge:gX ((r.length:Nat):Int) ((pre.length:Nat):Int)=decide (r.length<=pre.length):=oN _ _
  simp only[aw,az,aA,ai,aG,aU,cG,ak,aD,bh,bk,au,bZ,j7,cW,bG,aq,a7,cT,cF,aP,bW,bS,tA,ah,ar,aX,h1,hcr,hlen2,hge]
  cases rest2 with
  |nil=>
   have:decide (r.length<=pre.length)=true:=decide_eq_true (by simp at hr';omega)
   refine bc (t:=true) (by simp only[ak,ai,ah,cT,cF,this]) (aF ?_)
   unfold Lh
   simp only[aw,az,aA,aM,aH,bm,au,tA,ar]
   exact bP ⟨rfl,rfl,.inr ⟨rfl,by simp only[ai,ah,cT,cF,lB]⟩⟩
  |cons b y=>
   have hnle:decide (r.length<=pre.length)=false:=decide_eq_false (by simp at hr';omega)
   have hat2:r[pre.length]? =some b:=by rw[hpre2,hpp];simp
   have hib:=fun lc=>hr.at lF hat2 lc .i64
   have hsp:vK [.str a,.str b]=some (.int .i64 (qP a b)):=rfl
   refine bc (t:=false) (by simp only[ak,ai,ah,cT,cF,hnle]) (b7 ?_)
   simp only[aW]
   refine aF ?_
   unfold Li
   simp only[aw,az,aA,ai,aG,aM,bn,dI,ak,dR,au,ji,aq,cT,cF,aP,aZ,bE,bS,tA,ah,ar,dv,h1,hib,bB]
   refine aF ?_
   unfold Lj
   simp only[aw,az,aA,ai,aG,aM,dc,da,ak,aD,bh,bk,au,aq,cw,cT,cF,dq,bS,tA,ah,ar,h188,hsp]
   refine aF ?_
   unfold Lk
   simp only[aw,az,aA,ai,aG,aU,ak,aH,aD,bm,au,pg,aq,a7,cT,cF,aP,bS,tA,ah,ar]
   cases hz:bz (qP a b) 0 with
   |false=>
    refine bc (t:=true) (by simp only[ak,ai,ah,cT,cF,ej]) (aF ?_)
    unfold Ll
    simp only[aw,az,aA,ai,aG,aM,ak,au,cT,cF,ej,bS,tA,ah,ar]
    exact bP ⟨rfl,rfl,.inr ⟨rfl,by simp only[ai,ah,cT,cF,lB,hz]⟩⟩
   |true=>
    refine bc (t:=false) (by simp only[ak,ai,ah,cT,cF,dg]) (b7 ?_)
    simp only[dM,aW]
    refine cp ?_
    unfold La
    simp only[aw,az,aA,ai,aG,aU,ak,aH,aD,bm,au,dW,aq,a7,cT,cF,aP,dg,bS,tA,ah,ar,h11,hwr,aW]
    refine(ih y (pre++[a]) (pre2++[b]) _ (by rw[hpre];simp) (by rw[hpre2];simp) (by simp[hpp]) (by simp only[ai,ah,cF, *]) (by simp only[ai,ah,cF, *]) (by simp only[ai,ah,cF, *]) (by simp only[ai,ah,cF, *]) (by simp only[ai,ah,cT,cF,dw,aR,aY])).mono ?_
    simp only[lB,hz,cT]
    exact fun _ _ _ h=>h
theorem apd {sp:FuncId->Option (List aj->Option aj)} (h0:sp 123=none) (h188:sp 188=some vK) {v u:aj} {l r:List aB} (hl:bH 1 bB v l) (hr:bH 1 bB u r) (hsmall:l.length<small) (s:St):bv (QS sp) 123 [v,u] s (.int .i64 (lB l r)) s:=by
 have hlen:=fun mk s=>hl.len iV jl mk s
 have hlen2:=fun mk s=>hr.len iV jl mk s
 have hcl:=hl.clean
 have hcr:=hr.clean
 refine dZ ae5 ae4 ae7 ae6 h0 ?_
 unfold K7
 refine aF ?_
 unfold K8
 simp only[dr,cZ,aw,az,aA,aM,aH,bm,au,cT,aR,aY,tA,aQ,ar,bJ,ck,cd,dT]
 refine aV (aF ?_)
 unfold K9
 simp only[aw,az,aA,ai,aG,cG,ak,aH,aD,bh,bk,bm,au,bZ,cW,bG,aq,cT,cF,aP,bW,bS,tA,ah,ar,aX,abA,hcl,hlen]
 refine cR ?_
 refine(apb h188 hl hr hsmall l r [] [] _ rfl rfl rfl (by simp only[ai,ah,cT,cF, *]) (by simp only[ai,ah,cT,cF, *]) (by simp only[ai,ah,cT,cF, *]) (by simp only[ai,ah,cT,cF, *]) (by simp only[ai,ah,cT,cF];rfl)).mono ?_
 rintro x ⟨e,sz,lc⟩ s' ⟨rfl,hs,⟨rfl,hok,e0,e1⟩|⟨rfl,h2⟩⟩
 ·have hs:sz=36:=hs
  subst hs
  have e0:ay e 0=v:=e0
  have e1:ay e 1=u:=e1
  show W (QS sp) 123 _ _ _ _
  refine aV (aF ?_)
  unfold Lb
  simp only[aw,az,aA,ai,aG,aU,cG,ak,aD,bh,bk,au,bZ,cE,cW,bG,aq,a7,cT,cF,aP,bW,cN,bS,tA,ah,ar,aX,abB,abC,e0,e1,hcl,hcr,hlen,hlen2]
  cases hd:decide (l.length<r.length) with
  |true=>
   refine bc (t:=true) (by simp only[ak,ai,ah,cT,cF]) (aF ?_)
   unfold Lc
   simp only[aw,az,aA,aM,aH,bm,au,tA,ar]
   exact bP ⟨rfl,.inr rfl,bV (by simp only[ai,ah,cT,cF,hok,hd]) rfl⟩
  |false=>
   refine bc (t:=false) (by simp only[ak,ai,ah,cT,cF]) (b7 ?_)
   simp only[aW]
   refine aF ?_
   unfold Ld
   simp only[aw,az,aA,aM,aH,bm,au,tA,ar]
   exact bP ⟨rfl,.inr rfl,bV (by simp only[ai,ah,cT,cF,hok,hd]) rfl⟩
 ·exact⟨rfl,.inr rfl,bV h2 rfl⟩
def tT:Sp
 | [a,b]=>bif pures [a,b] then(ic 1 mw a).bind fun l=>(ic 1 mw b).bind fun r=>bif cg l.length small then some (.int .i64 (lB l r)) else none else none
 |_=>none
def Cu:fh:=[(188,vK)]
theorem XF:fI Cu:=.cons YY .nil
theorem apa:ek Tryz.prog 123 tT:=by
 intro args x hv G h w xs wr hx
 unfold tT at hv
 split at hv
 ·rename_i a b
  obtain⟨hp,hv⟩:=cq hv
  simp only[aN] at hv
  obtain⟨l,h1,r,h2,hv⟩:=hv
  obtain⟨hs,hv⟩:=cq hv
  injection hv with hv;subst hv
  have hl:=jA (fun v a=>pd) h1
  have hr:=jA (fun v a=>pd) h2
  exact fD (Q:=QT Cu) (fB XF) (fun _=>fG 1) (args:=[a,b]) (v:=.int .i64 (lB l r)) (s':=s0) (kZ hp) (by rw[iP hp];exact apd (sp:=fun f=>eR f Cu) rfl rfl hl hr (iu hs) s0) rfl ⟨1,rfl⟩ G h w xs wr hx
 ·cases hv
def jH:List cM->List aB
 | []=>[]
 |t::l=>t.1::t.2::jH l
theorem Hp: ∀l:List cM,(jH l).length=2*l.length
 | []=>rfl
 |t::l=>by simp only[jH,aR,Hp l];omega
def sV (s:St) (ov:aj) (acc:List aB):Prop:=(ov= .nils/\acc=[])\/(acc≠ []/\ ∃k,ov= .list 1 (acc.map bB) (.own k)/\s.get [] k=some .tok)
theorem sV.clean {s:St} {ov:aj} {acc:List aB} (h:sV s ov acc):ov.clean=true:=by
 rcases h with⟨rfl,_⟩|⟨_,k,rfl,_⟩<;>rfl
theorem Yl {e:bq} {x y:Operand} {a b:aB} (hx:ev e x=some (.str a)) (hy:ev e y=some (.str b)) (s:St):ey Tryz.prog 37 2 [(0,x),(1,y)] false e s=some (.list 1 [.str a,.str b] .full,s):=by
 simp only[ey,qQ,aq,ee,evc,hx,hy,n7,cT,gU,ld,aR,aY,dl,lk,aQ,bJ,jJ,iL,cut]
 rfl
theorem XY {s:St} {ov:aj} {acc:List aB} (h:sV s ov acc) (hlen:acc.length<900000) (a b:aB):
 ∃ov' s',j6 Tryz.prog [] 37 ov (.list 1 [.str a,.str b] .full) false s=some (ov',s')/\sV s' ov' (acc++[a,b])/\s'.ci=s.ci:=by
 rcases h with⟨rfl,rfl⟩|⟨hne,k,rfl,hk⟩
 ·refine⟨.list 1 [.str a,.str b] (.own s.next),s.new .tok,?_,.inr ⟨by simp,s.next,rfl,?_⟩,rfl⟩
  ·have:l7 2 16=true:=uV (by omega) (by omega)
   simp only[j6,qQ,aq,ku,aX,bS,cT,mp,kP,aR,aY,aQ,bJ,this,cF]
  ·rw[dy,bS];rfl
 ·refine⟨.list 1 ((acc++[a,b]).map bB) (.own s.next),(s.put k none).new .tok,?_,.inr ⟨by simp,s.next,rfl,?_⟩,rfl⟩
  ·have:l7 (acc.length+2) 16=true:=uV (by omega) (by omega)
   simp only[j6,qQ,aq,ku,aX,bS,cT,mp,hk,fw,aR,aY,aQ,bJ,this,fL,List.map_append,fS,sJ,bB]
  ·rw[dy,qs,bS];rfl
theorem aqm {sp:FuncId->Option (List aj->Option aj)} {v:aj} {l:List cM} (hl:bH 2 ep v l) (hsmall:l.length<=400000): ∀(rest pre:List cM) (e:bq) (lc:Ag.Loc) (s:St) (ov:aj),l=pre++rest->sV s ov (jH pre)->
 ay e 3=ov->ay e 6=v->ay e 7= .int .i64 (l.length:Nat)->ay e 8= .int .i64 (pre.length:Nat)->
 W (QS sp) 124 (.loop zN) ⟨e,21,lc⟩ s fun x fr s'=>x= .exit 0/\fr.size=21/\s'.ci=s.ci/\ ∃ov',sV s' ov' (jH l)/\ay fr.env 3=ov':=by
 have wapp: ∀(p q:List cM),jH (p++q)=jH p++jH q:=by
  intro p q
  induction p with
  |nil=>rfl
  |cons t p ih=>simp only[cP,jH,ih]
 intro rest
 have hcl:=hl.clean
 induction rest with
 |nil=>
  intro pre e lc s ov hpre hO h3 h6 h7 h8
  have hl':l.length=pre.length:=by rw[hpre];simp
  have hpp:pre=l:=by rw[hpre];simp
  refine cY ?_
  unfold zN
  refine aF ?_
  unfold Ed
  simp only[aw,az,aA,aU,ak,aD,au,cE,aq,a7,cT,aP,cN,tA,ar,decide_false,h7,h8,hl',ff]
  refine aV (bc (t:=false) (by simp only[ak,ai,ah,cT, *]) ?_)
  exact eL ⟨rfl,rfl,rfl,ov,by rw[<-hpp];exact hO,by simp only[ai,ah,cF, *]⟩
 |cons t rest ih=>
  intro pre e lc s ov hpre hO h3 h6 h7 h8
  have hlt:pre.length<l.length:=by rw[hpre];simp
  have hat:l[pre.length]? =some t:=by rw[hpre];simp
  have hia:=fun lc=>hl.at tt hat lc .i64
  have hwr:IntKind.i64.wrap ((pre.length:Int)+1)=((pre.length+1:Nat):Int):=by rw[eh (by omega) (by omega)];omega
  obtain⟨ov',s',happ,hO',hci⟩:=XY hO (by rw[Hp];omega) t.1 t.2
  have hoc:=hO.clean
  have hoc':=hO'.clean
  have hbs: ∀e s,ay e 14= .str t.1->ay e 16= .str t.2->ey Tryz.prog 37 2 [(0,.tmp 14),(1,.tmp 16)] false e s=some (.list 1 [.str t.1,.str t.2] .full,s):=fun e s p q=>Yl (by rw[ak,p]) (by rw[ak,q]) s
  refine cY ?_
  unfold zN
  refine aF ?_
  unfold Ed
  simp only[aw,az,aA,aU,ak,aD,au,cE,aq,a7,cT,aP,cN,tA,ar,dT,h7,h8,hlt]
  refine aV (bc (t:=true) (by simp only[ak,ai,ah,cT, *]) (b7 ?_))
  simp only[aW]
  refine aV (cR (aF ?_))
  unfold Lr
  simp only[aw,az,eD,aA,eE,ai,bU,iW,gY,bn,eN,dI,ak,aD,fv,dR,au,bG,dj,ik,aq,cu,cT,cF,aP,bW,aR,aY,cut,dl,bO,aZ,e7,cy,cP,bS,tA,aQ,ah,ar,bJ,ck,dX,aX,dA,cd,dT,Br,Hb,BZ,abF,h6,h8,hia,ep]
  refine cp ?_
  unfold Ls
  simp only[aw,az,aA,ai,cJ,bU,aG,aM,lL,bn,bN,cG,ak,aD,bh,bk,bT,au,bZ,ph,bG,aq,jD,cT,cF,aP,bW,aZ,bE,bS,tA,aQ,cQ,ah,ar,aX,dv,pq,vZ,wh,abD,abE,h3,hoc,hbs,happ,dM,aW]
  refine cp ?_
  unfold Lu
  simp only[aw,az,aA,ai,aG,aU,ak,aH,aD,bm,au,dW,aq,a7,cT,cF,aP,bS,tA,ah,ar,h8,hwr,aW]
  refine(ih (pre++[t]) _ _ s' ov' (by rw[hpre];simp) (by rw[wapp];exact hO') (by simp only[ai,ah,cT,cF, *]) (by simp only[ai,ah,cF, *]) (by simp only[ai,ah,cF, *]) (by simp only[ai,ah,cT,cF,dw,aR,aY])).mono ?_
  rintro x fr s'' ⟨h1,h2,h4,h5⟩
  exact⟨h1,h2,h4.trans hci,h5⟩
theorem aqn {sp:FuncId->Option (List aj->Option aj)} (h0:sp 124=none) {v:aj} {l:List cM} (hl:bH 2 ep v l) (hsmall:l.length<=400000) (s:St): ∃ov s',bv (QS sp) 124 [v] s ov s'/\(sV s' ov (jH l)/\s'.ci=s.ci):=by
 have hlen:=fun mk s=>hl.len qW qV mk s
 have hcl:=hl.clean
 refine bv.ofEx ae9 ae8 afb afa h0 ?_
 unfold Lm
 refine aF ?_
 unfold Ln
 simp only[dr,cZ,aw,az,aA,aM,aH,au,cT,aR,aY,tA,aQ,ar,ck,cd,dT,ofValue,gD]
 refine aF ?_
 unfold Lp
 simp only[aw,az,aA,aM,aH,au,tA,ar,ofValue,gD]
 refine aV (aF ?_)
 unfold Lq
 simp only[aw,az,aA,ai,aG,cG,ak,aH,aD,bh,bk,bm,au,bZ,cW,bG,aq,cT,cF,aP,bW,bS,tA,ah,ar,aX,abG,hcl,hlen]
 refine cR ?_
 refine(aqm hl hsmall l [] _ _ s .nils rfl (.inl ⟨rfl,rfl⟩) (by simp only[ai,ah,cT,cF, *]) (by simp only[ai,ah,cT,cF, *]) (by simp only[ai,ah,cT,cF, *]) (by simp only[ai,ah,cT,cF];rfl)).mono ?_
 rintro x ⟨e,sz,lc⟩ s' ⟨rfl,hs,hci,ov',hO,h3⟩
 have hs:sz=21:=hs
 subst hs
 have h3:ay e 3=ov':=h3
 show W (QS sp) 124 _ _ _ _
 refine aF ?_
 unfold Lv
 simp only[aw,az,aA,ai,aG,aM,ak,au,cT,bS,tA,ar,h3]
 exact bP ⟨.inr rfl,ov',bV (by simp only[ai,ah,cT,cF, *]) hO.clean,hO,hci⟩
def tX:Sp
 | [a]=>bif pures [a] then(ic 2 oC a).bind fun l=>bif cK l.length 400000 then some (yf ((jH l).map bB)) else none else none
 |_=>none
theorem aaZ {s:St} {ov:aj} {acc:List aB} (h:sV s ov acc):j5 s.heap ov (yf (acc.map bB)):=by
 rcases h with⟨rfl,rfl⟩|⟨hne,k,rfl,_⟩
 ·exact⟨1,rfl⟩
 ·refine⟨2,?_⟩
  show(eU (dt s.heap 1) (acc.map bB)).bind (fun ys=>some (aj.list 1 ys .no))=_
  rw[we fun v hv=>?_]
  ·cases acc with
   |nil=>exact absurd rfl hne
   |cons a l=>rfl
  ·obtain⟨o,_,rfl⟩:=List.mem_map.1 hv
   rfl
theorem aql:ek Tryz.prog 124 tX:=by
 intro args x hv G h w xs wr hx
 unfold tX at hv
 split at hv
 ·rename_i a
  obtain⟨hp,hv⟩:=cq hv
  simp only[aN] at hv
  obtain⟨l,h1,hv⟩:=hv
  obtain⟨hs,hv⟩:=cq hv
  injection hv with hv;subst hv
  have hl:=jA (fun v a=>rQ) h1
  obtain⟨ov,s',hr,hO,hci⟩:=aqn (sp:=fun f=>eR f []) rfl hl (iu hs) s0
  exact fD (Q:=QT []) (fB .nil) (fun _=>fG 1) (args:=[a]) (kZ hp) (by rw[iP hp];exact hr) hci (aaZ hO) G h w xs wr hx
 ·cases hv
noncomputable def QM (sp:FuncId->Option (List aj->Option aj)) (ch:Nat->Nat):cI:= {P:=Tryz.prog,hint:=bL,spec:=sp,ch:=ch,kmax:=fun _=>1000000,specW:=fun f=>bif bo f 48 then some wY else bif bo f 51 then some wX else none }
theorem bQ (sp:FuncId->Option (List aj->Option aj)) (ch:Nat->Nat):(QM sp ch).P=Tryz.prog:=rfl
theorem hG (sp:FuncId->Option (List aj->Option aj)) (ch:Nat->Nat):(QM sp ch).hint=bL:=rfl
theorem rK (sp:FuncId->Option (List aj->Option aj)) (ch:Nat->Nat):(QM sp ch).spec=sp:=rfl
noncomputable def UI (s:St):aj->Option (aj×St)
 | .int _ _=>some (.map s.next,s.new (.map [] 0))
 |_=>none
theorem amk (s:St) (k:IntKind) (n:Int):UI s (.int k n)=some (.map s.next,s.new (.map [] 0)):=rfl
theorem amm (e:bq) (x:Operand) (s:St):nl Tryz.prog 61 e (some x) s=(ev e x).bind (UI s):=by
 have h:Tryz.prog.underlying 61=some (.map 9 67):=by kernel_rfl
 simp only[nl,h,aq]
 rfl
def mS:Obj:=⟨[],0,0,0,.nils,.nils,[],[]⟩
def oA:List (aB×aj)->Nat->List Obj->List (aB×aj)
 |L,_,[]=>L
 |L,p,o::r=>oA (fk o.id (.ptr p 0) L) (p+1) r
noncomputable def uL (s:St) (o:Obj) (m:Nat) (L:List (aB×aj)):St:=
 ((s.new (.cells mS.cells)).put s.next (some (.cells o.cells))).put m (some (.map (c8 0 (fk o.id (.ptr s.next 0) L)) (fk o.id (.ptr s.next 0) L).length))
structure Cd (s s':St) (m k:Nat) (rest:List Obj) (L:List (aB×aj)):Prop where
 next:s'.next=k+rest.length
 ci:s'.ci=s.ci
 minw:s'.minw=s.minw
 old: ∀n,n<k->n≠m->s'.get [] n=s.get [] n
 map:s'.get [] m=some (.map (c8 0 L) L.length)
 obj: ∀(i:Nat) (o:Obj),rest[i]? =some o->s'.get [] (k+i)=some (.cells o.cells)
section
variable {sp:FuncId->Option (List aj->Option aj)} {ch:Nat->Nat}
theorem amM {v:aj} {l:List Obj} (hl:bH 6 Obj.val v l) (hsmall:l.length<small) {m:Nat}: ∀(rest pre:List Obj) (e:bq) (lc:Ag.Loc) (s:St) (L:List (aB×aj)),l=pre++rest->m<s.next->s.minw<=m->
 s.get [] m=some (.map (c8 0 L) L.length)->ay e 3= .map m->ay e 11=v->ay e 12= .int .i64 (l.length:Nat)->ay e 13= .int .i64 (pre.length:Nat)->
 W (QM sp ch) 23 (.loop wl) ⟨e,22,lc⟩ s fun x fr s'=>x= .exit 0/\fr.size=22/\ay fr.env 3= .map m/\Cd s s' m s.next rest (oA L s.next rest):=by
 intro rest
 have hcl:=hl.clean
 have hsm:small=9223372036854775808:=rfl
 induction rest with
 |nil=>
  intro pre e lc s L hpre hm hmw hs h3 h11 h12 h13
  have hl:l.length=pre.length:=by rw[hpre];simp
  refine cY ?_
  unfold wl
  refine aF ?_
  unfold Eo
  simp only[aw,az,aA,aU,ak,aD,au,cE,aq,a7,cT,bQ,cN,tA,ar,decide_false,h12,h13,hl,ff]
  refine aV (bc (t:=false) (by simp only[ak,ai,ah,cT, *]) ?_)
  refine eL ⟨rfl,rfl,?_,rfl,rfl,rfl,fun _ _ _=>rfl,hs,fun i o h=>by simp at h⟩
  simp only[ai,ah,cF, *]
 |cons o rest ih=>
  intro pre e lc s L hpre hm hmw hs h3 h11 h12 h13
  have hlt:pre.length<l.length:=by rw[hpre];simp
  have hat:l[pre.length]? =some o:=by rw[hpre];simp
  have hia:=fun lc=>hl.at qg hat lc .i64
  have hwr:IntKind.i64.wrap ((pre.length:Int)+1)=((pre.length+1:Nat):Int):=by rw[eh (by omega) (by omega)];omega
  have hne:(m==s.next)=false:=beq_eq_false_iff_ne.2 (by omega)
  have hs1:((s.new (.cells mS.cells)).put s.next (some (.cells o.cells))).get [] m=some (.map (c8 0 L) L.length):=by
   rw[cX,dy,hne];exact hs
  have hup:=w5 qR A5 hs1 o.id (.ptr s.next 0)
  simp only[Obj.cells,mS] at hup
  have hS:W (QM sp ch) 23 (.loop wl) ⟨e,22,lc⟩ s=W (QM sp ch) 23 (.loop wl) ⟨e,22,lc⟩ s:=rfl
  refine cY ?_
  unfold wl
  refine aF ?_
  unfold Eo
  simp only[aw,az,aA,aU,ak,aD,au,cE,aq,a7,cT,bQ,cN,tA,ar,dT,h12,h13,hlt]
  refine aV (bc (t:=true) (by simp only[ak,ai,ah,cT, *]) (b7 ?_))
  simp only[aW]
  refine aV (cR (aF ?_))
  unfold Nx
  simp only[aw,az,eD,aA,eE,ai,gY,bn,eN,dI,ak,aD,i9,dR,au,bG,dj,aq,cu,cT,cF,bQ,hG,aR,aY,cut,dl,bO,aZ,gZ,e7,cy,iQ,bS,tA,aQ,ah,ar,bJ,ck,dX,aX,dA,cd,dT,kT,rm,rA,ab5,h11,h13,hia,Obj.val,Obj.cells,kW,kV,dy]
  refine cp ?_
  unfold Ny
  simp only[aw,az,eD,aA,eE,ai,aG,bn,bN,tI,ak,aD,au,tM,aq,cw,ez,gr,cT,cF,bQ,aZ,bE,bS,tA,cQ,ah,ar,dv,r0,h3,dH,dG,cX,hup,dM,aW]
  refine cp ?_
  unfold Nz
  simp only[aw,az,aA,ai,aG,aU,ak,aH,aD,bm,au,dW,aq,a7,cT,cF,bQ,bS,tA,ah,ar,h13,hwr,aW]
  have hst:((s.new (.cells mS.cells)).put s.next (some (.cells o.cells))).put m (some (.map (c8 0 (fk o.id (.ptr s.next 0) L)) (fk o.id (.ptr s.next 0) L).length))=uL s o m L:=rfl
  simp only[Obj.cells,mS] at hst
  rw[hst]
  have hn:(uL s o m L).next=s.next+1:=rfl
  have hg: ∀n,(uL s o m L).get [] n=bif n==m then some (.map (c8 0 (fk o.id (.ptr s.next 0) L)) (fk o.id (.ptr s.next 0) L).length) else bif n==s.next then some (.cells o.cells) else s.get [] n:=by
   intro n
   simp only[uL,cX,dy]
   cases n==m<;>cases n==s.next<;>rfl
  have hmin:(uL s o m L).minw=s.minw:=by
   simp only[uL,St.put,St.new]
   have h1:cK s.minw s.next=true:=fe (by omega)
   have h2:cK s.minw m=true:=fe hmw
   simp only[h1,h2,cT]
  refine(ih (pre++[o]) _ _ (uL s o m L) (fk o.id (.ptr s.next 0) L) (by rw[hpre];simp) (by rw[hn];omega) (by rw[hmin];exact hmw) (by rw[hg];simp) (by simp only[ai,ah,cF, *]) (by simp only[ai,ah,cF, *]) (by simp only[ai,ah,cF, *]) (by simp only[ai,ah,cT,cF,dw,aR,aY])).mono ?_
  rintro x fr s' ⟨rfl,h1,h2,a1,a2,a3,a4,a5,a6⟩
  rw[hn] at a1 a4 a5 a6
  refine⟨rfl,h1,h2,by rw[a1,aR];omega,a2,a3.trans hmin,fun n h3 h4=>?_,a5,fun i q hq=>?_⟩
  ·rw[a4 n (by omega) h4,hg,beq_eq_false_iff_ne.2 h4,beq_eq_false_iff_ne.2 (by omega:n≠s.next)];rfl
  ·cases i with
   |zero=>
    simp only[gj,bp] at hq
    subst hq
    rw[cQ,a4 s.next (by omega) (by omega),hg,beq_eq_false_iff_ne.2 (by omega:s.next≠m)]
    simp
   |succ i=>
    rw[show s.next+(i+1)=s.next+1+i by omega]
    exact a6 i q (by simpa using hq)
theorem Gw (h23:sp 23=none) {v:aj} {l:List Obj} (hl:bH 6 Obj.val v l) (hsmall:l.length<small) (s:St) (hm:s.minw<=s.next): ∃s',bv (QM sp ch) 23 [.agg [v]] s (.map s.next) s'/\Cd s s' s.next (s.next+1) l (oA [] (s.next+1) l):=by
 have hlen:=fun mk s=>hl.len qm ql mk s
 have hcl:=hl.clean
 have key: ∃u s',bv (QM sp ch) 23 [.agg [v]] s u s'/\(u= .map s.next/\Cd s s' s.next (s.next+1) l (oA [] (s.next+1) l)):=by
  refine bv.ofEx ags agr agu agt h23 ?_
  unfold Nk
  refine aF ?_
  unfold Nu
  simp only[dr,cZ,aw,az,aA,ai,dp,aM,iA,ak,aH,aD,fv,au,bG,dj,aq,cu,cT,hG,aR,aY,bS,tA,aQ,ar,ck,cd,dT,ab3,ofValue,gD]
  refine aF ?_
  unfold Nv
  simp only[aw,az,aA,ai,dp,cJ,bU,aM,bn,bN,uM,cG,ak,aD,bh,bk,bT,au,bZ,cW,bG,aq,cT,cF,bQ,hG,aZ,bE,bS,tA,cQ,ah,ar,aX,iG,iz,ab6,hcl,hlen,amm,amk]
  refine aV (aF ?_)
  unfold Nw
  simp only[aw,az,aA,ai,dp,cJ,bU,aG,bn,bN,cG,ak,aH,aD,bh,bk,bm,bT,au,bZ,cW,bG,aq,cT,cF,bQ,hG,aZ,bE,bS,tA,cQ,ah,ar,aX,iG,iz,ab4,hcl,hlen]
  refine cR ?_
  refine(amM hl hsmall (m:=s.next) l [] _ _ (s.new (.map [] 0)) [] rfl (by show s.next<s.next+1;omega) hm ?_ (by simp only[ai,ah,cT,cF, *]) (by simp only[ai,ah,cT,cF, *]) (by simp only[ai,ah,cT,cF, *]) (by simp only[ai,ah,cT,cF];rfl)).mono ?_
  ·rw[dy,bS];rfl
  rintro x ⟨e,sz,lc⟩ s' ⟨rfl,hs,h3,a1,a2,a3,a4,a5,a6⟩
  have hs:sz=22:=hs
  subst hs
  have h3:ay e 3= .map s.next:=h3
  show W (QM sp ch) 23 _ _ _ _
  refine aF ?_
  unfold NA
  simp only[aw,az,aA,ai,aG,aM,ak,au,cT,bS,tA,ar,h3]
  refine bP ⟨.inr rfl,.map s.next,bV ?_ rfl,rfl,a1,a2,a3,fun n h4 h5=>?_,a5,a6⟩
  ·simp only[ai,ah,cT,cF, *]
  ·rw[a4 n h4 h5,dy,beq_eq_false_iff_ne.2 h5];rfl
 obtain⟨u,s',h1,rfl,h2⟩:=key
 exact⟨s',h1,h2⟩
end
inductive PV (s:St):aj->Option Obj->Prop
 |nil:PV s .nilp none
 |at_ {p:Nat} {o:Obj}:s.get [] p=some (.cells o.cells)->o.Good->PV s (.ptr p 0) (some o)
def dz:Option Obj->Option Obj->Bool
 |none,none=>true
 |some o,some q=>np o q
 |_,_=>false
theorem wK:gf Tryz.prog .eql 67 .nilp .nilp=some (.bool true):=by kernel_rfl
theorem wL (n o:Nat):gf Tryz.prog .eql 67 (.ptr n o) .nilp=some (.bool false):=by kernel_rfl
theorem anJ (n o:Nat):gf Tryz.prog .eql 67 .nilp (.ptr n o)=some (.bool false):=by kernel_rfl
theorem uO:gf Tryz.prog .neq 67 .nilp .nilp=some (.bool false):=by kernel_rfl
theorem sD (n o:Nat):gf Tryz.prog .neq 67 (.ptr n o) .nilp=some (.bool true):=by kernel_rfl
theorem ja:ofValue (.pointer none)=some .nilp:=rfl
theorem jj:(aj.nilp).clean=true:=rfl
theorem gg (lc:Ag.Loc) (n o:Nat):tF lc (.ptr n o)=some (.ptr n o):=rfl
theorem tn (s:St) (mk:bt) (n:Nat):s.top.get mk n=s.get mk n:=rfl
section
variable {sp:FuncId->Option (List aj->Option aj)} {ch:Nat->Nat}
theorem GV (h43:sp 43=none) (h16:sp 16=some rb) {s:St} (hm:s.minw<=s.next) {a b:aj} {p q:Option Obj} (ha:PV s a p) (hb:PV s b q):bv (QM sp ch) 43 [a,b] s (.bool (dz p q)) s:=by
 refine dZ ahX ahW ahZ ahY h43 ?_
 unfold Pz
 refine aF ?_
 unfold PA
 simp only[dr,cZ,aw,az,aA,aM,aH,bF,au,cT,aR,aY,tA,aQ,ar,bJ,ck,cd,dT]
 refine aV (aF ?_)
 unfold PB
 cases ha with
 |nil=>
  cases hb with
  |nil=>
   simp only[aw,az,de,aA,eH,ip,ai,aG,cz,aU,ak,aH,aD,bF,cD,dB,au,aq,cT,cF,bQ,bS,tA,ah,ar,ja,jj,wK]
   refine bc (t:=true) (by simp only[ak,ai,ah,cT,cF, *]) (aF ?_)
   unfold Ab
   simp only[aw,az,aA,ai,aG,aM,aU,ak,aD,au,aq,cT,cF,bQ,bS,tA,ah,ar,jj,wK]
   exact bP ⟨rfl,.inr rfl,bV (by simp only[ai,ah,cT,cF,dz]) rfl⟩
  |at_ h1 h2=>
   simp only[aw,az,de,aA,eH,ip,ai,aG,cz,aU,ak,aH,aD,bF,cD,dB,au,aq,cT,cF,bQ,bS,tA,ah,ar,ja,jj,wK]
   refine bc (t:=true) (by simp only[ak,ai,ah,cT,cF, *]) (aF ?_)
   unfold Ab
   simp only[aw,az,aA,ai,aG,aM,aU,ak,aD,au,aq,ez,cT,cF,bQ,bS,tA,ah,ar,jj,anJ]
   exact bP ⟨rfl,.inr rfl,bV (by simp only[ai,ah,cT,cF,dz]) rfl⟩
 |at_ h1 h2=>
  cases hb with
  |nil=>
   simp only[aw,az,de,aA,dQ,eG,ai,aG,cz,aU,ak,aH,aD,bF,cD,du,au,aq,ez,cT,cF,bQ,bS,tA,ah,ar,ja,jj,wK,wL]
   refine bc (t:=true) (by simp only[ak,ai,ah,cT,cF, *]) (aF ?_)
   unfold Ab
   simp only[aw,az,aA,ai,aG,aM,aU,ak,aD,au,aq,ez,cT,cF,bQ,bS,tA,ah,ar,jj,wL]
   exact bP ⟨rfl,.inr rfl,bV (by simp only[ai,ah,cT,cF,dz]) rfl⟩
  |at_ h3 h4=>
   have hos:=Ve h2 h4
   simp only[Obj.val,Obj.cells] at hos
   simp only[Obj.cells] at h1 h3
   simp only[aw,az,de,aA,dQ,eG,ai,aG,cz,aU,ak,aH,aD,bF,cD,du,au,aq,ez,cT,cF,bQ,bS,tA,ah,ar,ja,jj,wL]
   refine bc (t:=false) (by simp only[ak,ai,ah,cT,cF, *]) (b7 ?_)
   simp only[aW]
   refine ll hm ?_
   unfold PC
   simp only[d8,d7,ec,isStore,ai,aG,aM,bn,gh,dc,da,ak,aD,bh,bk,au,aq,cu,cT,cF,bQ,rK,aR,aY,cut,bO,aZ,e7,bS,tA,aQ,ah,ar,bJ,aX,kT,gg,dH,tn,h1,h3,dG,h16,hos]
   exact bP ⟨rfl,.inr rfl,bV (by simp only[ai,ah,cT,cF,dz]) rfl⟩
def at_ (k:aB) (L:List (aB×aj)):aj:=(look k L).getD .nilp
theorem sh {s:St} {m:Nat} {L:List (aB×aj)} {c:Nat} (hs:s.get [] m=some (.map (c8 0 L) c)) (k:aB):lZ Tryz.prog [] 61 (.map m) (.str k) false s=some (at_ k L):=AV qR A5 aqC hs k
theorem PV.clean {s:St} {a:aj} {p:Option Obj} (h:PV s a p):a.clean=true:=by cases h<;>rfl
end
abbrev Cf:=aB×aB
def pk (c:Cf):aj:=.agg [.str c.1,.str c.2]
def fJ (n:Nat):List Cf->List dx
 | []=>[]
 |c::l=>⟨pk c,.bool true,n⟩::fJ (n+1) l
def qO (a b:Cf):Bool:=bif a.1==b.1 then bif a.2==b.2 then true else false else false
theorem zm (a b:Cf):qO a b=true↔a=b:=by
 obtain⟨a1,a2⟩:=a
 obtain⟨b1,b2⟩:=b
 unfold qO
 constructor
 ·intro h
  cases h1:a1==b1 with
  |false=>simp only[h1,cF,rB] at h
  |true=>
   cases h2:a2==b2 with
   |false=>simp only[h1,h2,cT,cF,rB] at h
   |true=>rw[eq_of_beq h1,eq_of_beq h2]
 ·intro h
  cases h
  simp
def nf (k:Cf):List Cf->Bool
 | []=>false
 |c::l=>bif qO k c then true else nf k l
def dU (k:Cf) (l:List Cf):List Cf:=bif nf k l then l else l++[k]
def oU (k:Cf):List Cf->Nat
 | []=>0
 |c::l=>bif qO k c then 0 else oU k l+1
theorem Ga {k:Cf}: ∀ {l:List Cf},nf k l=true↔k∈l
 | []=>by simp[nf]
 |c::l=>by
  simp only[nf,qH]
  cases h:qO k c with
  |true=>simp[(zm k c).1 h]
  |false=>
   have hne:k≠c:=fun e=>by rw[(zm k c).2 e] at h;cases h
   simp[hne,Ga (l:=l)]
theorem qp {k x:Cf} {l:List Cf}:x∈dU k l↔x=k\/x∈l:=by
 unfold dU
 cases h:nf k l with
 |true=>
  have:=Ga.1 h
  simp only[cT]
  exact⟨.inr,fun h'=>h'.elim (fun e=>e▸this) id⟩
 |false=>simp only[cF,List.mem_append,qI];exact⟨Or.symm,Or.symm⟩
theorem uk {k:Cf} {l:List Cf} (h:l.Nodup):(dU k l).Nodup:=by
 unfold dU
 cases hk:nf k l with
 |true=>exact h
 |false=>
  have hn:k ∉ l:=fun hm=>by rw[Ga.2 hm] at hk;cases hk
  refine List.nodup_append.2 ⟨h,by simp,fun a ha b hb e=>?_⟩
  simp only[qI] at hb
  subst hb;subst e;exact hn ha
theorem amn (a b:List UInt8):oO Tryz.prog 63 (.agg [.str a,.str b])=some (31,4):=by kernel_rfl
theorem ZC (a b c d:List UInt8):kL Tryz.prog 8 31 (.agg [.str a,.str b]) (.agg [.str c,.str d])=some (qO (a,b) (c,d)):=by
 have h:kL Tryz.prog 8 31 (.agg [.str a,.str b]) (.agg [.str c,.str d])=(some (a==c)).bind fun r=>bif r then(some (b==d)).bind fun r=>bif r then some true else some false else some false:=by kernel_rfl
 rw[h]
 unfold qO
 cases a==c<;>cases b==d<;>rfl
theorem Jh: ∀(l:List Cf) (k:Cf) (n i:Nat),kN Tryz.prog 31 (pk k) (fJ n l) i=some (bif nf k l then some (i+oU k l,⟨pk k,.bool true,n+oU k l⟩) else none)
 | [],k,n,i=>rfl
 |c::l,k,n,i=>by
  have he:kL Tryz.prog 8 31 (pk k) (pk c)=some (qO k c):=ZC _ _ _ _
  simp only[fJ,kN,he,aq,nf,oU]
  cases h:qO k c with
  |true=>
   have:=(zm k c).1 h
   subst this
   simp
  |false=>
   simp only[cF]
   rw[Jh l k (n+1) (i+1)]
   cases nf k l with
   |false=>rfl
   |true=>
    simp only[cT]
    rw[show i+1+oU k l=i+(oU k l+1) by omega,show n+1+oU k l=n+(oU k l+1) by omega]
theorem IU: ∀(l r:List Cf) (n:Nat),fJ n (l++r)=fJ n l++fJ (n+l.length) r
 | [],r,n=>rfl
 |a::l,r,n=>by simp only[cP,fJ,IU l r (n+1),aR];congr 3;omega
theorem IV {k:Cf}: ∀ {l:List Cf} {n:Nat},nf k l=true->(fJ n l).set (oU k l) ⟨pk k,.bool true,n+oU k l⟩=fJ n l
 | [],_,h=>by cases h
 |c::l,n,h=>by
  simp only[nf] at h
  simp only[oU,fJ]
  cases hc:qO k c with
  |true=>
   have:=(zm k c).1 hc
   subst this
   simp
  |false=>
   rw[hc] at h
   have ih:=IV (l:=l) (n:=n+1) h
   simp only[cF,List.set_cons_succ]
   rw[show n+(oU k l+1)=n+1+oU k l by omega,ih]
theorem apX {s:St} {m:Nat} {l:List Cf} (hs:s.get [] m=some (.map (fJ 0 l) l.length)) (k:Cf):
 mR Tryz.prog [] 63 (.map m) (pk k) (.bool true) s=some (s.put m (some (.map (fJ 0 (dU k l)) (dU k l).length))):=by
 have hk:oO Tryz.prog 63 (pk k)=some (31,4):=amn _ _
 simp only[mR,hk,aq,hs,Jh l k 0 0,dU]
 cases h:nf k l with
 |false=>simp only[cF,dw,aR,aY,IU,aQ];rfl
 |true=>
  have hks:tC (pk k) (pk k)=true:=by simp[pk,tC,ur,wU]
  have:=IV (n:=0) h
  rw[aQ] at this
  simp only[cT,aQ,hks,this]
section
variable {sp:FuncId->Option (List aj->Option aj)} {ch:Nat->Nat}
theorem yp (h45:sp 45=none) {s:St} {x mb mo mt mu md:Nat} {C:List Cf} (hx:s.get [] x=some (.cells [.map mb,.map mo,.map mt,.map mu,.map md])) (hd:s.get [] md=some (.map (fJ 0 C) C.length)) (id what:aB):
 bv (QM sp ch) 45 [.ptr x 0,.str id,.str what] s (jO []) (s.put md (some (.map (fJ 0 (dU (id,what) C)) (dU (id,what) C).length))):=by
 have hup:=apX hd (id,what)
 simp only[pk] at hup
 refine dZ ah6 ah5 ah8 ah7 h45 ?_
 unfold PQ
 refine cp ?_
 unfold PR
 have hbd: ∀e,ay e 10= .str id->ay e 11= .str what->gQ Tryz.prog 31 [(0,.tmp 10),(1,.tmp 11)] e=some (.agg [.str id,.str what]):=fun e p q=>by
  rw[X8]
  simp only[Hw,aq,ee,evc,ev,p,q,cw,cT]
  rfl
 simp only[dr,cZ,aw,az,eD,aA,eE,ai,aG,lK,bn,bN,tI,gh,ak,aH,aD,bF,au,tM,aq,eJ,cu,gr,cT,cF,bQ,aR,aY,aZ,bE,bS,tA,aQ,ah,ar,bJ,ck,cd,dT,GH,I5,gg,dH,hx,dG,hbd,hup]
 exact⟨.inl trivial,[],rfl,rfl⟩
end
theorem Wn {v u:aj} {l r:List aB} (hl:bH 1 bB v l) (hu:bH 1 bB u r) (hv:cx v=true) (hu2:cx u=true) (hs:l.length<small):tT [v,u]=some (.int .i64 (lB l r)):=by
 have q1:cg l.length small=true:=fe hs
 simp only[tT,pures,hv,hu2,fL,cT,ka pf hl,ka pf hu,aq,q1]
theorem WV {v:aj} {l:List cM} (hl:bH 2 ep v l) (hv:cx v=true) (hs:l.length<=400000):tX [v]=some (yf ((jH l).map bB)):=by
 have q1:cK l.length 400000=true:=fe hs
 simp only[tX,pures,hv,fL,cT,ka rR hl,aq,q1]
theorem Ub (l:List aB):cx (yf (l.map bB))=true:=by
 cases l with
 |nil=>rfl
 |cons a l=>
  show(pures ((a::l).map bB)&&true)=true
  rw[yA Wk];rfl
def rS (a b:Obj):Int:=pF [m8 a.kind b.kind,oH (a.x,a.y) (b.x,b.y),lB a.refs b.refs,lB (jH a.tags) (jH b.tags)]
theorem Yn {e:bq} {x y z u:Operand} {a b c d:Int} (hx:ev e x=some (.int .i64 a)) (hy:ev e y=some (.int .i64 b)) (hz:ev e z=some (.int .i64 c)) (hu:ev e u=some (.int .i64 d)) (s:St):ey Tryz.prog 55 4 [(0,x),(1,y),(2,z),(3,u)] false e s=some (.list 1 [.int .i64 a,.int .i64 b,.int .i64 c,.int .i64 d] .full,s):=by
 simp only[ey,IR,aq,ee,evc,hx,hy,hz,hu,n7,cT,gU,ld,aR,aY,dl,lk,aQ,bJ,jJ,iL,cut]
 rfl
section
variable {sp:FuncId->Option (List aj->Option aj)} {ch:Nat->Nat}
theorem Y6 (h77:sp 77=none) (h122:sp 122=some p9) (h119:sp 119=some rf) (h123:sp 123=some tT) (h124:sp 124=some tX) (h31:sp 31=some qw) {s:St} (hm:s.minw<=s.next) {p q:Nat} {a b:Obj} (ha:s.get [] p=some (.cells a.cells)) (hb:s.get [] q=some (.cells b.cells)) (ga:a.Good) (gb:b.Good) (ta:a.tags.length<=400000) (tb:b.tags.length<=400000):
 bv (QM sp ch) 77 [.ptr p 0,.ptr q 0] s (.int .i64 (rS a b)) s:=by
 have ha:s.top.get [] p=some (.cells a.cells):=ha
 have hb:s.top.get [] q=some (.cells b.cells):=hb
 simp only[Obj.cells] at ha hb
 have c1:=ga.refs.clean
 have c2:=gb.refs.clean
 have c3:=ga.tags.clean
 have c4:=gb.tags.clean
 have k1:p9 [.int .i64 a.kind,.int .i64 b.kind]=some (.int .i64 (m8 a.kind b.kind)):=rfl
 have k2:rf [.agg [.int .i64 a.x,.int .i64 a.y],.agg [.int .i64 b.x,.int .i64 b.y]]=some (.int .i64 (oH (a.x,a.y) (b.x,b.y))):=rfl
 have k3:=Wn ga.refs gb.refs ga.pr gb.pr ga.reflen
 have k4:=WV ga.tags ga.pt ta
 have k5:=WV gb.tags gb.pt tb
 have k6:=Wn (AP (jH a.tags)) (AP (jH b.tags)) (Ub _) (Ub _) (by have hsm:small=9223372036854775808:=rfl;rw[Hp];omega)
 have c5:=(AP (jH a.tags)).clean
 have c6:=(AP (jH b.tags)).clean
 have k7:qw [.list 1 [.int .i64 (m8 a.kind b.kind),.int .i64 (oH (a.x,a.y) (b.x,b.y)),.int .i64 (lB a.refs b.refs),.int .i64 (lB (jH a.tags) (jH b.tags))] .full]=some (.int .i64 (rS a b)):=rfl
 have hbs: ∀e s,ay e 13= .int .i64 (m8 a.kind b.kind)->ay e 22= .int .i64 (oH (a.x,a.y) (b.x,b.y))->ay e 31= .int .i64 (lB a.refs b.refs)->ay e 42= .int .i64 (lB (jH a.tags) (jH b.tags))->ey Tryz.prog 55 4 [(0,.tmp 13),(1,.tmp 22),(2,.tmp 31),(3,.tmp 42)] false e s=some (.list 1 [.int .i64 (m8 a.kind b.kind),.int .i64 (oH (a.x,a.y) (b.x,b.y)),.int .i64 (lB a.refs b.refs),.int .i64 (lB (jH a.tags) (jH b.tags))] .full,s):=fun e s p q r t=>Yn (by rw[ak,p]) (by rw[ak,q]) (by rw[ak,r]) (by rw[ak,t]) s
 refine dZ ajS ajR ajU ajT h77 ?_
 unfold Sd
 refine aF ?_
 unfold Se
 simp only[dr,cZ,aw,az,aA,aM,aH,bm,au,cT,aR,aY,tA,aQ,ar,bJ,ck,cd,dT]
 refine ll hm ?_
 unfold Sf
 simp only[d8,d7,ec,isStore,ai,aG,aM,lL,bn,bN,gh,dc,da,ak,aD,bh,bk,au,bZ,bG,aq,a7,cu,jD,cT,cF,bQ,hG,rK,aR,aY,cut,bO,aZ,bE,e7,bS,tA,aQ,ah,ar,bJ,aX,eC,jo,fT,mL,mG,vV,na,uv,adi,gg,dH,ha,hb,dG,c1,c2,c3,c4,c5,c6,h122,k1,h119,k2,h123,k3,h124,k4,k5,k6,hbs,h31,k7]
 exact bP ⟨rfl,.inr rfl,bV (by simp only[ai,ah,cT,cF, *]) rfl⟩
def qk (a b:aj) (p q:Option Obj):aj:=
 match p,q with
 |none,_=>b
 |some _,none=>a
 |some o,some t=>bif di (rS t o) 0 then b else a
theorem Xy {Q:cI} {f:FuncId} {d t:Tmp} {bb:Bool} {x:Operand} {av:Array Operand} {ts:Array TypeId} {l:List cV} {e:bq} {sz:Nat} {lc:Ag.Loc} {s s1:St} {g:FuncId} {args:List aj} {v:aj} {N:Fr->St->Prop} (hw:pM (ay e t) bb=true)
 (hc:callee e ⟨.value x,av,ts⟩=some (g,args)) (hr:bv Q g args s v s1) (hd:d<sz) (hk:WL Q f l ⟨e.set d (some v),sz,lc⟩ s1 N):
 WL Q f (⟨some d,.call ⟨.value x,av,ts⟩,.when t bb⟩::l) ⟨e,sz,lc⟩ s N:=
 WL.call (by rw[u9];exact hw) rfl (fun b=>by simp) hc hr (iO.2 ⟨hd,rfl⟩) hk
theorem T9 (h46:sp 46=none) (h77:sp 77=none) (h122:sp 122=some p9) (h119:sp 119=some rf) (h123:sp 123=some tT) (h124:sp 124=some tX) (h31:sp 31=some qw) {s:St} (hm:s.minw<=s.next) {a b:aj} {p q:Option Obj} (ha:PV s a p) (hb:PV s b q)
 (tp: ∀o,p=some o->o.tags.length<=400000) (tq: ∀o,q=some o->o.tags.length<=400000):bv (QM sp ch) 46 [a,b] s (qk a b p q) s:=by
 have ca:=ha.clean
 have cb:=hb.clean
 refine dZ aia ah9 aic aib h46 ?_
 unfold PS
 refine aF ?_
 unfold PT
 simp only[dr,cZ,aw,az,aA,aM,aH,au,cT,aR,aY,tA,aQ,ar,bJ,ck,cd,dT,ja]
 cases ha with
 |nil=>
  refine aV (aF ?_)
  unfold Ai
  simp only[aw,az,de,aA,eH,ip,pN,ai,aG,cz,aU,ak,aH,aD,bF,cD,dB,au,aq,cT,cF,bQ,bS,tA,ah,ar,ja,jj,wK]
  refine bc (t:=true) (by simp only[ak,ai,ah,cT,cF, *]) (aF ?_)
  unfold EN
  simp only[aw,az,aA,ai,aG,aM,ak,au,cT,cF,bS,tA,ah,ar]
  exact bP ⟨rfl,.inr rfl,bV (by simp only[ai,ah,cT,cF,qk]) cb⟩
 |at_ h1 h2=>
  cases hb with
  |nil=>
   refine aV (aF ?_)
   unfold Ai
   simp only[aw,az,de,aA,dQ,eH,fR,eG,ai,aG,cz,aU,ak,aH,aD,bF,cD,du,au,aq,ez,cT,cF,bQ,bS,tA,ah,ar,ja,jj,wL,uO]
   refine bc (t:=false) (by simp only[ak,ai,ah,cT,cF, *]) (b7 ?_)
   simp only[aW]
   refine aF ?_
   unfold EO
   simp only[aw,az,aA,ai,aG,aM,ak,au,cT,cF,bS,tA,ah,ar]
   exact bP ⟨rfl,.inr rfl,bV (by simp only[ai,ah,cT,cF,qk]) rfl⟩
  |at_ h3 h4=>
   rename_i pa oa pb ob
   have hcmp:=Y6 (ch:=ch) h77 h122 h119 h123 h124 h31 hm h3 h1 h4 h2 (tq _ rfl) (tp _ rfl)
   refine aV (aV (gH (gd 8 ?_)))
   unfold Ai
   simp only[aw,az,de,aA,dQ,eW,eG,ai,aG,aU,ak,aH,aD,au,aq,ez,cT,cF,bQ,bO,aZ,bS,tA,ah,ar,ja,jj,wL,sD]
   refine Xy (g:=77) (args:=[.ptr pb 0,.ptr pa 0]) (by simp only[ai,ah,cT,cF,eW]) ?_ hcmp (by decide) ?_
   ·simp only[callee,ai,ak,fA,aD,bh,bk,aq,ez,cT,cF,cy,cP,bS,ah]
   refine gp ?_
   simp only[aw,az,de,aA,dQ,eW,eG,ai,cz,aU,ak,aH,aD,bF,bm,cD,dB,du,au,cE,aq,a7,cT,cF,bQ,bS,tA,ah,ar,aW]
   cases hl:di (rS ob oa) 0 with
   |true=>
    refine bc (t:=true) (by simp only[ak,ai,ah,cT,cF]) (aF ?_)
    unfold EN
    simp only[aw,az,aA,ai,aG,aM,ak,au,cT,cF,bS,tA,ah,ar]
    exact bP ⟨rfl,.inr rfl,bV (by simp only[ai,ah,cT,cF,qk,hl]) (by simp only[qk,hl,cT];rfl)⟩
   |false=>
    refine bc (t:=false) (by simp only[ak,ai,ah,cT,cF]) (b7 ?_)
    simp only[aW]
    refine aF ?_
    unfold EO
    simp only[aw,az,aA,ai,aG,aM,ak,au,cT,cF,bS,tA,ah,ar]
    exact bP ⟨rfl,.inr rfl,bV (by simp only[ai,ah,cT,cF,qk,hl]) (by simp only[qk,hl,cF];rfl)⟩
end
def qr (a b:Int×Int):Int×Int:=bif di (oH b a) 0 then b else a
theorem Yz {e:bq} {x:Operand} {av:Array Operand} {ts:Array TypeId} (h:ev e x=some (.func (.func 119) [] [])):callee e ⟨.value x,av,ts⟩=(evcs e av.toList).bind fun args=>some (119,args):=by
 simp only[callee,h,aq,cy,iQ]
theorem wO {Q:cI} (hP:Q.P=Tryz.prog) {e:bq} {n g:Nat} {lc:Ag.Loc} {s:St} {t:Tmp} {a b:aj} (h:ay e t= .lref t g 0) (hl:lc.get t g=some [a,b]): ∃vs,gL Q [] ⟨e,n,lc⟩ s [.cell t 36]=some vs/\jO vs= .agg [a,b]:=by
 refine⟨[.agg [a,b]],?_,rfl⟩
 simp only[gL,wP,h,hP,bT,hl,aq,jo,cut,nH,bO,aX,aR,aY,bS,cT,cu,aQ,bJ]
theorem amh {sp:FuncId->Option (List aj->Option aj)} (h118:sp 118=none) (h119:sp 119=some rf) (a b:Int×Int) {s:St} (hm:s.minw<=s.next):bv (QS sp) 118 [.list 2 [ib a,ib b] .full,.func (.func 119) [] []] s (ib (qr a b)) s:=by
 have hsp:rf [.agg [.int .i64 b.1,.int .i64 b.2],.agg [.int .i64 a.1,.int .i64 a.2]]=some (.int .i64 (oH b a)):=rfl
 have w2:IntKind.i64.wrap (1+1)=2:=rfl
 have t1:di ((2:Nat):Int) 1=false:=rfl
 have t2:di 1 ((2:Nat):Int)=true:=rfl
 have t3:di 2 ((2:Nat):Int)=false:=rfl
 have n0: ∀k,fV (.int k 0)=some 0:=fun _=>rfl
 have n1: ∀k,fV (.int k 1)=some 1:=fun _=>rfl
 have a0: ∀x y:aj,iX [x,y] 0=x:=fun _ _=>rfl
 have a1: ∀x y:aj,iX [x,y] 1=y:=fun _ _=>rfl
 refine dZ aeG aeF aeJ aeI h118 ?_
 unfold Kz
 refine aF ?_
 unfold KA
 simp only[dr,cZ,aw,az,aA,dp,gY,fv,bG,dj,aq,cT,aP,bW,aR,aY,tA,aQ,ar,bJ,ck,cd,dT,vg,abt,ib]
 refine aV (aV (cp ?_))
 unfold KB
 simp only[aw,az,aA,ai,aG,aU,cG,ak,aH,aD,bh,bk,bm,au,bZ,cE,cW,bG,aq,a7,jD,cT,cF,aP,bW,aR,aY,bS,tA,aQ,ah,ar,bJ,aX,AQ,abv,t1,aW]
 refine bc (t:=false) (by simp only[ak,ai,ah,cT,cF, *]) (b7 ?_)
 simp only[aW]
 refine aF ?_
 unfold KC
 simp only[aw,az,eD,aA,eE,ai,dp,cJ,bU,iW,aG,gY,bn,eN,dI,ak,aH,aD,bm,fv,dR,au,bG,dj,ik,aq,cu,cT,cF,aP,bW,aR,aY,cut,dl,bO,aZ,e7,cy,cP,bS,tA,aQ,ah,ar,bJ,ck,iq,dX,aX,dA,cd,dT,jo,sF,vg,DS,abu,n0,a0]
 refine aV (aF ?_)
 unfold KD
 simp only[aw,az,aA,aM,aH,bm,au,tA,ar]
 refine cR (cY ?_)
 unfold zK
 refine aV (aV (cp ?_))
 unfold zL
 simp only[aw,az,aA,ai,aG,aU,cG,ak,aD,bh,bk,au,bZ,cE,cW,bG,aq,a7,jD,cT,cF,aP,bW,aR,aY,bS,tA,aQ,ah,ar,bJ,aX,AQ,DR,t2,aW]
 refine bc (t:=true) (by simp only[ak,ai,ah,cT,cF, *]) (b7 ?_)
 simp only[aW]
 refine aV (cR (ll hm ?_))
 unfold KE
 simp only[d8,d7,ec,isStore,ai,bU,aG,bn,aU,dI,dc,ak,aH,aD,bh,bk,bm,bT,dR,au,cE,dj,aq,a7,cu,cT,cF,aP,dq,aR,aY,cut,bO,aZ,e7,bS,tA,aQ,ah,ar,bJ,iq,aX,dA,dT,jo,DS,n1,a1,Yz,h119,hsp]
 cases hz:di (oH b a) 0 with
 |true=>
  have hm2:qr a b=b:=by simp only[qr,hz,cT]
  rw[hm2]
  refine bc (t:=true) (by simp only[ak,ai,ah,cT,cF]) (cp ?_)
  unfold KF
  simp only[aw,az,eD,aA,eE,ai,bU,iW,aG,bn,eN,dI,ak,aD,dR,au,dj,ik,aq,cu,cT,cF,aP,aR,aY,cut,dl,bO,aZ,e7,cy,cP,bS,tA,aQ,ah,ar,bJ,ck,iq,dX,aX,dA,cd,dT,jo,sF,DS,n1,a1,dM,aW]
  refine cp ?_
  try unfold Ea
  simp only[aw,az,aA,ai,aG,aM,aU,ak,aH,aD,bm,au,dW,aq,a7,cT,cF,aP,bS,tA,ah,ar,w2,aW]
  refine cY ?_
  try unfold zK
  refine aV (aV (cp ?_))
  try unfold zL
  simp only[aw,az,aA,ai,aG,aU,cG,ak,aD,bh,bk,au,bZ,cE,cW,bG,aq,a7,jD,cT,cF,aP,bW,aR,aY,bS,tA,aQ,ah,ar,bJ,aX,AQ,DR,t3,aW]
  refine bc (t:=false) (by simp only[ak,ai,ah,cT,cF, *]) (eL ?_)
  show W (QS sp) 118 _ _ _ _
  refine aF ?_
  unfold Eb
  simp only[aw,az,eD,aA,eE,ai,bU,bn,eN,ak,aD,bT,au,dj,ik,aq,cu,cT,cF,aP,aR,aY,cut,dl,bO,aZ,cy,cP,bS,tA,aQ,ah,ar,bJ,ck,dX,aX,dA,cd,dT,jo,sF]
  refine bP ⟨rfl,.inr rfl,?_⟩
  exact wO (g:=1) rfl (by simp only[ai,ah,cT,cF, *]) (by simp only[bU,ah,cT,cF])
 |false=>
  have hm2:qr a b=a:=by simp only[qr,hz,cF]
  rw[hm2]
  refine bc (t:=false) (by simp only[ak,ai,ah,cT,cF]) (b7 ?_)
  simp only[dM,aW]
  refine cp ?_
  try unfold Ea
  simp only[aw,az,aA,ai,aG,aM,aU,ak,aH,aD,bm,au,dW,aq,a7,cT,cF,aP,bS,tA,ah,ar,w2,aW]
  refine cY ?_
  try unfold zK
  refine aV (aV (cp ?_))
  try unfold zL
  simp only[aw,az,aA,ai,aG,aU,cG,ak,aD,bh,bk,au,bZ,cE,cW,bG,aq,a7,jD,cT,cF,aP,bW,aR,aY,bS,tA,aQ,ah,ar,bJ,aX,AQ,DR,t3,aW]
  refine bc (t:=false) (by simp only[ak,ai,ah,cT,cF, *]) (eL ?_)
  show W (QS sp) 118 _ _ _ _
  refine aF ?_
  unfold Eb
  simp only[aw,az,eD,aA,eE,ai,bU,bn,eN,ak,aD,bT,au,dj,ik,aq,cu,cT,cF,aP,aR,aY,cut,dl,bO,aZ,cy,cP,bS,tA,aQ,ah,ar,bJ,ck,dX,aX,dA,cd,dT,jo,sF]
  refine bP ⟨rfl,.inr rfl,?_⟩
  exact wO (g:=1) rfl (by simp only[ai,ah,cT,cF, *]) (by simp only[bU,ah,cT,cF])
def tE:Sp
 | [.list 2 [p,q] .full,.func (.func 119) [] []]=>(un p).bind fun a=>(un q).bind fun b=>some (ib (qr a b))
 |_=>none
def Cr:fh:=[(119,rf)]
theorem XC:fI Cr:=.cons Vm .nil
theorem amg:ek Tryz.prog 118 tE:=by
 intro args x hv G h w xs wr hx
 unfold tE at hv
 split at hv
 ·simp only[aN,bp] at hv
  obtain⟨a,h1,b,h2,rfl⟩:=hv
  have h1:=xp h1
  have h2:=xp h2
  subst h1;subst h2
  exact fD (Q:=QT Cr) (fB XC) (fun _=>fG 1) (args:=[.list 2 [ib a,ib b] .full,.func (.func 119) [] []]) (s':=s0) rfl (amh (sp:=fun f=>eR f Cr) rfl rfl a b (bK _)) rfl ⟨2,rfl⟩ G h w xs wr hx
 ·cases hv
def ns (a b:Int×Int):Bool:=bif bz a.1 b.1 then bif bz a.2 b.2 then true else false else false
def re (b o t:Int×Int):Bool:= !(ns o t||ns t b||ns o b)
def nW (b o t:Int×Int):Int×Int:=bif ns o t||ns t b then o else bif ns o b then t else qr o t
theorem Yh {e:bq} {x y:Operand} {a b c d:aj} (hx:ev e x=some (.agg [a,b])) (hy:ev e y=some (.agg [c,d])) (s:St):ey Tryz.prog 192 2 [(0,x),(1,y)] false e s=some (.list 2 [.agg [a,b],.agg [c,d]] .full,s):=by
 simp only[ey,Zm,aq,ee,evc,hx,hy,n7,cT,gU,ld,aR,aY,dl,lk,aQ,bJ,jJ,iL,cut]
 rfl
section
variable {sp:FuncId->Option (List aj->Option aj)} {ch:Nat->Nat}
theorem anL (h75:sp 75=none) {x:Nat} {id:aB} (b o t:Int×Int) (hb:re b o t=false) (s:St):bv (QM sp ch) 75 [.ptr x 0,.str id,ib b,ib o,ib t] s (ib (nW b o t)) s:=by
 refine dZ RK RJ RQ RP h75 ?_
 unfold Fl
 refine aF ?_
 unfold Fm
 simp only[dr,cZ,aw,az,aA,ai,dp,cJ,gY,iA,ak,aD,fv,bG,dj,aq,cu,cT,cF,bQ,hG,aR,aY,bS,tA,aQ,ah,ar,bJ,ck,cd,dT,vg,JI,JJ,JK,JH,ib]
 refine aV (cR (aV (aV (cp ?_))))
 unfold Fo
 have f1:(bif bz o.1 t.1 then bif bz o.2 t.2 then true else false else false)=ns o t:=rfl
 have f2:(bif bz t.1 b.1 then bif bz t.2 b.2 then true else false else false)=ns t b:=rfl
 have f3:(bif bz o.1 b.1 then bif bz o.2 b.2 then true else false else false)=ns o b:=rfl
 simp only[aw,az,aA,ai,bU,aM,bn,aU,ak,aD,bT,au,aq,cu,cT,cF,bQ,aR,aY,cut,bO,aZ,bS,tA,aQ,ah,ar,bJ,aX,jo,pH,f1,aW]
 cases h1:ns o t with
 |true=>
  have hm:nW b o t=o:=by simp only[nW,h1,Bool.true_or,cT]
  rw[hm]
  refine bc (t:=true) (by simp only[ak,ai,ah,cT,cF]) (b7 ?_)
  simp only[aW]
  refine bc (t:=true) (by simp only[ak,ai,ah,cT,cF]) (aF ?_)
  unfold Fq
  simp only[aw,az,eD,aA,eE,ai,bU,iW,bn,eN,ak,aD,bT,au,dj,ik,aq,cu,cT,cF,bQ,aR,aY,cut,dl,bO,aZ,cy,cP,bS,tA,aQ,ah,ar,bJ,ck,dX,aX,dA,cd,dT,jo,sF]
  refine bP ⟨rfl,.inr rfl,?_⟩
  exact wO (g:=1) rfl (by simp only[ai,ah,cT,cF, *]) (by simp only[bU,ah,cT,cF])
 |false=>
  refine bc (t:=false) (by simp only[ak,ai,ah,cT,cF]) (cp ?_)
  unfold Fp
  simp only[aw,az,aA,ai,bU,aM,bn,aU,ak,aD,bT,au,aq,cu,cT,cF,bQ,aR,aY,cut,bO,aZ,bS,tA,aQ,ah,ar,bJ,aX,jo,pH,f2,aW]
  cases h2:ns t b with
  |true=>
   have hm:nW b o t=o:=by simp only[nW,h1,h2,jI,cT]
   rw[hm]
   refine bc (t:=true) (by simp only[ak,ai,ah,cT,cF]) (aF ?_)
   unfold Fq
   simp only[aw,az,eD,aA,eE,ai,bU,iW,bn,eN,ak,aD,bT,au,dj,ik,aq,cu,cT,cF,bQ,aR,aY,cut,dl,bO,aZ,cy,cP,bS,tA,aQ,ah,ar,bJ,ck,dX,aX,dA,cd,dT,jo,sF]
   refine bP ⟨rfl,.inr rfl,?_⟩
   exact wO (g:=1) rfl (by simp only[ai,ah,cT,cF, *]) (by simp only[bU,ah,cT,cF])
  |false=>
   have h3:ns o b=true:=by
    simp only[re,h1,h2,jI,pP] at hb;exact hb
   have hm:nW b o t=t:=by simp only[nW,h1,h2,h3,lg,cT,cF]
   rw[hm]
   refine bc (t:=false) (by simp only[ak,ai,ah,cT,cF]) ?_
   refine aV (cp ?_)
   unfold Ft
   simp only[aw,az,aA,ai,bU,aM,bn,aU,ak,aD,bT,au,aq,cu,cT,cF,bQ,aR,aY,cut,bO,aZ,bS,tA,aQ,ah,ar,bJ,aX,jo,pH,f3,aW]
   refine bc (t:=true) (by simp only[ak,ai,ah,cT,cF,h3]) (aF ?_)
   unfold RL
   simp only[aw,az,eD,aA,eE,ai,bU,iW,bn,eN,ak,aD,bT,au,dj,ik,aq,cu,cT,cF,bQ,aR,aY,cut,dl,bO,aZ,cy,cP,bS,tA,aQ,ah,ar,bJ,ck,dX,aX,dA,cd,dT,jo,sF]
   refine bP ⟨rfl,.inr rfl,?_⟩
   exact wO (g:=1) rfl (by simp only[ai,ah,cT,cF, *]) (by simp only[bU,ah,cT,cF])
theorem anK (h75:sp 75=none) (h45:sp 45=none) (h118:sp 118=some tE) {s:St} {x mb mo mt mu md:Nat} {C:List Cf} (hx:s.get [] x=some (.cells [.map mb,.map mo,.map mt,.map mu,.map md])) (hd:s.get [] md=some (.map (fJ 0 C) C.length)) {id:aB} (b o t:Int×Int) (hb:re b o t=true):
 bv (QM sp ch) 75 [.ptr x 0,.str id,ib b,ib o,ib t] s (ib (nW b o t)) (s.put md (some (.map (fJ 0 (dU (id,[97,116]) C)) (dU (id,[97,116]) C).length))):=by
 have hnote:=yp (ch:=ch) h45 hx hd id [97,116]
 simp only[re,rC,mj] at hb
 obtain⟨⟨h1,h2⟩,h3⟩:=hb
 have hm:nW b o t=qr o t:=by simp only[nW,h1,h2,h3,lg,cF]
 have hms:tE [.list 2 [.agg [.int .i64 o.1,.int .i64 o.2],.agg [.int .i64 t.1,.int .i64 t.2]] .full,.func (.func 119) [] []]=some (.agg [.int .i64 (qr o t).1,.int .i64 (qr o t).2]):=rfl
 have hbs: ∀e s,ay e 27= .agg [.int .i64 o.1,.int .i64 o.2]->ay e 28= .agg [.int .i64 t.1,.int .i64 t.2]->ey Tryz.prog 192 2 [(0,.tmp 27),(1,.tmp 28)] false e s=some (.list 2 [.agg [.int .i64 o.1,.int .i64 o.2],.agg [.int .i64 t.1,.int .i64 t.2]] .full,s):=fun e s p q=>Yh (by rw[ak,p]) (by rw[ak,q]) s
 have f1:(bif bz o.1 t.1 then bif bz o.2 t.2 then true else false else false)=false:=h1
 have f2:(bif bz t.1 b.1 then bif bz t.2 b.2 then true else false else false)=false:=h2
 have f3:(bif bz o.1 b.1 then bif bz o.2 b.2 then true else false else false)=false:=h3
 rw[hm]
 refine dZ RK RJ RQ RP h75 ?_
 unfold Fl
 refine aF ?_
 unfold Fm
 simp only[dr,cZ,aw,az,aA,ai,dp,cJ,gY,iA,ak,aD,fv,bG,dj,aq,cu,cT,cF,bQ,hG,aR,aY,bS,tA,aQ,ah,ar,bJ,ck,cd,dT,vg,JI,JJ,JK,JH,ib]
 refine aV (cR (aV (aV (cp ?_))))
 unfold Fo
 simp only[aw,az,aA,ai,bU,aM,bn,aU,ak,aD,bT,au,aq,cu,cT,cF,bQ,aR,aY,cut,bO,aZ,bS,tA,aQ,ah,ar,bJ,aX,jo,pH,f1,aW]
 refine bc (t:=false) (by simp only[ak,ai,ah,cT,cF, *]) (cp ?_)
 unfold Fp
 simp only[aw,az,aA,ai,bU,aM,bn,aU,ak,aD,bT,au,aq,cu,cT,cF,bQ,aR,aY,cut,bO,aZ,bS,tA,aQ,ah,ar,bJ,aX,jo,pH,f2,aW]
 refine bc (t:=false) (by simp only[ak,ai,ah,cT,cF, *]) (aV (cp ?_))
 unfold Ft
 simp only[aw,az,aA,ai,bU,aM,bn,aU,ak,aD,bT,au,aq,cu,cT,cF,bQ,aR,aY,cut,bO,aZ,bS,tA,aQ,ah,ar,bJ,aX,jo,pH,f3,aW]
 refine bc (t:=false) (by simp only[ak,ai,ah,cT,cF, *]) (b7 ?_)
 simp only[dM,aW]
 refine aV (gH (gd 2 ?_))
 unfold RM
 simp only[aw,az,aA,ai,aG,ak,au,cT,cF,bO,aZ,bS,tA,ah,ar]
 refine gq (g:=45) (args:=[.ptr x 0,.str id,.str [97,116]]) ?_ hnote (by decide) ?_
 ·simp only[callee,ai,ak,aH,fA,aD,bh,bk,iM,aq,cw,ez,cT,cF,cy,cP,bS,ah]
 refine gp ?_
 simp only[aw,aW]
 refine aF ?_
 unfold RN
 simp only[aw,az,eD,aA,eE,ai,bU,iW,lL,bn,eN,dc,da,ak,fA,aD,bh,bk,bT,au,bZ,bG,dj,ik,aq,cu,jD,oG,cT,cF,bQ,hG,rK,aR,aY,cut,dl,bO,aZ,cy,cP,bS,tA,aQ,ah,ar,bJ,ck,dX,aX,dA,cd,dT,jo,sF,ac4,hbs,h118,hms]
 refine bP ⟨rfl,.inr rfl,?_⟩
 exact wO (g:=1) rfl (by simp only[ai,ah,cT,cF, *]) (by simp only[bU,ah,cT,cF])
end
end Go.Proofs.YtbfmdojdemckbaaGreat
