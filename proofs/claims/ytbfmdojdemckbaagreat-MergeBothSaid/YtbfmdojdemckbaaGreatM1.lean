/- merger.merge; the loops over names; merger.need; merge.Merge, whole: its contract. -/
import Derived.Test.YtbfmdojdemckbaaGreatT1
import Derived.Test.YtbfmdojdemckbaaGreatS1
import Derived.Test.YtbfmdojdemckbaaGreatZ2
open Bool renaming and_eq_true→cZ,and_true→dY,false_or→jU,or_self→lV,true_and→i9
open Classical renaming byContradiction→lW,propDecidable→uy
open List renaming cons_append→cH,drop_succ_cons→gr,drop_zero→nq,drop→a7,elem_eq_true_of_mem→qM,foldl_cons→uz,getElem?_cons_zero→gg,getElem?_eq_none→jF,head?_cons→bO,length_append→dp,length_cons→aP,length_filter_le→qO,length_map→eH,length_nil→aW,map_append→kB,map_cons→fw,mem_append→rG,mem_cons→om,mem_of_elem_eq_true→qP,mem_singleton→p8,nil_append→cq,nodup_cons→wB,nodup_nil→oq,not_mem_nil→rI,perm_ext_iff_of_nodup→uC,range'_succ→tk,range'→uD,take_append_drop→nr,take→bN
open Nat renaming add_zero→dc,beq→be,le_refl→bB,le_succ_of_le→kC,le_trans→fW,lt_irrefl→eU,lt_of_lt_of_le→gu,lt_or_ge→im,lt_succ_of_lt→ns,lt_succ_self→io,reduceAdd→bE,reduceBEq→ah,reduceLT→au,reduceLeDiff→cm,reduceMul→jt,zero_add→aQ
open Option renaming bind_eq_some_iff→aG,bind_some→aq,getD_some→pc
open Go.Ag.W renaming block→cO,cond→bc,exit→eD,loop1→cR,region→gh,reg→b7,ret→cd,sdrawQ→lr,seq→aR,skip→ck,sreg→aF
namespace Go.Proofs.YtbfmdojdemckbaaGreat
open Go.Ag
def gR:ar:=[111,98,106,101,99,116]
def ko (p q:Option Obj):Option Obj:=match p,q with
 |none,_=>q
 |some o,none=>some o
 |some o,some t=>bif dz (l7 t o) 0 then some t else some o
def iv (pb po pt:Option Obj):Option Obj:=bif dX po pt||dX pt pb then po else bif dX po pb then pt else match pb,po,pt with
 |some b,some o,some t=>bif bD o.kind b.kind&&bD t.kind b.kind then some (oO b o t) else ko po pt
 |_,_,_=>ko po pt
def fV (k:ar) (pb po pt:Option Obj) (C:List Cf):List Cf:=bif dX po pt||dX pt pb then C else bif dX po pb then C else match pb,po,pt with
 |some b,some o,some t=>bif bD o.kind b.kind&&bD t.kind b.kind then mV b o t C else dG (k,gR) C
 |_,_,_=>dG (k,gR) C
inductive fk (s:St) (lim:Nat):aj->Option Obj->Prop
 |nil:fk s lim .nilp none
 |at_ {p:Nat} {o:Obj}:p<lim->s.get [] p=some (.cells o.cells)->o.Good->fk s lim (.ptr p 0) (some o)
theorem fk.pv {s s':St} {lim:Nat} {a:aj} {q:Option Obj} (h:fk s lim a q) (hs: ∀n,n<lim->s'.get [] n=s.get [] n):PV s' a q:=by
 cases h with
 |nil=>exact .nil
 |at_ h1 h2 h3=>exact .at_ ((hs _ h1).trans h2) h3
structure Mg (s:St) (x mb mo mt mu md:Nat) (B O T U:List (ar×aj)) (C:List Cf):Prop where
 hx:s.get [] x=some (.cells [.map mb,.map mo,.map mt,.map mu,.map md])
 hb:s.get [] mb=some (.map (cP 0 B) B.length)
 ho:s.get [] mo=some (.map (cP 0 O) O.length)
 ht:s.get [] mt=some (.map (cP 0 T) T.length)
 hu:s.get [] mu=some (.map (cP 0 U) U.length)
 hd:s.get [] md=some (.map (eW 0 C) C.length)
 minw:s.minw<=s.next
 ord:mb<mu/\mo<mu/\mt<mu/\mu<md/\md<x/\x<s.next
theorem fk.keep {s s':St} {lim lim' md:Nat} {C:List Cf} {a:aj} {q:Option Obj} (h:fk s lim a q) (hd:s.get [] md=some (.map (eW 0 C) C.length)) (hl:lim<=lim') (hs: ∀n,n<lim->n≠md->s'.get [] n=s.get [] n):fk s' lim' a q:=by
 cases h with
 |nil=>exact .nil
 |at_ h1 h2 h3=>
  refine .at_ (by omega) ((hs _ h1 ?_).trans h2) h3
  intro e;subst e;rw[hd] at h2;cases h2
section
variable {s s':St} {x mb mo mt mu md:Nat} {B O T U:List (ar×aj)} {C C':List Cf}
theorem Mg.grow (M:Mg s x mb mo mt mu md B O T U C) (hd:s'.get [] md=some (.map (eW 0 C') C'.length)) (hs: ∀n,n<s.next->n≠md->s'.get [] n=s.get [] n) (hn:s.next<=s'.next) (hm:s'.minw<=s'.next):Mg s' x mb mo mt mu md B O T U C':=by
 obtain⟨o1,o2,o3,o4,o5,o6⟩:=M.ord
 exact⟨(hs x (by omega) (by omega)).trans M.hx,(hs mb (by omega) (by omega)).trans M.hb,(hs mo (by omega) (by omega)).trans M.ho,(hs mt (by omega) (by omega)).trans M.ht,(hs mu (by omega) (by omega)).trans M.hu,hd,hm,o1,o2,o3,o4,o5,by omega⟩
end
theorem amj {o:Obj} (h:o.Good) (p:Int×Int):(yp o p).Good:=⟨⟨h.refs,h.tags,h.id,h.reflen,h.ref,h.taglen,h.key⟩,h.pr,h.pt⟩
theorem aml {o:Obj} (h:o.Good) {l:List cz} (h1:l.length<small) (h2: ∀t∈l,t.1.length<small):(Un o l).Good:=⟨⟨h.refs,sH l,h.id,h.reflen,h.ref,h1,h2⟩,h.pr,aj6 l⟩
theorem akl {b o t:Obj} (gb:b.Good) (go:o.Good) (gt:t.Good):(nf b o t).Good:=by
 unfold nf
 cases h:lj b o t with
 |none=>exact gb
 |some r=>
  unfold lj at h
  cases hr:ll b.refs o.refs t.refs with
  |none=>rw[hr] at h;cases h
  |some r'=>
   rw[hr] at h
   cases hv:iO (s8 b r') with
   |false=>simp only[hv,cF] at h;cases h
   |true=>
    simp only[hv,cT] at h
    injection h with h;subst h
    exact Tv gb go gt hr
theorem Ia {b o t:Obj} (gb:b.Good) (go:o.Good) (gt:t.Good) (vb:iK b.tags=true) (vo:iK o.tags=true) (vt:iK t.tags=true):(oO b o t).Good:=by
 have hsm:small=9223372036854775808:=rfl
 refine aml (amj (akl gb go gt) _) (by have:=(Gn b.tags o.tags t.tags).1;omega) fun u hu=>?_
 have:=Sb (Uc vb vo vt u.1 (Ub.1 u hu))
 omega
theorem Rt {p q:Option Obj} (hp: ∀o,p=some o->o.Good) (hq: ∀o,q=some o->o.Good): ∀o,ko p q=some o->o.Good:=by
 intro o h
 cases p with
 |none=>exact hq o h
 |some a=>
  cases q with
  |none=>exact hp o h
  |some c=>
   simp only[ko] at h
   cases hc:dz (l7 c a) 0 with
   |true=>rw[hc] at h;exact hq o h
   |false=>rw[hc] at h;exact hp o h
theorem Rv {s:St} {lim:Nat} {a b:aj} {p q:Option Obj} (ha:fk s lim a p) (hb:fk s lim b q):fk s lim (pB a b p q) (ko p q):=by
 cases ha with
 |nil=>exact hb
 |at_ h1 h2 h3=>
  cases hb with
  |nil=>exact .at_ h1 h2 h3
  |at_ h4 h5 h6=>
   rename_i o _ t
   simp only[pB,ko]
   cases dz (l7 t o) 0 with
   |true=>exact .at_ h4 h5 h6
   |false=>exact .at_ h1 h2 h3
structure uK (sp:FuncId->Option (List aj->Option aj)):Prop where
 h24:sp 24=none
 h43:sp 43=none
 h44:sp 44=none
 h45:sp 45=none
 h46:sp 46=none
 h75:sp 75=none
 h77:sp 77=none
 h16:sp 16=some rm
 h31:sp 31=some pN
 h36:sp 36=some rj
 h74:sp 74=some sV
 h76:sp 76=some ur
 h118:sp 118=some sE
 h119:sp 119=some qA
 h122:sp 122=some pj
 h123:sp 123=some sX
 h124:sp 124=some s9
structure uJ (s s':St) (x mb mo mt mu md:Nat) (B O T U:List (ar×aj)) (C':List Cf) (v:aj) (q:Option Obj):Prop where
 mg:Mg s' x mb mo mt mu md B O T U C'
 pv:fk s' s'.next v q
 old: ∀n,n<s.next->n≠md->s'.get [] n=s.get [] n
 next:s.next<=s'.next
 ci:s'.ci=s.ci
def j7 (p:Option Obj):Prop:= ∀o,p=some o->iK o.tags=true
theorem j7.len {p:Option Obj} (h:j7 p): ∀o,p=some o->o.tags.length<=400000:=fun o ho=>by
 have h1:=h o ho
 simp only[iK,cZ,decide_eq_true_eq] at h1
 omega
theorem fk.out {s:St} {lim:Nat} {v:aj} {q:Option Obj} (h:fk s lim v q):(v= .nilp/\q=none)\/ ∃p o,v= .ptr p 0/\q=some o/\p<lim/\s.get [] p=some (.cells o.cells)/\o.Good:=by
 cases h with
 |nil=>exact .inl ⟨rfl,rfl⟩
 |at_ h1 h2 h3=>exact .inr ⟨_,_,rfl,rfl,h1,h2,h3⟩
section
variable {sp:FuncId->Option (List aj->Option aj)} {ch:Nat->Nat} (hS:uK sp)
include hS
theorem ait {s:St} {x mb mo mt mu md:Nat} {B O T U:List (ar×aj)} {C:List Cf} (M:Mg s x mb mo mt mu md B O T U C) {id:ar} {pb po pt:Option Obj}
 (hb:fk s mu (at_ id B) pb) (ho:fk s mu (at_ id O) po) (ht:fk s mu (at_ id T) pt) (gb:j7 pb) (go:j7 po) (gt:j7 pt): ∃v s',bz (QM sp ch) 24 [.ptr x 0,.str id] s v s'/\uJ s s' x mb mo mt mu md B O T U (fV id pb po pt C) v (iv pb po pt):=by
 have hm:=M.minw
 obtain⟨o1,o2,o3,o4,o5,o6⟩:=M.ord
 have hx:s.top.get [] x=_:=M.hx
 have lb:=rb (s:=s.top) M.hb id
 have lo:=rb (s:=s.top) M.ho id
 have lt:=rb (s:=s.top) M.ht id
 have vb:=hb.pv fun _ _=>rfl
 have vo:=ho.pv fun _ _=>rfl
 have vt:=ht.pv fun _ _=>rfl
 have cb:=vb.clean
 have co:=vo.clean
 have ct:=vt.clean
 have same: ∀ {v:aj} {q:Option Obj},fk s mu v q->uJ s s x mb mo mt mu md B O T U C v q:=fun h=>⟨M,h.keep M.hd (by omega) fun _ _ _=>rfl,fun _ _ _=>rfl,bB _,rfl⟩
 refine bz.ofEx adA adz adC adB hS.h24 ?_
 unfold Ms
 refine aF ?_
 unfold Mu
 simp only[dt,cY,az,aA,aB,aN,aK,aw,cT,aP,aW,tA,aQ,au,bE,cm,cj,dT,iP]
 refine lr hm ?_
 unfold Mv
 simp only[eJ,eI,eK,isStore,ai,aH,aN,bo,bZ,lQ,fI,ak,aD,aw,aq,cS,fZ,cT,cF,bF,a7,bO,bS,tA,aQ,dc,ah,au,CA,CB,CC,nc,fG,dv,hx,du,lb,lo,lt]
 refine aR (cO (aR (aR ?_)))
 refine gh (fU 2 ?_)
 unfold Mw
 simp only[az,aA,aB,ai,aH,ak,aw,cT,cF,bN,a7,bS,tA,ah,au]
 refine fY (g:=43) (args:=[at_ id O,at_ id T]) ?_ (F3 hS.h43 hS.h16 hm vo vt) (by decide) ?_
 ·simp only[callee,ai,ak,ff,aD,bk,bm,aq,cT,cF,cq,cH,bS,ah,co,ct]
 refine fX ?_
 simp only[az,aA,aB,ai,aN,ak,aw,cT,cF,bS,tA,ah,au,aU]
 have last: ∀(e':bj) (lc':Ag.Loc),ax e' 6=at_ id O->iv pb po pt=po->fV id pb po pt C=C->W (QM sp ch) 24 (.seq (.region DP) .ret) ⟨e',83,lc'⟩ s fun y fr s1=>y= .ret/\ ∃v,(∃vs,gQ (QM sp ch) [] fr s1 [.tmp 4]=some vs/\jQ vs=v)/\uJ s s1 x mb mo mt mu md B O T U (fV id pb po pt C) v (iv pb po pt):=by
  intro e' lc' h6 hp hc
  refine aF ?_
  unfold DP
  simp only[az,aA,aB,ai,aH,aN,ak,aw,cT,bS,tA,au,h6]
  refine cd ⟨rfl,at_ id O,cE (by simp only[ai,ah,cT,cF]) co,?_⟩
  rw[hp,hc]
  exact same ho
 cases h1:dX po pt with
 |true=>
  have hO:iv pb po pt=po:=by simp only[iv,h1,Bool.true_or,cT]
  have hC:fV id pb po pt C=C:=by simp only[fV,h1,Bool.true_or,cT]
  refine bc (t:=true) (by simp only[ak,ai,ah,cT,cF]) (ck ?_)
  simp only[aU]
  refine bc (t:=true) (by simp only[ak,ai,ah,cT,cF]) ?_
  refine(last _ _ (by simp only[ai,ah,cT,cF]) hO hC).mono ?_
  rintro y fr s' ⟨rfl,h⟩
  exact⟨.inr rfl,h⟩
 |false=>
  refine bc (t:=false) (by simp only[ak,ai,ah,cT,cF]) ?_
  refine gh (fU 2 ?_)
  unfold Mx
  simp only[az,aA,aB,ai,aH,ak,aw,cT,cF,bN,a7,bS,tA,ah,au]
  refine fY (g:=43) (args:=[at_ id T,at_ id B]) ?_ (F3 hS.h43 hS.h16 hm vt vb) (by decide) ?_
  ·simp only[callee,ai,ak,ff,aD,bk,bm,aq,cT,cF,cq,cH,bS,ah,cb,ct]
  refine fX ?_
  simp only[az,aA,aB,ai,aN,ak,aw,cT,cF,bS,tA,ah,au,aU]
  cases h2:dX pt pb with
  |true=>
   have hO:iv pb po pt=po:=by simp only[iv,h1,h2,jU,cT]
   have hC:fV id pb po pt C=C:=by simp only[fV,h1,h2,jU,cT]
   refine bc (t:=true) (by simp only[ak,ai,ah,cT,cF]) ?_
   refine(last _ _ (by simp only[ai,ah,cT,cF]) hO hC).mono ?_
   rintro y fr s' ⟨rfl,h⟩
   exact⟨.inr rfl,h⟩
  |false=>
   refine bc (t:=false) (by simp only[ak,ai,ah,cT,cF]) ?_
   refine aR (gh (fU 2 ?_))
   unfold My
   simp only[az,aA,aB,ai,aH,ak,aw,cT,cF,bN,a7,bS,tA,ah,au]
   refine fY (g:=43) (args:=[at_ id O,at_ id B]) ?_ (F3 hS.h43 hS.h16 hm vo vb) (by decide) ?_
   ·simp only[callee,ai,ak,ff,aD,bk,bm,aq,cT,cF,cq,cH,bS,ah,cb,co]
   refine fX ?_
   simp only[az,aA,aB,ai,aN,ak,aw,cT,cF,bS,tA,ah,au,aU]
   cases h3:dX po pb with
   |true=>
    have hO:iv pb po pt=pt:=by simp only[iv,h1,h2,h3,jU,cT,cF]
    have hC:fV id pb po pt C=C:=by simp only[fV,h1,h2,h3,jU,cT,cF]
    refine bc (t:=true) (by simp only[ak,ai,ah,cT,cF]) (aF ?_)
    unfold Mz
    simp only[az,aA,aB,ai,aH,aN,ak,aw,cT,cF,bS,tA,ah,au]
    refine cd ⟨.inr rfl,at_ id T,cE (by simp only[ai,ah,cT,cF]) ct,?_⟩
    rw[hO,hC]
    exact same ht
   |false=>
    refine bc (t:=false) (by simp only[ak,ai,ah,cT,cF]) ?_
    have conf: ∀(e':bj) (lc':Ag.Loc),ax e' 0= .ptr x 0->ax e' 1= .str id->ax e' 6=at_ id O->ax e' 7=at_ id T->iv pb po pt=ko po pt->fV id pb po pt C=dG (id,gR) C->W (QM sp ch) 24 (.seq (.region DS) (.seq (.region DN) .ret)) ⟨e',83,lc'⟩ s fun y fr s1=>(y= .normal\/y= .ret)/\ ∃v,(∃vs,gQ (QM sp ch) [] fr s1 [.tmp 4]=some vs/\jQ vs=v)/\uJ s s1 x mb mo mt mu md B O T U (fV id pb po pt C) v (iv pb po pt):=by
     intro e' lc' h0 h1' h6 h7 hO hC
     have hnote:=xT (sp:=sp) (ch:=ch) hS.h45 M.hx M.hd id gR
     refine aR (gh (fU 2 ?_))
     unfold DS
     simp only[az,aA,aB,ai,aH,ak,aw,cF,bN,a7,tA,ah,au,h0,h1']
     refine fY (g:=45) (args:=[.ptr x 0,.str id,.str gR]) ?_ hnote (by decide) ?_
     ·simp only[callee,ai,ak,aK,ff,aD,bk,bm,jB,aq,cS,dW,cT,cF,cq,cH,bS,ah]
      rfl
     refine fX ?_
     obtain⟨s2,hs2⟩: ∃a,a=s.put md (some (.map (eW 0 (dG (id,gR) C)) (dG (id,gR) C).length)):=⟨_,rfl⟩
     rw[<-hs2]
     have e1: ∀n,n<s.next->n≠md->s2.get [] n=s.get [] n:=fun n _ h=>by rw[hs2,cI,beq_eq_false_iff_ne.2 h];rfl
     have e2:s2.next=s.next:=by rw[hs2];rfl
     have e3:s2.minw<=s2.next:=by rw[hs2];exact jJ _ _ _ hm
     have e4:s2.get [] md=some (.map (eW 0 (dG (id,gR) C)) (dG (id,gR) C).length):=by rw[hs2,cI,bS];rfl
     have M2:=M.grow e4 e1 (by omega) e3
     have ho2:=ho.keep M.hd (by omega:mu<=s2.next) fun n h1 h2=>e1 n (by omega) h2
     have ht2:=ht.keep M.hd (by omega:mu<=s2.next) fun n h1 h2=>e1 n (by omega) h2
     have hless:=Rz (ch:=ch) hS.h46 hS.h77 hS.h122 hS.h119 hS.h123 hS.h124 hS.h31 e3 (ho2.pv fun _ _=>rfl) (ht2.pv fun _ _=>rfl) go.len gt.len
     have hlv:=Rv ho2 ht2
     have cl:=(hlv.pv fun _ _=>rfl).clean
     simp only[az,aU]
     refine aR (gh (fU 2 ?_))
     unfold DN
     simp only[az,aA,aB,ai,aH,ak,aw,cF,bN,a7,tA,ah,au,h6,h7]
     refine fY (g:=46) (args:=[at_ id O,at_ id T]) ?_ hless (by decide) ?_
     ·simp only[callee,ai,ak,ff,aD,bk,bm,aq,cT,cF,cq,cH,bS,ah,co,ct]
     refine fX ?_
     simp only[az,aA,aB,ai,aN,ak,aw,cT,cF,bS,tA,ah,au,aU]
     refine cd ⟨.inr rfl,pB (at_ id O) (at_ id T) po pt,cE (by simp only[ai,ah,cT,cF]) cl,?_⟩
     rw[hO,hC]
     exact⟨M2,hlv,e1,by omega,by rw[hs2];rfl⟩
    have mid: ∀(e1:bj) (lc1:Ag.Loc) (KK:Ex->Fr->St->Prop),ax e1 0= .ptr x 0->ax e1 1= .str id->ax e1 5=at_ id B->ax e1 6=at_ id O->ax e1 7=at_ id T->
     (∀fr s1,(∃v,(∃vs,gQ (QM sp ch) [] fr s1 [.tmp 4]=some vs/\jQ vs=v)/\uJ s s1 x mb mo mt mu md B O T U (fV id pb po pt C) v (iv pb po pt))->KK .ret fr s1)->
     (∀e',ax e' 0= .ptr x 0->ax e' 1= .str id->ax e' 6=at_ id O->ax e' 7=at_ id T->iv pb po pt=ko po pt->fV id pb po pt C=dG (id,gR) C->KK .normal ⟨e',83,lc1⟩ s)->
     W (QM sp ch) 24 (.seq (.draw DQ Mt) (.cond (Operand.tmp 39) (.seq (.region DR) .ret) .skip)) ⟨e1,83,lc1⟩ s KK:=by
     intro e1 lc1 KK g0 g1 g5 g6 g7 hret hskip
     refine lr hm ?_
     unfold DQ
     rcases ho.out with⟨eo,qo⟩|⟨p2,o2,eo,qo,a1,a2,a3⟩
     ·have hO:iv pb po pt=ko po pt:=by
       simp only[iv,h1,h2,h3,lV,cF]
       rw[qo];cases pb<;>rfl
      have hC:fV id pb po pt C=dG (id,gR) C:=by
       simp only[fV,h1,h2,h3,lV,cF]
       rw[qo];cases pb<;>rfl
      simp only[eJ,eI,mO,eK,rz,isStore,jr,ai,aH,aN,di,aX,ak,aK,aD,bW,dj,d7,aw,aq,cT,cF,bF,bS,tA,ah,au,g6,eo,iP,iU,uc]
      refine bc (t:=false) (by simp only[ak,ai,ah,cT,cF]) (ck (hskip _ ?_ ?_ ?_ ?_ hO hC))
      ·simp only[ai,ah,cF,g0]
      ·simp only[ai,ah,cF,g1]
      ·simp only[ai,ah,cF,g6]
      ·simp only[ai,ah,cF,g7]
     rcases ht.out with⟨et,qt⟩|⟨p3,o3,et,qt,b1,b2,b3⟩
     ·have hO:iv pb po pt=ko po pt:=by
       simp only[iv,h1,h2,h3,lV,cF]
       rw[qt];cases pb<;>cases po<;>rfl
      have hC:fV id pb po pt C=dG (id,gR) C:=by
       simp only[fV,h1,h2,h3,lV,cF]
       rw[qt];cases pb<;>cases po<;>rfl
      simp only[eJ,eI,mO,eK,oZ,rz,isStore,hQ,jr,ai,aH,aN,di,aX,ak,aK,aD,bW,dj,eA,d7,aw,aq,dW,cT,cF,bF,bS,tA,ah,au,g6,g7,eo,et,iP,iU,uc,rp]
      refine bc (t:=false) (by simp only[ak,ai,ah,cT,cF]) (ck (hskip _ ?_ ?_ ?_ ?_ hO hC))
      ·simp only[ai,ah,cF,g0]
      ·simp only[ai,ah,cF,g1]
      ·simp only[ai,ah,cF,g6]
      ·simp only[ai,ah,cF,g7]
     rcases hb.out with⟨eb,qb⟩|⟨p1,o1',eb,qb,d1,d2,d3⟩
     ·have hO:iv pb po pt=ko po pt:=by
       simp only[iv,h1,h2,h3,lV,cF]
       rw[qb]
      have hC:fV id pb po pt C=dG (id,gR) C:=by
       simp only[fV,h1,h2,h3,lV,cF]
       rw[qb]
      simp only[eJ,eI,mO,eK,oZ,rz,isStore,hQ,jr,ai,aH,aN,di,aX,ak,aK,aD,bW,dj,eA,d7,aw,aq,dW,cT,cF,bF,bS,tA,ah,au,g5,g6,g7,eo,et,eb,iP,iU,uc,rp]
      refine bc (t:=false) (by simp only[ak,ai,ah,cT,cF]) (ck (hskip _ ?_ ?_ ?_ ?_ hO hC))
      ·simp only[ai,ah,cF,g0]
      ·simp only[ai,ah,cF,g1]
      ·simp only[ai,ah,cF,g6]
      ·simp only[ai,ah,cF,g7]
     have a2':s.get [] p2=some (.cells [.str o2.id,.int .i64 o2.kind,.int .i64 o2.x,.int .i64 o2.y,o2.refsV,o2.tagsV]):=a2
     have b2':s.get [] p3=some (.cells [.str o3.id,.int .i64 o3.kind,.int .i64 o3.x,.int .i64 o3.y,o3.refsV,o3.tagsV]):=b2
     have d2':s.get [] p1=some (.cells [.str o1'.id,.int .i64 o1'.kind,.int .i64 o1'.x,.int .i64 o1'.y,o1'.refsV,o1'.tagsV]):=d2
     cases hk:bD o2.kind o1'.kind&&bD o3.kind o1'.kind with
     |false=>
      have hO:iv pb po pt=ko po pt:=by
       simp only[iv,h1,h2,h3,lV,cF]
       rw[qb,qo,qt]
       simp only[hk,cF]
      have hC:fV id pb po pt C=dG (id,gR) C:=by
       simp only[fV,h1,h2,h3,lV,cF]
       rw[qb,qo,qt]
       simp only[hk,cF]
      cases hk1:bD o2.kind o1'.kind with
      |false=>
       simp only[eJ,eI,mO,eK,oZ,rz,isStore,hQ,jr,ai,aH,aN,di,bo,aX,bZ,fI,ak,aK,aD,bW,dj,eA,d7,aw,jH,aq,bf,dW,cT,cF,bF,a7,bO,bS,tA,aQ,ah,au,lI,fJ,g5,g6,g7,eo,et,eb,fG,dv,sh,a2',d2',du,hk1,iP,iU,rp]
       refine bc (t:=false) (by simp only[ak,ai,ah,cT,cF]) (ck (hskip _ ?_ ?_ ?_ ?_ hO hC))
       ·simp only[ai,ah,cF,g0]
       ·simp only[ai,ah,cF,g1]
       ·simp only[ai,ah,cF,g6]
       ·simp only[ai,ah,cF,g7]
      |true=>
       have hk2:bD o3.kind o1'.kind=false:=by rw[hk1,i9] at hk;exact hk
       simp only[eJ,eI,mO,eK,oZ,isStore,hQ,ai,aH,aN,di,bo,aX,bZ,fI,ak,aK,aD,bW,dj,eA,aw,jH,aq,bf,dW,cT,cF,bF,a7,bO,bS,tA,aQ,ah,au,lI,fJ,g5,g6,g7,eo,et,eb,fG,dv,sh,a2',b2',d2',du,hk1,hk2,iP,iU,rp]
       refine bc (t:=false) (by simp only[ak,ai,ah,cT,cF]) (ck (hskip _ ?_ ?_ ?_ ?_ hO hC))
       ·simp only[ai,ah,cF,g0]
       ·simp only[ai,ah,cF,g1]
       ·simp only[ai,ah,cF,g6]
       ·simp only[ai,ah,cF,g7]
     |true=>
      have hO:iv pb po pt=some (oO o1' o2 o3):=by
       simp only[iv,h1,h2,h3,lV,cF]
       rw[qb,qo,qt]
       simp only[hk,cT]
      have hC:fV id pb po pt C=mV o1' o2 o3 C:=by
       simp only[fV,h1,h2,h3,lV,cF]
       rw[qb,qo,qt]
       simp only[hk,cT]
      simp only[cZ] at hk
      simp only[eJ,eI,mO,eK,oZ,isStore,hQ,ai,aH,aN,di,bo,aX,bZ,fI,ak,aK,aD,bW,dj,eA,aw,jH,aq,bf,dW,cT,cF,bF,a7,bO,bS,tA,aQ,ah,au,lI,fJ,g5,g6,g7,eo,et,eb,fG,dv,sh,a2',b2',d2',du,hk.1,hk.2,iP,iU,rp]
      obtain⟨s1,hrun,F⟩:=Yc (sp:=sp) (ch:=ch) hS.h44 hS.h74 hS.h36 hS.h45 hS.h75 hS.h118 hS.h76 M.hx M.hd ⟨by omega,by omega⟩ hm d2 a2 b2 d3 a3 b3 ⟨by omega,by omega,by omega⟩ (gb _ qb) (go _ qo) (gt _ qt)
      refine bc (t:=true) (by simp only[ak,ai,ah,cT,cF]) ?_
      refine aR (gh (fU 4 ?_))
      unfold DR
      simp only[az,aA,aB,ai,aH,ak,aw,cF,bN,a7,tA,ah,au,g0,g5,g6,g7,eo,et,eb]
      refine fY (g:=44) (args:=[.ptr x 0,.ptr p1 0,.ptr p2 0,.ptr p3 0]) ?_ hrun (by decide) ?_
      ·simp only[callee,ai,ak,ff,aD,bk,bm,aq,dW,cT,cF,cq,cH,bS,ah]
      refine fX ?_
      simp only[az,aA,aB,ai,aN,ak,aw,cT,cF,bS,tA,ah,au,aU]
      have hn1:=F.next
      refine cd (hret _ _ ⟨.ptr s.next 0,cE (by simp only[ai,ah,cT,cF]) rfl,?_⟩)
      rw[hO,hC]
      exact⟨M.grow F.hd F.old (by omega) F.minw,.at_ (by omega) F.row (Ia d3 a3 b3 (gb _ qb) (go _ qo) (gt _ qt)),F.old,by omega,F.ci⟩
    refine mid _ _ _ ?_ ?_ ?_ ?_ ?_ (fun fr s1 h=>⟨.inr rfl,h⟩) (fun e' f0 f1 f6 f7 hO hC=>conf e' _ f0 f1 f6 f7 hO hC)
    ·simp only[ai,ah,cT,cF]
    ·simp only[ai,ah,cT,cF]
    ·simp only[ai,ah,cT,cF]
    ·simp only[ai,ah,cT,cF]
    ·simp only[ai,ah,cT,cF]
end
def gM (b o t:List Obj) (k:ar):Option Obj:=iv (dq k b) (dq k o) (dq k t)
def kJ (b o t:List Obj) (k:ar):List Cf:=fV k (dq k b) (dq k o) (dq k t) []
theorem Am {id:ar} {c:Cf}: ∀ {ks:List ar} {C:List Cf},c∈og id ks C↔c∈C\/c∈og id ks []
 | [],C=>by simp[og]
 |k::ks,C=>by
  have h1:og id (k::ks) C=og id ks (dG (id,mw k) C):=rfl
  have h2:og id (k::ks) []=og id ks (dG (id,mw k) []):=rfl
  rw[h1,h2,Am (C:=dG (id,mw k) C),Am (C:=dG (id,mw k) []),t6,t6]
  simp only[rI,or_false]
  constructor
  ·rintro((h|h)|h)
   ·exact .inr (.inl h)
   ·exact .inl h
   ·exact .inr (.inr h)
  ·rintro(h|h|h)
   ·exact .inl (.inr h)
   ·exact .inl (.inl h)
   ·exact .inr h
theorem R2 {b o t:Obj} {c:Cf} {C:List Cf}:c∈l5 b o t C↔c∈C\/c∈l5 b o t []:=by
 unfold l5
 cases oW (b.x,b.y) (o.x,o.y) (t.x,t.y) with
 |true=>simp only[cT,t6,rI,or_false];exact Or.comm
 |false=>simp
theorem ais {b o t:Obj} {c:Cf} {C:List Cf}:c∈j4 b o t C↔c∈C\/c∈j4 b o t []:=by
 unfold j4
 cases lj b o t with
 |none=>simp only[t6,rI,or_false];exact Or.comm
 |some r=>simp
theorem aip {b o t:Obj} {c:Cf} {C:List Cf}:c∈mV b o t C↔c∈C\/c∈mV b o t []:=by
 unfold mV
 rw[Am,R2,ais (C:=C),Am (C:=l5 b o t (j4 b o t [])),R2 (C:=j4 b o t [])]
 simp only[or_assoc]
theorem air {k:ar} {pb po pt:Option Obj} {c:Cf} {C:List Cf}:c∈fV k pb po pt C↔c∈C\/c∈fV k pb po pt []:=by
 have h1:c∈dG (k,gR) C↔c∈C\/c∈dG (k,gR) []:=by simp only[t6,rI,or_false];exact Or.comm
 unfold fV
 cases dX po pt||dX pt pb with
 |true=>simp
 |false=>
  cases dX po pb with
  |true=>simp
  |false=>
   simp only[cF]
   split
   ·rename_i b o t
    cases bD o.kind b.kind&&bD t.kind b.kind with
    |true=>exact aip
    |false=>exact h1
   ·exact h1
theorem T7 {id:ar}: ∀ {ks:List ar} {C:List Cf},C.Nodup->(og id ks C).Nodup
 | [],_C,h=>h
 |_k::ks,_C,h=>T7 (ks:=ks) (tz h)
theorem X9 {b o t:Obj} {C:List Cf} (h:C.Nodup):(mV b o t C).Nodup:=by
 refine T7 ?_
 have h1:(j4 b o t C).Nodup:=by
  unfold j4
  cases lj b o t with
  |none=>exact tz h
  |some _=>exact h
 unfold l5
 cases oW (b.x,b.y) (o.x,o.y) (t.x,t.y) with
 |true=>exact tz h1
 |false=>exact h1
theorem R4 {k:ar} {pb po pt:Option Obj} {C:List Cf} (h:C.Nodup):(fV k pb po pt C).Nodup:=by
 unfold fV
 cases dX po pt||dX pt pb with
 |true=>exact h
 |false=>
  cases dX po pb with
  |true=>exact h
  |false=>
   simp only[cF]
   split
   ·rename_i b o t
    cases bD o.kind b.kind&&bD t.kind b.kind with
    |true=>exact X9 h
    |false=>exact tz h
   ·exact tz h
structure wI (s1:St) (mu:Nat) (B O T:List (ar×aj)) (b o t:List Obj):Prop where
 pb: ∀k,fk s1 mu (at_ k B) (dq k b)
 po: ∀k,fk s1 mu (at_ k O) (dq k o)
 pt: ∀k,fk s1 mu (at_ k T) (dq k t)
 vb: ∀k,j7 (dq k b)
 vo: ∀k,j7 (dq k o)
 vt: ∀k,j7 (dq k t)
theorem fk.low {s s':St} {lim:Nat} {v:aj} {q:Option Obj} (h:fk s lim v q) (hs: ∀n,n<lim->s'.get [] n=s.get [] n):fk s' lim v q:=by
 cases h with
 |nil=>exact .nil
 |at_ h1 h2 h3=>exact .at_ h1 ((hs _ h1).trans h2) h3
theorem fk.put_map {s s':St} {lim lim' n c:Nat} {es:List db} {v:aj} {q:Option Obj} (h:fk s lim v q) (hn:s.get [] n=some (.map es c)) (hl:lim<=lim') (hs: ∀m,m<lim->m≠n->s'.get [] m=s.get [] m):fk s' lim' v q:=by
 cases h with
 |nil=>exact .nil
 |at_ h1 h2 h3=>
  refine .at_ (by omega) ((hs _ h1 ?_).trans h2) h3
  intro e;subst e;rw[hn] at h2;cases h2
structure Rs (s1 s:St) (x mb mo mt mu md:Nat) (B O T U:List (ar×aj)) (b o t:List Obj) (D:ar->Prop) (C:List Cf):Prop where
 mg:Mg s x mb mo mt mu md B O T U C
 low: ∀n,n<mu->s.get [] n=s1.get [] n
 val: ∀k v,look k U=some v-> ∃q,gM b o t k=some q/\fk s s.next v (some q)
 dom: ∀k,(look k U).isSome=true↔D k/\(gM b o t k).isSome=true
 nd:(U.map (·.1)).Nodup
 cnd:C.Nodup
 conf: ∀c,c∈C↔ ∃k,D k/\c∈kJ b o t k
theorem I6 (k:ar) (v:aj): ∀(L:List (ar×aj)) (a:ar),a∈(eG k v L).map (·.1)↔a=k\/a∈L.map (·.1)
 | [],a=>by simp[eG]
 |(b,u)::L,a=>by
  simp only[eG]
  cases h:k==b with
  |true=>
   have:k=b:=by simpa using h
   subst this
   simp
  |false=>
   simp only[cF,fw,om,I6 k v L a]
   constructor
   ·rintro(h|h|h)<;>simp[h]
   ·rintro(h|h|h)<;>simp[h]
theorem Dn {k:ar} {v:aj}: ∀ {L:List (ar×aj)},(L.map (·.1)).Nodup->((eG k v L).map (·.1)).Nodup
 | [],_=>by simp[eG]
 |(b,u)::L,h=>by
  simp only[fw,wB] at h
  simp only[eG]
  cases hb:k==b with
  |true=>
   have:k=b:=by simpa using hb
   subst this
   simp only[cT,fw,wB];exact h
  |false=>
   have hne:k≠b:=by simpa using hb
   simp only[cF,fw,wB,I6]
   exact⟨fun hc=>hc.elim (fun e=>hne e.symm) h.1,Dn h.2⟩
section
variable {s1 s s':St} {x mb mo mt mu md it:Nat} {B O T U:List (ar×aj)} {b o t:List Obj} {D D':ar->Prop} {C:List Cf}
theorem Rs.iff (r:Rs s1 s x mb mo mt mu md B O T U b o t D C) (h: ∀k,D k↔D' k):Rs s1 s x mb mo mt mu md B O T U b o t D' C:=by
 have:D=D':=funext fun k=>propext (h k)
 subst this;exact r
theorem Rs.put_it (r:Rs s1 s x mb mo mt mu md B O T U b o t D C) (hit:x<it) {m c:Nat} {seen:List Nat} (hi:s.get [] it=some (.iter (some m) c seen c)) {ob:bH} (hg: ∀n,s'.get [] n=(s.put it (some ob)).get [] n) (hn:s'.next=s.next) (hw:s'.minw=(s.put it none).minw):Rs s1 s' x mb mo mt mu md B O T U b o t D C:=by
 obtain⟨o1,o2,o3,o4,o5,o6⟩:=r.mg.ord
 have key: ∀n,n≠it->s'.get [] n=s.get [] n:=fun n h=>by
  rw[hg,cI,beq_eq_false_iff_ne.2 h];rfl
 have M:=r.mg
 refine⟨⟨(key _ (by omega)).trans M.hx,(key _ (by omega)).trans M.hb,(key _ (by omega)).trans M.ho,(key _ (by omega)).trans M.ht,(key _ (by omega)).trans M.hu,(key _ (by omega)).trans M.hd,?_,o1,o2,o3,o4,o5,by omega⟩,fun n h=>(key n (by omega)).trans (r.low n h),fun k v h=>?_,r.dom,r.nd,r.cnd,r.conf⟩
 ·rw[hw,hn];exact jJ s it none M.minw
 ·obtain⟨q,h1,h2⟩:=r.val k v h
  refine⟨q,h1,?_⟩
  cases h2 with
  |at_ a1 a2 a3=>
   refine .at_ (by omega) ((key _ ?_).trans a2) a3
   intro e;subst e;rw[hi] at a2;cases a2
theorem Rs.step (r:Rs s1 s x mb mo mt mu md B O T U b o t D C) {k:ar} {v:aj} (h:uJ s s' x mb mo mt mu md B O T U (fV k (dq k b) (dq k o) (dq k t) C) v (gM b o t k)):
 (v= .nilp->gM b o t k=none/\Rs s1 s' x mb mo mt mu md B O T U b o t (fun j=>D j\/j=k) (fV k (dq k b) (dq k o) (dq k t) C))/\
 (∀p,v= .ptr p 0->Rs s1 (s'.put mu (some (.map (cP 0 (eG k v U)) (eG k v U).length))) x mb mo mt mu md B O T (eG k v U) b o t (fun j=>D j\/j=k) (fV k (dq k b) (dq k o) (dq k t) C)):=by
 obtain⟨o1,o2,o3,o4,o5,o6⟩:=r.mg.ord
 have hn:=h.next
 have hval: ∀j u,look j U=some u-> ∃q,gM b o t j=some q/\fk s' s'.next u (some q):=fun j u hj=>by
  obtain⟨q,h1,h2⟩:=r.val j u hj
  exact⟨q,h1,h2.keep r.mg.hd hn fun n a c=>h.old n a c⟩
 have hconf: ∀c,c∈fV k (dq k b) (dq k o) (dq k t) C↔ ∃j,(D j\/j=k)/\c∈kJ b o t j:=fun c=>by
  rw[air,r.conf c]
  constructor
  ·rintro(⟨j,h1,h2⟩|h)
   ·exact⟨j,.inl h1,h2⟩
   ·exact⟨k,.inr rfl,h⟩
  ·rintro⟨j,h1|rfl,h2⟩
   ·exact .inl ⟨j,h1,h2⟩
   ·exact .inr h2
 refine⟨fun e=>?_,fun p e=>?_⟩
 ·subst e
  have hnone:gM b o t k=none:=by
   rcases h.pv.out with⟨_,h⟩|⟨p,o,h,_⟩
   ·exact h
   ·cases h
  refine⟨hnone,h.mg,fun n hl=>(h.old n (by omega) (by omega)).trans (r.low n hl),hval,fun j=>?_,r.nd,R4 r.cnd,hconf⟩
  rw[r.dom j]
  constructor
  ·rintro⟨h1,h2⟩;exact⟨.inl h1,h2⟩
  ·rintro⟨h1|rfl,h2⟩
   ·exact⟨h1,h2⟩
   ·rw[hnone] at h2;cases h2
 ·have M:=h.mg
  have key: ∀n ob,n≠mu->(s'.put mu ob).get [] n=s'.get [] n:=fun n ob hne=>by
   rw[cI,beq_eq_false_iff_ne.2 hne];rfl
  have hsome: ∃q,gM b o t k=some q/\fk s' s'.next v (some q):=by
   rcases h.pv.out with⟨h1,_⟩|⟨p',q,h1,h2,h3,h4,h5⟩
   ·rw[e] at h1;cases h1
   ·exact⟨q,h2,by rw[h1];exact .at_ h3 h4 h5⟩
  refine⟨⟨(key _ _ (by omega)).trans M.hx,(key _ _ (by omega)).trans M.hb,(key _ _ (by omega)).trans M.ho,(key _ _ (by omega)).trans M.ht,by rw[cI,bS];rfl,(key _ _ (by omega)).trans M.hd,jJ _ _ _ M.minw,o1,o2,o3,o4,o5,gu o6 hn⟩,fun n hl=>(key n _ (by omega)).trans ((h.old n (by omega) (by omega)).trans (r.low n hl)),fun j u hj=>?_,fun j=>?_,Dn r.nd,R4 r.cnd,hconf⟩
  ·rw[mm] at hj
   have tr: ∀ {q:Obj},fk s' s'.next u (some q)->fk (s'.put mu (some (.map (cP 0 (eG k v U)) (eG k v U).length))) s'.next u (some q):=fun hp=>hp.put_map M.hu (bB _) fun m _ hm=>key m _ hm
   cases hjk:j==k with
   |true=>
    rw[hjk] at hj
    injection hj with hj
    subst hj
    have:=eq_of_beq hjk
    subst this
    obtain⟨q,h1,h2⟩:=hsome
    exact⟨q,h1,tr h2⟩
   |false=>
    rw[hjk] at hj
    obtain⟨q,h1,h2⟩:=hval j u hj
    exact⟨q,h1,tr h2⟩
  ·rw[mm]
   cases hjk:j==k with
   |true=>
    have:=eq_of_beq hjk
    subst this
    obtain⟨q,h1,_⟩:=hsome
    simp[h1]
   |false=>
    have hne:j≠k:=beq_eq_false_iff_ne.1 hjk
    simp only[cF,r.dom j,hne,or_false]
end
theorem Ht (n:Nat):(aj.map n).cells=[.map n]:=rfl
section
variable {sp:FuncId->Option (List aj->Option aj)} {ch:Nat->Nat} (hS:uK sp)
 {s1:St} {x mb mo mt mu md:Nat} {B O T:List (ar×aj)} {b o t:List Obj} (c:wI s1 mu B O T b o t)
include hS c
theorem abd {it m:Nat} {L:List (ar×aj)} (hL:L.length<=1000000) (hit:x<it) (hm:m<mu) {lc:Ag.Loc}: ∀(n:Nat) (seen:List Nat) (e:bj) (s:St) (U:List (ar×aj)) (D:ar->Prop) (C:List Cf),(dx seen (cP 0 L)).length<=n->Rs s1 s x mb mo mt mu md B O T U b o t D C->It s it m L seen->it<s.next->ax e 62= .ptr it 0->ax e 8= .ptr x 0->
 W (QM sp ch) 9 (.loop xC) ⟨e,132,lc⟩ s fun y fr s'=>y= .exit 2/\ ∃e',fr=⟨e',132,lc⟩/\(ax e' 6=ax e 6/\ax e' 8= .ptr x 0/\ax e' 55=ax e 55/\ax e' 56=ax e 56/\ax e' 57=ax e 57)/\
   ∃U' C',Rs s1 s' x mb mo mt mu md B O T U' b o t (fun k=>D k\/ ∃en∈dx seen (cP 0 L),en.key= .str k) C':=by
 have hQc:(QM sp ch).ch=ch:=rfl
 have hQk:(QM sp ch).kmax=fun _=>1000000:=rfl
 have fin: ∀(seen:List Nat) (e:bj) (s:St) (U:List (ar×aj)) (D:ar->Prop) (C:List Cf),dx seen (cP 0 L)=[]->Rs s1 s x mb mo mt mu md B O T U b o t D C->It s it m L seen->ax e 62= .ptr it 0->ax e 8= .ptr x 0->
  W (QM sp ch) 9 (.loop xC) ⟨e,132,lc⟩ s fun y fr s'=>y= .exit 2/\ ∃e',fr=⟨e',132,lc⟩/\(ax e' 6=ax e 6/\ax e' 8= .ptr x 0/\ax e' 55=ax e 55/\ax e' 56=ax e 56/\ax e' 57=ax e 57)/\
    ∃U' C',Rs s1 s' x mb mo mt mu md B O T U' b o t (fun k=>D k\/ ∃en∈dx seen (cP 0 L),en.key= .str k) C':=by
  intro seen e s U D C h0 r i h62 h8
  have hd:=i.done ch (fun _=>1000000) h0
  refine cR ?_
  unfold xC
  refine aF ?_
  unfold EV
  simp only[az,aA,aB,ai,jD,ak,aD,aw,bU,aq,dW,cT,bS,tA,au,pO,h62,hQc,hQk,hd,iE,gg]
  refine aR (bc (t:=false) (by simp only[ak,ai,ah,cT,cF]) ?_)
  refine eD ⟨rfl,_,rfl,⟨?_,?_,?_,?_,?_⟩,U,C,r.iff fun k=>?_⟩
  ·simp only[ai,ah,cF]
  ·simp only[ai,ah,cF,h8]
  ·simp only[ai,ah,cF]
  ·simp only[ai,ah,cF]
  ·simp only[ai,ah,cF]
  ·rw[h0];simp
 intro n
 induction n with
 |zero=>
  intro seen e s U D C hn r i _ h62 h8
  exact fin seen e s U D C (List.eq_nil_of_length_eq_zero (Nat.le_zero.1 hn)) r i h62 h8
 |succ n ih=>
  intro seen e s U D C hn r i hits h62 h8
  by_cases h0:dx seen (cP 0 L)=[]
  ·exact fin seen e s U D C h0 r i h62 h8
  ·obtain⟨en,s2,hen,hnx,hg,hnn,hw,hci⟩:=i.step ch (fun _=>1000000) (fun _=>hL) h0
   have r2:=r.put_it hit i.hi hg hnn hw
   have hmem:=(nX.1 hen).1
   obtain⟨k,v,hkey,_,_⟩:=Ct L 0 en hmem
   obtain⟨q1,q2,q3,q4,q5,q6⟩:=r.mg.ord
   have i2:It s2 it m L (seen++[en.born]):=⟨by rw[hg,cI,bS];rfl,by rw[hg,cI,beq_eq_false_iff_ne.2 (by omega:m≠it)];exact i.hm⟩
   have hent:=i2.entry hmem
   have hless:=Bb hen
   rw[hkey] at hnx hent
   obtain⟨v,s3,hcall,hout⟩:=ait (ch:=ch) hS r2.mg (id:=k) ((c.pb k).low r2.low) ((c.po k).low r2.low) ((c.pt k).low r2.low) (c.vb k) (c.vo k) (c.vt k)
   obtain⟨st1,st2⟩:=r2.step hout
   have hcl:=(hout.pv.pv fun _ _=>rfl).clean
   have n3:=hout.next
   have i3:It s3 it m L (seen++[en.born]):=⟨(hout.old it (by omega) (by omega)).trans i2.hi,(hout.old m (by omega) (by omega)).trans i2.hm⟩
   have hD: ∀j,((D j\/j=k)\/ ∃e'∈dx (seen++[en.born]) (cP 0 L),e'.key= .str j)↔(D j\/ ∃e'∈dx seen (cP 0 L),e'.key= .str j):=fun j=>by
    constructor
    ·rintro((h|rfl)|⟨e',h1,h2⟩)
     ·exact .inl h
     ·exact .inr ⟨en,hen,hkey⟩
     ·refine .inr ⟨e',nX.2 ⟨(nX.1 h1).1,fun hc=>(nX.1 h1).2 (by simp[hc])⟩,h2⟩
    ·rintro(h|⟨e',h1,h2⟩)
     ·exact .inl (.inl h)
     ·by_cases hb:e'.born=en.born
      ·have a1:=y5 L 0 e' (nX.1 h1).1
       have a2:=y5 L 0 en hmem
       rw[hb,a2] at a1
       replace a1:=Option.some.inj a1
       rw[<-a1,hkey] at h2
       exact .inl (.inr (aj.str.inj h2).symm)
      ·exact .inr ⟨e',nX.2 ⟨(nX.1 h1).1,fun hc=>by
        rcases List.mem_append.1 hc with hc|hc
        ·exact(nX.1 h1).2 hc
        ·exact hb (by simpa using hc)⟩,h2⟩
   refine cR ?_
   unfold xC
   refine aF ?_
   unfold EV
   simp only[az,aA,aB,ai,jD,ak,aD,aw,bU,aq,dW,cT,bS,tA,au,pO,h62,hQc,hQk,hnx,iE,gg]
   refine aR (bc (t:=true) (by simp only[ak,ai,ah,cT,cF]) (ck ?_))
   simp only[aU]
   refine cO (aF ?_)
   unfold Rg
   simp only[az,aA,aB,ai,aN,jD,ak,aD,aw,aq,dW,cT,cF,bS,tA,ah,au,AF,h62,hent,iE,gg]
   refine aR (gh (fU 2 ?_))
   unfold QU
   simp only[az,aA,aB,ai,aH,ak,aw,cT,cF,bN,a7,bS,tA,ah,au,h8]
   refine fY (g:=24) (args:=[.ptr x 0,.str k]) ?_ hcall (by decide) ?_
   ·simp only[callee,ai,ak,ff,aD,bk,bm,aq,cS,dW,cT,cF,cq,cH,bS,ah]
   refine fX ?_
   simp only[az,aA,aB,ai,aN,ak,aw,cT,cF,bS,tA,ah,au,aU]
   refine aF ?_
   unfold QV
   rcases hout.pv.out with⟨ev0,_⟩|⟨p,q,ev0,_⟩
   ·obtain⟨_,r3⟩:=st1 ev0
    simp only[az,aA,aB,ai,aH,aX,ak,aK,aD,aw,aq,cT,cF,bF,bS,tA,ah,au,ev0,iP,iU,uc]
    refine bc (t:=false) (by simp only[ak,ai,ah,cT,cF]) (ck ?_)
    simp only[dP,aU]
    refine(ih (seen++[en.born]) _ s3 U _ _ (by omega) r3 i3 (by omega) ?_ ?_).mono ?_
    ·simp only[ai,ah,cF,h62]
    ·simp only[ai,ah,cF,h8]
    rintro y fr s' ⟨rfl,e',rfl,⟨g1,g2,g3,g4,g5⟩,U',C',r'⟩
    refine⟨rfl,e',rfl,⟨g1.trans ?_,g2,g3.trans ?_,g4.trans ?_,g5.trans ?_⟩,U',C',r'.iff hD⟩
    all_goals simp only[ai,ah,cF]
   ·have r3:=st2 p ev0
    have hup:=yo sd Ap hout.mg.hu k v
    have hx3:=hout.mg.hx
    rw[ev0] at hup r3
    have i4:It (s3.put mu (some (.map (cP 0 (eG k (.ptr p 0) U)) (eG k (.ptr p 0) U).length))) it m L (seen++[en.born]):=⟨by rw[cI,beq_eq_false_iff_ne.2 (by omega)];exact i3.hi,by rw[cI,beq_eq_false_iff_ne.2 (by omega)];exact i3.hm⟩
    simp only[az,aA,aB,ai,aH,aX,ak,aK,aD,aw,aq,dW,cT,cF,bF,bS,tA,ah,au,ev0,iP,iU,rp]
    refine bc (t:=true) (by simp only[ak,ai,ah,cT,cF]) (b7 ?_)
    unfold QW
    simp only[az,aA,ej,aB,ep,ai,aH,bo,bZ,ua,fI,ak,aD,aw,ui,aq,cS,dW,fZ,cT,cF,bF,a7,bO,bS,tA,aQ,ah,au,se,nc,h8,fG,dv,hx3,du,hup,dP,aU]
    refine(ih (seen++[en.born]) _ _ (eG k (.ptr p 0) U) _ _ (by omega) r3 i4 (gu (by omega) n3) ?_ ?_).mono ?_
    ·simp only[ai,ah,cF,h62]
    ·simp only[ai,ah,cF,h8]
    rintro y fr s' ⟨rfl,e',rfl,⟨g1,g2,g3,g4,g5⟩,U',C',r'⟩
    refine⟨rfl,e',rfl,⟨g1.trans ?_,g2,g3.trans ?_,g4.trans ?_,g5.trans ?_⟩,U',C',r'.iff hD⟩
    all_goals simp only[ai,ah,cF]
end
section
variable {sp:FuncId->Option (List aj->Option aj)} {ch:Nat->Nat} (hS:uK sp)
 {s1:St} {x mb mo mt mu md:Nat} {B O T:List (ar×aj)} {b o t:List Obj} (c:wI s1 mu B O T b o t)
include hS c
theorem ajO {lc:Ag.Loc} {ms:List (Nat×List (ar×aj))} {rt:fD} (hsm:ms.length<=1000) (hms: ∀p∈ms,p.1<mu/\p.2.length<=1000000/\s1.get [] p.1=some (.map (cP 0 p.2) p.2.length)): ∀(rest pre:List (Nat×List (ar×aj))) (e:bj) (s:St) (U:List (ar×aj)) (D:ar->Prop) (C:List Cf),ms=pre++rest->Rs s1 s x mb mo mt mu md B O T U b o t D C->
 ax e 8= .ptr x 0->ax e 55= .list 1 (ms.map fun p=>.map p.1) rt->ax e 56= .int .i64 (ms.length:Nat)->ax e 57= .int .i64 (pre.length:Nat)->
 W (QM sp ch) 9 (.loop zZ) ⟨e,132,lc⟩ s fun y fr s'=>y= .exit 0/\ ∃e',fr=⟨e',132,lc⟩/\(ax e' 6=ax e 6/\ax e' 8= .ptr x 0)/\
   ∃U' C',Rs s1 s' x mb mo mt mu md B O T U' b o t (fun k=>D k\/ ∃p∈rest,k∈p.2.map (·.1)) C':=by
 intro rest
 induction rest with
 |nil=>
  intro pre e s U D C hpre r h8 h55 h56 h57
  have hl:ms.length=pre.length:=by rw[hpre];simp
  refine cR ?_
  unfold zZ
  refine aF ?_
  unfold EU
  simp only[az,aA,aB,aX,ak,aD,aw,cQ,aq,bf,cT,bF,da,tA,au,decide_false,h56,h57,hl,eU]
  refine aR (bc (t:=false) (by simp only[ak,ai,ah,cT]) ?_)
  refine eD ⟨rfl,_,rfl,⟨?_,?_⟩,U,C,r.iff fun k=>by simp⟩
  ·simp only[ai,ah,cF]
  ·simp only[ai,ah,cF,h8]
 |cons p rest ih=>
  intro pre e s U D C hpre r h8 h55 h56 h57
  obtain⟨m,L⟩:=p
  have hlt:pre.length<ms.length:=by rw[hpre];simp
  have hat:(ms.map fun p=>aj.map p.1)[pre.length]? =some (.map m):=by rw[hpre];simp
  obtain⟨hm,hL,hs⟩:=hms (m,L) (by rw[hpre];simp)
  have hm:m<mu:=hm
  have hL:L.length<=1000000:=hL
  have hs:s.get [] m=some (.map (cP 0 L) L.length):=(r.low m hm).trans hs
  have hr:=akc hs
  have hn:=Se hat
  have hwr:IntKind.i64.wrap ((pre.length:Int)+1)=((pre.length+1:Nat):Int):=by rw[ew (by omega) (by omega)];omega
  obtain⟨o1,o2,o3,o4,o5,o6⟩:=r.mg.ord
  have hg2: ∀n,n<s.next->(s.new (.iter (some m) L.length [] L.length)).get [] n=s.get [] n:=fun n h=>by
   rw[df,beq_eq_false_iff_ne.2 (by omega:n≠s.next)];rfl
  have M:=r.mg
  have r2:Rs s1 (s.new (.iter (some m) L.length [] L.length)) x mb mo mt mu md B O T U b o t D C:=by
   refine⟨M.grow ((hg2 md (by omega)).trans M.hd) (fun n h _=>hg2 n h) (Nat.le_succ _) (kC M.minw),fun n h=>(hg2 n (by omega)).trans (r.low n h),fun k v h=>?_,r.dom,r.nd,r.cnd,r.conf⟩
   obtain⟨q,a1,a2⟩:=r.val k v h
   exact⟨q,a1,a2.keep M.hd (Nat.le_succ _) fun n h _=>hg2 n h⟩
  have i2:It (s.new (.iter (some m) L.length [] L.length)) s.next m L []:=⟨by rw[df,bS];rfl,by rw[hg2 _ (by omega)];exact hs⟩
  have hun: ∀es:List db,dx [] es=es:=fun es=>by simp[dx]
  refine cR ?_
  unfold zZ
  refine aF ?_
  unfold EU
  simp only[az,aA,aB,aX,ak,aD,aw,cQ,aq,bf,cT,bF,da,tA,au,dT,h56,h57,hlt]
  refine aR (bc (t:=true) (by simp only[ak,ai,ah,cT]) (ck ?_))
  simp only[aU]
  refine aR (cO (aF ?_))
  unfold Re
  simp only[az,aA,aB,ai,aN,bo,ek,ak,fQ,sF,aw,aq,cT,cF,bF,a7,bO,bS,tA,ah,au,i9,aZ,dl,dT,nc,aa6,h55,h57,eH,hlt,hn,Ht]
  refine aF ?_
  unfold Rf
  simp only[az,aA,aB,ai,aH,ak,aD,aw,bU,aq,fZ,cT,cF,bF,bS,tA,ah,au,AG,hr]
  refine cO ?_
  refine(abd hS c hL (it:=s.next) o6 hm L.length [] _ _ U D C (by rw[hun,qY];exact bB _) r2 i2 (io _) ?_ ?_).mono ?_
  ·simp only[ai,ah,cT,cF]
  ·simp only[ai,ah,cF,h8]
  rintro y fr s' ⟨rfl,e',rfl,⟨g1,g2,g3,g4,g5⟩,U',C',r'⟩
  simp only[ai,ah,cF,h55,h56,h57] at g1 g3 g4 g5
  show W (QM sp ch) 9 _ _ _ _
  refine b7 ?_
  unfold QX
  simp only[az,aA,aB,ai,aH,aX,ak,aK,aD,bt,aw,dZ,aq,bf,cT,bF,bS,tA,au,g5,hwr,aU]
  refine(ih (pre++[(m,L)]) _ s' U' _ C' (by rw[hpre];simp) r' ?_ ?_ ?_ ?_).mono ?_
  ·simp only[ai,ah,cF,g2]
  ·simp only[ai,ah,cF,g3]
  ·simp only[ai,ah,cF,g4]
  ·simp only[ai,ah,cT,cF,dp,aP,aW]
  rintro y fr s'' ⟨rfl,e'',rfl,⟨w1,w2⟩,U'',C'',r''⟩
  refine⟨rfl,e'',rfl,⟨w1.trans ?_,w2⟩,U'',C'',r''.iff fun k=>?_⟩
  ·simp only[ai,ah,cF,g1]
  ·rw[hun]
   have hk:(∃en∈cP 0 L,en.key= .str k)↔k∈L.map (·.1):=by
    constructor
    ·rintro⟨en,h1,h2⟩
     obtain⟨k',v,a1,_,a3⟩:=Ct L 0 en h1
     rw[a1] at h2
     have:=aj.str.inj h2
     subst this
     exact List.mem_map.2 ⟨_,a3,rfl⟩
    ·intro h
     obtain⟨⟨k',v⟩,h1,rfl⟩:=List.mem_map.1 h
     exact H3 L 0 k' v h1
   rw[hk]
   simp only[om,exists_eq_or_imp,or_assoc]
end
def iY (b o t:List Obj) (k:ar):Option Obj:=match dq k b with
 |some q=>some q
 |none=>ko (dq k o) (dq k t)
def fS (b o t:List Obj) (k:ar):Option Obj:=match gM b o t k with
 |some q=>some q
 |none=>iY b o t k
inductive Reach (b o t:List Obj):ar->Prop
 |of {k id:ar} {q:Obj}:gM b o t k=some q->id∈q.refs->gM b o t id=none->(iY b o t id).isSome=true->Reach b o t id
 |step {k id:ar} {q:Obj}:Reach b o t k->iY b o t k=some q->id∈q.refs->gM b o t id=none->(iY b o t id).isSome=true->Reach b o t id
theorem Reach.no {b o t:List Obj} {k:ar} (h:Reach b o t k):gM b o t k=none/\(iY b o t k).isSome=true:=by
 cases h with
 |of _ _ h1 h2=>exact⟨h1,h2⟩
 |step _ _ _ h1 h2=>exact⟨h1,h2⟩
def ji (b o t:List Obj) (k:ar):Prop:=(gM b o t k).isSome=true\/Reach b o t k
theorem ji.next {b o t:List Obj} {k id:ar} {q:Obj} (h:ji b o t k) (hq:fS b o t k=some q) (hid:id∈q.refs) (h1:gM b o t id=none) (h2:(iY b o t id).isSome=true):Reach b o t id:=by
 rcases h with h|h
 ·obtain⟨q',hq'⟩:=Option.isSome_iff_exists.1 h
  simp only[fS,hq'] at hq
  injection hq with hq;subst hq
  exact .of hq' hid h1 h2
 ·have hn:=h.no.1
  simp only[fS,hn] at hq
  exact .step h hq hid h1 h2
def ec (b o t:List Obj):List ar:=b.map (·.id)++(o.map (·.id)++t.map (·.id))
theorem Fv {b o t:List Obj} {k:ar} (h:(iY b o t k).isSome=true):k∈ec b o t:=by
 unfold iY at h
 unfold ec
 cases hb:dq k b with
 |some q=>exact List.mem_append.2 (.inl (xU.1 (by rw[hb];simp)))
 |none=>
  rw[hb] at h
  cases ho:dq k o with
  |some q=>exact List.mem_append.2 (.inr (List.mem_append.2 (.inl (xU.1 (by rw[ho];simp)))))
  |none=>
   cases ht:dq k t with
   |some q=>exact List.mem_append.2 (.inr (List.mem_append.2 (.inr (xU.1 (by rw[ht];simp)))))
   |none=>rw[ho,ht] at h;cases h
def qs (b o t:List Obj) (U:List (ar×aj)):Nat:=((ec b o t).filter fun k=>(look k U).isNone).length
theorem aim {b o t:List Obj} {U U':List (ar×aj)} (h: ∀j,(look j U).isSome=true->(look j U').isSome=true):qs b o t U'<=qs b o t U:=by
 unfold qs
 rw[<-List.countP_eq_length_filter,<-List.countP_eq_length_filter]
 refine List.countP_mono_left fun j _ hj=>?_
 cases hu:look j U with
 |none=>rfl
 |some v=>
  have:=h j (by rw[hu];rfl)
  cases hu':look j U' with
  |none=>rw[hu'] at this;cases this
  |some _=>simp[hu'] at hj
theorem ail {b o t:List Obj} {U:List (ar×aj)} {id:ar} {v:aj} (h1:id∈ec b o t) (h2:look id U=none):qs b o t (eG id v U)<qs b o t U:=by
 unfold qs
 have hsub: ∀l:List ar,l.filter (fun k=>(look k (eG id v U)).isNone)=(l.filter fun k=>(look k U).isNone).filter fun k=> !(k==id):=by
  intro l
  rw[List.filter_filter]
  congr 1
  funext k
  rw[mm]
  cases hk:k==id with
  |true=>simp
  |false=>simp
 rw[hsub]
 refine Nat.lt_of_le_of_ne (qO _ _) fun hc=>?_
 have:=List.length_filter_eq_length_iff.1 hc id (List.mem_filter.2 ⟨h1,by rw[h2];rfl⟩)
 simp at this
structure Rn (s1 s:St) (x mb mo mt mu md:Nat) (B O T U:List (ar×aj)) (b o t:List Obj) (C:List Cf):Prop where
 mg:Mg s x mb mo mt mu md B O T U C
 low: ∀n,n<mu->s.get [] n=s1.get [] n
 val: ∀k v,look k U=some v-> ∃q,fS b o t k=some q/\fk s s.next v (some q)
 base: ∀k,(gM b o t k).isSome=true->(look k U).isSome=true
 new: ∀k,(look k U).isSome=true->ji b o t k
 nd:(U.map (·.1)).Nodup
 cnd:C.Nodup
 conf: ∀c,c∈C↔(∃k,c∈kJ b o t k)\/ ∃k,(look k U).isSome=true/\gM b o t k=none/\c=(k,gR)
theorem Hv {b o t:List Obj} {k:ar} (hb:dq k b=none) (ho:dq k o=none) (ht:dq k t=none):kJ b o t k=[]/\gM b o t k=none:=by
 unfold kJ gM
 rw[hb,ho,ht]
 exact⟨rfl,rfl⟩
theorem Rs.rn {s1 s:St} {x mb mo mt mu md:Nat} {B O T U:List (ar×aj)} {b o t:List Obj} {D:ar->Prop} {C:List Cf} (r:Rs s1 s x mb mo mt mu md B O T U b o t D C) (hD: ∀k,D k↔k∈ec b o t):Rn s1 s x mb mo mt mu md B O T U b o t C:=by
 have out: ∀k, ¬D k->kJ b o t k=[]/\gM b o t k=none:=fun k h=>by
  rw[hD] at h
  simp only[ec,rG,not_or] at h
  have nn: ∀ {l:List Obj},k ∉ l.map (·.id)->dq k l=none:=fun {l} hn=>by
   cases ho:dq k l with
   |none=>rfl
   |some q=>exact absurd (xU.1 (by rw[ho];simp)) hn
  exact Hv (nn h.1) (nn h.2.1) (nn h.2.2)
 have hin: ∀k,(gM b o t k).isSome=true->D k:=fun k h=>lW fun hc=>by rw[(out k hc).2] at h;cases h
 refine⟨r.mg,r.low,fun k v h=>?_,fun k h=>(r.dom k).2 ⟨hin k h,h⟩,fun k h=>.inl ((r.dom k).1 h).2,r.nd,r.cnd,fun c=>?_⟩
 ·obtain⟨q,h1,h2⟩:=r.val k v h
  exact⟨q,by simp only[fS,h1],h2⟩
 ·rw[r.conf c]
  constructor
  ·rintro⟨k,_,h⟩;exact .inl ⟨k,h⟩
  ·rintro(⟨k,h⟩|⟨k,h1,h2,_⟩)
   ·exact⟨k,lW fun hc=>(by rw[(out k hc).1] at h;cases h),h⟩
   ·have:=((r.dom k).1 h1).2
    rw[h2] at this;cases this
section
variable {s1 s s':St} {x mb mo mt mu md:Nat} {B O T U:List (ar×aj)} {b o t:List Obj} {C:List Cf}
theorem Rn.add (r:Rn s1 s x mb mo mt mu md B O T U b o t C) {id:ar} {p:Nat} {q:Obj} (hU:look id U=none) (hq:iY b o t id=some q) (hp:fk s s.next (.ptr p 0) (some q)) (hR:Reach b o t id)
 (hg: ∀n,s'.get [] n=((s.put mu (some (.map (cP 0 (eG id (.ptr p 0) U)) (eG id (.ptr p 0) U).length))).put md (some (.map (eW 0 (dG (id,gR) C)) (dG (id,gR) C).length))).get [] n) (hn:s'.next=s.next) (hm:s'.minw<=s'.next):
 Rn s1 s' x mb mo mt mu md B O T (eG id (.ptr p 0) U) b o t (dG (id,gR) C)/\(∀n,n≠mu->n≠md->s'.get [] n=s.get [] n):=by
 obtain⟨o1,o2,o3,o4,o5,o6⟩:=r.mg.ord
 have key: ∀n,n≠mu->n≠md->s'.get [] n=s.get [] n:=fun n h1 h2=>by
  rw[hg,cI,beq_eq_false_iff_ne.2 h2,cF,cI,beq_eq_false_iff_ne.2 h1];rfl
 have tr: ∀ {v:aj} {q:Obj},fk s s.next v (some q)->fk s' s'.next v (some q):=fun h=>by
  cases h with
  |at_ a1 a2 a3=>
   refine .at_ (by omega) ((key _ ?_ ?_).trans a2) a3
   ·intro e;subst e;rw[r.mg.hu] at a2;cases a2
   ·intro e;subst e;rw[r.mg.hd] at a2;cases a2
 have hmg:=hR.no.1
 have M:=r.mg
 refine⟨⟨⟨(key _ (by omega) (by omega)).trans M.hx,(key _ (by omega) (by omega)).trans M.hb,(key _ (by omega) (by omega)).trans M.ho,(key _ (by omega) (by omega)).trans M.ht,?_,?_,hm,o1,o2,o3,o4,o5,by omega⟩,fun n h=>(key n (by omega) (by omega)).trans (r.low n h),fun k v hk=>?_,fun k hk=>?_,fun k hk=>?_,Dn r.nd,tz r.cnd,fun c=>?_⟩,key⟩
 ·rw[hg,cI,beq_eq_false_iff_ne.2 (by omega),cF,cI,bS];rfl
 ·rw[hg,cI,bS];rfl
 ·rw[mm] at hk
  cases hjk:k==id with
  |true=>
   rw[hjk] at hk
   injection hk with hk;subst hk
   have:=eq_of_beq hjk
   subst this
   exact⟨q,by simp only[fS,hmg,hq],tr hp⟩
  |false=>
   rw[hjk] at hk
   obtain⟨q',h1,h2⟩:=r.val k v hk
   exact⟨q',h1,tr h2⟩
 ·rw[mm]
  cases k==id with
  |true=>rfl
  |false=>exact r.base k hk
 ·rw[mm] at hk
  cases hjk:k==id with
  |true=>rw[eq_of_beq hjk];exact .inr hR
  |false=>rw[hjk] at hk;exact r.new k hk
 ·rw[t6,r.conf c]
  constructor
  ·rintro(rfl|h|⟨k,h1,h2,h3⟩)
   ·exact .inr ⟨id,by rw[mm,bS];rfl,hmg,rfl⟩
   ·exact .inl h
   ·refine .inr ⟨k,?_,h2,h3⟩
    rw[mm]
    cases k==id<;>first|rfl|exact h1
  ·rintro(h|⟨k,h1,h2,h3⟩)
   ·exact .inr (.inl h)
   ·rw[mm] at h1
    cases hjk:k==id with
    |true=>rw[eq_of_beq hjk] at h3;exact .inl h3
    |false=>rw[hjk] at h1;exact .inr (.inr ⟨k,h1,h2,h3⟩)
end
section
variable {sp:FuncId->Option (List aj->Option aj)} {ch:Nat->Nat} (hS:uK sp) (h27:sp 27=none)
 {s1:St} {x mb mo mt mu md:Nat} {B O T:List (ar×aj)} {b o t:List Obj} (c:wI s1 mu B O T b o t)
structure Nd (s1 s s':St) (x mb mo mt mu md:Nat) (B O T U U':List (ar×aj)) (b o t:List Obj) (C':List Cf) (ids:List ar):Prop where
 rn:Rn s1 s' x mb mo mt mu md B O T U' b o t C'
 sub: ∀j,(look j U).isSome=true->(look j U').isSome=true
 refs: ∀id∈ids,(fS b o t id).isSome=true->(look id U').isSome=true
 clo: ∀j q,(look j U').isSome=true->look j U=none->fS b o t j=some q-> ∀id∈q.refs,(fS b o t id).isSome=true->(look id U').isSome=true
 old: ∀n,n<s.next->n≠mu->n≠md->s'.get [] n=s.get [] n
 next:s'.next=s.next
def GN (sp:FuncId->Option (List aj->Option aj)) (ch:Nat->Nat) (s1:St) (x mb mo mt mu md:Nat) (B O T:List (ar×aj)) (b o t:List Obj) (N:Nat):Prop:=
 ∀(s:St) (U:List (ar×aj)) (C:List Cf) (k:ar) (q:Obj) (p:Nat),Rn s1 s x mb mo mt mu md B O T U b o t C->qs b o t U<=N->ji b o t k->fS b o t k=some q->fk s s.next (.ptr p 0) (some q)->
  ∃s' U' C',bz (QM sp ch) 27 [.ptr x 0,.ptr p 0] s (jQ []) s'/\Nd s1 s s' x mb mo mt mu md B O T U U' b o t C' q.refs
include hS c
theorem aiU {N:Nat} (ih: ∀M,M<N->GN sp ch s1 x mb mo mt mu md B O T b o t M) {k:ar} {ob:Obj} (hk:ji b o t k) (hv:fS b o t k=some ob) (hg:ob.Good) {lc:Ag.Loc}: ∀(rest pre:List ar) (e:bj) (s:St) (U:List (ar×aj)) (C:List Cf),ob.refs=pre++rest->Rn s1 s x mb mo mt mu md B O T U b o t C->qs b o t U<=N->
 ax e 0= .ptr x 0->ax e 10=ob.refsV->ax e 11= .int .i64 (ob.refs.length:Nat)->ax e 12= .int .i64 (pre.length:Nat)->
 W (QM sp ch) 27 (.loop xr) ⟨e,59,lc⟩ s fun y _fr s'=>y= .exit 0/\ ∃U' C',Nd s1 s s' x mb mo mt mu md B O T U U' b o t C' rest:=by
 intro rest
 have hcl:=hg.refs.clean
 have hsm:small=9223372036854775808:=rfl
 have hrl:=hg.reflen
 induction rest with
 |nil=>
  intro pre e s U C hpre r hN h0 h10 h11 h12
  have hl:ob.refs.length=pre.length:=by rw[hpre];simp
  refine cR ?_
  unfold xr
  refine aF ?_
  unfold DT
  simp only[az,aA,aB,aX,ak,aD,aw,cQ,aq,bf,cT,bF,da,tA,au,decide_false,h11,h12,hl,eU]
  refine aR (bc (t:=false) (by simp only[ak,ai,ah,cT]) ?_)
  exact eD ⟨rfl,U,C,r,fun _ h=>h,fun id h=>(by cases h),fun j q h1 h2=>(by rw[h2] at h1;cases h1),fun _ _ _ _=>rfl,rfl⟩
 |cons id rest ihr=>
  intro pre e s U C hpre r hN h0 h10 h11 h12
  have hlt:pre.length<ob.refs.length:=by rw[hpre];simp
  have hat:ob.refs[pre.length]? =some id:=by rw[hpre];simp
  have hmem:id∈ob.refs:=by rw[hpre];simp
  have hia:=fun lc=>hg.refs.at lJ hat lc .i64
  have M:=r.mg
  have hx:=M.hx
  have hm:=M.minw
  obtain⟨o1,o2,o3,o4,o5,o6⟩:=M.ord
  have hwr:IntKind.i64.wrap ((pre.length:Int)+1)=((pre.length+1:Nat):Int):=by rw[ew (by omega) (by omega)];omega
  have go: ∀(e2:bj) (s2:St) (U2:List (ar×aj)) (C2:List Cf),Rn s1 s2 x mb mo mt mu md B O T U2 b o t C2->(∀j,(look j U).isSome=true->(look j U2).isSome=true)->((fS b o t id).isSome=true->(look id U2).isSome=true)->(∀j q,(look j U2).isSome=true->look j U=none->fS b o t j=some q-> ∀i∈q.refs,(fS b o t i).isSome=true->(look i U2).isSome=true)->(∀n,n<s.next->n≠mu->n≠md->s2.get [] n=s.get [] n)->s2.next=s.next->
   ax e2 0= .ptr x 0->ax e2 10=ob.refsV->ax e2 11= .int .i64 (ob.refs.length:Nat)->ax e2 12= .int .i64 ((pre.length+1:Nat):Int)->
   W (QM sp ch) 27 (.loop xr) ⟨e2,59,lc⟩ s2 fun y fr s'=>y= .exit 0/\ ∃U' C',Nd s1 s s' x mb mo mt mu md B O T U U' b o t C' (id::rest):=by
   intro e2 s2 U2 C2 r2 sub2 ref2 clo2 old2 n2 g0 g10 g11 g12
   refine W.mono (ihr (pre++[id]) e2 s2 U2 C2 (by rw[hpre];simp) r2 (fW (aim sub2) hN) g0 g10 g11 (by rw[g12,dp];rfl)) ?_
   rintro y fr s' ⟨rfl,U',C',nd⟩
   refine⟨rfl,U',C',nd.rn,fun j h=>nd.sub j (sub2 j h),fun i hi hvi=>?_,fun j q h1 h2 h3 i hi hvi=>?_,fun n h1 h2 h3=>(nd.old n (by omega) h2 h3).trans (old2 n h1 h2 h3),nd.next.trans n2⟩
   ·rcases List.mem_cons.1 hi with rfl|hi
    ·exact nd.sub _ (ref2 hvi)
    ·exact nd.refs i hi hvi
   ·cases hj:look j U2 with
    |none=>exact nd.clo j q h1 hj h3 i hi hvi
    |some v=>exact nd.sub i (clo2 j q (by rw[hj];rfl) h2 h3 i hi hvi)
  refine cR ?_
  unfold xr
  refine aF ?_
  unfold DT
  simp only[az,aA,aB,aX,ak,aD,aw,cQ,aq,bf,cT,bF,da,tA,au,dT,h11,h12,hlt]
  refine aR (bc (t:=true) (by simp only[ak,ai,ah,cT]) (ck ?_))
  simp only[aU]
  refine aR (cO (aF ?_))
  unfold MN
  simp only[az,aA,aB,ai,aN,bo,ek,ak,fQ,aw,kV,aq,cT,cF,bF,a7,bO,bS,tA,ah,au,dH,h10,h12,hia,bu,fQ]
  refine aR (W.sseq (b7 ?_))
  unfold MO
  have hlk:=rb M.hu id
  cases hU:look id U with
  |some v=>
   obtain⟨q,v1,v2⟩:=r.val id v hU
   rcases v2.out with⟨_,v3⟩|⟨p,_,v3,_⟩
   ·cases v3
   have hat_:at_ id U= .ptr p 0:=by simp only[at_,hU,pc,v3]
   rw[hat_] at hlk
   simp only[az,aA,aB,ai,aH,bo,aX,bZ,lQ,fI,ak,aK,aD,aw,aq,cS,dW,fZ,cT,cF,bF,a7,bO,bS,tA,aQ,ah,au,se,nc,h0,fG,dv,hx,du,hlk,iP,iU,rp,aU]
   refine bc (t:=true) (by simp only[ak,ai,ah,cT,cF]) (eD ?_)
   show W (QM sp ch) 27 _ _ _ _
   refine b7 ?_
   unfold zy
   simp only[az,aA,aB,ai,aH,aX,ak,aK,aD,bt,aw,dZ,aq,bf,cT,cF,bF,bS,tA,ah,au,h12,hwr,aU]
   refine go _ s U C r (fun _ h=>h) (fun _=>by rw[hU];rfl) (fun j q h1 h2=>(by rw[h2] at h1;cases h1)) (fun _ _ _ _=>rfl) rfl ?_ ?_ ?_ ?_
   ·simp only[ai,ah,cF,h0]
   ·simp only[ai,ah,cF,h10]
   ·simp only[ai,ah,cF,h11]
   ·simp only[ai,ah,cT,cF]
  |none=>
   have hmg:gM b o t id=none:=by
    cases h:gM b o t id with
    |none=>rfl
    |some q=>
     have:=r.base id (by rw[h];rfl)
     rw[hU] at this;cases this
   have hval:fS b o t id=iY b o t id:=by simp only[fS,hmg]
   have hat_:at_ id U= .nilp:=by simp only[at_,hU,Option.getD_none]
   rw[hat_] at hlk
   have take: ∀(e2:bj) (v:aj),ax e2 6=v->fk s s.next v (iY b o t id)->ax e2 0= .ptr x 0->ax e2 5= .str id->ax e2 10=ob.refsV->ax e2 11= .int .i64 (ob.refs.length:Nat)->ax e2 12= .int .i64 (pre.length:Nat)-> ∀KK:Ex->Fr->St->Prop,
    (∀(e3:bj) (s2:St) (U2:List (ar×aj)) (C2:List Cf),Rn s1 s2 x mb mo mt mu md B O T U2 b o t C2->(∀j,(look j U).isSome=true->(look j U2).isSome=true)->((fS b o t id).isSome=true->(look id U2).isSome=true)->(∀j q,(look j U2).isSome=true->look j U=none->fS b o t j=some q-> ∀i∈q.refs,(fS b o t i).isSome=true->(look i U2).isSome=true)->(∀n,n<s.next->n≠mu->n≠md->s2.get [] n=s.get [] n)->s2.next=s.next->
     ax e3 0= .ptr x 0->ax e3 10=ob.refsV->ax e3 11= .int .i64 (ob.refs.length:Nat)->ax e3 12= .int .i64 (pre.length:Nat)->KK .normal ⟨e3,59,lc⟩ s2)->
    W (QM sp ch) 27 (.seq (.region DV) (.cond (Operand.tmp 45) (.seq (.region DW) (.seq (.region DX) (.region DU))) .skip)) ⟨e2,59,lc⟩ s KK:=by
    intro e2 v g6 hp g0 g5 g10 g11 g12 KK hKK
    refine aF ?_
    unfold DV
    rcases hp.out with⟨rfl,hq⟩|⟨p,q,rfl,hq,p1,p2,p3⟩
    ·simp only[az,aA,aB,ai,aH,aX,ak,aK,aD,aw,aq,cT,bF,bS,tA,au,g6,iP,iU,uc]
     refine bc (t:=false) (by simp only[ak,ai,ah,cT,cF]) (ck ?_)
     refine hKK _ s U C r (fun _ h=>h) (fun h=>?_) (fun j q h1 h2=>(by rw[h2] at h1;cases h1)) (fun _ _ _ _=>rfl) rfl ?_ ?_ ?_ ?_
     ·rw[hval,hq] at h;cases h
     ·simp only[ai,ah,cF,g0]
     ·simp only[ai,ah,cF,g10]
     ·simp only[ai,ah,cF,g11]
     ·simp only[ai,ah,cF,g12]
    ·have hR:Reach b o t id:=hk.next hv hmem hmg (by rw[hq];rfl)
     have hup:=yo sd Ap M.hu id (.ptr p 0)
     obtain⟨s2,hs2⟩: ∃a,a=s.put mu (some (.map (cP 0 (eG id (.ptr p 0) U)) (eG id (.ptr p 0) U).length)):=⟨_,rfl⟩
     rw[<-hs2] at hup
     have x2:s2.get [] x=some (.cells [.map mb,.map mo,.map mt,.map mu,.map md]):=by rw[hs2,cI,beq_eq_false_iff_ne.2 (by omega)];exact hx
     have d2:s2.get [] md=some (.map (eW 0 C) C.length):=by rw[hs2,cI,beq_eq_false_iff_ne.2 (by omega)];exact M.hd
     have hnote:=xT (sp:=sp) (ch:=ch) hS.h45 x2 d2 id gR
     obtain⟨s3,hs3⟩: ∃a,a=s2.put md (some (.map (eW 0 (dG (id,gR) C)) (dG (id,gR) C).length)):=⟨_,rfl⟩
     rw[<-hs3] at hnote
     have n3:s3.next=s.next:=by rw[hs3,hs2];rfl
     have m3:s3.minw<=s3.next:=by rw[hs3,hs2];exact jJ _ _ _ (jJ _ _ _ hm)
     have hp':fk s s.next (.ptr p 0) (some q):=.at_ p1 p2 p3
     obtain⟨r3,k3⟩:=r.add hU hq hp' hR (s':=s3) (fun n=>by rw[hs3,hs2]) n3 m3
     have hname:id∈ec b o t:=Fv (by rw[hq];rfl)
     have hmeas:=ail (v:=.ptr p 0) hname hU
     have p3':fk s3 s3.next (.ptr p 0) (some q):=by
      refine .at_ (by omega) ((k3 p ?_ ?_).trans p2) p3
      ·intro e;subst e;rw[M.hu] at p2;cases p2
      ·intro e;subst e;rw[M.hd] at p2;cases p2
     obtain⟨s4,U4,C4,hrun,nd⟩:=ih (qs b o t (eG id (.ptr p 0) U)) (by omega) s3 _ _ id q p r3 (bB _) (.inr hR) (by rw[hval,hq]) p3'
     simp only[az,aA,aB,ai,aH,aX,ak,aK,aD,aw,aq,dW,cT,bF,bS,tA,au,g6,iP,iU,rp]
     refine bc (t:=true) (by simp only[ak,ai,ah,cT,cF]) (aF ?_)
     unfold DW
     simp only[az,aA,ej,aB,ep,ai,aH,bo,bZ,ua,fI,ak,aD,aw,ui,aq,cS,dW,fZ,cT,cF,bF,a7,bO,bS,tA,aQ,ah,au,se,nc,g0,g5,g6,fG,dv,hx,du,hup]
     refine aR (gh (fU 2 ?_))
     unfold DX
     simp only[az,aA,aB,ai,aH,ak,aw,cF,bN,a7,tA,ah,au,g0,g5]
     refine fY (g:=45) (args:=[.ptr x 0,.str id,.str gR]) ?_ hnote (by decide) ?_
     ·simp only[callee,ai,ak,aK,ff,aD,bk,bm,jB,aq,cS,dW,cT,cF,cq,cH,bS,ah]
      rfl
     refine fX ?_
     simp only[az,aU]
     refine gh (fU 2 ?_)
     unfold DU
     simp only[az,aA,aB,ai,aH,ak,aw,cF,bN,a7,tA,ah,au,g0,g6]
     refine fY (g:=27) (args:=[.ptr x 0,.ptr p 0]) ?_ hrun (by decide) ?_
     ·simp only[callee,ai,ak,ff,aD,bk,bm,aq,dW,cT,cF,cq,cH,bS,ah]
     refine fX ?_
     simp only[az]
     have sub4: ∀j,(look j U).isSome=true->(look j U4).isSome=true:=fun j h=>nd.sub j (by
      rw[mm]
      cases j==id<;>first|rfl|exact h)
     have id4:(look id U4).isSome=true:=nd.sub id (by rw[mm,bS];rfl)
     refine hKK _ s4 U4 C4 nd.rn sub4 (fun _=>id4) (fun j q' h1 h2 h3 i hi hvi=>?_) (fun n h1 h2 h3=>(nd.old n (by omega) h2 h3).trans (k3 n h2 h3)) (nd.next.trans n3) ?_ ?_ ?_ ?_
     ·cases hj:j==id with
      |true=>
       have:=eq_of_beq hj
       subst this
       rw[hval,hq] at h3
       have h3:=Option.some.inj h3
       rw[<-h3] at hi
       exact nd.refs i hi hvi
      |false=>exact nd.clo j q' h1 (by rw[mm,hj];exact h2) h3 i hi hvi
     ·simp only[ai,ah,cF,g0]
     ·simp only[ai,ah,cF,g10]
     ·simp only[ai,ah,cF,g11]
     ·simp only[ai,ah,cF,g12]
   simp only[az,aA,aB,ai,aH,bo,aX,bZ,lQ,fI,ak,aK,aD,aw,aq,cS,fZ,cT,cF,bF,a7,bO,bS,tA,aQ,ah,au,se,nc,h0,fG,dv,hx,du,hlk,iP,iU,uc,aU]
   refine bc (t:=false) (by simp only[ak,ai,ah,cT,cF]) (ck ?_)
   simp only[aU]
   have lb:=rb M.hb id
   have hpb:=(c.pb id).low r.low
   have hpo:=(c.po id).low r.low
   have hpt:=(c.pt id).low r.low
   have cb:=(hpb.pv fun _ _=>rfl).clean
   have co:=(hpo.pv fun _ _=>rfl).clean
   have ct:=(hpt.pv fun _ _=>rfl).clean
   refine aF ?_
   unfold MP
   simp only[az,aA,aB,ai,aH,aN,bo,bZ,lQ,fI,ak,aD,aw,aq,cS,fZ,cT,cF,bF,a7,bO,bS,tA,dc,ah,au,CA,nc,h0,fG,dv,hx,du,lb]
   refine aR (aR (b7 ?_))
   unfold MQ
   rcases hpb.out with⟨eb,qb⟩|⟨p,q,eb,qb,p1,p2,p3⟩
   ·have lo:=rb (s:=s.top) M.ho id
    have lt:=rb (s:=s.top) M.ht id
    have hxt:s.top.get [] x=some (.cells [.map mb,.map mo,.map mt,.map mu,.map md]):=hx
    have hless:=Rz (ch:=ch) hS.h46 hS.h77 hS.h122 hS.h119 hS.h123 hS.h124 hS.h31 (s:=s.top) (bB _) (hpo.pv (s':=s.top) fun _ _=>rfl) (hpt.pv (s':=s.top) fun _ _=>rfl) (c.vo id).len (c.vt id).len
    have hnd:iY b o t id=ko (dq id o) (dq id t):=by simp only[iY,qb]
    have hlv:fk s s.next (pB (at_ id O) (at_ id T) (dq id o) (dq id t)) (iY b o t id):=by
     rw[hnd]
     exact Rv (hpo.put_map M.hd (by omega) fun _ _ _=>rfl) (hpt.put_map M.hd (by omega) fun _ _ _=>rfl)
    have cl:=(hlv.pv fun _ _=>rfl).clean
    simp only[az,aA,aB,ai,aH,aX,ak,aK,aD,aw,aq,cT,cF,bF,bS,tA,ah,au,eb,iP,iU,vP,aU]
    refine bc (t:=true) (by simp only[ak,ai,ah,cT,cF]) ?_
    show W (QM sp ch) 27 (SC.draw vu MJ) _ _ _
    rw[show vu=vu.take 12++vu.drop 12 from(nr 12 _).symm]
    refine W.drawD (WD.calmOps hm (fun _ h=>by cases h) (fun _ h=>by cases h) ?_)
    unfold vu
    simp only[eJ,eI,eK,isStore,ai,aH,bo,bZ,lQ,fI,ak,aD,aw,aq,cS,fZ,cT,cF,bF,aP,aW,bN,a7,bO,cq,cH,bS,tA,aQ,ah,au,bE,CB,CC,nc,h0,fG,dv,hxt,du,lo,lt]
    intro rs1 hc1 hi1
    refine WD.calmCall hm (g:=46) (args:=[at_ id O,at_ id T]) hc1 hi1 ?_ hless (by decide) ?_
    ·simp only[callee,ai,ak,ff,aD,bk,bm,aq,cT,cF,cq,cH,bS,ah,co,ct]
    intro rs2 hc2 hi2
    refine WD.calmOps (l1:=[_]) (l2:=[]) hm hc2 hi2 ?_
    simp only[eJ,eI,eK,isStore,ai,aN,ak,aw,cT,cF,aP,aW,a7,gr,bS,tA,aQ,ah,au,bE]
    intro rs3 hc3 hi3
    refine WD.nil ?_
    simp only[aU]
    refine take _ _ ?_ hlv ?_ ?_ ?_ ?_ ?_ _ (fun e3 s2 U2 C2 f1 f2 f3 f4 f5 f6 f0 f10 f11 f12=>?_)
    ·simp only[ai,ah,cT,cF]
    ·simp only[ai,ah,cF,h0]
    ·simp only[ai,ah,cT,cF]
    ·simp only[ai,ah,cF,h10]
    ·simp only[ai,ah,cF,h11]
    ·simp only[ai,ah,cF,h12]
    simp only[dP,aU]
    refine b7 ?_
    unfold zy
    simp only[az,aA,aB,ai,aH,aX,ak,aK,aD,bt,aw,dZ,aq,bf,cT,bF,bS,tA,au,f12,hwr,aU]
    refine go _ s2 U2 C2 f1 f2 f3 f4 f5 f6 ?_ ?_ ?_ ?_
    ·simp only[ai,ah,cF,f0]
    ·simp only[ai,ah,cF,f10]
    ·simp only[ai,ah,cF,f11]
    ·simp only[ai,ah,cT,cF]
   ·simp only[az,aA,aB,ai,aH,aX,ak,aK,aD,aw,aq,dW,cT,cF,bF,bS,tA,ah,au,eb,iP,iU,vQ,aU]
    refine bc (t:=false) (by simp only[ak,ai,ah,cT,cF]) (ck ?_)
    simp only[aU]
    have hnd:iY b o t id=some q:=by simp only[iY,qb]
    have hp:fk s s.next (.ptr p 0) (iY b o t id):=by rw[hnd];exact .at_ (by omega) p2 p3
    refine take _ _ ?_ hp ?_ ?_ ?_ ?_ ?_ _ (fun e3 s2 U2 C2 f1 f2 f3 f4 f5 f6 f0 f10 f11 f12=>?_)
    ·simp only[ai,ah,cT,cF]
    ·simp only[ai,ah,cF,h0]
    ·simp only[ai,ah,cT,cF]
    ·simp only[ai,ah,cF,h10]
    ·simp only[ai,ah,cF,h11]
    ·simp only[ai,ah,cF,h12]
    simp only[dP,aU]
    refine b7 ?_
    unfold zy
    simp only[az,aA,aB,ai,aH,aX,ak,aK,aD,bt,aw,dZ,aq,bf,cT,bF,bS,tA,au,f12,hwr,aU]
    refine go _ s2 U2 C2 f1 f2 f3 f4 f5 f6 ?_ ?_ ?_ ?_
    ·simp only[ai,ah,cF,f0]
    ·simp only[ai,ah,cF,f10]
    ·simp only[ai,ah,cF,f11]
    ·simp only[ai,ah,cT,cF]
include h27
theorem aiV: ∀N,GN sp ch s1 x mb mo mt mu md B O T b o t N:=by
 intro N
 induction N using Nat.strongRecOn with
 |ind N ih=>
  intro s U C k q p r hN hk hv hp
  rcases hp.out with⟨e,_⟩|⟨p',q',e1,e2,p1,p2,p3⟩
  ·cases e
  have e1:=(aj.ptr.inj e1).1
  have e2:=Option.some.inj e2
  subst e1;subst e2
  have hcl:=p3.refs.clean
  have hlen:=fun mk s=>p3.refs.len iI iW mk s
  simp only[Obj.cells] at p2
  have h: ∃v s',bz (QM sp ch) 27 [.ptr x 0,.ptr p 0] s v s'/\(v=jQ []/\ ∃U' C',Nd s1 s s' x mb mo mt mu md B O T U U' b o t C' q.refs):=by
   refine bz.ofEx adN adM adP adO h27 ?_
   unfold MI
   refine aF ?_
   unfold MM
   simp only[dt,cY,az,aA,aB,ai,aH,bo,bZ,fI,cJ,ak,aK,aD,bk,bm,bt,aw,bU,cU,bJ,aq,cT,cF,bF,gD,aP,aW,a7,bO,bS,tA,aQ,ah,au,bE,cm,aZ,cj,dT,ma,ic,ZE,fG,dv,p2,du,hcl,hlen]
   refine cO ?_
   refine(aiU hS c (N:=N) (fun M hM=>ih M hM) hk hv p3 q.refs [] _ s U C rfl r hN ?_ ?_ ?_ ?_).mono ?_
   ·simp only[ai,ah,cT,cF]
   ·simp only[ai,ah,cT,cF]
   ·simp only[ai,ah,cT,cF]
   ·simp only[ai,ah,cT,cF];rfl
   rintro y fr s' ⟨rfl,U',C',nd⟩
   exact⟨.inl rfl,_,⟨[],rfl,rfl⟩,rfl,U',C',nd⟩
  obtain⟨v,s',h1,rfl,U',C',h2⟩:=h
  exact⟨s',U',C',h1,h2⟩
end
structure KL (s:St) (lim:Nat) (v:aj) (ks:List ar):Prop where
 clean:v.clean=true
 len: ∀mk s',gW Tryz.prog mk 37 v s'=some (.int .i64 (ks.length:Nat))
 row: ∀i k,ks[i]? =some k-> ∃rk,rk<lim/\s.get [] rk=some (.cells (ks.map bu))/\ ∀lc,iH Tryz.prog lc 37 v (.int .i64 (i:Nat))=some (.ptr rk i)
theorem KL.of {s0 s:St} {v:aj} {ks:List ar} (g:nF 1 s0 s v (ks.map bu)):KL s s.next v ks:=by
 rcases g.row with⟨rfl,hx⟩|⟨hne,rk,rfl,hk,h4,h5⟩
 ·have hk0:ks=[]:=List.map_eq_nil_iff.1 hx
  subst hk0
  exact⟨rfl,fun mk s'=>iI mk s',fun i k h=>(by simp at h)⟩
 ·rw[vj] at hk
  refine⟨rfl,fun mk s'=>by rw[RE,eH],fun i k h=>⟨rk,h5,hk,fun lc=>?_⟩⟩
  have hlt:i<ks.length:=by
   rcases im i ks.length with h1|h1
   ·exact h1
   ·rw[jF h1] at h;cases h
  have hna:fF (.int .i64 (i:Int))=some i:=rfl
  have hb:Nat.blt i (ks.map bu).length=true:=Nat.ble_eq_true_of_le (by rw[eH];exact hlt)
  rw[I1,hna]
  simp only[aq,aZ,bS,i9,hb,cT,Nat.mul_one,aQ]
theorem KL.keep {s s':St} {lim lim':Nat} {v:aj} {ks:List ar} (k:KL s lim v ks) (hl:lim<=lim') (hg: ∀n cs,n<lim->s.get [] n=some (.cells cs)->s'.get [] n=some (.cells cs)):KL s' lim' v ks:=
 ⟨k.clean,k.len,fun i x h=>let⟨rk,h1,h2,h3⟩:=k.row i x h;⟨rk,by omega,hg rk _ h1 h2,h3⟩⟩
section
variable {sp:FuncId->Option (List aj->Option aj)} {ch:Nat->Nat}
theorem Rk (h26:sp 26=none) {m:Nat} {s:St}:bz (QM sp ch) 26 [.map m] s (.func (.func 49) [] [.ptr s.next 0]) (s.new (.cells [.map m])):=by
 refine bz.of2 adJ adI adL adK h26 ?_
 unfold MF
 refine aF ?_
 unfold MG
 simp only[dt,cY,az,aA,aB,ai,aN,jC,ak,aK,aD,jc,aw,bJ,aq,fZ,cT,gD,aP,aW,bS,tA,aQ,au,cm,cj,dT,ZD,jc,ofValue,fH]
 refine aF ?_
 unfold MH
 simp only[az,aA,aB,ai,aN,xY,ak,aD,bk,bm,aw,aq,dW,cT,cF,bS,tA,ah,au,pF]
 exact cd ⟨rfl,.inr rfl,cE (by simp only[ai,ah,cT,cF]) rfl⟩
theorem YN (h49:sp 49=none) {m cb:Nat} {s0:St} {L:List (ar×aj)} (hmw:s0.minw<=s0.next) (hm:m<s0.next) (hcb:cb<s0.next) (hc:s0.get [] cb=some (.cells [.map m])) (hmm:s0.get [] m=some (.map (cP 0 L) L.length)) (hL:L.length<=1000000):qR (QM sp ch) 1 49 s0 cb (cP 0 L):=by
 intro s bx lo lim lob c ht
 refine aho (Q:=QM sp ch) rfl rfl (ch:=ch) rfl rfl (H1 L) (fun i=>by rw[qY];exact hL) h49 rfl rfl hmw hm hcb hc (by rw[qY];exact hmm) c ht fun e he=>?_
 have h1:e.key∈(cP 0 L).map (·.key):=List.mem_map.2 ⟨e,he,rfl⟩
 rw[w7] at h1
 obtain⟨b,_,e2⟩:=List.mem_map.1 h1
 exact⟨b,e2.symm⟩
structure GP (sp:FuncId->Option (List aj->Option aj)):Prop where
 s25: ∀n,n=25\/n=47\/n=78\/n=48->sp n=none
 h26:sp 26=none
 h49:sp 49=none
theorem TG (hS:GP sp) {s:St} {m:Nat} {L:List (ar×aj)} (hm:s.minw<=s.next) (hlt:m<s.next) (hs:s.get [] m=some (.map (cP 0 L) L.length)) (hL:L.length<=1000000):
 ∃v s',bz (QM sp ch) 25 [.func (.func 49) [] [.ptr s.next 0]] (s.new (.cells [.map m])) v s'/\KL s' s'.next v (fh (L.map (·.1)))/\(∀n,n<s.next->s'.get [] n=s.get [] n)/\s.next<=s'.next/\s'.minw<=s'.next:=by
 have hg2: ∀n,n<s.next->(s.new (.cells [.map m])).get [] n=s.get [] n:=fun n h=>by rw[df,beq_eq_false_iff_ne.2 (by omega)];rfl
 obtain⟨v,s2,hr,hgot⟩:=TF (Q:=QM sp ch) rfl rfl hS.s25 (fun _=>rfl) (fun n hn=>by rcases hn with rfl|rfl|rfl<;>rfl) rfl (g:=49) (cb:=s.next) (s0:=s.new (.cells [.map m])) (es:=cP 0 L) (ks:=L.map (·.1)) (kC hm) (by rw[qY];omega) (by rw[w7]) (by kernel_rfl)
  (YN hS.h49 (m:=m) (kC hm) (ns hlt) (io _) (by rw[df,bS];rfl) ((hg2 _ hlt).trans hs) hL)
 have hn:s.next+1<=s2.next:=hgot.next
 have h1:=hgot.minw
 have h2:(s.new (.cells [.map m])).minw=s.minw:=rfl
 exact⟨v,s2,hr,.of hgot,fun n h=>(hgot.old n (ns h)).trans (hg2 n h),by omega,by omega⟩
end
section
variable {sp:FuncId->Option (List aj->Option aj)} {ch:Nat->Nat} (hS:uK sp) (h27:sp 27=none)
 {s1:St} {x mb mo mt mu md:Nat} {B O T:List (ar×aj)} {b o t:List Obj} (c:wI s1 mu B O T b o t)
include hS h27 c
theorem Vm {lim:Nat} {v:aj} {ks:List ar} (hlen:ks.length<=1000000) {lc:Ag.Loc}: ∀(rest pre:List ar) (e:bj) (s:St) (U:List (ar×aj)) (C:List Cf),ks=pre++rest->KL s lim v ks->lim<=s.next->Rn s1 s x mb mo mt mu md B O T U b o t C->(∀k∈rest,(look k U).isSome=true)->
 ax e 8= .ptr x 0->ax e 84=v->ax e 85= .int .i64 (ks.length:Nat)->ax e 86= .int .i64 (pre.length:Nat)->
 W (QM sp ch) 9 (.loop z6) ⟨e,132,lc⟩ s fun y fr s'=>y= .exit 4/\ ∃e',fr=⟨e',132,lc⟩/\(ax e' 6=ax e 6/\ax e' 8= .ptr x 0)/\ ∃U' C',Rn s1 s' x mb mo mt mu md B O T U' b o t C'/\(∀j,(look j U).isSome=true->(look j U').isSome=true)/\
   (∀k∈rest, ∀q,fS b o t k=some q-> ∀id∈q.refs,(fS b o t id).isSome=true->(look id U').isSome=true)/\
   (∀j q,(look j U').isSome=true->look j U=none->fS b o t j=some q-> ∀id∈q.refs,(fS b o t id).isSome=true->(look id U').isSome=true)/\s'.next=s.next:=by
 intro rest
 induction rest with
 |nil=>
  intro pre e s U C hpre K hlim r hin h8 h84 h85 h86
  have hl:ks.length=pre.length:=by rw[hpre];simp
  refine cR ?_
  unfold z6
  refine aF ?_
  unfold EO
  simp only[az,aA,aB,aX,ak,aD,aw,cQ,aq,bf,cT,bF,da,tA,au,decide_false,h85,h86,hl,eU]
  refine aR (bc (t:=false) (by simp only[ak,ai,ah,cT]) ?_)
  refine eD ⟨rfl,_,rfl,⟨?_,?_⟩,U,C,r,fun _ h=>h,fun k h=>(by cases h),fun j q h1 h2=>(by rw[h2] at h1;cases h1),rfl⟩
  ·simp only[ai,ah,cF]
  ·simp only[ai,ah,cF,h8]
 |cons k rest ih=>
  intro pre e s U C hpre K hlim r hin h8 h84 h85 h86
  have hlt:pre.length<ks.length:=by rw[hpre];simp
  have hat:ks[pre.length]? =some k:=by rw[hpre];simp
  obtain⟨rk,k1,k2,hia⟩:=K.row pre.length k hat
  have hcl:=K.clean
  have hwr:IntKind.i64.wrap ((pre.length:Int)+1)=((pre.length+1:Nat):Int):=by rw[ew (by omega) (by omega)];omega
  have hrd:((ks.map bu).drop pre.length).head?=some (.str k):=by rw[hpre,kB,List.drop_left' (by simp)];rfl
  have M:=r.mg
  have hx:=M.hx
  obtain⟨u,hu⟩:=Option.isSome_iff_exists.1 (hin k (by simp))
  obtain⟨q,v1,v2⟩:=r.val k u hu
  rcases v2.out with⟨_,v3⟩|⟨p,q',rfl,hq',_⟩
  ·cases v3
  have hlk:=rb M.hu k
  have hat_:at_ k U= .ptr p 0:=by simp only[at_,hu,pc]
  rw[hat_] at hlk
  obtain⟨s2,U2,C2,hrun,nd⟩:=aiV hS h27 c (ch:=ch) (qs b o t U) s U C k q p r (bB _) (r.new k (by rw[hu];rfl)) v1 v2
  have K2:KL s2 lim v ks:=K.keep (bB _) fun n cs h1 h2=>(nd.old n (by omega) (fun e=>by subst e;rw[M.hu] at h2;cases h2) (fun e=>by subst e;rw[M.hd] at h2;cases h2)).trans h2
  refine cR ?_
  unfold z6
  refine aF ?_
  unfold EO
  simp only[az,aA,aB,aX,ak,aD,aw,cQ,aq,bf,cT,bF,da,tA,au,dT,h85,h86,hlt]
  refine aR (bc (t:=true) (by simp only[ak,ai,ah,cT]) (ck ?_))
  simp only[aU]
  refine aR (cO (aF ?_))
  unfold QZ
  simp only[az,aA,aB,ai,aN,bo,ek,ak,aw,aq,cT,cF,bS,tA,ah,au,bF,h84,h86,hia,dv,k2,du,dH,hrd]
  refine gh (fU 7 ?_)
  unfold Q0
  simp only[az,aA,aB,ai,aH,bo,bZ,lQ,fI,ak,aD,aw,aq,cS,fZ,cT,cF,bF,bN,a7,bO,bS,tA,aQ,ah,au,se,nc,h8,fG,dv,hx,du,hlk]
  refine fY (g:=27) (args:=[.ptr x 0,.ptr p 0]) ?_ hrun (by decide) ?_
  ·simp only[callee,ai,ak,ff,aD,bk,bm,aq,dW,cT,cF,cq,cH,bS,ah]
  refine fX ?_
  simp only[az,dP,aU]
  refine b7 ?_
  unfold Q5
  simp only[az,aA,aB,ai,aH,aX,ak,aK,aD,bt,aw,dZ,aq,bf,cT,cF,bF,bS,tA,ah,au,h86,hwr,aU]
  refine(ih (pre++[k]) _ s2 U2 C2 (by rw[hpre];simp) K2 (by rw[nd.next];exact hlim) nd.rn (fun j hj=>nd.sub j (hin j (by simp[hj]))) ?_ ?_ ?_ ?_).mono ?_
  ·simp only[ai,ah,cF,h8]
  ·simp only[ai,ah,cF,h84]
  ·simp only[ai,ah,cF,h85]
  ·simp only[ai,ah,cT,cF,dp,aP,aW]
  rintro y fr s' ⟨rfl,e',rfl,⟨g6,g8⟩,U',C',q1,q2,q3,q4,q5⟩
  refine⟨rfl,e',rfl,⟨g6.trans ?_,g8⟩,U',C',q1,fun j h=>q2 j (nd.sub j h),fun j hj q' hq' i hi hvi=>?_,fun j q' h1 h2 h3 i hi hvi=>?_,q5.trans nd.next⟩
  ·simp only[ai,ah,cF]
  ·rcases List.mem_cons.1 hj with rfl|hj
   ·rw[v1] at hq'
    have hq':=Option.some.inj hq'
    rw[<-hq'] at hi
    exact q2 i (nd.refs i hi hvi)
   ·exact q3 j hj q' hq' i hi hvi
  ·cases hj:look j U2 with
   |none=>exact q4 j q' h1 hj h3 i hi hvi
   |some w=>exact q2 i (nd.clo j q' (by rw[hj];rfl) h2 h3 i hi hvi)
end
theorem aiT {s1 s:St} {x mb mo mt mu md:Nat} {B O T U:List (ar×aj)} {b o t:List Obj} {C:List Cf} (r:Rn s1 s x mb mo mt mu md B O T U b o t C)
 (hc: ∀j q,(look j U).isSome=true->fS b o t j=some q-> ∀id∈q.refs,(fS b o t id).isSome=true->(look id U).isSome=true):
 (∀k,(look k U).isSome=true↔ji b o t k)/\ ∀c,c∈C↔(∃k,c∈kJ b o t k)\/ ∃k,Reach b o t k/\c=(k,gR):=by
 have hR: ∀k,Reach b o t k->(look k U).isSome=true:=by
  intro k h
  induction h with
  |of h1 h2 h3 h4=>exact hc _ _ (r.base _ (by rw[h1];rfl)) (by simp only[fS,h1]) _ h2 (by simp only[fS,h3];exact h4)
  |step h0 h1 h2 h3 h4 ih=>exact hc _ _ ih (by simp only[fS,h0.no.1];exact h1) _ h2 (by simp only[fS,h3];exact h4)
 refine⟨fun k=>⟨r.new k,fun h=>h.elim (r.base k) (hR k)⟩,fun c=>?_⟩
 rw[r.conf c]
 constructor
 ·rintro(h|⟨k,h1,h2,h3⟩)
  ·exact .inl h
  ·rcases r.new k h1 with h|h
   ·rw[h2] at h;cases h
   ·exact .inr ⟨k,h,h3⟩
 ·rintro(h|⟨k,h1,h2⟩)
  ·exact .inl h
  ·exact .inr ⟨k,hR k h1,h1.no.1,h2⟩
theorem VU {e:bj} {x:Operand} {a b c d f g:aj} (h:ev e x=some (.agg [a,b,c,d,f,g])) (s:St):dV Tryz.prog 22 1 [(0,x)] false e s=some (.list 6 [.agg [a,b,c,d,f,g]] .full,s):=by
 simp only[dV,HR,aq,dQ,evc,h,aj.clean,cT,gd,aj.cells,aP,aW,cV,Nat.zero_mul,aQ,bE,jt,ip,cut]
 rfl
section
variable {sp:FuncId->Option (List aj->Option aj)} {ch:Nat->Nat}
theorem Vr {e:bj} {lc:Ag.Loc} {s:St} {lo:Nat} {ov:aj} {acc:List Obj} {ob:Obj} {rs1:List dU} {P:Fr->St->Prop} (hi: ∀r∈rs1,r.i<11) (h15:ax e 15= .lref 15 1 0) (h111:ax e 111=ov) (h120:ax e 120= .list 6 [ob.val] .full) (g15:lc.gen 15=1) (b15:lc.get 15 1=some [ov])
 (hO:gi 6 lo s ov (acc.map Obj.val)) (hm:s.minw<=s.next) (hlo:lo<=s.next) (hlen:acc.length<=900000)
 (hk: ∀(ov':aj) (s':St),gi 6 lo s' ov' ((acc++[ob]).map Obj.val)->s'.minw<=s'.next->(∀n,n<lo->s'.get [] n=s.get [] n)->s.next<=s'.next->P ⟨(e.set 121 (some ov')).set 122 (some (.lref 15 1 0)),132,lc.set 15 1 [ov']⟩ s'):
 WD (QM sp ch) 9 [2047,4095,8191] rs1 11 (tT.drop 11) ⟨e,132,lc⟩ s P:=by
 have hOt:gi 6 lo s.top ov (acc.map Obj.val):=hO
 obtain⟨s1,a1,a2,a3,a4,a5,a6⟩:=BS HR rfl (by decide) (y:=.list 6 [ob.val] .full) (ys:=[ob.val]) hOt rfl (by simp) (by rw[eH,List.length_singleton];omega) (bB _)
 have a4:s1.next=s.next+1:=a4
 have hcl:=hO.clean
 have hmw:(s.least s1).minw<=(s.least s1).next:=by
  show(bif Nat.ble s.minw s1.minw then s.minw else s1.minw)<=s1.next
  cases Nat.ble s.minw s1.minw with
  |true=>exact fW hm (by omega)
  |false=>exact a5
 have hO2:gi 6 lo (s.least s1) (.list 6 (acc.map Obj.val++[ob.val]) (.own s.next)) ((acc++[ob]).map Obj.val):=.inr ⟨by simp,s.next,by rw[kB];rfl,a2,hlo,by show s.next<s1.next;omega⟩
 have hcl2:=hO2.clean
 have hold: ∀n,n<lo->(s.least s1).get [] n=s.get [] n:=fun n hn=>a6 n (by show n<s.next;omega) fun k hk'=>by have:=(hO.token hk').1;omega
 unfold tT
 refine WD.fullL (v:=.list 6 (acc.map Obj.val++[ob.val]) (.own s.next)) (lc:=lc) (s1:=s1) (fr1:=⟨e.set 121 (some (.list 6 (acc.map Obj.val++[ob.val]) (.own s.next))),132,lc⟩) hi (by decide) rfl ?_ a3 (iw.2 ⟨by decide,rfl⟩) (fun rs2 k2=>?_)
 ·simp only[cJ,ak,aD,bk,bm,bU,oI,bJ,aq,jm,cT,bF,gD,ah,aZ,abj,aaT,h111,h120,hcl,a1]
  rfl
 refine WD.fullL (v:=.lref 15 1 0) (lc:=lc) (s1:=(s.least s1).top) (fr1:=⟨_,132,lc⟩) k2 (by decide) rfl ?_ rfl (iw.2 ⟨by decide,rfl⟩) (fun rs3 k3=>?_)
 ·simp only[ai,bZ,ak,aw,aq,cT,cF,bF,bS,dc,ah,aZ,mU,h15,g15]
 rw[ml hmw]
 refine WD.fullL (v:=ii) (lc:=lc.set 15 1 [.list 6 (acc.map Obj.val++[ob.val]) (.own s.next)]) (s1:=(s.least s1).top) (fr1:=⟨_,132,lc.set 15 1 [.list 6 (acc.map Obj.val++[ob.val]) (.own s.next)]⟩) k3 (by decide) rfl ?_ rfl rfl (fun rs4 k4=>?_)
 ·simp only[ai,ez,ak,aD,Wi,ix,aq,cT,cF,bF,aP,aW,cV,bN,a7,cq,cH,bS,aQ,ah,au,cm,dY,aZ,dl,cj,dT,alB,hcl2,b15]
 rw[ml hmw]
 exact WD.nil (hk _ _ hO2 hmw hold (by show s.next<=s1.next;omega))
theorem ahE {s0:St} {x mb mo mt mu md lim:Nat} {B O T U:List (ar×aj)} {C:List Cf} (M:Mg s0 x mb mo mt mu md B O T U C) {v:aj} {ks:List ar} (K:KL s0 lim v ks) (hlim:lim<=s0.next) (hlen:ks.length<=800000) {g:ar->Obj} (hg: ∀k∈ks, ∃p,look k U=some (.ptr p 0)/\p<s0.next/\s0.get [] p=some (.cells (g k).cells)): ∀(rest pre:List ar) (e:bj) (lc:Ag.Loc) (s:St) (ov:aj),ks=pre++rest->gi 6 s0.next s ov ((pre.map g).map Obj.val)->s.minw<=s.next->s0.next<=s.next->(∀n,n<s0.next->s.get [] n=s0.get [] n)->
 ax e 8= .ptr x 0->ax e 15= .lref 15 1 0->lc.gen 15=1->lc.get 15 1=some [ov]->ax e 104=v->ax e 105= .int .i64 (ks.length:Nat)->ax e 106= .int .i64 (pre.length:Nat)->
 W (QM sp ch) 9 (.loop z7) ⟨e,132,lc⟩ s fun y fr s'=>y= .exit 6/\ ∃e' lc' ov',fr=⟨e',132,lc'⟩/\(ax e' 6=ax e 6/\ax e' 8= .ptr x 0/\ax e' 15= .lref 15 1 0)/\lc'.gen 15=1/\lc'.get 15 1=some [ov']/\(lc'.gen 6=lc.gen 6/\lc'.get 6 1=lc.get 6 1)/\gi 6 s0.next s' ov' ((ks.map g).map Obj.val)/\s'.minw<=s'.next/\s0.next<=s'.next/\(∀n,n<s0.next->s'.get [] n=s0.get [] n):=by
 intro rest
 have hx0:=M.hx
 obtain⟨o1,o2,o3,o4,o5,o6⟩:=M.ord
 induction rest with
 |nil=>
  intro pre e lc s ov hpre hO hm hn hold h8 h15 g15 b15 h104 h105 h106
  have hl:ks.length=pre.length:=by rw[hpre];simp
  have hpp:pre=ks:=by rw[hpre];simp
  refine cR ?_
  unfold z7
  refine aF ?_
  unfold ER
  simp only[az,aA,aB,aX,ak,aD,aw,cQ,aq,bf,cT,bF,da,tA,au,decide_false,h105,h106,hl,eU]
  refine aR (bc (t:=false) (by simp only[ak,ai,ah,cT]) ?_)
  rw[hpp] at hO
  refine eD ⟨rfl,_,_,ov,rfl,⟨?_,?_,?_⟩,g15,b15,⟨rfl,rfl⟩,hO,hm,hn,hold⟩
  ·simp only[ai,ah,cF]
  ·simp only[ai,ah,cF,h8]
  ·simp only[ai,ah,cF,h15]
 |cons k rest ih=>
  intro pre e lc s ov hpre hO hm hn hold h8 h15 g15 b15 h104 h105 h106
  have hlt:pre.length<ks.length:=by rw[hpre];simp
  have hat:ks[pre.length]? =some k:=by rw[hpre];simp
  obtain⟨rk,k1,k2,hia⟩:=K.row pre.length k hat
  have k2:=(hold rk (by omega)).trans k2
  have hcl:=K.clean
  have hoc:=hO.clean
  have hwr:IntKind.i64.wrap ((pre.length:Int)+1)=((pre.length+1:Nat):Int):=by rw[ew (by omega) (by omega)];omega
  have hrd:((ks.map bu).drop pre.length).head?=some (.str k):=by rw[hpre,kB,List.drop_left' (by simp)];rfl
  have hx:s.top.get [] x=some (.cells [.map mb,.map mo,.map mt,.map mu,.map md]):=(hold x o6).trans hx0
  obtain⟨p,p1,p2,p3⟩:=hg k (by rw[hpre];simp)
  have hp:s.top.get [] p=some (.cells [.str (g k).id,.int .i64 (g k).kind,.int .i64 (g k).x,.int .i64 (g k).y,(g k).refsV,(g k).tagsV]):=(hold p p2).trans p3
  have hus:s.top.get [] mu=some (.map (cP 0 U) U.length):=(hold mu (by omega)).trans M.hu
  have hlk:=rb hus k
  have hat_:at_ k U= .ptr p 0:=by simp only[at_,p1,pc]
  rw[hat_] at hlk
  have hbs: ∀e s,ax e 119= .agg [.str (g k).id,.int .i64 (g k).kind,.int .i64 (g k).x,.int .i64 (g k).y,(g k).refsV,(g k).tagsV]->dV Tryz.prog 22 1 [(0,.tmp 119)] false e s=some (.list 6 [.agg [.str (g k).id,.int .i64 (g k).kind,.int .i64 (g k).x,.int .i64 (g k).y,(g k).refsV,(g k).tagsV]] .full,s):=fun e s h=>VU (by rw[ak,h]) s
  refine cR ?_
  unfold z7
  refine aF ?_
  unfold ER
  simp only[az,aA,aB,aX,ak,aD,aw,cQ,aq,bf,cT,bF,da,tA,au,dT,h105,h106,hlt]
  refine aR (bc (t:=true) (by simp only[ak,ai,ah,cT]) (ck ?_))
  simp only[aU]
  refine aR (cO (aF ?_))
  unfold Q8
  simp only[az,aA,aB,ai,aN,bo,ek,ak,aw,aq,cT,cF,bS,tA,ah,au,bF,h104,h106,hia,dv,k2,du,dH,hrd]
  rw[show tT=tT.take 11++tT.drop 11 from(nr 11 _).symm]
  refine W.drawD (WD.calmOps hm (fun _ h=>by cases h) (fun _ h=>by cases h) ?_)
  unfold tT
  simp only[eJ,eI,eK,isStore,ai,aH,lg,bo,bZ,lQ,fI,ak,aD,cx,aw,bU,bJ,aq,cS,fZ,cT,cF,bF,gD,aP,aW,cut,bN,a7,bO,List.take_succ_cons,cq,cH,bS,tA,aQ,dc,ah,au,bE,aZ,mU,se,oc,nc,pR,h8,h15,g15,b15,fG,dv,hx,hp,du,hlk,aaS,hbs]
  intro rs1 hc1 hi1
  refine Vr (acc:=pre.map g) (ob:=g k) hi1 ?_ ?_ ?_ g15 b15 hO hm hn (by rw[eH];omega) ?_
  ·simp only[ai,ah,cF,h15]
  ·simp only[ai,ah,cT,cF]
  ·simp only[ai,ah,cT,cF];rfl
  intro ov2 s2 hO2 hm2 hold2 hn2
  simp only[dP,aU]
  refine b7 ?_
  unfold Q9
  simp only[az,aA,aB,ai,aH,aX,ak,aK,aD,bt,aw,dZ,aq,bf,cT,cF,bF,bS,tA,ah,au,h106,hwr,aU]
  refine(ih (pre++[k]) _ _ s2 ov2 (by rw[hpre];simp) (by rw[kB];exact hO2) hm2 (by omega) (fun n h=>(hold2 n h).trans (hold n h)) ?_ ?_ ?_ ?_ ?_ ?_ ?_).mono ?_
  ·simp only[ai,ah,cF,h8]
  ·simp only[ai,ah,cF,h15]
  ·simp only[cM,ah,cT]
  ·simp only[bR,cT,bS]
  ·simp only[ai,ah,cF,h104]
  ·simp only[ai,ah,cF,h105]
  ·simp only[ai,ah,cT,cF,dp,aP,aW]
  rintro y fr s' ⟨rfl,e',lc',ov',rfl,⟨w6,w8,w15⟩,q1,q2,⟨q3,q4⟩,q5⟩
  refine⟨rfl,e',lc',ov',rfl,⟨w6.trans ?_,w8,w15⟩,q1,q2,⟨q3.trans ?_,q4.trans ?_⟩,q5⟩
  ·simp only[ai,ah,cF]
  ·simp only[cM,ah,cF]
  ·simp only[bR,ah,cF]
end
structure UI (s s':St) (b o t:List Obj) (mb mo mt mu md x:Nat):Prop where
 emb:mb=s.next
 emo:mo=mb+1+b.length
 emt:mt=mo+1+o.length
 emu:mu=mt+1+t.length
 emd:md=mu+1
 ex:x=md+1
 next:s'.next=x+1
 minw:s'.minw<=s'.next
 ci:s'.ci=s.ci
 mg:Mg s' x mb mo mt mu md (nI [] (mb+1) b) (nI [] (mo+1) o) (nI [] (mt+1) t) [] []
 ob: ∀(i:Nat) (q:Obj),b[i]? =some q->s'.get [] (mb+1+i)=some (.cells q.cells)
 oo: ∀(i:Nat) (q:Obj),o[i]? =some q->s'.get [] (mo+1+i)=some (.cells q.cells)
 ot: ∀(i:Nat) (q:Obj),t[i]? =some q->s'.get [] (mt+1+i)=some (.cells q.cells)
def jL:Nat->List Obj->List (ar×aj)
 |_,[]=>[]
 |p,o::r=>(o.id,.ptr p 0)::jL (p+1) r
theorem RM (k:ar): ∀(L R:List (ar×aj)),look k (L++R)=(look k L).or (look k R)
 | [],R=>rfl
 |(a,v)::L,R=>by
  simp only[cH,look]
  cases k==a with
  |true=>rfl
  |false=>exact RM k L R
theorem yN: ∀(l:List Obj) (L:List (ar×aj)) (p:Nat),(∀o∈l,look o.id L=none)->(l.map (·.id)).Nodup->nI L p l=L++jL p l
 | [],L,p,_,_=>by simp[nI,jL]
 |o::r,L,p,h,hn=>by
  simp only[fw,wB] at hn
  simp only[nI,jL]
  rw[Dm (h o (by simp)),yN r _ (p+1) (fun q hq=>?_) hn.2,List.append_assoc]
  ·rfl
  ·rw[RM,h q (by simp[hq])]
   have:(q.id==o.id)=false:=beq_eq_false_iff_ne.2 fun e=>hn.1 (by rw[<-e];exact List.mem_map.2 ⟨q,hq,rfl⟩)
   simp only[look,this,Option.none_or,cF]
theorem AJ {s:St} {lim:Nat}: ∀(l:List Obj) (p:Nat),(∀(i:Nat) (o:Obj),l[i]? =some o->s.get [] (p+i)=some (.cells o.cells))->(∀o∈l,o.Good)->p+l.length<=lim-> ∀k,fk s lim (at_ k (jL p l)) (dq k l)
 | [],p,_,_,_,k=>.nil
 |o::r,p,h,hg,hl,k=>by
  simp only[aP] at hl
  simp only[at_,jL,look,dq]
  cases k==o.id with
  |true=>exact .at_ (by omega) (h 0 o rfl) (hg o (by simp))
  |false=>exact AJ r (p+1) (fun i q hq=>by rw[show p+1+i=p+(i+1) by omega];exact h (i+1) q (by simpa using hq)) (fun q hq=>hg q (by simp[hq])) (by omega) k
theorem AI: ∀(l:List Obj) (p:Nat),(jL p l).length=l.length
 | [],_=>rfl
 |o::l,p=>by simp only[jL,aP,AI l (p+1)]
theorem SK: ∀(l:List Obj) (p:Nat),(jL p l).map (·.1)=l.map (·.id)
 | [],_=>rfl
 |o::l,p=>by simp only[jL,fw,SK l (p+1)]
section
variable {sp:FuncId->Option (List aj->Option aj)} {ch:Nat->Nat}
theorem aih (h23:sp 23=none) {vb vo vt:aj} {b o t:List Obj} (hb:bC 6 Obj.val vb b) (ho:bC 6 Obj.val vo o) (ht:bC 6 Obj.val vt t) (sb:b.length<small) (so:o.length<small) (st:t.length<small) {e:bj} {lc:Ag.Loc} {s:St} (hm:s.minw<=s.next)
 (h3:ax e 3= .lref 3 1 0) (_g3:lc.gen 3=1) (b3:lc.get 3 1=some [vb]) (h4:ax e 4= .lref 4 1 0) (_g4:lc.gen 4=1) (b4:lc.get 4 1=some [vo]) (h5:ax e 5= .lref 5 1 0) (_g5:lc.gen 5=1) (b5:lc.get 5 1=some [vt]) {K:Fr->St->Prop}
 (hk: ∀(e':bj) (s':St) (mb mo mt mu md x:Nat),UI s s' b o t mb mo mt mu md x->ax e' 8= .ptr x 0->ax e' 6=ax e 6->ax e' 7=ax e 7->K ⟨e',132,lc⟩ s'):
 WD (QM sp ch) 9 EL [] 0 ET ⟨e,132,lc⟩ s K:=by
 have cb:=hb.clean
 have co:=ho.clean
 have ct:=ht.clean
 obtain⟨s1,r1,l1⟩:=Fz (ch:=ch) h23 hb sb s.top (bB _)
 have n1:s1.next=s.next+1+b.length:=l1.next
 have w1:s1.minw=s.next:=l1.minw
 let sA:=s.least s1
 have mA:sA.minw=s.minw:=EZ hm (by omega)
 have nA:sA.next=s.next+1+b.length:=n1
 have hA:sA.minw<=sA.next:=by omega
 obtain⟨s2,r2,l2⟩:=Fz (ch:=ch) h23 ho so sA.top (bB _)
 have n2:s2.next=sA.next+1+o.length:=l2.next
 have w2:s2.minw=sA.next:=l2.minw
 let sB:=sA.least s2
 have mB:sB.minw=sA.minw:=EZ hA (by omega)
 have nB:sB.next=sA.next+1+o.length:=n2
 have hB:sB.minw<=sB.next:=by omega
 obtain⟨s3,r3,l3⟩:=Fz (ch:=ch) h23 ht st sB.top (bB _)
 have n3:s3.next=sB.next+1+t.length:=l3.next
 have w3:s3.minw=sB.next:=l3.minw
 let sC:=sB.least s3
 have mC:sC.minw=sB.minw:=EZ hB (by omega)
 have nC:sC.next=sB.next+1+t.length:=n3
 have hC:sC.minw<=sC.next:=by omega
 have gB: ∀n,n<sA.next->sB.get [] n=sA.get [] n:=fun n h=>l2.old n (by show n<sA.next+1;omega) (by show n≠sA.next;omega)
 have gC: ∀n,n<sB.next->sC.get [] n=sB.get [] n:=fun n h=>l3.old n (by show n<sB.next+1;omega) (by show n≠sB.next;omega)
 have gF: ∀n v,n<sC.next->(((sC.new (.map [] 0)).new (.map [] 0)).new v).get [] n=sC.get [] n:=fun n v h=>by
  rw[df,df,df]
  have e1:(n==((sC.new (.map [] 0)).new (.map [] 0)).next)=false:=beq_eq_false_iff_ne.2 (by show n≠sC.next+1+1;omega)
  have e2:(n==(sC.new (.map [] 0)).next)=false:=beq_eq_false_iff_ne.2 (by show n≠sC.next+1;omega)
  have e3:(n==sC.next)=false:=beq_eq_false_iff_ne.2 (by omega)
  rw[e1,e2,e3];rfl
 unfold ET EL
 refine WD.hush (v:=.agg [vb]) (lc:=lc) (s1:=s.top) (fr1:=⟨e.set 33 (some (.agg [vb])),132,lc⟩) (fun _ h=>by cases h) rfl (bB _) rfl (fun mk=>by simp only[bo,ak,cx,aw,aq,cT,bF,aP,aW,cut,bN,a7,bS,aQ,aZ,li,h3,b3]) rfl (iw.2 ⟨by decide,rfl⟩) (fun rs1 k1=>?_)
 rw[ml hm]
 refine WD.call (g:=23) (args:=[.agg [vb]]) (v:=.map s.next) (s1:=s1) (fr1:=⟨(e.set 33 (some (.agg [vb]))).set 34 (some (.map s.next)),132,lc⟩) k1 (by decide) rfl (by omega) rfl (fun b=>by simp) (by simp only[callee,ai,ak,ff,aD,bk,bm,aq,cK,cT,cq,cH,bS]) r1 l1.ci (iw.2 ⟨by decide,rfl⟩) (fun rs2 k2=>?_)
 refine WD.hush (v:=.agg [vo]) (lc:=lc) (s1:=sA.top) (fr1:=⟨((e.set 33 (some (.agg [vb]))).set 34 (some (.map s.next))).set 35 (some (.agg [vo])),132,lc⟩) k2 rfl (bB _) rfl (fun mk=>by simp only[ai,bo,ak,cx,aw,aq,cT,cF,bF,aP,aW,cut,bN,a7,bS,aQ,ah,aZ,li,h4,b4];rfl) rfl (iw.2 ⟨by decide,rfl⟩) (fun rs3 k3=>?_)
 rw[show(s.least s1).least sA.top=sA from ml hA]
 refine WD.call (g:=23) (args:=[.agg [vo]]) (v:=.map sA.next) (s1:=s2) (fr1:=⟨(((e.set 33 (some (.agg [vb]))).set 34 (some (.map s.next))).set 35 (some (.agg [vo]))).set 36 (some (.map sA.next)),132,lc⟩) k3 (by decide) rfl (by omega) rfl (fun b=>by simp) (by simp only[callee,ai,ak,ff,aD,bk,bm,aq,cK,cT,cF,cq,cH,bS,ah]) r2 l2.ci (iw.2 ⟨by decide,rfl⟩) (fun rs4 k4=>?_)
 refine WD.hush (v:=.agg [vt]) (lc:=lc) (s1:=sB.top) (fr1:=⟨((((e.set 33 (some (.agg [vb]))).set 34 (some (.map s.next))).set 35 (some (.agg [vo]))).set 36 (some (.map sA.next))).set 37 (some (.agg [vt])),132,lc⟩) k4 rfl (bB _) rfl (fun mk=>by simp only[ai,bo,ak,cx,aw,aq,cT,cF,bF,aP,aW,cut,bN,a7,bS,aQ,ah,aZ,li,h5,b5];rfl) rfl (iw.2 ⟨by decide,rfl⟩) (fun rs5 k5=>?_)
 rw[show(sA.least s2).least sB.top=sB from ml hB]
 refine WD.call (g:=23) (args:=[.agg [vt]]) (v:=.map sB.next) (s1:=s3) (fr1:=⟨(((((e.set 33 (some (.agg [vb]))).set 34 (some (.map s.next))).set 35 (some (.agg [vo]))).set 36 (some (.map sA.next))).set 37 (some (.agg [vt]))).set 38 (some (.map sB.next)),132,lc⟩) k5 (by decide) rfl (by omega) rfl (fun b=>by simp) (by simp only[callee,ai,ak,ff,aD,bk,bm,aq,cK,cT,cF,cq,cH,bS,ah]) r3 l3.ci (iw.2 ⟨by decide,rfl⟩) (fun rs6 k6=>?_)
 refine WD.hush (v:=.map sC.next) (lc:=lc) (s1:=sC.top.new (.map [] 0)) (fr1:=⟨((((((e.set 33 (some (.agg [vb]))).set 34 (some (.map s.next))).set 35 (some (.agg [vo]))).set 36 (some (.map sA.next))).set 37 (some (.agg [vt]))).set 38 (some (.map sB.next))).set 39 (some (.map sC.next)),132,lc⟩) k6 rfl (bB _) rfl (fun mk=>by simp only[vO,bU,bF,Fi];rfl) rfl (iw.2 ⟨by decide,rfl⟩) (fun rs7 k7=>?_)
 rw[show(sB.least s3).least (sC.top.new (.map [] 0))=sC.new (.map [] 0) from E4 hC _]
 have hD:(sC.new (.map [] 0)).minw<=(sC.new (.map [] 0)).next:=kC hC
 refine WD.hush (v:=.map (sC.next+1)) (lc:=lc) (s1:=(sC.new (.map [] 0)).top.new (.map [] 0)) (fr1:=⟨(((((((e.set 33 (some (.agg [vb]))).set 34 (some (.map s.next))).set 35 (some (.agg [vo]))).set 36 (some (.map sA.next))).set 37 (some (.agg [vt]))).set 38 (some (.map sB.next))).set 39 (some (.map sC.next))).set 40 (some (.map (sC.next+1))),132,lc⟩) k7 rfl (bB _) rfl (fun mk=>by simp only[vO,bU,bF,Fi];rfl) rfl (iw.2 ⟨by decide,rfl⟩) (fun rs8 k8=>?_)
 rw[show(sC.new (.map [] 0)).least ((sC.new (.map [] 0)).top.new (.map [] 0))=(sC.new (.map [] 0)).new (.map [] 0) from E4 hD _]
 have hE:((sC.new (.map [] 0)).new (.map [] 0)).minw<=((sC.new (.map [] 0)).new (.map [] 0)).next:=kC hD
 refine WD.full (v:=.agg [.map s.next,.map sA.next,.map sB.next,.map sC.next,.map (sC.next+1)]) (lc:=lc) (s1:=((sC.new (.map [] 0)).new (.map [] 0)).top) (fr1:=⟨((((((((e.set 33 (some (.agg [vb]))).set 34 (some (.map s.next))).set 35 (some (.agg [vo]))).set 36 (some (.map sA.next))).set 37 (some (.agg [vt]))).set 38 (some (.map sB.next))).set 39 (some (.map sC.next))).set 40 (some (.map (sC.next+1)))).set 41 (some (.agg [.map s.next,.map sA.next,.map sB.next,.map sC.next,.map (sC.next+1)])),132,lc⟩) k8 (by decide) rfl (bB _) rfl ?_ rfl (iw.2 ⟨by decide,rfl⟩) (fun rs9 k9=>?_)
 ·simp only[ai,lf,ak,aD,dC,aq,fZ,cT,cF,bF,aP,aW,cV,gr,cq,cH,bS,aQ,ah,bE,cm,aZ,cj,VM,amH,dQ,Ht];rfl
 rw[ml hE]
 refine WD.fullL (v:=.ptr (sC.next+2) 0) (lc:=lc) (s1:=((sC.new (.map [] 0)).new (.map [] 0)).top.new (.cells [.map s.next,.map sA.next,.map sB.next,.map sC.next,.map (sC.next+1)])) (fr1:=⟨(((((((((e.set 33 (some (.agg [vb]))).set 34 (some (.map s.next))).set 35 (some (.agg [vo]))).set 36 (some (.map sA.next))).set 37 (some (.agg [vt]))).set 38 (some (.map sB.next))).set 39 (some (.map sC.next))).set 40 (some (.map (sC.next+1)))).set 41 (some (.agg [.map s.next,.map sA.next,.map sB.next,.map sC.next,.map (sC.next+1)]))).set 42 (some (.ptr (sC.next+2) 0)),132,lc⟩) (fun r hr=>(k9 r hr).1) (by decide) rfl ?_ rfl (iw.2 ⟨by decide,rfl⟩) (fun rs10 zg=>?_)
 ·simp only[ai,jC,ak,aD,jc,bJ,dC,aq,cK,cT,cF,gD,bS,ah,aaV,jc];rfl
 rw[E4 hE]
 have hF:=kC hE
 refine WD.fullL (v:=.ptr (sC.next+2) 0) (lc:=lc) (s1:=(((sC.new (.map [] 0)).new (.map [] 0)).new (.cells [.map s.next,.map sA.next,.map sB.next,.map sC.next,.map (sC.next+1)])).top) (fr1:=⟨((((((((((e.set 33 (some (.agg [vb]))).set 34 (some (.map s.next))).set 35 (some (.agg [vo]))).set 36 (some (.map sA.next))).set 37 (some (.agg [vt]))).set 38 (some (.map sB.next))).set 39 (some (.map sC.next))).set 40 (some (.map (sC.next+1)))).set 41 (some (.agg [.map s.next,.map sA.next,.map sB.next,.map sC.next,.map (sC.next+1)]))).set 42 (some (.ptr (sC.next+2) 0))).set 8 (some (.ptr (sC.next+2) 0)),132,lc⟩) zg (by decide) rfl ?_ rfl (iw.2 ⟨by decide,rfl⟩) (fun rs11 k11=>?_)
 ·simp only[ai,aN,ak,aw,cT,cF,bS,ah]
 rw[ml hF]
 refine WD.nil (hk _ _ s.next sA.next sB.next sC.next (sC.next+1) (sC.next+2) ⟨rfl,nA,nB,nC,rfl,rfl,rfl,hF,?_,⟨?_,?_,?_,?_,?_,?_,hF,by omega,by omega,by omega,by omega,by omega,io _⟩,?_,?_,?_⟩ (by simp only[ai,ah,cT,cF, *]) (by simp only[ai,ah,cF, *]) (by simp only[ai,ah,cF, *]))
 ·exact(l3.ci.trans (l2.ci.trans l1.ci):_)
 ·rw[df,show(sC.next+2==((sC.new (.map [] 0)).new (.map [] 0)).next)=true from bS _];rfl
 ·rw[gF _ _ (by omega),gC _ (by omega),gB _ (by omega)];exact l1.map
 ·rw[gF _ _ (by omega),gC _ (by omega)];exact l2.map
 ·rw[gF _ _ (by omega)];exact l3.map
 ·rw[df,df,df]
  have e1:(sC.next==((sC.new (.map [] 0)).new (.map [] 0)).next)=false:=beq_eq_false_iff_ne.2 (by show sC.next≠sC.next+1+1;omega)
  have e2:(sC.next==(sC.new (.map [] 0)).next)=false:=beq_eq_false_iff_ne.2 (by show sC.next≠sC.next+1;omega)
  rw[e1,e2,bS];rfl
 ·rw[df,df]
  have e1:(sC.next+1==((sC.new (.map [] 0)).new (.map [] 0)).next)=false:=beq_eq_false_iff_ne.2 (by show sC.next+1≠sC.next+1+1;omega)
  have e2:(sC.next+1==(sC.new (.map [] 0)).next)=true:=bS _
  rw[e1,e2];rfl
 ·intro i q hq
  have hi:i<b.length:=by
   rcases im i b.length with h|h
   ·exact h
   ·rw[jF h] at hq;cases hq
  rw[gF _ _ (by omega),gC _ (by omega),gB _ (by omega)];exact l1.obj i q hq
 ·intro i q hq
  have hi:i<o.length:=by
   rcases im i o.length with h|h
   ·exact h
   ·rw[jF h] at hq;cases hq
  rw[gF _ _ (by omega),gC _ (by omega)];exact l2.obj i q hq
 ·intro i q hq
  have hi:i<t.length:=by
   rcases im i t.length with h|h
   ·exact h
   ·rw[jF h] at hq;cases hq
  rw[gF _ _ (by omega)];exact l3.obj i q hq
end
def qX (l:List ar):List ar:=l.foldl (fun K k=>iT k K) []
def Cl (l:List Cf):List Cf:=l.foldl (fun C c=>dG c C) []
theorem aio {k x:ar} {K:List ar}:x∈iT k K↔x=k\/x∈K:=by
 unfold iT
 cases h:K.elem k with
 |true=>
  have:=qP h
  simp only[cT]
  exact⟨.inr,fun h'=>h'.elim (fun e=>e▸this) id⟩
 |false=>simp only[cF,rG,p8];exact⟨Or.symm,Or.symm⟩
theorem G4 {k:ar} {K:List ar} (h:K.Nodup):(iT k K).Nodup:=by
 unfold iT
 cases hk:K.elem k with
 |true=>exact h
 |false=>
  have hn:k ∉ K:=fun hm=>by rw[qM hm] at hk;cases hk
  exact List.nodup_append.2 ⟨h,by simp,fun a ha b hb e=>by simp only[p8] at hb;subst hb;subst e;exact hn ha⟩
theorem tH: ∀(l K:List ar),K.Nodup->(l.foldl (fun K k=>iT k K) K).Nodup/\(∀x,x∈l.foldl (fun K k=>iT k K) K↔x∈K\/x∈l)/\(l.foldl (fun K k=>iT k K) K).length<=K.length+l.length
 | [],K,h=>⟨h,fun x=>by simp,bB _⟩
 |k::l,K,h=>by
  obtain⟨h1,h2,h3⟩:=tH l (iT k K) (G4 h)
  refine⟨h1,fun x=>?_,?_⟩
  ·rw[uz,h2,aio,om]
   constructor
   ·rintro((h|h)|h)
    ·exact .inr (.inl h)
    ·exact .inl h
    ·exact .inr (.inr h)
   ·rintro(h|h|h)
    ·exact .inl (.inr h)
    ·exact .inl (.inl h)
    ·exact .inr h
  ·rw[uz,aP]
   have h4:(iT k K).length<=K.length+1:=by
    unfold iT
    cases K.elem k<;>simp
   omega
theorem yU: ∀(l K:List Cf),K.Nodup->(l.foldl (fun C c=>dG c C) K).Nodup/\(∀x,x∈l.foldl (fun C c=>dG c C) K↔x∈K\/x∈l)/\(l.foldl (fun C c=>dG c C) K).length<=K.length+l.length
 | [],K,h=>⟨h,fun x=>by simp,bB _⟩
 |k::l,K,h=>by
  obtain⟨h1,h2,h3⟩:=yU l (dG k K) (tz h)
  refine⟨h1,fun x=>?_,?_⟩
  ·rw[uz,h2,t6,om]
   constructor
   ·rintro((h|h)|h)
    ·exact .inr (.inl h)
    ·exact .inl h
    ·exact .inr (.inr h)
   ·rintro(h|h|h)
    ·exact .inl (.inr h)
    ·exact .inl (.inl h)
    ·exact .inr h
  ·rw[uz,aP]
   have h4:(dG k K).length<=K.length+1:=by
    unfold dG
    cases mh k K<;>simp
   omega
open Classical in
noncomputable def n7 (b o t:List Obj):List ar:=(qX (ec b o t)).filter fun k=>decide (ji b o t k)
open Classical in
noncomputable def pk (b o t:List Obj):List Cf:=Cl ((ec b o t).flatMap (kJ b o t)++((ec b o t).filter fun k=>decide (Reach b o t k)).map fun k=>(k,gR))
def qy (b o t:List Obj) (k:ar):Obj:=(fS b o t k).getD uw
noncomputable def lN (b o t:List Obj):List Obj:=(fh (n7 b o t)).map (qy b o t)
noncomputable def nQ (b o t:List Obj):List Cf:=ie (pk b o t)
noncomputable def sQ (b o t:List Obj):aj:=.tup [.agg [fR 6 ((lN b o t).map Obj.val)],fR 2 ((nQ b o t).map de)]
theorem R5 {b o t:List Obj} {k:ar} (h:k ∉ ec b o t):kJ b o t k=[]/\gM b o t k=none:=by
 simp only[ec,rG,not_or] at h
 have nn: ∀ {l:List Obj},k ∉ l.map (·.id)->dq k l=none:=fun {l} hn=>by
  cases ho:dq k l with
  |none=>rfl
  |some q=>exact absurd (xU.1 (by rw[ho];simp)) hn
 exact Hv (nn h.1) (nn h.2.1) (nn h.2.2)
theorem ji.name {b o t:List Obj} {k:ar} (h:ji b o t k):k∈ec b o t:=by
 rcases h with h|h
 ·exact lW fun hc=>by rw[(R5 hc).2] at h;cases h
 ·exact Fv h.no.2
theorem xO {b o t:List Obj} {k:ar}:k∈n7 b o t↔ji b o t k:=by
 unfold n7
 rw[List.mem_filter]
 have:=(tH (ec b o t) [] oq).2.1 k
 simp only[decide_eq_true_eq]
 constructor
 ·exact fun h=>h.2
 ·exact fun h=>⟨this.2 (.inr h.name),h⟩
theorem FF (b o t:List Obj):(n7 b o t).Nodup:=List.Nodup.sublist (List.filter_sublist) (tH (ec b o t) [] oq).1
theorem ajM (b o t:List Obj):(n7 b o t).length<=(ec b o t).length:=by
 have h1:=(tH (ec b o t) [] oq).2.2
 have h2:(n7 b o t).length<=(qX (ec b o t)).length:=qO _ _
 have h3:(qX (ec b o t)).length<=([]:List ar).length+(ec b o t).length:=h1
 simp only[aW] at h3
 omega
theorem Fa {b o t:List Obj} {c:Cf}:c∈pk b o t↔(∃k,c∈kJ b o t k)\/ ∃k,Reach b o t k/\c=(k,gR):=by
 unfold pk
 have:=(yU ((ec b o t).flatMap (kJ b o t)++((ec b o t).filter fun k=> @decide (Reach b o t k) (uy _)).map fun k=>(k,gR)) [] oq).2.1 c
 refine Iff.trans this ?_
 simp only[rI,false_or,rG,List.mem_flatMap,List.mem_map,List.mem_filter,decide_eq_true_eq]
 constructor
 ·rintro(⟨k,_,h⟩|⟨k,⟨_,h⟩,rfl⟩)
  ·exact .inl ⟨k,h⟩
  ·exact .inr ⟨k,h,rfl⟩
 ·rintro(⟨k,h⟩|⟨k,h,rfl⟩)
  ·exact .inl ⟨k,lW fun hc=>(by rw[(R5 hc).1] at h;cases h),h⟩
  ·exact .inr ⟨k,⟨Fv h.no.2,h⟩,rfl⟩
theorem yS (b o t:List Obj):(pk b o t).Nodup:=(yU _ [] oq).1
theorem yM (k:Cf) (C:List Cf):(dG k C).length<=C.length+1:=by
 unfold dG
 cases mh k C<;>simp
theorem T0 {id:ar}: ∀(ks:List ar) (C:List Cf),(og id ks C).length<=C.length+ks.length
 | [],C=>bB _
 |k::ks,C=>by
  have h1:og id (k::ks) C=og id ks (dG (id,mw k) C):=rfl
  have h2:=T0 (id:=id) ks (dG (id,mw k) C)
  have h3:=yM (id,mw k) C
  rw[h1,aP];omega
theorem j7.sixty {p:Option Obj} (h:j7 p): ∀o,p=some o->o.tags.length<=60:=fun o ho=>by
 have h1:=h o ho
 simp only[iK,cZ,decide_eq_true_eq] at h1
 omega
theorem Wm {b o t:List Obj} {k:ar} (vb:j7 (dq k b)) (vo:j7 (dq k o)) (vt:j7 (dq k t)):(kJ b o t k).length<=400:=by
 have h1:=vb.sixty
 have h2:=vo.sixty
 have h3:=vt.sixty
 unfold kJ fV
 cases dX (dq k o) (dq k t)||dX (dq k t) (dq k b) with
 |true=>simp
 |false=>
  cases dX (dq k o) (dq k b) with
  |true=>simp
  |false=>
   have hC:=yM (k,gR) []
   simp only[aW] at hC
   simp only[cF]
   split
   ·rename_i q1 q2 q3 e1 e2 e3
    cases bD q2.kind q1.kind&&bD q3.kind q1.kind with
    |false=>simp only[cF];omega
    |true=>
     simp only[cT,mV]
     have h4:=T0 (id:=q1.id) (i8 q1.tags q2.tags q3.tags).2 (l5 q1 q2 q3 (j4 q1 q2 q3 []))
     have h5:=(Gn q1.tags q2.tags q3.tags).2
     have h6:(l5 q1 q2 q3 (j4 q1 q2 q3 [])).length<=2:=by
      have h7:(j4 q1 q2 q3 []).length<=1:=by
       unfold j4
       cases lj q1 q2 q3 with
       |none=>exact yM _ []
       |some _=>exact Nat.zero_le _
      unfold l5
      cases oW (q1.x,q1.y) (q2.x,q2.y) (q3.x,q3.y) with
      |true=>have:=yM (q1.id,FZ) (j4 q1 q2 q3 []);simp only[cT];omega
      |false=>simp only[cF];omega
     have a1:=h1 q1 e1
     have a2:=h2 q2 e2
     have a3:=h3 q3 e3
     omega
   ·omega
theorem Il {α β:Type} {n:Nat} {f:α->List β}: ∀(l:List α),(∀a∈l,(f a).length<=n)->(l.flatMap f).length<=n*l.length
 | [],_=>Nat.zero_le _
 |a::l,h=>by
  have ih:=Il l fun b hb=>h b (by simp[hb])
  have h1:=h a (by simp)
  rw[List.flatMap_cons,dp,aP,Nat.mul_succ];omega
theorem HO {b o t:List Obj} (vb: ∀k,j7 (dq k b)) (vo: ∀k,j7 (dq k o)) (vt: ∀k,j7 (dq k t)):(pk b o t).length<=401*(ec b o t).length:=by
 have h1:=(yU ((ec b o t).flatMap (kJ b o t)++((ec b o t).filter fun k=> @decide (Reach b o t k) (uy _)).map fun k=>(k,gR)) [] oq).2.2
 have h2:=Il (f:=kJ b o t) (ec b o t) fun k _=>Wm (vb k) (vo k) (vt k)
 have h3:(((ec b o t).filter fun k=> @decide (Reach b o t k) (uy _)).map fun k=>(k,gR)).length<=(ec b o t).length:=by
  rw[eH];exact qO _ _
 rw[dp,aW] at h1
 unfold pk Cl
 refine fW h1 ?_
 omega
theorem Hy: ∀l:List (ar×ar),ip (!be 2 1) 2 l.length (bQ (l.map de))=some (l.map de)
 | []=>rfl
 |a::l=>by
  have ih:=Hy l
  have h1:bQ ((a::l).map de)= .str a.1:: .str a.2::bQ (l.map de):=rfl
  rw[h1]
  simp only[aP,fw]
  show(bif(!be 2 1) then _ else _)=_
  have h2:cut (aj.str a.1::aj.str a.2::bQ (l.map de)) 0 2=some [.str a.1,.str a.2]:=rfl
  rw[h2]
  simp only[aq,gr,nq,ih]
  rfl
theorem YB {s0 s:St} {v:aj} {l:List (ar×ar)} (g:nF 2 s0 s v (l.map de)):dh s.heap 3 v=some (fR 2 (l.map de)):=by
 rcases g.row with⟨rfl,hx⟩|⟨hne,k,rfl,hk,_⟩
 ·rw[hx];rfl
 ·have hk':s.heap.get k=some (.cells (bQ (l.map de))):=hk
  have hlen:=xe l
  have hcut:cut (bQ (l.map de)) 0 ((l.map de).length*2)=some (bQ (l.map de)):=by
   simp only[cut,nq,eH,<-hlen,List.take_length,aZ,bS,cT]
  have hself:eE (dh s.heap 2) (bQ (l.map de))=some (bQ (l.map de)):=vl fun v hv=>by
   have: ∀(l:List (ar×ar)), ∀v∈bQ (l.map de), ∃b:ar,v= .str b:=by
    intro l
    induction l with
    |nil=>intro v hv;cases hv
    |cons a l ih=>
     intro v hv
     have h1:bQ ((a::l).map de)= .str a.1:: .str a.2::bQ (l.map de):=rfl
     rw[h1] at hv
     rcases List.mem_cons.1 hv with rfl|hv
     ·exact⟨_,rfl⟩
     ·rcases List.mem_cons.1 hv with rfl|hv
      ·exact⟨_,rfl⟩
      ·exact ih v hv
   obtain⟨b,rfl⟩:=this l v hv
   rfl
  have h0: ∀n:Nat,dh s.heap 3 (.arr 2 k 0 n n)=(match s.heap.get k with
   |some (.cells cs)=>(cut cs 0 (n*2)).bind fun c=>(eE (dh s.heap 2) c).bind fun c'=>(ip (!be 2 1) 2 n c').bind fun xs=>some (.list 2 xs .no)
   |_=>none):=fun _=>rfl
  rw[h0,hk']
  simp only[hcut,aq,hself]
  rw[eH,Hy]
  simp only[aq]
  cases l with
  |nil=>exact absurd rfl hne
  |cons a l=>rfl
theorem Cq: ∀(C:List Cf) (n:Nat),(eW n C).map (·.key)=C.map de
 | [],_=>rfl
 |c::C,n=>by
  simp only[eW,fw,Cq C (n+1)];rfl
theorem w5: ∀(C:List Cf) (n:Nat),(eW n C).length=C.length
 | [],_=>rfl
 |c::C,n=>by simp only[eW,aP,w5 C (n+1)]
theorem Cp: ∀(C:List Cf) (n:Nat),(eW n C).map (·.born)=uD n C.length
 | [],_=>rfl
 |c::C,n=>by simp only[eW,fw,Cp C (n+1),aP,tk]
theorem Xl (C:List Cf):yA (eW 0 C):=by
 refine⟨fun e he=>?_,by rw[Cp];exact List.nodup_range'⟩
 have h1:e.born∈(eW 0 C).map (·.born):=List.mem_map.2 ⟨e,he,rfl⟩
 rw[Cp,List.mem_range'_1] at h1
 rw[w5];omega
section
variable {sp:FuncId->Option (List aj->Option aj)} {ch:Nat->Nat}
theorem ahm (h29:sp 29=none) {m:Nat} {s:St}:bz (QM sp ch) 29 [.map m] s (.func (.func 52) [] [.ptr s.next 0]) (s.new (.cells [.map m])):=by
 refine bz.of2 adV adU adX adW h29 ?_
 unfold MW
 refine aF ?_
 unfold MX
 simp only[dt,cY,az,aA,aB,ai,aN,jC,ak,aK,aD,jc,aw,bJ,aq,fZ,cT,gD,aP,aW,bS,tA,aQ,au,cm,cj,dT,ZF,jc,ofValue,fH]
 refine aF ?_
 unfold MY
 simp only[az,aA,aB,ai,aN,xY,ak,aD,bk,bm,aw,aq,dW,cT,cF,bS,tA,ah,au,pF]
 exact cd ⟨rfl,.inr rfl,cE (by simp only[ai,ah,cT,cF]) rfl⟩
theorem alk (s28: ∀n,n=28\/n=50\/n=81\/n=51->sp n=none) (h52:sp 52=none) {s:St} {m:Nat} {C:List Cf} (hm:s.minw<=s.next) (hlt:m<s.next) (hs:s.get [] m=some (.map (eW 0 C) C.length)) (hC:C.length<=1000000):
 ∃v s',bz (QM sp ch) 28 [.func (.func 52) [] [.ptr s.next 0],.func (.func 30) [] []] (s.new (.cells [.map m])) v s'/\nF 2 (s.new (.cells [.map m])) s' v ((ie C).map de):=by
 have hg2: ∀n,n<s.next->(s.new (.cells [.map m])).get [] n=s.get [] n:=fun n h=>by rw[df,beq_eq_false_iff_ne.2 (by omega)];rfl
 have hgv:qR (QM sp ch) 2 52 (s.new (.cells [.map m])) s.next (eW 0 C):=by
  intro s' bx lo lim lob c ht
  refine ahq (Q:=QM sp ch) rfl rfl (ch:=ch) rfl rfl (Xl C) (fun i=>by rw[w5];exact hC) h52 rfl rfl (m:=m) (kC hm) (ns hlt) (io _) (by rw[df,bS];rfl) (by rw[w5];exact(hg2 m hlt).trans hs) c ht fun e he=>?_
  have h1:e.key∈(eW 0 C).map (·.key):=List.mem_map.2 ⟨e,he,rfl⟩
  rw[Cq] at h1
  obtain⟨b,_,e2⟩:=List.mem_map.1 h1
  exact⟨b.1,b.2,e2.symm⟩
 obtain⟨v,s2,hr,l,hl,hgot⟩:=alj (Q:=QM sp ch) rfl rfl s28 (fun _=>rfl) (fun n hn=>by rcases hn with rfl|rfl|rfl<;>rfl) rfl (g:=52) (cb:=s.next) (s0:=s.new (.cells [.map m])) (es:=eW 0 C) (ks:=C) (kC hm) (by rw[w5];exact hC) (by rw[Cq]) (by kernel_rfl) hgv
 rw[F7 hl] at hgot
 exact⟨v,s2,hr,hgot⟩
end
theorem V2 {e:bj} {x y z:Operand} {a b c:Nat} (hx:ev e x=some (.map a)) (hy:ev e y=some (.map b)) (hz:ev e z=some (.map c)) (s:St):dV Tryz.prog 66 3 [(0,x),(1,y),(2,z)] false e s=some (.list 1 [.map a,.map b,.map c] .full,s):=by
 simp only[dV,Xj,aq,dQ,evc,hx,hy,hz,aj.clean,cT,gd,aj.cells,aP,aW,cV,Nat.zero_mul,aQ,bE,jt,ip,cut]
 rfl
theorem AQ {Q:cw} (hP:Q.P=Tryz.prog) {e:bj} {n:Nat} {lc:Ag.Loc} {s:St} {t u:Tmp} {ov w:aj} (h:ax e t= .lref t 1 0) (hl:lc.get t 1=some [ov]) (hu:ax e u=w) (hw:w.clean=true): ∃vs,gQ Q [] ⟨e,n,lc⟩ s [.cell t 24,.tmp u]=some vs/\jQ vs= .tup [.agg [ov],w]:=by
 refine⟨[.agg [ov],w],?_,rfl⟩
 simp only[gQ,x8,h,hP,cx,hl,aq,li,cut,nq,bN,aZ,aP,aW,bS,cT,cK,evc,ev,hu,hw]
theorem Sk: ∀(l:List Obj) (last:ar),pL last l=true-> ∀q∈l,iK q.tags=true
 | [],_,_,q,h=>by cases h
 |o::r,last,h,q,hq=>by
  simp only[pL] at h
  cases hb: !iO o||Ag.leBytes o.id last with
  |true=>rw[hb] at h;cases h
  |false=>
   rw[hb] at h
   rcases List.mem_cons.1 hq with rfl|hq
   ·have hv:iO q=true:=by
     cases hv:iO q with
     |true=>rfl
     |false=>rw[hv] at hb;cases hb
    unfold iO at hv
    cases hh:qm q with
    |true=>rw[hh] at hv;cases hv
    |false=>
     unfold qm at hh
     simp only[Bool.or_eq_false_iff,Bool.not_eq_false'] at hh
     exact hh.1.1.2
   ·exact Sk r o.id h q hq
structure mN (b o t:List Obj):Prop where
 vb:iX b=true
 vo:iX o=true
 vt:iX t=true
 gb: ∀q∈b,q.Good
 go: ∀q∈o,q.Good
 gt: ∀q∈t,q.Good
 lb:b.length<=300
 lo:o.length<=300
 lt:t.length<=300
theorem re {l:List Obj} (h:iX l=true) (k:ar):j7 (dq k l):=by
 intro q hq
 simp only[iX,cZ] at h
 exact Sk l [] h.1 q (sI hq).1
theorem Rn.grow {s1 s s':St} {x mb mo mt mu md:Nat} {B O T U:List (ar×aj)} {b o t:List Obj} {C:List Cf} (r:Rn s1 s x mb mo mt mu md B O T U b o t C) (hg: ∀n,n<s.next->s'.get [] n=s.get [] n) (hn:s.next<=s'.next) (hm:s'.minw<=s'.next):Rn s1 s' x mb mo mt mu md B O T U b o t C:=by
 obtain⟨o1,o2,o3,o4,o5,o6⟩:=r.mg.ord
 refine⟨r.mg.grow ((hg md (by omega)).trans r.mg.hd) (fun n h _=>hg n h) hn hm,fun n h=>(hg n (by omega)).trans (r.low n h),fun k v h=>?_,r.base,r.new,r.nd,r.cnd,r.conf⟩
 obtain⟨q,h1,h2⟩:=r.val k v h
 exact⟨q,h1,h2.keep r.mg.hd hn fun n a _=>hg n a⟩
theorem xK {U:List (ar×aj)} {k:ar}:(look k U).isSome=true↔k∈U.map (·.1):=by
 rw[Ah]
 exact⟨qP,qM⟩
theorem Rn.perm {s1 s:St} {x mb mo mt mu md:Nat} {B O T U:List (ar×aj)} {b o t:List Obj} {C:List Cf} (r:Rn s1 s x mb mo mt mu md B O T U b o t C) (h: ∀k,(look k U).isSome=true↔ji b o t k):(U.map (·.1)).Perm (n7 b o t):=
 (uC r.nd (FF b o t)).2 fun k=>by rw[<-xK,h,xO]
theorem Rn.len {s1 s:St} {x mb mo mt mu md:Nat} {B O T U:List (ar×aj)} {b o t:List Obj} {C:List Cf} (r:Rn s1 s x mb mo mt mu md B O T U b o t C) (hi:mN b o t):U.length<=900:=by
 have h1: ∀k∈U.map (·.1),k∈qX (ec b o t):=fun k hk=>((tH (ec b o t) [] oq).2.1 k).2 (.inr (r.new k (xK.2 hk)).name)
 have h2:((qX (ec b o t)).filter fun k=>(U.map (·.1)).elem k).Perm (U.map (·.1)):=(uC (List.Nodup.sublist List.filter_sublist (tH (ec b o t) [] oq).1) r.nd).2 fun k=>by
  rw[List.mem_filter]
  exact⟨fun h=>qP h.2,fun h=>⟨h1 k h,qM h⟩⟩
 have h3:=h2.length_eq
 have h4:((qX (ec b o t)).filter fun k=>(U.map (·.1)).elem k).length<=(qX (ec b o t)).length:=qO _ _
 have h5:(qX (ec b o t)).length<=([]:List ar).length+(ec b o t).length:=(tH (ec b o t) [] oq).2.2
 have h6:(ec b o t).length=b.length+(o.length+t.length):=by simp[ec]
 have:=hi.lb
 have:=hi.lo
 have:=hi.lt
 rw[eH] at h3
 simp only[aW] at h5
 omega
structure GI (sp:FuncId->Option (List aj->Option aj)):Prop where
 m:uK sp
 s:GP sp
 h9:sp 9=none
 h13:sp 13=some qr
 h23:sp 23=none
 h27:sp 27=none
 h29:sp 29=none
 h52:sp 52=none
 s28: ∀n,n=28\/n=50\/n=81\/n=51->sp n=none
section
variable {sp:FuncId->Option (List aj->Option aj)} {ch:Nat->Nat}
theorem aiu (hA:GI sp) {vb vo vt:aj} {b o t:List Obj} (hb:bC 6 Obj.val vb b) (ho:bC 6 Obj.val vo o) (ht:bC 6 Obj.val vt t) (hi:mN b o t) {s:St} (hm:s.minw<=s.next):
 ∃v s',bz (QM sp ch) 9 [.agg [vb],.agg [vo],.agg [vt]] s v s'/\jW s'.heap v (sQ b o t):=by
 have cb:=hb.clean
 have co:=ho.clean
 have ct:=ht.clean
 have hsm:small=9223372036854775808:=rfl
 have lb:=hi.lb
 have lo:=hi.lo
 have lt:=hi.lt
 have h13:=hA.h13
 have hvb:=vB hb hi.gb (by omega)
 have hvo:=vB ho hi.go (by omega)
 have hvt:=vB ht hi.gt (by omega)
 rw[hi.vb] at hvb
 rw[hi.vo] at hvo
 rw[hi.vt] at hvt
 refine bz.ofEx QR QQ Ri Rh hA.h9 ?_
 unfold k9
 refine aF ?_
 unfold EM
 simp only[dt,cY,az,aA,aB,ai,dA,cM,aN,gZ,jC,ak,aK,aD,gl,aw,bJ,dC,aq,cK,cT,cF,bF,gD,aP,aW,bS,tA,aQ,ah,au,bE,cm,cj,dT,wt,IT,IU,IV,IW,ofValue,fH]
 refine aR (aF ?_)
 unfold EN
 simp only[az,aA,dB,aB,eP,gn,ai,bR,aH,di,bo,hG,dK,dI,ak,aK,aD,bk,bm,bW,cx,dj,d7,aw,hJ,aq,gI,cK,cT,cF,bF,qS,aP,aW,cut,bN,a7,Bool.not_true,bS,tA,aQ,ah,au,aZ,li,h13,hvb,hvo,hvt]
 refine bc (t:=false) (by simp only[ak,ai,ah,cT,cF]) (ck ?_)
 simp only[aU]
 refine aR (W.drawD (aih hA.h23 hb ho ht (by omega) (by omega) (by omega) hm (by simp only[ai,ah,cT,cF, *]) ?_ ?_ (by simp only[ai,ah,cT,cF, *]) ?_ ?_ (by simp only[ai,ah,cT,cF, *]) ?_ ?_ ?_))
 ·simp only[dA,cM,ah,cT,cF]
 ·simp only[bR,ah,cT,cF]
 ·simp only[dA,cM,ah,cT,cF]
 ·simp only[bR,ah,cT,cF]
 ·simp only[dA,cM,ah,cT,cF]
 ·simp only[bR,ah,cT,cF]
 intro e1 s1 mb mo mt mu md x M h8 h6 _
 simp only[aU]
 have eB:nI [] (mb+1) b=jL (mb+1) b:=by simpa using yN b [] (mb+1) (fun _ _=>rfl) (Di hi.vb)
 have eO:nI [] (mo+1) o=jL (mo+1) o:=by simpa using yN o [] (mo+1) (fun _ _=>rfl) (Di hi.vo)
 have eT:nI [] (mt+1) t=jL (mt+1) t:=by simpa using yN t [] (mt+1) (fun _ _=>rfl) (Di hi.vt)
 have mg:=M.mg
 rw[eB,eO,eT] at mg
 have q1:=M.emb
 have q2:=M.emo
 have q3:=M.emt
 have q4:=M.emu
 have q5:=M.emd
 have q6:=M.ex
 have q7:=M.next
 have vb':=re hi.vb
 have vo':=re hi.vo
 have vt':=re hi.vt
 have ctx:wI s1 mu (jL (mb+1) b) (jL (mo+1) o) (jL (mt+1) t) b o t:=⟨AJ b _ M.ob hi.gb (by omega),AJ o _ M.oo hi.go (by omega),AJ t _ M.ot hi.gt (by omega),vb',vo',vt'⟩
 have rs:Rs s1 s1 x mb mo mt mu md (jL (mb+1) b) (jL (mo+1) o) (jL (mt+1) t) [] b o t (fun _=>False) []:=⟨mg,fun _ _=>rfl,fun k v h=>(by cases h),fun k=>⟨fun h=>(by cases h),fun h=>h.1.elim⟩,oq,oq,fun c=>⟨fun h=>(by cases h),fun⟨_,h,_⟩=>h.elim⟩⟩
 have h6:ax e1 6= .lref 6 1 0:=h6.trans (by simp only[ai,ah,cT,cF, *])
 have hx:s1.top.get [] x=_:=mg.hx
 have hbs: ∀e s,ax e 46= .map mb->ax e 50= .map mo->ax e 54= .map mt->dV Tryz.prog 66 3 [(0,.tmp 46),(1,.tmp 50),(2,.tmp 54)] false e s=some (.list 1 [.map mb,.map mo,.map mt] .full,s):=fun e s p q r=>V2 (by rw[ak,p]) (by rw[ak,q]) (by rw[ak,r]) s
 refine aR (lr M.minw ?_)
 unfold Rc
 simp only[eJ,eI,eK,isStore,ai,aH,lg,bo,bZ,fI,cJ,ak,aK,aD,bk,bm,bt,aw,bU,cU,bJ,aq,jm,cT,cF,bF,gD,aP,aW,a7,bO,bS,tA,aQ,dc,ah,au,bE,aZ,nc,CA,CB,CC,ahM,aaW,aaX,h8,fG,dv,hx,du,hbs]
 refine cO ?_
 refine(ajO hA.m ctx (ms:=[(mb,jL (mb+1) b),(mo,jL (mo+1) o),(mt,jL (mt+1) t)]) (rt:=.full) (by simp) ?_ _ [] _ _ [] (fun _=>False) [] rfl rs ?_ ?_ ?_ ?_).mono ?_
 ·intro p hp
  simp only[om,rI,or_false] at hp
  rcases hp with rfl|rfl|rfl
  ·exact⟨by show mb<mu;omega,by rw[AI];omega,mg.hb⟩
  ·exact⟨by show mo<mu;omega,by rw[AI];omega,mg.ho⟩
  ·exact⟨by show mt<mu;omega,by rw[AI];omega,mg.ht⟩
 ·simp only[ai,ah,cF,h8]
 ·simp only[ai,ah,cT,cF,fw,List.map_nil]
 ·simp only[ai,ah,cT,cF];rfl
 ·simp only[ai,ah,cT,cF];rfl
 rintro y fr s2 ⟨rfl,e2,rfl,⟨g6,g8⟩,U,C,rs2⟩
 have g6:ax e2 6= .lref 6 1 0:=g6.trans (by simp only[ai,ah,cF,h6])
 have rn2:=rs2.rn fun k=>by
  simp only[false_or,om,rI,or_false,exists_eq_or_imp,exists_eq_left,SK,ec,rG]
 show W (QM sp ch) 9 _ _ _ _
 have hx2:=rn2.mg.hx
 obtain⟨o1,o2,o3,o4,o5,o6⟩:=rn2.mg.ord
 have l2:=rn2.len hi
 obtain⟨kv,s3,hsort,K3,old3,n3,m3⟩:=TG (ch:=ch) hA.s rn2.mg.minw (by omega:mu<s2.next) rn2.mg.hu (by omega)
 have hk3:=(mz (U.map (·.1))).length_eq
 rw[eH] at hk3
 have rn3:=rn2.grow old3 n3 m3
 have kc3:=K3.clean
 have kl3:=K3.len
 refine aR (aR (gh (fU 4 ?_)))
 unfold QY
 simp only[az,aA,aB,ai,aH,bo,bZ,fI,ak,aw,aq,cT,cF,bF,bN,a7,bO,bS,tA,aQ,ah,au,se,nc,g8,fG,dv,hx2,du]
 refine fY (g:=26) (args:=[.map mu]) ?_ (Rk hA.s.h26) (by decide) ?_
 ·simp only[callee,ai,ak,ff,aD,bk,bm,aq,fZ,cT,cF,cq,cH,bS,ah]
 refine fY (g:=25) (args:=[.func (.func 49) [] [.ptr s2.next 0]]) ?_ hsort (by decide) ?_
 ·simp only[callee,ai,ak,ff,aD,bk,bm,aq,oM,cT,cF,cq,cH,bS,ah]
 refine fX ?_
 simp only[az,aA,aB,ai,aH,cJ,ak,aK,aD,bk,bm,bt,aw,bU,cU,bJ,aq,cT,cF,bF,gD,bS,tA,ah,au,aZ,aaY,kc3,kl3,aU]
 refine cO ?_
 have hks3:(fh (U.map (·.1))).length<=1000000:=by omega
 refine(Vm hA.m hA.h27 ctx hks3 (fh (U.map (·.1))) [] _ s3 U C rfl K3 (bB _) rn3 (fun k hk=>xK.2 ((mz _).mem_iff.1 hk)) ?_ ?_ ?_ ?_).mono ?_
 ·simp only[ai,ah,cF,g8]
 ·simp only[ai,ah,cT,cF]
 ·simp only[ai,ah,cT,cF]
 ·simp only[ai,ah,cT,cF];rfl
 rintro y fr s4 ⟨rfl,e4,rfl,⟨f6,f8⟩,U4,C4,rn4,sub4,ref4,clo4,n4⟩
 have f6:ax e4 6= .lref 6 1 0:=f6.trans (by simp only[ai,ah,cF,g6])
 obtain⟨hdom,hconf⟩:=aiT rn4 fun j q h1 h2 id h3 h4=>by
  cases hj:look j U with
  |none=>exact clo4 j q h1 hj h2 id h3 h4
  |some v=>exact ref4 j ((mz _).mem_iff.2 (xK.1 (by rw[hj];rfl))) q h2 id h3 h4
 have hperm:=rn4.perm hdom
 have hx4:=rn4.mg.hx
 obtain⟨p1,p2,p3,p4,p5,p6⟩:=rn4.mg.ord
 have l4:=rn4.len hi
 obtain⟨kw,s5,hsort5,K5,old5,n5,m5⟩:=TG (ch:=ch) hA.s rn4.mg.minw (by omega:mu<s4.next) rn4.mg.hu (by omega)
 have hkeys:fh (U4.map (·.1))=fh (n7 b o t):=A0 hperm
 have hk5:=(mz (U4.map (·.1))).length_eq
 rw[eH] at hk5
 have rn5:=rn4.grow old5 n5 m5
 have kc5:=K5.clean
 have kl5:=K5.len
 show W (QM sp ch) 9 _ _ _ _
 refine aF ?_
 unfold Q6
 simp only[az,aA,aB,dA,cM,gZ,gl,bJ,dC,aq,cF,bF,gD,tA,aQ,ah,au,aaU,wt]
 refine aR (aR (gh (fU 4 ?_)))
 unfold Q7
 simp only[az,aA,aB,ai,aH,bo,bZ,fI,ak,aw,aq,cT,cF,bF,bN,a7,bO,bS,tA,aQ,ah,au,se,nc,f8,fG,dv,hx4,du]
 refine fY (g:=26) (args:=[.map mu]) ?_ (Rk hA.s.h26) (by decide) ?_
 ·simp only[callee,ai,ak,ff,aD,bk,bm,aq,fZ,cT,cF,cq,cH,bS,ah]
 refine fY (g:=25) (args:=[.func (.func 49) [] [.ptr s4.next 0]]) ?_ hsort5 (by decide) ?_
 ·simp only[callee,ai,ak,ff,aD,bk,bm,aq,oM,cT,cF,cq,cH,bS,ah]
 refine fX ?_
 simp only[az,aA,aB,ai,aH,cJ,ak,aK,aD,bk,bm,bt,aw,bU,cU,bJ,aq,cT,cF,bF,gD,bS,tA,ah,au,aZ,aaR,kc5,kl5,aU]
 refine cO ?_
 have hgood: ∀k∈fh (U4.map (·.1)), ∃p,look k U4=some (.ptr p 0)/\p<s5.next/\s5.get [] p=some (.cells (qy b o t k).cells)/\(qy b o t k).Good:=by
  intro k hk
  obtain⟨v,hv⟩:=Option.isSome_iff_exists.1 (xK.2 ((mz _).mem_iff.1 hk))
  obtain⟨q,a1,a2⟩:=rn5.val k v hv
  rcases a2.out with⟨_,h⟩|⟨p,q',rfl,a3,a4,a5,a6⟩
  ·cases h
  have a3:=Option.some.inj a3
  have:qy b o t k=q':=by rw[qy,a1,a3];rfl
  rw[this]
  exact⟨p,hv,a4,a5,a6⟩
 have hks5:(fh (U4.map (·.1))).length<=800000:=by omega
 refine(ahE rn5.mg K5 (bB _) hks5 (g:=qy b o t) (fun k hk=>let⟨p,a,b,c,_⟩:=hgood k hk;⟨p,a,b,c⟩) (fh (U4.map (·.1))) [] _ _ s5 .nils rfl (.inl ⟨rfl,rfl⟩) m5 (bB _) (fun _ _=>rfl) ?_ ?_ ?_ ?_ ?_ ?_ ?_).mono ?_
 ·simp only[ai,ah,cF,f8]
 ·simp only[ai,ah,cT,cF]
 ·simp only[dA,cM,ah,cT,cF]
 ·simp only[bR,ah,cT,cF,bS]
 ·simp only[ai,ah,cT,cF]
 ·simp only[ai,ah,cT,cF]
 ·simp only[ai,ah,cT,cF];rfl
 rintro y fr s6 ⟨rfl,e6,lc6,ov,rfl,⟨w6,w8,w15⟩,lg15,lb15,⟨lg6,lb6⟩,hO,m6,n6,old6⟩
 have w6:ax e6 6= .lref 6 1 0:=w6.trans (by simp only[ai,ah,cF,f6])
 obtain⟨r1,r2,r3,r4,r5,r6⟩:=rn5.mg.ord
 have hx6:s6.get [] x=some (.cells [.map mb,.map mo,.map mt,.map mu,.map md]):=(old6 x r6).trans rn5.mg.hx
 have hd6:s6.get [] md=some (.map (eW 0 C4) C4.length):=(old6 md (by omega)).trans rn5.mg.hd
 have hCperm:C4.Perm (pk b o t):=(uC rn4.cnd (yS b o t)).2 fun c=>by rw[hconf,Fa]
 have hClen:C4.length<=1000000:=by
  have h1:=hCperm.length_eq
  have h2:=HO vb' vo' vt'
  have h3:(ec b o t).length=b.length+(o.length+t.length):=by simp[ec]
  omega
 have hCs:ie C4=nQ b o t:=F7 hCperm
 obtain⟨cv,s7,hsort7,hgot⟩:=alk (ch:=ch) hA.s28 hA.h52 m6 (by omega:md<s6.next) hd6 hClen
 have cc7:=hgot.clean
 have hoc:=hO.clean
 have hoce:ov.cells=[ov]:=by rcases hO with⟨rfl,_⟩|⟨_,k,rfl,_⟩<;>rfl
 show W (QM sp ch) 9 _ _ _ _
 refine aR (gh (fU 4 ?_))
 unfold Ra
 simp only[az,aA,aB,ai,aH,bo,bZ,fI,ak,aw,aq,cT,cF,bF,bN,a7,bO,bS,tA,aQ,ah,au,H8,FN,w8,fG,dv,hx6,du]
 refine fY (g:=29) (args:=[.map md]) ?_ (ahm hA.h29) (by decide) ?_
 ·simp only[callee,ai,ak,ff,aD,bk,bm,aq,fZ,cT,cF,cq,cH,bS,ah]
 refine fY (g:=28) (args:=[.func (.func 52) [] [.ptr s6.next 0],.func (.func 30) [] []]) ?_ hsort7 (by decide) ?_
 ·simp only[callee,ai,ak,ff,aD,bk,bm,aq,oM,cT,cF,cq,cH,bS,ah]
 refine fX ?_
 simp only[az,aA,aB,ai,aN,ak,aw,cT,cF,bS,tA,ah,au,aU]
 refine aF ?_
 unfold Rb
 have g6':lc6.gen 6=1:=lg6.trans (by simp only[dA,cM,ah,cT,cF])
 simp only[az,aA,ej,aB,ep,ai,bR,aH,aN,bo,ez,ak,aD,cx,aw,dC,ix,aq,cK,cT,cF,bF,aP,aW,cut,cV,bN,a7,cq,cH,bS,tA,aQ,ah,au,cm,dY,aZ,dl,cj,dT,li,A5,w6,w15,lb15,lb6]
 have hmg:(lN b o t)=(fh (U4.map (·.1))).map (qy b o t):=by rw[lN,hkeys]
 have f1:dh s7.heap 7 ov=some (fR 6 ((lN b o t).map Obj.val)):=by
  rw[hmg]
  exact xh hO (k:=6) fun v hv=>by
   obtain⟨q,hq,rfl⟩:=List.mem_map.1 hv
   obtain⟨k,hk,rfl⟩:=List.mem_map.1 hq
   obtain⟨_,_,_,_,hgd⟩:=hgood k hk
   exact YC _ hgd 2
 have f2:dh s7.heap 8 cv=some (fR 2 ((nQ b o t).map de)):=by
  rw[<-hCs]
  exact tN _ _ _ _ (tN _ _ _ _ (tN _ _ _ _ (tN _ _ _ _ (tN _ _ _ _ (YB hgot)))))
 refine cd ⟨.inr rfl,.tup [.agg [ov],cv],AQ rfl (ov:=ov) (w:=cv) ?_ ?_ ?_ cc7,9,?_⟩
 ·simp only[ai,ah,cF,w6]
 ·simp only[bR,bS,cT]
 ·simp only[ai,ah,cT,cF]
 show(eE (dh s7.heap 8) [.agg [ov],cv]).bind (fun r=>some (aj.tup r))=_
 have f3:dh s7.heap 8 (.agg [ov])=some (.agg [fR 6 ((lN b o t).map Obj.val)]):=by
  show(eE (dh s7.heap 7) [ov]).bind (fun r=>some (aj.agg r))=_
  simp only[eE,f1,aq]
 simp only[eE,f3,f2,aq,sQ]
end
def GW:eV:=[(13,qr),(16,rm),(31,pN),(36,rj),(74,sV),(76,ur),(118,sE),(119,qA),(122,pj),(123,sX),(124,s9)]
theorem UR:fT GW:=.cons E8 (.cons Sy (.cons Sx (.cons Sj (.cons ak5 (.cons alS (.cons aiE (.cons SI (.cons HF (.cons als (.cons amq .nil))))))))))
theorem US:GI (fun f=>fv f GW) where
 m:=⟨rfl,rfl,rfl,rfl,rfl,rfl,rfl,rfl,rfl,rfl,rfl,rfl,rfl,rfl,rfl,rfl,rfl⟩
 s:=⟨fun n hn=>by rcases hn with rfl|rfl|rfl|rfl<;>rfl,rfl,rfl⟩
 h9:=rfl
 h13:=rfl
 h23:=rfl
 h27:=rfl
 h29:=rfl
 h52:=rfl
 s28:=fun n hn=>by rcases hn with rfl|rfl|rfl|rfl<;>rfl
open Classical in
noncomputable def mq:Sp
 | [u,v,w]=>(jw u).bind fun b=>(jw v).bind fun o=>(jw w).bind fun t=>if mN b o t then some (sQ b o t) else none
 |_=>none
theorem R6 {vb vo vt:aj} {b o t:List Obj} (hb:bC 6 Obj.val vb b) (ho:bC 6 Obj.val vo o) (ht:bC 6 Obj.val vt t) (hc:mN b o t):mq [.agg [vb],.agg [vo],.agg [vt]]=some (sQ b o t):=by
 have hsm:small=9223372036854775808:=rfl
 have h1:=hc.lb
 have h2:=hc.lo
 have h3:=hc.lt
 simp only[mq,kh hb hc.gb (by omega),kh ho hc.go (by omega),kh ht hc.gt (by omega),aq,if_pos hc]
theorem xR:eN Tryz.prog 9 mq:=by
 intro args x hv G h w xs wr hx
 unfold mq at hv
 split at hv
 ·rename_i a1 a2 a3
  simp only[aG] at hv
  obtain⟨b,h1,o,h2,t,h3,hv⟩:=hv
  split at hv
  ·rename_i hc
   injection hv with hv;subst hv
   obtain⟨vb,rfl,hb,hgb,_⟩:=lB h1
   obtain⟨vo,rfl,ho,hgo,_⟩:=lB h2
   obtain⟨vt,rfl,ht,hgt,_⟩:=lB h3
   obtain⟨t1,vb',w1,hb'⟩:=lP hb hgb
   obtain⟨t2,vo',w2,ho'⟩:=lP ho hgo
   obtain⟨t3,vt',w3,ht'⟩:=lP ht hgt
   have hw:ef [.agg [vb],.agg [vo],.agg [vt]]=[.agg [vb'],.agg [vo'],.agg [vt']]:=by simp only[ef,w1,w2,w3]
   exact TH UR (args:=[.agg [vb],.agg [vo],.agg [vt]]) (by simp only[jT,t1,t2,t3,Bool.and_self]) (fun ch=>by
    rw[hw]
    exact aiu US hb' ho' ht' hc (s:=s0) (bB _)) G h w xs wr hx
  ·cases hv
 ·cases hv
noncomputable def QH (t:eV) (k:Nat->Nat):cw:= {P:=Tryz.prog,hint:=bI,spec:=fun f=>fv f t,ch:=fun _=>0,kmax:=k }
theorem YO {t:eV} (h:fT t) (k:Nat->Nat):Ag.Good (QH t k) where
 mixed:=Fh
 spec f sp hsp args v hv G hp w xs wr hx:=h _ (A9 hsp) args v hv G hp w xs wr hx
 specH f sp h args v G hp w xs wr hx hv:=by cases h
 names f fn hf:=by
  have hf:Tryz.prog.funcs[f]? =some fn:=hf
  have:=List.all_eq_true.1 Fp fn (by
   rw[<-Array.getElem?_toList] at hf
   exact List.mem_of_getElem? hf)
  simpa using this
def pK:List Nat->Nat->Nat->Nat
 | [],_,d=>d
 |a::_,0,_=>a
 |_::l,i+1,d=>pK l i d
noncomputable def ve (t:eV) (ks c:List Nat) (n f:Nat) (args:List aj):Option (aj×Nat):=((cN ((QH t (fun i=>pK ks i 1)).at (fun i=>pK c i 0)) n).call f args [] s0).bind fun x=>(dh x.2.heap 12 x.1).bind fun u=>some (u,x.2.ci)
theorem Sd (ch:Nat->Nat): ∀(n i j:Nat),i<n->pK ((uD j n).map ch) i 0=ch (j+i)
 |0,i,j,h=>by omega
 |n+1,0,j,_=>by simp[tk,pK]
 |n+1,i+1,j,h=>by
  rw[tk,fw]
  show pK _ i 0=_
  rw[Sd ch n i (j+1) (by omega),show j+1+i=j+(i+1) by omega]
inductive uM:List Nat->List Nat->Prop
 |nil:uM [] []
 |cons {k c:Nat} {ks cs:List Nat}:c<k->uM ks cs->uM (k::ks) (c::cs)
theorem Uo (ch:Nat->Nat): ∀(ks:List Nat) (j:Nat),(∀i,i<ks.length->ch (j+i)<pK ks i 1)->uM ks ((uD j ks.length).map ch)
 | [],_,_=>.nil
 |k::ks,j,h=>by
  rw[aP,tk,fw]
  refine .cons (h 0 (by simp)) (Uo ch ks (j+1) fun i hi=>?_)
  have:=h (i+1) (by simpa using hi)
  rwa [show j+(i+1)=j+1+i by omega] at this
theorem TI {t:eV} (ht:fT t) {ks:List Nat} (hk: ∀i,0<pK ks i 1) {n f m:Nat} {args:List aj} {u:aj} (hm:m<=ks.length) (h: ∀c,uM ks c->ve t ks c n f args=some (u,m)) {args':List aj} (ha:ef args'=args) (hp:jT args'=true)
 (G:Gh) (hh:bv bH) (w:World) (xs:List Value) (wr:WR G hh w) (hx:cp G args' xs):kF Tryz.prog f ⟨xs⟩ w fun y w'=> ∃G',WR G' hh w'/\dr G hh w G' hh w' 0 0/\VR G' u y:=by
 refine F9 (Q:=QH t (fun i=>pK ks i 1)) (n:=n) (YO ht _) hk hp (fun ch hi=>?_) G hh w xs wr hx
 rw[ha]
 have hw:=Uo ch ks 0 (fun i _=>by rw[aQ];exact hi i)
 have he:=h _ hw
 simp only[ve,aG,Option.some.injEq,Prod.mk.injEq] at he
 obtain⟨⟨v,s'⟩,a,u',b,rfl,c⟩:=he
 have c:s'.ci=m:=c
 exact⟨v,s',(pE (QH t (fun i=>pK ks i 1)) n).call f args [] _ s0 v s' a ch (fun i hi=>by
  rw[Sd ch _ i 0 (by omega),aQ]),12,b⟩
def Cu:fD->fD->Bool
 | .full,.full=>true
 | .no,.no=>true
 |_,_=>false
def mT (g:aj->aj->Bool):List aj->List aj->Bool
 | [],[]=>true
 |a::x,b::y=>g a b&&mT g x y
 |_,_=>false
def nT:Nat->aj->aj->Bool
 |0,_,_=>false
 |_+1,.bool a,.bool b=>a==b
 |_+1,.int k a,.int k' b=>k==k'&&bD a b
 |_+1,.str a,.str b=>a==b
 |k+1,.agg a,.agg b=>mT (nT k) a b
 |_+1,.nils,.nils=>true
 |k+1,.list n a r,.list m b r'=>be n m&&Cu r r'&&mT (nT k) a b
 |_,_,_=>false
theorem Xs {r r':fD} (h:Cu r r'=true):r=r':=by
 unfold Cu at h;split at h<;>first|rfl|cases h
theorem r9 {g:aj->aj->Bool} (hg: ∀a b,g a b=true->a=b): ∀ {x y:List aj},mT g x y=true->x=y
 | [],[],_=>rfl
 | [],_::_,h=>by cases h
 |_::_,[],h=>by cases h
 |a::x,b::y,h=>by
  simp only[mT,cZ] at h
  rw[hg a b h.1,r9 hg h.2]
theorem vd: ∀(k:Nat) {a b:aj},nT k a b=true->a=b
 |0,_,_,h=>by cases h
 |k+1,a,b,h=>by
  have ih:=fun a b=>vd k (a:=a) (b:=b)
  cases a<;>cases b<;>simp only[nT,Bool.false_eq_true] at h
  ·rw[eq_of_beq h]
  ·simp only[cZ] at h
   rw[eq_of_beq h.1,eq_of_beq h.2]
  ·rw[eq_of_beq h]
  ·rw[r9 ih h]
  ·rfl
  ·simp only[cZ] at h
   rw[Nat.eq_of_beq_eq_true h.1.1,Xs h.1.2,r9 ih h.2]
def qF (r:fD):aj:=.list 2 [.agg [.str [110,97,109,101],.str [69,108,109]]] r
def kO (x y:Int) (t:aj):aj:=.agg [.str [110,49],.int .i64 1,.int .i64 x,.int .i64 y,.nils,t]
def Fw:aj:=.agg [.str [110,50],.int .i64 1,.int .i64 4,.int .i64 0,.nils,.nils]
def Gu (t:aj):aj:=.agg [.str [119,49],.int .i64 2,.int .i64 0,.int .i64 0,.list 1 [.str [110,49],.str [110,50]] .full,t]
def kN (l:List aj):aj:=.agg [.list 6 l .no]
def bad (id what:ar):aj:=.agg [.str id,.str what]
def kAt:ar:=[97,116]
def EW:ar:=[111,98,106,101,99,116]
def a1:List aj:=[kN [kO 0 0 .nils],kN [kO 1 0 .nils],kN [kO 0 0 (qF .full)]]
def a2:List aj:=[kN [kO 0 0 .nils],kN [kO 2 0 .nils],kN [kO 1 5 .nils]]
def a3:List aj:=[kN [kO 0 0 .nils],.agg [.nils],kN [kO 0 0 (qF .full)]]
def a4:List aj:=[kN [kO 0 0 .nils,Fw,Gu .nils],kN [kO 0 0 .nils],kN [kO 0 0 .nils,Fw,Gu (qF .full)]]
def r1:aj:=.tup [kN [kO 1 0 (qF .no)],.nils]
def r2:aj:=.tup [kN [kO 1 5 .nils],.list 2 [bad [110,49] kAt] .no]
def r3:aj:=.tup [kN [kO 0 0 (qF .full)],.list 2 [bad [110,49] EW] .no]
def r4:aj:=.tup [kN [kO 0 0 .nils,Fw,Gu (qF .full)],.list 2 [bad [110,50] EW,bad [119,49] EW] .no]
def HT:eV:=(83,mS)::(16,rm)::(13,qr)::T5
theorem UF:fT HT:=.cons Cg (.cons Sy (.cons E8 GV))
def B9 (b o t:List Obj) (R:List ar):Bool:=(ec b o t).all fun k=>match(match gM b o t k with|some q=>some q|none=>bif R.elem k then iY b o t k else none) with
 |some q=>q.refs.all fun id=>(gM b o t id).isSome||(iY b o t id).isNone||R.elem id
 |none=>true
theorem aki {b o t:List Obj} {R:List ar} (hR: ∀k∈R,Reach b o t k) (hc:B9 b o t R=true) (k:ar):Reach b o t k↔k∈R:=by
 refine⟨fun h=>?_,hR k⟩
 have step: ∀ {j id:ar} {q:Obj},j∈ec b o t->(match gM b o t j with|some q=>some q|none=>bif R.elem j then iY b o t j else none)=some q->id∈q.refs->gM b o t id=none->(iY b o t id).isSome=true->id∈R:=by
  intro j id q h1 h2 h3 h4 h5
  have h:=List.all_eq_true.1 hc j h1
  rw[h2] at h
  have h:=List.all_eq_true.1 h id h3
  rw[h4] at h
  cases hn:iY b o t id with
  |none=>rw[hn] at h5;cases h5
  |some x=>
   rw[hn] at h
   exact qP (by simpa using h)
 induction h with
 |of h1 h2 h3 h4=>exact step (ji.name (.inl (by rw[h1];rfl))) (by rw[h1]) h2 h3 h4
 |step h0 h1 h2 h3 h4 ih=>
  refine step (ji.name (.inr h0)) ?_ h2 h3 h4
  rw[h0.no.1]
  simp only[qM ih,cT,h1]
def FO (b o t:List Obj) (R:List ar):aj:=.tup [.agg [fR 6 (((fh ((qX (ec b o t)).filter fun k=>(gM b o t k).isSome||R.elem k)).map (qy b o t)).map Obj.val)],fR 2 ((ie (Cl ((ec b o t).flatMap (kJ b o t)++((ec b o t).filter fun k=>R.elem k).map fun k=>(k,gR)))).map de)]
theorem akq {b o t:List Obj} {R:List ar} (hR: ∀k∈R,Reach b o t k) (hc:B9 b o t R=true):sQ b o t=FO b o t R:=by
 have hr:=aki hR hc
 have e1:(fun k=> @decide (ji b o t k) (uy _))=fun k=>(gM b o t k).isSome||R.elem k:=by
  funext k
  have:ji b o t k↔((gM b o t k).isSome||R.elem k)=true:=by
   rw[Bool.or_eq_true]
   exact or_congr Iff.rfl ((hr k).trans ⟨qM,qP⟩)
  rw[Bool.eq_iff_iff,<-this]
  exact @decide_eq_true_iff _ (uy _)
 have e2:(fun k=> @decide (Reach b o t k) (uy _))=fun k=>R.elem k:=by
  funext k
  rw[Bool.eq_iff_iff]
  refine(@decide_eq_true_iff _ (uy _)).trans ?_
  exact(hr k).trans ⟨qM,qP⟩
 unfold sQ lN nQ n7 pk FO
 rw[e1,e2]
theorem An {u v w:aj} {b o t:List Obj} {R:List ar} (h1:jw u=some b) (h2:jw v=some o) (h3:jw w=some t) (vb:iX b=true) (vo:iX o=true) (vt:iX t=true) (lb:b.length<=300) (lo:o.length<=300) (lt:t.length<=300) (hR: ∀k∈R,Reach b o t k) (hc:B9 b o t R=true):mq [u,v,w]=some (FO b o t R):=by
 obtain⟨_,_,_,gb,_⟩:=lB h1
 obtain⟨_,_,_,go,_⟩:=lB h2
 obtain⟨_,_,_,gt,_⟩:=lB h3
 have hi:mN b o t:=⟨vb,vo,vt,gb,go,gt,lb,lo,lt⟩
 simp only[mq,h1,h2,h3,aq,if_pos hi,akq hR hc]
def Fl:ar:=[110,49]
def Aq:ar:=[110,50]
def Uj:ar:=[119,49]
def yV:List cz:=[([110,97,109,101],[69,108,109])]
def pJ (x y:Int) (tv:aj) (l:List cz):Obj:=⟨Fl,1,x,y,.nils,tv,[],l⟩
def Sc:Obj:=⟨Aq,1,4,0,.nils,.nils,[],[]⟩
def Be (tv:aj) (l:List cz):Obj:=⟨Uj,2,0,0,.list 1 [.str Fl,.str Aq] .full,tv,[Fl,Aq],l⟩
theorem m1:mq a1=some r1:=(An (b:=[pJ 0 0 .nils []]) (o:=[pJ 1 0 .nils []]) (t:=[pJ 0 0 (qF .full) yV]) (R:=[]) (by kernel_rfl) (by kernel_rfl) (by kernel_rfl) (by kernel_rfl) (by kernel_rfl) (by kernel_rfl) (by decide) (by decide) (by decide) (fun _ h=>by cases h) (by kernel_rfl)).trans (congrArg some (by kernel_rfl))
theorem m2:mq a2=some r2:=(An (b:=[pJ 0 0 .nils []]) (o:=[pJ 2 0 .nils []]) (t:=[pJ 1 5 .nils []]) (R:=[]) (by kernel_rfl) (by kernel_rfl) (by kernel_rfl) (by kernel_rfl) (by kernel_rfl) (by kernel_rfl) (by decide) (by decide) (by decide) (fun _ h=>by cases h) (by kernel_rfl)).trans (congrArg some (by kernel_rfl))
theorem m3:mq a3=some r3:=(An (b:=[pJ 0 0 .nils []]) (o:=[]) (t:=[pJ 0 0 (qF .full) yV]) (R:=[]) (by kernel_rfl) (by kernel_rfl) (by kernel_rfl) (by kernel_rfl) (by kernel_rfl) (by kernel_rfl) (by decide) (by decide) (by decide) (fun _ h=>by cases h) (by kernel_rfl)).trans (congrArg some (by kernel_rfl))
theorem m4:mq a4=some r4:=(An (b:=[pJ 0 0 .nils [],Sc,Be .nils []]) (o:=[pJ 0 0 .nils []]) (t:=[pJ 0 0 .nils [],Sc,Be (qF .full) yV]) (R:=[Aq]) (by kernel_rfl) (by kernel_rfl) (by kernel_rfl) (by kernel_rfl) (by kernel_rfl) (by kernel_rfl) (by decide) (by decide) (by decide)
 (fun k h=>by
  simp only[p8] at h
  subst h
  exact .of (k:=Uj) (q:=Be (qF .full) yV) (by kernel_rfl) (by simp[Be]) (by kernel_rfl) (by kernel_rfl)) (by kernel_rfl)).trans (congrArg some (by kernel_rfl))
end Go.Proofs.YtbfmdojdemckbaaGreat
