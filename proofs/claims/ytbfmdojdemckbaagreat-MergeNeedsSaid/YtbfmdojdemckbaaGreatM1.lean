/- merger.merge; the loops over names; merger.need; merge.Merge, whole: its contract. -/
import Derived.Test.YtbfmdojdemckbaaGreatT1
import Derived.Test.YtbfmdojdemckbaaGreatS1
import Derived.Test.YtbfmdojdemckbaaGreatZ2
open Bool renaming and_eq_true→df,and_true→dX,false_or→jI,or_self→lg,true_and→iq
open Classical renaming byContradiction→ml,propDecidable→vi
open List renaming cons_append→cP,drop_succ_cons→gZ,drop_zero→nH,drop→aZ,elem_eq_true_of_mem→rD,foldl_cons→vj,getElem?_cons_zero→gj,getElem?_eq_none→jS,head?_cons→bE,length_append→dw,length_cons→aR,length_filter_le→rF,length_map→fw,length_nil→aY,map_append→mm,map_cons→fS,mem_append→sK,mem_cons→qH,mem_of_elem_eq_true→rG,mem_singleton→qI,nil_append→cy,nodup_cons→xc,nodup_nil→oZ,not_mem_nil→rH,perm_ext_iff_of_nodup→Hz,range'_succ→ub,range'→vp,take_append_drop→oe,take→bO
open Nat renaming add_zero→cQ,beq→bo,le_refl→bK,le_succ_of_le→lj,le_trans→gN,lt_irrefl→ff,lt_of_lt_of_le→iv,lt_or_ge→iJ,lt_succ_of_lt→og,lt_succ_self→iC,reduceAdd→bJ,reduceBEq→ah,reduceLT→ar,reduceLeDiff→ck,reduceMul→jJ,zero_add→aQ
open Option renaming bind_eq_some_iff→aN,bind_some→aq,getD_some→oh
open Go.Ag.W renaming block→cR,cond→bc,exit→eL,loop1→cY,region→gH,reg→cp,ret→bP,sdrawQ→ll,seq→aV,skip→b7,sreg→aF
namespace Go.Proofs.YtbfmdojdemckbaaGreat
open Go.Ag
def gG:aB:=[111,98,106,101,99,116]
def js (p q:Option Obj):Option Obj:=match p,q with
 |none,_=>q
 |some o,none=>some o
 |some o,some t=>bif di (rS t o) 0 then some t else some o
def ig (pb po pt:Option Obj):Option Obj:=bif dz po pt||dz pt pb then po else bif dz po pb then pt else match pb,po,pt with
 |some b,some o,some t=>bif bz o.kind b.kind&&bz t.kind b.kind then some (th b o t) else js po pt
 |_,_,_=>js po pt
def gR (k:aB) (pb po pt:Option Obj) (C:List Cf):List Cf:=bif dz po pt||dz pt pb then C else bif dz po pb then C else match pb,po,pt with
 |some b,some o,some t=>bif bz o.kind b.kind&&bz t.kind b.kind then qd b o t C else dU (k,gG) C
 |_,_,_=>dU (k,gG) C
inductive fM (s:St) (lim:Nat):aj->Option Obj->Prop
 |nil:fM s lim .nilp none
 |at_ {p:Nat} {o:Obj}:p<lim->s.get [] p=some (.cells o.cells)->o.Good->fM s lim (.ptr p 0) (some o)
theorem fM.pv {s s':St} {lim:Nat} {a:aj} {q:Option Obj} (h:fM s lim a q) (hs: ∀n,n<lim->s'.get [] n=s.get [] n):PV s' a q:=by
 cases h with
 |nil=>exact .nil
 |at_ h1 h2 h3=>exact .at_ ((hs _ h1).trans h2) h3
structure Mg (s:St) (x mb mo mt mu md:Nat) (B O T U:List (aB×aj)) (C:List Cf):Prop where
 hx:s.get [] x=some (.cells [.map mb,.map mo,.map mt,.map mu,.map md])
 hb:s.get [] mb=some (.map (c8 0 B) B.length)
 ho:s.get [] mo=some (.map (c8 0 O) O.length)
 ht:s.get [] mt=some (.map (c8 0 T) T.length)
 hu:s.get [] mu=some (.map (c8 0 U) U.length)
 hd:s.get [] md=some (.map (fJ 0 C) C.length)
 minw:s.minw<=s.next
 ord:mb<mu/\mo<mu/\mt<mu/\mu<md/\md<x/\x<s.next
theorem fM.keep {s s':St} {lim lim' md:Nat} {C:List Cf} {a:aj} {q:Option Obj} (h:fM s lim a q) (hd:s.get [] md=some (.map (fJ 0 C) C.length)) (hl:lim<=lim') (hs: ∀n,n<lim->n≠md->s'.get [] n=s.get [] n):fM s' lim' a q:=by
 cases h with
 |nil=>exact .nil
 |at_ h1 h2 h3=>
  refine .at_ (by omega) ((hs _ h1 ?_).trans h2) h3
  intro e;subst e;rw[hd] at h2;cases h2
section
variable {s s':St} {x mb mo mt mu md:Nat} {B O T U:List (aB×aj)} {C C':List Cf}
theorem Mg.grow (M:Mg s x mb mo mt mu md B O T U C) (hd:s'.get [] md=some (.map (fJ 0 C') C'.length)) (hs: ∀n,n<s.next->n≠md->s'.get [] n=s.get [] n) (hn:s.next<=s'.next) (hm:s'.minw<=s'.next):Mg s' x mb mo mt mu md B O T U C':=by
 obtain⟨o1,o2,o3,o4,o5,o6⟩:=M.ord
 exact⟨(hs x (by omega) (by omega)).trans M.hx,(hs mb (by omega) (by omega)).trans M.hb,(hs mo (by omega) (by omega)).trans M.ho,(hs mt (by omega) (by omega)).trans M.ht,(hs mu (by omega) (by omega)).trans M.hu,hd,hm,o1,o2,o3,o4,o5,by omega⟩
end
theorem aqe {o:Obj} (h:o.Good) (p:Int×Int):(yU o p).Good:=⟨⟨h.refs,h.tags,h.id,h.reflen,h.ref,h.taglen,h.key⟩,h.pr,h.pt⟩
theorem aqg {o:Obj} (h:o.Good) {l:List cM} (h1:l.length<small) (h2: ∀t∈l,t.1.length<small):(WT o l).Good:=⟨⟨h.refs,wD l,h.id,h.reflen,h.ref,h1,h2⟩,h.pr,anQ l⟩
theorem aoa {b o t:Obj} (gb:b.Good) (go:o.Good) (gt:t.Good):(jb b o t).Good:=by
 unfold jb
 cases h:kd b o t with
 |none=>exact gb
 |some r=>
  unfold kd at h
  cases hr:mP b.refs o.refs t.refs with
  |none=>rw[hr] at h;cases h
  |some r'=>
   rw[hr] at h
   cases hv:eK (rr b r') with
   |false=>simp only[hv,cF] at h;cases h
   |true=>
    simp only[hv,cT] at h
    injection h with h;subst h
    exact V0 gb go gt hr
theorem I7 {b o t:Obj} (gb:b.Good) (go:o.Good) (gt:t.Good) (vb:gM b.tags=true) (vo:gM o.tags=true) (vt:gM t.tags=true):(th b o t).Good:=by
 have hsm:small=9223372036854775808:=rfl
 refine aqg (aqe (aoa gb go gt) _) (by have:=(BO b.tags o.tags t.tags).1;omega) fun u hu=>?_
 have:=UK (Hg vb vo vt u.1 (Hf.1 u hu))
 omega
theorem T6 {p q:Option Obj} (hp: ∀o,p=some o->o.Good) (hq: ∀o,q=some o->o.Good): ∀o,js p q=some o->o.Good:=by
 intro o h
 cases p with
 |none=>exact hq o h
 |some a=>
  cases q with
  |none=>exact hp o h
  |some c=>
   simp only[js] at h
   cases hc:di (rS c a) 0 with
   |true=>rw[hc] at h;exact hq o h
   |false=>rw[hc] at h;exact hp o h
theorem T7 {s:St} {lim:Nat} {a b:aj} {p q:Option Obj} (ha:fM s lim a p) (hb:fM s lim b q):fM s lim (qk a b p q) (js p q):=by
 cases ha with
 |nil=>exact hb
 |at_ h1 h2 h3=>
  cases hb with
  |nil=>exact .at_ h1 h2 h3
  |at_ h4 h5 h6=>
   rename_i o _ t
   simp only[qk,js]
   cases di (rS t o) 0 with
   |true=>exact .at_ h4 h5 h6
   |false=>exact .at_ h1 h2 h3
structure vw (sp:FuncId->Option (List aj->Option aj)):Prop where
 h24:sp 24=none
 h43:sp 43=none
 h44:sp 44=none
 h45:sp 45=none
 h46:sp 46=none
 h75:sp 75=none
 h77:sp 77=none
 h16:sp 16=some rb
 h31:sp 31=some qw
 h36:sp 36=some su
 h74:sp 74=some tR
 h76:sp 76=some u6
 h118:sp 118=some tE
 h119:sp 119=some rf
 h122:sp 122=some p9
 h123:sp 123=some tT
 h124:sp 124=some tX
structure vv (s s':St) (x mb mo mt mu md:Nat) (B O T U:List (aB×aj)) (C':List Cf) (v:aj) (q:Option Obj):Prop where
 mg:Mg s' x mb mo mt mu md B O T U C'
 pv:fM s' s'.next v q
 old: ∀n,n<s.next->n≠md->s'.get [] n=s.get [] n
 next:s.next<=s'.next
 ci:s'.ci=s.ci
def kC (p:Option Obj):Prop:= ∀o,p=some o->gM o.tags=true
theorem kC.len {p:Option Obj} (h:kC p): ∀o,p=some o->o.tags.length<=400000:=fun o ho=>by
 have h1:=h o ho
 simp only[gM,df,decide_eq_true_eq] at h1
 omega
theorem fM.out {s:St} {lim:Nat} {v:aj} {q:Option Obj} (h:fM s lim v q):(v= .nilp/\q=none)\/ ∃p o,v= .ptr p 0/\q=some o/\p<lim/\s.get [] p=some (.cells o.cells)/\o.Good:=by
 cases h with
 |nil=>exact .inl ⟨rfl,rfl⟩
 |at_ h1 h2 h3=>exact .inr ⟨_,_,rfl,rfl,h1,h2,h3⟩
section
variable {sp:FuncId->Option (List aj->Option aj)} {ch:Nat->Nat} (hS:vw sp)
include hS
theorem al6 {s:St} {x mb mo mt mu md:Nat} {B O T U:List (aB×aj)} {C:List Cf} (M:Mg s x mb mo mt mu md B O T U C) {id:aB} {pb po pt:Option Obj}
 (hb:fM s mu (at_ id B) pb) (ho:fM s mu (at_ id O) po) (ht:fM s mu (at_ id T) pt) (gb:kC pb) (go:kC po) (gt:kC pt): ∃v s',bv (QM sp ch) 24 [.ptr x 0,.str id] s v s'/\vv s s' x mb mo mt mu md B O T U (gR id pb po pt C) v (ig pb po pt):=by
 have hm:=M.minw
 obtain⟨o1,o2,o3,o4,o5,o6⟩:=M.ord
 have hx:s.top.get [] x=_:=M.hx
 have lb:=sh (s:=s.top) M.hb id
 have lo:=sh (s:=s.top) M.ho id
 have lt:=sh (s:=s.top) M.ht id
 have vb:=hb.pv fun _ _=>rfl
 have vo:=ho.pv fun _ _=>rfl
 have vt:=ht.pv fun _ _=>rfl
 have cb:=vb.clean
 have co:=vo.clean
 have ct:=vt.clean
 have same: ∀ {v:aj} {q:Option Obj},fM s mu v q->vv s s x mb mo mt mu md B O T U C v q:=fun h=>⟨M,h.keep M.hd (by omega) fun _ _ _=>rfl,fun _ _ _=>rfl,bK _,rfl⟩
 refine bv.ofEx agx agw agz agy hS.h24 ?_
 unfold NB
 refine aF ?_
 unfold ND
 simp only[dr,cZ,aw,az,aA,aM,aH,au,cT,aR,aY,tA,aQ,ar,bJ,ck,cd,dT,ja]
 refine ll hm ?_
 unfold NF
 simp only[d8,d7,ec,isStore,ai,aG,aM,bn,bN,l5,gh,ak,aD,au,aq,cw,gr,cT,cF,bQ,aZ,bE,bS,tA,aQ,cQ,ah,ar,Dh,Di,Dj,nX,gg,dH,hx,dG,lb,lo,lt]
 refine aV (cR (aV (aV ?_)))
 refine gH (gd 2 ?_)
 unfold NG
 simp only[aw,az,aA,ai,aG,ak,au,cT,cF,bO,aZ,bS,tA,ah,ar]
 refine gq (g:=43) (args:=[at_ id O,at_ id T]) ?_ (GV hS.h43 hS.h16 hm vo vt) (by decide) ?_
 ·simp only[callee,ai,ak,fA,aD,bh,bk,aq,cT,cF,cy,cP,bS,ah,co,ct]
 refine gp ?_
 simp only[aw,az,aA,ai,aM,ak,au,cT,cF,bS,tA,ah,ar,aW]
 have last: ∀(e':bq) (lc':Ag.Loc),ay e' 6=at_ id O->ig pb po pt=po->gR id pb po pt C=C->W (QM sp ch) 24 (.seq (.region Er) .ret) ⟨e',83,lc'⟩ s fun y fr s1=>y= .ret/\ ∃v,(∃vs,gL (QM sp ch) [] fr s1 [.tmp 4]=some vs/\jO vs=v)/\vv s s1 x mb mo mt mu md B O T U (gR id pb po pt C) v (ig pb po pt):=by
  intro e' lc' h6 hp hc
  refine aF ?_
  unfold Er
  simp only[aw,az,aA,ai,aG,aM,ak,au,cT,bS,tA,ar,h6]
  refine bP ⟨rfl,at_ id O,bV (by simp only[ai,ah,cT,cF]) co,?_⟩
  rw[hp,hc]
  exact same ho
 cases h1:dz po pt with
 |true=>
  have hO:ig pb po pt=po:=by simp only[ig,h1,Bool.true_or,cT]
  have hC:gR id pb po pt C=C:=by simp only[gR,h1,Bool.true_or,cT]
  refine bc (t:=true) (by simp only[ak,ai,ah,cT,cF]) (b7 ?_)
  simp only[aW]
  refine bc (t:=true) (by simp only[ak,ai,ah,cT,cF]) ?_
  refine(last _ _ (by simp only[ai,ah,cT,cF]) hO hC).mono ?_
  rintro y fr s' ⟨rfl,h⟩
  exact⟨.inr rfl,h⟩
 |false=>
  refine bc (t:=false) (by simp only[ak,ai,ah,cT,cF]) ?_
  refine gH (gd 2 ?_)
  unfold NH
  simp only[aw,az,aA,ai,aG,ak,au,cT,cF,bO,aZ,bS,tA,ah,ar]
  refine gq (g:=43) (args:=[at_ id T,at_ id B]) ?_ (GV hS.h43 hS.h16 hm vt vb) (by decide) ?_
  ·simp only[callee,ai,ak,fA,aD,bh,bk,aq,cT,cF,cy,cP,bS,ah,cb,ct]
  refine gp ?_
  simp only[aw,az,aA,ai,aM,ak,au,cT,cF,bS,tA,ah,ar,aW]
  cases h2:dz pt pb with
  |true=>
   have hO:ig pb po pt=po:=by simp only[ig,h1,h2,jI,cT]
   have hC:gR id pb po pt C=C:=by simp only[gR,h1,h2,jI,cT]
   refine bc (t:=true) (by simp only[ak,ai,ah,cT,cF]) ?_
   refine(last _ _ (by simp only[ai,ah,cT,cF]) hO hC).mono ?_
   rintro y fr s' ⟨rfl,h⟩
   exact⟨.inr rfl,h⟩
  |false=>
   refine bc (t:=false) (by simp only[ak,ai,ah,cT,cF]) ?_
   refine aV (gH (gd 2 ?_))
   unfold NI
   simp only[aw,az,aA,ai,aG,ak,au,cT,cF,bO,aZ,bS,tA,ah,ar]
   refine gq (g:=43) (args:=[at_ id O,at_ id B]) ?_ (GV hS.h43 hS.h16 hm vo vb) (by decide) ?_
   ·simp only[callee,ai,ak,fA,aD,bh,bk,aq,cT,cF,cy,cP,bS,ah,cb,co]
   refine gp ?_
   simp only[aw,az,aA,ai,aM,ak,au,cT,cF,bS,tA,ah,ar,aW]
   cases h3:dz po pb with
   |true=>
    have hO:ig pb po pt=pt:=by simp only[ig,h1,h2,h3,jI,cT,cF]
    have hC:gR id pb po pt C=C:=by simp only[gR,h1,h2,h3,jI,cT,cF]
    refine bc (t:=true) (by simp only[ak,ai,ah,cT,cF]) (aF ?_)
    unfold NJ
    simp only[aw,az,aA,ai,aG,aM,ak,au,cT,cF,bS,tA,ah,ar]
    refine bP ⟨.inr rfl,at_ id T,bV (by simp only[ai,ah,cT,cF]) ct,?_⟩
    rw[hO,hC]
    exact same ht
   |false=>
    refine bc (t:=false) (by simp only[ak,ai,ah,cT,cF]) ?_
    have conf: ∀(e':bq) (lc':Ag.Loc),ay e' 0= .ptr x 0->ay e' 1= .str id->ay e' 6=at_ id O->ay e' 7=at_ id T->ig pb po pt=js po pt->gR id pb po pt C=dU (id,gG) C->W (QM sp ch) 24 (.seq (.region Eu) (.seq (.region Ep) .ret)) ⟨e',83,lc'⟩ s fun y fr s1=>(y= .normal\/y= .ret)/\ ∃v,(∃vs,gL (QM sp ch) [] fr s1 [.tmp 4]=some vs/\jO vs=v)/\vv s s1 x mb mo mt mu md B O T U (gR id pb po pt C) v (ig pb po pt):=by
     intro e' lc' h0 h1' h6 h7 hO hC
     have hnote:=yp (sp:=sp) (ch:=ch) hS.h45 M.hx M.hd id gG
     refine aV (gH (gd 2 ?_))
     unfold Eu
     simp only[aw,az,aA,ai,aG,ak,au,cF,bO,aZ,tA,ah,ar,h0,h1']
     refine gq (g:=45) (args:=[.ptr x 0,.str id,.str gG]) ?_ hnote (by decide) ?_
     ·simp only[callee,ai,ak,aH,fA,aD,bh,bk,iM,aq,cw,ez,cT,cF,cy,cP,bS,ah]
      rfl
     refine gp ?_
     obtain⟨s2,hs2⟩: ∃a,a=s.put md (some (.map (fJ 0 (dU (id,gG) C)) (dU (id,gG) C).length)):=⟨_,rfl⟩
     rw[<-hs2]
     have e1: ∀n,n<s.next->n≠md->s2.get [] n=s.get [] n:=fun n _ h=>by rw[hs2,cX,beq_eq_false_iff_ne.2 h];rfl
     have e2:s2.next=s.next:=by rw[hs2];rfl
     have e3:s2.minw<=s2.next:=by rw[hs2];exact jW _ _ _ hm
     have e4:s2.get [] md=some (.map (fJ 0 (dU (id,gG) C)) (dU (id,gG) C).length):=by rw[hs2,cX,bS];rfl
     have M2:=M.grow e4 e1 (by omega) e3
     have ho2:=ho.keep M.hd (by omega:mu<=s2.next) fun n h1 h2=>e1 n (by omega) h2
     have ht2:=ht.keep M.hd (by omega:mu<=s2.next) fun n h1 h2=>e1 n (by omega) h2
     have hless:=T9 (ch:=ch) hS.h46 hS.h77 hS.h122 hS.h119 hS.h123 hS.h124 hS.h31 e3 (ho2.pv fun _ _=>rfl) (ht2.pv fun _ _=>rfl) go.len gt.len
     have hlv:=T7 ho2 ht2
     have cl:=(hlv.pv fun _ _=>rfl).clean
     simp only[aw,aW]
     refine aV (gH (gd 2 ?_))
     unfold Ep
     simp only[aw,az,aA,ai,aG,ak,au,cF,bO,aZ,tA,ah,ar,h6,h7]
     refine gq (g:=46) (args:=[at_ id O,at_ id T]) ?_ hless (by decide) ?_
     ·simp only[callee,ai,ak,fA,aD,bh,bk,aq,cT,cF,cy,cP,bS,ah,co,ct]
     refine gp ?_
     simp only[aw,az,aA,ai,aM,ak,au,cT,cF,bS,tA,ah,ar,aW]
     refine bP ⟨.inr rfl,qk (at_ id O) (at_ id T) po pt,bV (by simp only[ai,ah,cT,cF]) cl,?_⟩
     rw[hO,hC]
     exact⟨M2,hlv,e1,by omega,by rw[hs2];rfl⟩
    have mid: ∀(e1:bq) (lc1:Ag.Loc) (KK:Ex->Fr->St->Prop),ay e1 0= .ptr x 0->ay e1 1= .str id->ay e1 5=at_ id B->ay e1 6=at_ id O->ay e1 7=at_ id T->
     (∀fr s1,(∃v,(∃vs,gL (QM sp ch) [] fr s1 [.tmp 4]=some vs/\jO vs=v)/\vv s s1 x mb mo mt mu md B O T U (gR id pb po pt C) v (ig pb po pt))->KK .ret fr s1)->
     (∀e',ay e' 0= .ptr x 0->ay e' 1= .str id->ay e' 6=at_ id O->ay e' 7=at_ id T->ig pb po pt=js po pt->gR id pb po pt C=dU (id,gG) C->KK .normal ⟨e',83,lc1⟩ s)->
     W (QM sp ch) 24 (.seq (.draw Es NC) (.cond (Operand.tmp 39) (.seq (.region Et) .ret) .skip)) ⟨e1,83,lc1⟩ s KK:=by
     intro e1 lc1 KK g0 g1 g5 g6 g7 hret hskip
     refine ll hm ?_
     unfold Es
     rcases ho.out with⟨eo,qo⟩|⟨p2,o2,eo,qo,a1,a2,a3⟩
     ·have hO:ig pb po pt=js po pt:=by
       simp only[ig,h1,h2,h3,lg,cF]
       rw[qo];cases pb<;>rfl
      have hC:gR id pb po pt C=dU (id,gG) C:=by
       simp only[gR,h1,h2,h3,lg,cF]
       rw[qo];cases pb<;>rfl
      simp only[d8,d7,jg,ec,kD,isStore,fR,ai,aG,aM,cz,aU,ak,aH,aD,bF,cD,du,au,aq,cT,cF,bQ,bS,tA,ah,ar,g6,eo,ja,jj,uO]
      refine bc (t:=false) (by simp only[ak,ai,ah,cT,cF]) (b7 (hskip _ ?_ ?_ ?_ ?_ hO hC))
      ·simp only[ai,ah,cF,g0]
      ·simp only[ai,ah,cF,g1]
      ·simp only[ai,ah,cF,g6]
      ·simp only[ai,ah,cF,g7]
     rcases ht.out with⟨et,qt⟩|⟨p3,o3,et,qt,b1,b2,b3⟩
     ·have hO:ig pb po pt=js po pt:=by
       simp only[ig,h1,h2,h3,lg,cF]
       rw[qt];cases pb<;>cases po<;>rfl
      have hC:gR id pb po pt C=dU (id,gG) C:=by
       simp only[gR,h1,h2,h3,lg,cF]
       rw[qt];cases pb<;>cases po<;>rfl
      simp only[d8,d7,jg,ec,kh,kD,isStore,eW,fR,ai,aG,aM,cz,aU,ak,aH,aD,bF,cD,dB,du,au,aq,ez,cT,cF,bQ,bS,tA,ah,ar,g6,g7,eo,et,ja,jj,uO,sD]
      refine bc (t:=false) (by simp only[ak,ai,ah,cT,cF]) (b7 (hskip _ ?_ ?_ ?_ ?_ hO hC))
      ·simp only[ai,ah,cF,g0]
      ·simp only[ai,ah,cF,g1]
      ·simp only[ai,ah,cF,g6]
      ·simp only[ai,ah,cF,g7]
     rcases hb.out with⟨eb,qb⟩|⟨p1,o1',eb,qb,d1,d2,d3⟩
     ·have hO:ig pb po pt=js po pt:=by
       simp only[ig,h1,h2,h3,lg,cF]
       rw[qb]
      have hC:gR id pb po pt C=dU (id,gG) C:=by
       simp only[gR,h1,h2,h3,lg,cF]
       rw[qb]
      simp only[d8,d7,jg,ec,kh,kD,isStore,eW,fR,ai,aG,aM,cz,aU,ak,aH,aD,bF,cD,dB,du,au,aq,ez,cT,cF,bQ,bS,tA,ah,ar,g5,g6,g7,eo,et,eb,ja,jj,uO,sD]
      refine bc (t:=false) (by simp only[ak,ai,ah,cT,cF]) (b7 (hskip _ ?_ ?_ ?_ ?_ hO hC))
      ·simp only[ai,ah,cF,g0]
      ·simp only[ai,ah,cF,g1]
      ·simp only[ai,ah,cF,g6]
      ·simp only[ai,ah,cF,g7]
     have a2':s.get [] p2=some (.cells [.str o2.id,.int .i64 o2.kind,.int .i64 o2.x,.int .i64 o2.y,o2.refsV,o2.tagsV]):=a2
     have b2':s.get [] p3=some (.cells [.str o3.id,.int .i64 o3.kind,.int .i64 o3.x,.int .i64 o3.y,o3.refsV,o3.tagsV]):=b2
     have d2':s.get [] p1=some (.cells [.str o1'.id,.int .i64 o1'.kind,.int .i64 o1'.x,.int .i64 o1'.y,o1'.refsV,o1'.tagsV]):=d2
     cases hk:bz o2.kind o1'.kind&&bz o3.kind o1'.kind with
     |false=>
      have hO:ig pb po pt=js po pt:=by
       simp only[ig,h1,h2,h3,lg,cF]
       rw[qb,qo,qt]
       simp only[hk,cF]
      have hC:gR id pb po pt C=dU (id,gG) C:=by
       simp only[gR,h1,h2,h3,lg,cF]
       rw[qb,qo,qt]
       simp only[hk,cF]
      cases hk1:bz o2.kind o1'.kind with
      |false=>
       simp only[d8,d7,jg,ec,kh,kD,isStore,eW,fR,ai,aG,aM,cz,bn,aU,bN,gh,ak,aH,aD,bF,cD,dB,du,au,gJ,aq,a7,ez,cT,cF,bQ,aZ,bE,bS,tA,aQ,ah,ar,mG,eC,g5,g6,g7,eo,et,eb,gg,dH,tn,a2',d2',dG,hk1,ja,jj,sD]
       refine bc (t:=false) (by simp only[ak,ai,ah,cT,cF]) (b7 (hskip _ ?_ ?_ ?_ ?_ hO hC))
       ·simp only[ai,ah,cF,g0]
       ·simp only[ai,ah,cF,g1]
       ·simp only[ai,ah,cF,g6]
       ·simp only[ai,ah,cF,g7]
      |true=>
       have hk2:bz o3.kind o1'.kind=false:=by rw[hk1,iq] at hk;exact hk
       simp only[d8,d7,jg,ec,kh,isStore,eW,ai,aG,aM,cz,bn,aU,bN,gh,ak,aH,aD,bF,cD,dB,au,gJ,aq,a7,ez,cT,cF,bQ,aZ,bE,bS,tA,aQ,ah,ar,mG,eC,g5,g6,g7,eo,et,eb,gg,dH,tn,a2',b2',d2',dG,hk1,hk2,ja,jj,sD]
       refine bc (t:=false) (by simp only[ak,ai,ah,cT,cF]) (b7 (hskip _ ?_ ?_ ?_ ?_ hO hC))
       ·simp only[ai,ah,cF,g0]
       ·simp only[ai,ah,cF,g1]
       ·simp only[ai,ah,cF,g6]
       ·simp only[ai,ah,cF,g7]
     |true=>
      have hO:ig pb po pt=some (th o1' o2 o3):=by
       simp only[ig,h1,h2,h3,lg,cF]
       rw[qb,qo,qt]
       simp only[hk,cT]
      have hC:gR id pb po pt C=qd o1' o2 o3 C:=by
       simp only[gR,h1,h2,h3,lg,cF]
       rw[qb,qo,qt]
       simp only[hk,cT]
      simp only[df] at hk
      simp only[d8,d7,jg,ec,kh,isStore,eW,ai,aG,aM,cz,bn,aU,bN,gh,ak,aH,aD,bF,cD,dB,au,gJ,aq,a7,ez,cT,cF,bQ,aZ,bE,bS,tA,aQ,ah,ar,mG,eC,g5,g6,g7,eo,et,eb,gg,dH,tn,a2',b2',d2',dG,hk.1,hk.2,ja,jj,sD]
      obtain⟨s1,hrun,F⟩:=aat (sp:=sp) (ch:=ch) hS.h44 hS.h74 hS.h36 hS.h45 hS.h75 hS.h118 hS.h76 M.hx M.hd ⟨by omega,by omega⟩ hm d2 a2 b2 d3 a3 b3 ⟨by omega,by omega,by omega⟩ (gb _ qb) (go _ qo) (gt _ qt)
      refine bc (t:=true) (by simp only[ak,ai,ah,cT,cF]) ?_
      refine aV (gH (gd 4 ?_))
      unfold Et
      simp only[aw,az,aA,ai,aG,ak,au,cF,bO,aZ,tA,ah,ar,g0,g5,g6,g7,eo,et,eb]
      refine gq (g:=44) (args:=[.ptr x 0,.ptr p1 0,.ptr p2 0,.ptr p3 0]) ?_ hrun (by decide) ?_
      ·simp only[callee,ai,ak,fA,aD,bh,bk,aq,ez,cT,cF,cy,cP,bS,ah]
      refine gp ?_
      simp only[aw,az,aA,ai,aM,ak,au,cT,cF,bS,tA,ah,ar,aW]
      have hn1:=F.next
      refine bP (hret _ _ ⟨.ptr s.next 0,bV (by simp only[ai,ah,cT,cF]) rfl,?_⟩)
      rw[hO,hC]
      exact⟨M.grow F.hd F.old (by omega) F.minw,.at_ (by omega) F.row (I7 d3 a3 b3 (gb _ qb) (go _ qo) (gt _ qt)),F.old,by omega,F.ci⟩
    refine mid _ _ _ ?_ ?_ ?_ ?_ ?_ (fun fr s1 h=>⟨.inr rfl,h⟩) (fun e' f0 f1 f6 f7 hO hC=>conf e' _ f0 f1 f6 f7 hO hC)
    ·simp only[ai,ah,cT,cF]
    ·simp only[ai,ah,cT,cF]
    ·simp only[ai,ah,cT,cF]
    ·simp only[ai,ah,cT,cF]
    ·simp only[ai,ah,cT,cF]
end
def gu (b o t:List Obj) (k:aB):Option Obj:=ig (br k b) (br k o) (br k t)
def j9 (b o t:List Obj) (k:aB):List Cf:=gR k (br k b) (br k o) (br k t) []
theorem ww {id:aB} {c:Cf}: ∀ {ks:List aB} {C:List Cf},c∈mQ id ks C↔c∈C\/c∈mQ id ks []
 | [],C=>by simp[mQ]
 |k::ks,C=>by
  have h1:mQ id (k::ks) C=mQ id ks (dU (id,mO k) C):=rfl
  have h2:mQ id (k::ks) []=mQ id ks (dU (id,mO k) []):=rfl
  rw[h1,h2,ww (C:=dU (id,mO k) C),ww (C:=dU (id,mO k) []),qp,qp]
  simp only[rH,or_false]
  constructor
  ·rintro((h|h)|h)
   ·exact .inr (.inl h)
   ·exact .inl h
   ·exact .inr (.inr h)
  ·rintro(h|h|h)
   ·exact .inl (.inr h)
   ·exact .inl (.inl h)
   ·exact .inr h
theorem F9 {b o t:Obj} {c:Cf} {C:List Cf}:c∈m7 b o t C↔c∈C\/c∈m7 b o t []:=by
 unfold m7
 cases re (b.x,b.y) (o.x,o.y) (t.x,t.y) with
 |true=>simp only[cT,qp,rH,or_false];exact Or.comm
 |false=>simp
theorem al5 {b o t:Obj} {c:Cf} {C:List Cf}:c∈kA b o t C↔c∈C\/c∈kA b o t []:=by
 unfold kA
 cases kd b o t with
 |none=>simp only[qp,rH,or_false];exact Or.comm
 |some r=>simp
theorem al1 {b o t:Obj} {c:Cf} {C:List Cf}:c∈qd b o t C↔c∈C\/c∈qd b o t []:=by
 unfold qd
 rw[ww,F9,al5 (C:=C),ww (C:=m7 b o t (kA b o t [])),F9 (C:=kA b o t [])]
 simp only[or_assoc]
theorem al4 {k:aB} {pb po pt:Option Obj} {c:Cf} {C:List Cf}:c∈gR k pb po pt C↔c∈C\/c∈gR k pb po pt []:=by
 have h1:c∈dU (k,gG) C↔c∈C\/c∈dU (k,gG) []:=by simp only[qp,rH,or_false];exact Or.comm
 unfold gR
 cases dz po pt||dz pt pb with
 |true=>simp
 |false=>
  cases dz po pb with
  |true=>simp
  |false=>
   simp only[cF]
   split
   ·rename_i b o t
    cases bz o.kind b.kind&&bz t.kind b.kind with
    |true=>exact al1
    |false=>exact h1
   ·exact h1
theorem WB {id:aB}: ∀ {ks:List aB} {C:List Cf},C.Nodup->(mQ id ks C).Nodup
 | [],_C,h=>h
 |_k::ks,_C,h=>WB (ks:=ks) (uk h)
theorem aas {b o t:Obj} {C:List Cf} (h:C.Nodup):(qd b o t C).Nodup:=by
 refine WB ?_
 have h1:(kA b o t C).Nodup:=by
  unfold kA
  cases kd b o t with
  |none=>exact uk h
  |some _=>exact h
 unfold m7
 cases re (b.x,b.y) (o.x,o.y) (t.x,t.y) with
 |true=>exact uk h1
 |false=>exact h1
theorem UF {k:aB} {pb po pt:Option Obj} {C:List Cf} (h:C.Nodup):(gR k pb po pt C).Nodup:=by
 unfold gR
 cases dz po pt||dz pt pb with
 |true=>exact h
 |false=>
  cases dz po pb with
  |true=>exact h
  |false=>
   simp only[cF]
   split
   ·rename_i b o t
    cases bz o.kind b.kind&&bz t.kind b.kind with
    |true=>exact aas h
    |false=>exact uk h
   ·exact uk h
structure xi (s1:St) (mu:Nat) (B O T:List (aB×aj)) (b o t:List Obj):Prop where
 pb: ∀k,fM s1 mu (at_ k B) (br k b)
 po: ∀k,fM s1 mu (at_ k O) (br k o)
 pt: ∀k,fM s1 mu (at_ k T) (br k t)
 vb: ∀k,kC (br k b)
 vo: ∀k,kC (br k o)
 vt: ∀k,kC (br k t)
theorem fM.low {s s':St} {lim:Nat} {v:aj} {q:Option Obj} (h:fM s lim v q) (hs: ∀n,n<lim->s'.get [] n=s.get [] n):fM s' lim v q:=by
 cases h with
 |nil=>exact .nil
 |at_ h1 h2 h3=>exact .at_ h1 ((hs _ h1).trans h2) h3
theorem fM.put_map {s s':St} {lim lim' n c:Nat} {es:List dx} {v:aj} {q:Option Obj} (h:fM s lim v q) (hn:s.get [] n=some (.map es c)) (hl:lim<=lim') (hs: ∀m,m<lim->m≠n->s'.get [] m=s.get [] m):fM s' lim' v q:=by
 cases h with
 |nil=>exact .nil
 |at_ h1 h2 h3=>
  refine .at_ (by omega) ((hs _ h1 ?_).trans h2) h3
  intro e;subst e;rw[hn] at h2;cases h2
structure Rs (s1 s:St) (x mb mo mt mu md:Nat) (B O T U:List (aB×aj)) (b o t:List Obj) (D:aB->Prop) (C:List Cf):Prop where
 mg:Mg s x mb mo mt mu md B O T U C
 low: ∀n,n<mu->s.get [] n=s1.get [] n
 val: ∀k v,look k U=some v-> ∃q,gu b o t k=some q/\fM s s.next v (some q)
 dom: ∀k,(look k U).isSome=true↔D k/\(gu b o t k).isSome=true
 nd:(U.map (·.1)).Nodup
 cnd:C.Nodup
 conf: ∀c,c∈C↔ ∃k,D k/\c∈j9 b o t k
theorem JV (k:aB) (v:aj): ∀(L:List (aB×aj)) (a:aB),a∈(fk k v L).map (·.1)↔a=k\/a∈L.map (·.1)
 | [],a=>by simp[fk]
 |(b,u)::L,a=>by
  simp only[fk]
  cases h:k==b with
  |true=>
   have:k=b:=by simpa using h
   subst this
   simp
  |false=>
   simp only[cF,fS,qH,JV k v L a]
   constructor
   ·rintro(h|h|h)<;>simp[h]
   ·rintro(h|h|h)<;>simp[h]
theorem DZ {k:aB} {v:aj}: ∀ {L:List (aB×aj)},(L.map (·.1)).Nodup->((fk k v L).map (·.1)).Nodup
 | [],_=>by simp[fk]
 |(b,u)::L,h=>by
  simp only[fS,xc] at h
  simp only[fk]
  cases hb:k==b with
  |true=>
   have:k=b:=by simpa using hb
   subst this
   simp only[cT,fS,xc];exact h
  |false=>
   have hne:k≠b:=by simpa using hb
   simp only[cF,fS,xc,JV]
   exact⟨fun hc=>hc.elim (fun e=>hne e.symm) h.1,DZ h.2⟩
section
variable {s1 s s':St} {x mb mo mt mu md it:Nat} {B O T U:List (aB×aj)} {b o t:List Obj} {D D':aB->Prop} {C:List Cf}
theorem Rs.iff (r:Rs s1 s x mb mo mt mu md B O T U b o t D C) (h: ∀k,D k↔D' k):Rs s1 s x mb mo mt mu md B O T U b o t D' C:=by
 have:D=D':=funext fun k=>propext (h k)
 subst this;exact r
theorem Rs.put_it (r:Rs s1 s x mb mo mt mu md B O T U b o t D C) (hit:x<it) {m c:Nat} {seen:List Nat} (hi:s.get [] it=some (.iter (some m) c seen c)) {ob:bR} (hg: ∀n,s'.get [] n=(s.put it (some ob)).get [] n) (hn:s'.next=s.next) (hw:s'.minw=(s.put it none).minw):Rs s1 s' x mb mo mt mu md B O T U b o t D C:=by
 obtain⟨o1,o2,o3,o4,o5,o6⟩:=r.mg.ord
 have key: ∀n,n≠it->s'.get [] n=s.get [] n:=fun n h=>by
  rw[hg,cX,beq_eq_false_iff_ne.2 h];rfl
 have M:=r.mg
 refine⟨⟨(key _ (by omega)).trans M.hx,(key _ (by omega)).trans M.hb,(key _ (by omega)).trans M.ho,(key _ (by omega)).trans M.ht,(key _ (by omega)).trans M.hu,(key _ (by omega)).trans M.hd,?_,o1,o2,o3,o4,o5,by omega⟩,fun n h=>(key n (by omega)).trans (r.low n h),fun k v h=>?_,r.dom,r.nd,r.cnd,r.conf⟩
 ·rw[hw,hn];exact jW s it none M.minw
 ·obtain⟨q,h1,h2⟩:=r.val k v h
  refine⟨q,h1,?_⟩
  cases h2 with
  |at_ a1 a2 a3=>
   refine .at_ (by omega) ((key _ ?_).trans a2) a3
   intro e;subst e;rw[hi] at a2;cases a2
theorem Rs.step (r:Rs s1 s x mb mo mt mu md B O T U b o t D C) {k:aB} {v:aj} (h:vv s s' x mb mo mt mu md B O T U (gR k (br k b) (br k o) (br k t) C) v (gu b o t k)):
 (v= .nilp->gu b o t k=none/\Rs s1 s' x mb mo mt mu md B O T U b o t (fun j=>D j\/j=k) (gR k (br k b) (br k o) (br k t) C))/\
 (∀p,v= .ptr p 0->Rs s1 (s'.put mu (some (.map (c8 0 (fk k v U)) (fk k v U).length))) x mb mo mt mu md B O T (fk k v U) b o t (fun j=>D j\/j=k) (gR k (br k b) (br k o) (br k t) C)):=by
 obtain⟨o1,o2,o3,o4,o5,o6⟩:=r.mg.ord
 have hn:=h.next
 have hval: ∀j u,look j U=some u-> ∃q,gu b o t j=some q/\fM s' s'.next u (some q):=fun j u hj=>by
  obtain⟨q,h1,h2⟩:=r.val j u hj
  exact⟨q,h1,h2.keep r.mg.hd hn fun n a c=>h.old n a c⟩
 have hconf: ∀c,c∈gR k (br k b) (br k o) (br k t) C↔ ∃j,(D j\/j=k)/\c∈j9 b o t j:=fun c=>by
  rw[al4,r.conf c]
  constructor
  ·rintro(⟨j,h1,h2⟩|h)
   ·exact⟨j,.inl h1,h2⟩
   ·exact⟨k,.inr rfl,h⟩
  ·rintro⟨j,h1|rfl,h2⟩
   ·exact .inl ⟨j,h1,h2⟩
   ·exact .inr h2
 refine⟨fun e=>?_,fun p e=>?_⟩
 ·subst e
  have hnone:gu b o t k=none:=by
   rcases h.pv.out with⟨_,h⟩|⟨p,o,h,_⟩
   ·exact h
   ·cases h
  refine⟨hnone,h.mg,fun n hl=>(h.old n (by omega) (by omega)).trans (r.low n hl),hval,fun j=>?_,r.nd,UF r.cnd,hconf⟩
  rw[r.dom j]
  constructor
  ·rintro⟨h1,h2⟩;exact⟨.inl h1,h2⟩
  ·rintro⟨h1|rfl,h2⟩
   ·exact⟨h1,h2⟩
   ·rw[hnone] at h2;cases h2
 ·have M:=h.mg
  have key: ∀n ob,n≠mu->(s'.put mu ob).get [] n=s'.get [] n:=fun n ob hne=>by
   rw[cX,beq_eq_false_iff_ne.2 hne];rfl
  have hsome: ∃q,gu b o t k=some q/\fM s' s'.next v (some q):=by
   rcases h.pv.out with⟨h1,_⟩|⟨p',q,h1,h2,h3,h4,h5⟩
   ·rw[e] at h1;cases h1
   ·exact⟨q,h2,by rw[h1];exact .at_ h3 h4 h5⟩
  refine⟨⟨(key _ _ (by omega)).trans M.hx,(key _ _ (by omega)).trans M.hb,(key _ _ (by omega)).trans M.ho,(key _ _ (by omega)).trans M.ht,by rw[cX,bS];rfl,(key _ _ (by omega)).trans M.hd,jW _ _ _ M.minw,o1,o2,o3,o4,o5,iv o6 hn⟩,fun n hl=>(key n _ (by omega)).trans ((h.old n (by omega) (by omega)).trans (r.low n hl)),fun j u hj=>?_,fun j=>?_,DZ r.nd,UF r.cnd,hconf⟩
  ·rw[nj] at hj
   have tr: ∀ {q:Obj},fM s' s'.next u (some q)->fM (s'.put mu (some (.map (c8 0 (fk k v U)) (fk k v U).length))) s'.next u (some q):=fun hp=>hp.put_map M.hu (bK _) fun m _ hm=>key m _ hm
   cases hjk:j==k with
   |true=>
    rw[hjk] at hj
    injection hj with hj
    subst hj
    have:=eq_of_beq hjk
    subst this
    obtain⟨q,h1,h2⟩:=hsome
    exact⟨q,h1,tr h2⟩
   |false=>
    rw[hjk] at hj
    obtain⟨q,h1,h2⟩:=hval j u hj
    exact⟨q,h1,tr h2⟩
  ·rw[nj]
   cases hjk:j==k with
   |true=>
    have:=eq_of_beq hjk
    subst this
    obtain⟨q,h1,_⟩:=hsome
    simp[h1]
   |false=>
    have hne:j≠k:=beq_eq_false_iff_ne.1 hjk
    simp only[cF,r.dom j,hne,or_false]
end
theorem Im (n:Nat):(aj.map n).cells=[.map n]:=rfl
section
variable {sp:FuncId->Option (List aj->Option aj)} {ch:Nat->Nat} (hS:vw sp)
 {s1:St} {x mb mo mt mu md:Nat} {B O T:List (aB×aj)} {b o t:List Obj} (c:xi s1 mu B O T b o t)
include hS c
theorem adZ {it m:Nat} {L:List (aB×aj)} (hL:L.length<=1000000) (hit:x<it) (hm:m<mu) {lc:Ag.Loc}: ∀(n:Nat) (seen:List Nat) (e:bq) (s:St) (U:List (aB×aj)) (D:aB->Prop) (C:List Cf),(dK seen (c8 0 L)).length<=n->Rs s1 s x mb mo mt mu md B O T U b o t D C->It s it m L seen->it<s.next->ay e 62= .ptr it 0->ay e 8= .ptr x 0->
 W (QM sp ch) 9 (.loop ya) ⟨e,132,lc⟩ s fun y fr s'=>y= .exit 2/\ ∃e',fr=⟨e',132,lc⟩/\(ay e' 6=ay e 6/\ay e' 8= .ptr x 0/\ay e' 55=ay e 55/\ay e' 56=ay e 56/\ay e' 57=ay e 57)/\
   ∃U' C',Rs s1 s' x mb mo mt mu md B O T U' b o t (fun k=>D k\/ ∃en∈dK seen (c8 0 L),en.key= .str k) C':=by
 have hQc:(QM sp ch).ch=ch:=rfl
 have hQk:(QM sp ch).kmax=fun _=>1000000:=rfl
 have fin: ∀(seen:List Nat) (e:bq) (s:St) (U:List (aB×aj)) (D:aB->Prop) (C:List Cf),dK seen (c8 0 L)=[]->Rs s1 s x mb mo mt mu md B O T U b o t D C->It s it m L seen->ay e 62= .ptr it 0->ay e 8= .ptr x 0->
  W (QM sp ch) 9 (.loop ya) ⟨e,132,lc⟩ s fun y fr s'=>y= .exit 2/\ ∃e',fr=⟨e',132,lc⟩/\(ay e' 6=ay e 6/\ay e' 8= .ptr x 0/\ay e' 55=ay e 55/\ay e' 56=ay e 56/\ay e' 57=ay e 57)/\
    ∃U' C',Rs s1 s' x mb mo mt mu md B O T U' b o t (fun k=>D k\/ ∃en∈dK seen (c8 0 L),en.key= .str k) C':=by
  intro seen e s U D C h0 r i h62 h8
  have hd:=i.done ch (fun _=>1000000) h0
  refine cY ?_
  unfold ya
  refine aF ?_
  unfold FU
  simp only[aw,az,aA,ai,jm,ak,aD,au,bZ,aq,ez,cT,bS,tA,ar,qx,h62,hQc,hQk,hd,iy,gj]
  refine aV (bc (t:=false) (by simp only[ak,ai,ah,cT,cF]) ?_)
  refine eL ⟨rfl,_,rfl,⟨?_,?_,?_,?_,?_⟩,U,C,r.iff fun k=>?_⟩
  ·simp only[ai,ah,cF]
  ·simp only[ai,ah,cF,h8]
  ·simp only[ai,ah,cF]
  ·simp only[ai,ah,cF]
  ·simp only[ai,ah,cF]
  ·rw[h0];simp
 intro n
 induction n with
 |zero=>
  intro seen e s U D C hn r i _ h62 h8
  exact fin seen e s U D C (List.eq_nil_of_length_eq_zero (Nat.le_zero.1 hn)) r i h62 h8
 |succ n ih=>
  intro seen e s U D C hn r i hits h62 h8
  by_cases h0:dK seen (c8 0 L)=[]
  ·exact fin seen e s U D C h0 r i h62 h8
  ·obtain⟨en,s2,hen,hnx,hg,hnn,hw,hci⟩:=i.step ch (fun _=>1000000) (fun _=>hL) h0
   have r2:=r.put_it hit i.hi hg hnn hw
   have hmem:=(oQ.1 hen).1
   obtain⟨k,v,hkey,_,_⟩:=Da L 0 en hmem
   obtain⟨q1,q2,q3,q4,q5,q6⟩:=r.mg.ord
   have i2:It s2 it m L (seen++[en.born]):=⟨by rw[hg,cX,bS];rfl,by rw[hg,cX,beq_eq_false_iff_ne.2 (by omega:m≠it)];exact i.hm⟩
   have hent:=i2.entry hmem
   have hless:=BT hen
   rw[hkey] at hnx hent
   obtain⟨v,s3,hcall,hout⟩:=al6 (ch:=ch) hS r2.mg (id:=k) ((c.pb k).low r2.low) ((c.po k).low r2.low) ((c.pt k).low r2.low) (c.vb k) (c.vo k) (c.vt k)
   obtain⟨st1,st2⟩:=r2.step hout
   have hcl:=(hout.pv.pv fun _ _=>rfl).clean
   have n3:=hout.next
   have i3:It s3 it m L (seen++[en.born]):=⟨(hout.old it (by omega) (by omega)).trans i2.hi,(hout.old m (by omega) (by omega)).trans i2.hm⟩
   have hD: ∀j,((D j\/j=k)\/ ∃e'∈dK (seen++[en.born]) (c8 0 L),e'.key= .str j)↔(D j\/ ∃e'∈dK seen (c8 0 L),e'.key= .str j):=fun j=>by
    constructor
    ·rintro((h|rfl)|⟨e',h1,h2⟩)
     ·exact .inl h
     ·exact .inr ⟨en,hen,hkey⟩
     ·refine .inr ⟨e',oQ.2 ⟨(oQ.1 h1).1,fun hc=>(oQ.1 h1).2 (by simp[hc])⟩,h2⟩
    ·rintro(h|⟨e',h1,h2⟩)
     ·exact .inl (.inl h)
     ·by_cases hb:e'.born=en.born
      ·have a1:=zw L 0 e' (oQ.1 h1).1
       have a2:=zw L 0 en hmem
       rw[hb,a2] at a1
       replace a1:=Option.some.inj a1
       rw[<-a1,hkey] at h2
       exact .inl (.inr (aj.str.inj h2).symm)
      ·exact .inr ⟨e',oQ.2 ⟨(oQ.1 h1).1,fun hc=>by
        rcases List.mem_append.1 hc with hc|hc
        ·exact(oQ.1 h1).2 hc
        ·exact hb (by simpa using hc)⟩,h2⟩
   refine cY ?_
   unfold ya
   refine aF ?_
   unfold FU
   simp only[aw,az,aA,ai,jm,ak,aD,au,bZ,aq,ez,cT,bS,tA,ar,qx,h62,hQc,hQk,hnx,iy,gj]
   refine aV (bc (t:=true) (by simp only[ak,ai,ah,cT,cF]) (b7 ?_))
   simp only[aW]
   refine cR (aF ?_)
   unfold TS
   simp only[aw,az,aA,ai,aM,jm,ak,aD,au,aq,ez,cT,cF,bS,tA,ah,ar,Bj,h62,hent,iy,gj]
   refine aV (gH (gd 2 ?_))
   unfold Tz
   simp only[aw,az,aA,ai,aG,ak,au,cT,cF,bO,aZ,bS,tA,ah,ar,h8]
   refine gq (g:=24) (args:=[.ptr x 0,.str k]) ?_ hcall (by decide) ?_
   ·simp only[callee,ai,ak,fA,aD,bh,bk,aq,cw,ez,cT,cF,cy,cP,bS,ah]
   refine gp ?_
   simp only[aw,az,aA,ai,aM,ak,au,cT,cF,bS,tA,ah,ar,aW]
   refine aF ?_
   unfold TA
   rcases hout.pv.out with⟨ev0,_⟩|⟨p,q,ev0,_⟩
   ·obtain⟨_,r3⟩:=st1 ev0
    simp only[aw,az,aA,ai,aG,aU,ak,aH,aD,au,aq,cT,cF,bQ,bS,tA,ah,ar,ev0,ja,jj,uO]
    refine bc (t:=false) (by simp only[ak,ai,ah,cT,cF]) (b7 ?_)
    simp only[dM,aW]
    refine(ih (seen++[en.born]) _ s3 U _ _ (by omega) r3 i3 (by omega) ?_ ?_).mono ?_
    ·simp only[ai,ah,cF,h62]
    ·simp only[ai,ah,cF,h8]
    rintro y fr s' ⟨rfl,e',rfl,⟨g1,g2,g3,g4,g5⟩,U',C',r'⟩
    refine⟨rfl,e',rfl,⟨g1.trans ?_,g2,g3.trans ?_,g4.trans ?_,g5.trans ?_⟩,U',C',r'.iff hD⟩
    all_goals simp only[ai,ah,cF]
   ·have r3:=st2 p ev0
    have hup:=w5 qR A5 hout.mg.hu k v
    have hx3:=hout.mg.hx
    rw[ev0] at hup r3
    have i4:It (s3.put mu (some (.map (c8 0 (fk k (.ptr p 0) U)) (fk k (.ptr p 0) U).length))) it m L (seen++[en.born]):=⟨by rw[cX,beq_eq_false_iff_ne.2 (by omega)];exact i3.hi,by rw[cX,beq_eq_false_iff_ne.2 (by omega)];exact i3.hm⟩
    simp only[aw,az,aA,ai,aG,aU,ak,aH,aD,au,aq,ez,cT,cF,bQ,bS,tA,ah,ar,ev0,ja,jj,sD]
    refine bc (t:=true) (by simp only[ak,ai,ah,cT,cF]) (cp ?_)
    unfold TB
    simp only[aw,az,eD,aA,eE,ai,aG,bn,bN,tI,gh,ak,aD,au,tM,aq,cw,ez,gr,cT,cF,bQ,aZ,bE,bS,tA,aQ,ah,ar,tf,nX,h8,gg,dH,hx3,dG,hup,dM,aW]
    refine(ih (seen++[en.born]) _ _ (fk k (.ptr p 0) U) _ _ (by omega) r3 i4 (iv (by omega) n3) ?_ ?_).mono ?_
    ·simp only[ai,ah,cF,h62]
    ·simp only[ai,ah,cF,h8]
    rintro y fr s' ⟨rfl,e',rfl,⟨g1,g2,g3,g4,g5⟩,U',C',r'⟩
    refine⟨rfl,e',rfl,⟨g1.trans ?_,g2,g3.trans ?_,g4.trans ?_,g5.trans ?_⟩,U',C',r'.iff hD⟩
    all_goals simp only[ai,ah,cF]
end
section
variable {sp:FuncId->Option (List aj->Option aj)} {ch:Nat->Nat} (hS:vw sp)
 {s1:St} {x mb mo mt mu md:Nat} {B O T:List (aB×aj)} {b o t:List Obj} (c:xi s1 mu B O T b o t)
include hS c
theorem anC {lc:Ag.Loc} {ms:List (Nat×List (aB×aj))} {rt:fZ} (hsm:ms.length<=1000) (hms: ∀p∈ms,p.1<mu/\p.2.length<=1000000/\s1.get [] p.1=some (.map (c8 0 p.2) p.2.length)): ∀(rest pre:List (Nat×List (aB×aj))) (e:bq) (s:St) (U:List (aB×aj)) (D:aB->Prop) (C:List Cf),ms=pre++rest->Rs s1 s x mb mo mt mu md B O T U b o t D C->
 ay e 8= .ptr x 0->ay e 55= .list 1 (ms.map fun p=>.map p.1) rt->ay e 56= .int .i64 (ms.length:Nat)->ay e 57= .int .i64 (pre.length:Nat)->
 W (QM sp ch) 9 (.loop AI) ⟨e,132,lc⟩ s fun y fr s'=>y= .exit 0/\ ∃e',fr=⟨e',132,lc⟩/\(ay e' 6=ay e 6/\ay e' 8= .ptr x 0)/\
   ∃U' C',Rs s1 s' x mb mo mt mu md B O T U' b o t (fun k=>D k\/ ∃p∈rest,k∈p.2.map (·.1)) C':=by
 intro rest
 induction rest with
 |nil=>
  intro pre e s U D C hpre r h8 h55 h56 h57
  have hl:ms.length=pre.length:=by rw[hpre];simp
  refine cY ?_
  unfold AI
  refine aF ?_
  unfold FS
  simp only[aw,az,aA,aU,ak,aD,au,cE,aq,a7,cT,bQ,cN,tA,ar,decide_false,h56,h57,hl,ff]
  refine aV (bc (t:=false) (by simp only[ak,ai,ah,cT]) ?_)
  refine eL ⟨rfl,_,rfl,⟨?_,?_⟩,U,C,r.iff fun k=>by simp⟩
  ·simp only[ai,ah,cF]
  ·simp only[ai,ah,cF,h8]
 |cons p rest ih=>
  intro pre e s U D C hpre r h8 h55 h56 h57
  obtain⟨m,L⟩:=p
  have hlt:pre.length<ms.length:=by rw[hpre];simp
  have hat:(ms.map fun p=>aj.map p.1)[pre.length]? =some (.map m):=by rw[hpre];simp
  obtain⟨hm,hL,hs⟩:=hms (m,L) (by rw[hpre];simp)
  have hm:m<mu:=hm
  have hL:L.length<=1000000:=hL
  have hs:s.get [] m=some (.map (c8 0 L) L.length):=(r.low m hm).trans hs
  have hr:=an0 hs
  have hn:=UO hat
  have hwr:IntKind.i64.wrap ((pre.length:Int)+1)=((pre.length+1:Nat):Int):=by rw[eh (by omega) (by omega)];omega
  obtain⟨o1,o2,o3,o4,o5,o6⟩:=r.mg.ord
  have hg2: ∀n,n<s.next->(s.new (.iter (some m) L.length [] L.length)).get [] n=s.get [] n:=fun n h=>by
   rw[dy,beq_eq_false_iff_ne.2 (by omega:n≠s.next)];rfl
  have M:=r.mg
  have r2:Rs s1 (s.new (.iter (some m) L.length [] L.length)) x mb mo mt mu md B O T U b o t D C:=by
   refine⟨M.grow ((hg2 md (by omega)).trans M.hd) (fun n h _=>hg2 n h) (Nat.le_succ _) (lj M.minw),fun n h=>(hg2 n (by omega)).trans (r.low n h),fun k v h=>?_,r.dom,r.nd,r.cnd,r.conf⟩
   obtain⟨q,a1,a2⟩:=r.val k v h
   exact⟨q,a1,a2.keep M.hd (Nat.le_succ _) fun n h _=>hg2 n h⟩
  have i2:It (s.new (.iter (some m) L.length [] L.length)) s.next m L []:=⟨by rw[dy,bS];rfl,by rw[hg2 _ (by omega)];exact hs⟩
  have hun: ∀es:List dx,dK [] es=es:=fun es=>by simp[dK]
  refine cY ?_
  unfold AI
  refine aF ?_
  unfold FS
  simp only[aw,az,aA,aU,ak,aD,au,cE,aq,a7,cT,bQ,cN,tA,ar,dT,h56,h57,hlt]
  refine aV (bc (t:=true) (by simp only[ak,ai,ah,cT]) (b7 ?_))
  simp only[aW]
  refine aV (cR (aF ?_))
  unfold TQ
  simp only[aw,az,aA,ai,aM,bn,dI,ak,dR,sn,au,aq,cT,cF,bQ,aZ,bE,bS,tA,ah,ar,iq,aX,dA,dT,nX,adQ,h55,h57,fw,hlt,hn,Im]
  refine aF ?_
  unfold TR
  simp only[aw,az,aA,ai,aG,ak,aD,au,bZ,aq,gr,cT,cF,bQ,bS,tA,ah,ar,Bl,hr]
  refine cR ?_
  refine(adZ hS c hL (it:=s.next) o6 hm L.length [] _ _ U D C (by rw[hun,rY];exact bK _) r2 i2 (iC _) ?_ ?_).mono ?_
  ·simp only[ai,ah,cT,cF]
  ·simp only[ai,ah,cF,h8]
  rintro y fr s' ⟨rfl,e',rfl,⟨g1,g2,g3,g4,g5⟩,U',C',r'⟩
  simp only[ai,ah,cF,h55,h56,h57] at g1 g3 g4 g5
  show W (QM sp ch) 9 _ _ _ _
  refine cp ?_
  unfold TC
  simp only[aw,az,aA,ai,aG,aU,ak,aH,aD,bm,au,dW,aq,a7,cT,bQ,bS,tA,ar,g5,hwr,aW]
  refine(ih (pre++[(m,L)]) _ s' U' _ C' (by rw[hpre];simp) r' ?_ ?_ ?_ ?_).mono ?_
  ·simp only[ai,ah,cF,g2]
  ·simp only[ai,ah,cF,g3]
  ·simp only[ai,ah,cF,g4]
  ·simp only[ai,ah,cT,cF,dw,aR,aY]
  rintro y fr s'' ⟨rfl,e'',rfl,⟨w1,w2⟩,U'',C'',r''⟩
  refine⟨rfl,e'',rfl,⟨w1.trans ?_,w2⟩,U'',C'',r''.iff fun k=>?_⟩
  ·simp only[ai,ah,cF,g1]
  ·rw[hun]
   have hk:(∃en∈c8 0 L,en.key= .str k)↔k∈L.map (·.1):=by
    constructor
    ·rintro⟨en,h1,h2⟩
     obtain⟨k',v,a1,_,a3⟩:=Da L 0 en h1
     rw[a1] at h2
     have:=aj.str.inj h2
     subst this
     exact List.mem_map.2 ⟨_,a3,rfl⟩
    ·intro h
     obtain⟨⟨k',v⟩,h1,rfl⟩:=List.mem_map.1 h
     exact IZ L 0 k' v h1
   rw[hk]
   simp only[qH,exists_eq_or_imp,or_assoc]
end
def io (b o t:List Obj) (k:aB):Option Obj:=match br k b with
 |some q=>some q
 |none=>js (br k o) (br k t)
def fU (b o t:List Obj) (k:aB):Option Obj:=match gu b o t k with
 |some q=>some q
 |none=>io b o t k
inductive Reach (b o t:List Obj):aB->Prop
 |of {k id:aB} {q:Obj}:gu b o t k=some q->id∈q.refs->gu b o t id=none->(io b o t id).isSome=true->Reach b o t id
 |step {k id:aB} {q:Obj}:Reach b o t k->io b o t k=some q->id∈q.refs->gu b o t id=none->(io b o t id).isSome=true->Reach b o t id
theorem Reach.no {b o t:List Obj} {k:aB} (h:Reach b o t k):gu b o t k=none/\(io b o t k).isSome=true:=by
 cases h with
 |of _ _ h1 h2=>exact⟨h1,h2⟩
 |step _ _ _ h1 h2=>exact⟨h1,h2⟩
def jq (b o t:List Obj) (k:aB):Prop:=(gu b o t k).isSome=true\/Reach b o t k
theorem jq.next {b o t:List Obj} {k id:aB} {q:Obj} (h:jq b o t k) (hq:fU b o t k=some q) (hid:id∈q.refs) (h1:gu b o t id=none) (h2:(io b o t id).isSome=true):Reach b o t id:=by
 rcases h with h|h
 ·obtain⟨q',hq'⟩:=Option.isSome_iff_exists.1 h
  simp only[fU,hq'] at hq
  injection hq with hq;subst hq
  exact .of hq' hid h1 h2
 ·have hn:=h.no.1
  simp only[fU,hn] at hq
  exact .step h hq hid h1 h2
def eV (b o t:List Obj):List aB:=b.map (·.id)++(o.map (·.id)++t.map (·.id))
theorem Gq {b o t:List Obj} {k:aB} (h:(io b o t k).isSome=true):k∈eV b o t:=by
 unfold io at h
 unfold eV
 cases hb:br k b with
 |some q=>exact List.mem_append.2 (.inl (yq.1 (by rw[hb];simp)))
 |none=>
  rw[hb] at h
  cases ho:br k o with
  |some q=>exact List.mem_append.2 (.inr (List.mem_append.2 (.inl (yq.1 (by rw[ho];simp)))))
  |none=>
   cases ht:br k t with
   |some q=>exact List.mem_append.2 (.inr (List.mem_append.2 (.inr (yq.1 (by rw[ht];simp)))))
   |none=>rw[ho,ht] at h;cases h
def qX (b o t:List Obj) (U:List (aB×aj)):Nat:=((eV b o t).filter fun k=>(look k U).isNone).length
theorem alX {b o t:List Obj} {U U':List (aB×aj)} (h: ∀j,(look j U).isSome=true->(look j U').isSome=true):qX b o t U'<=qX b o t U:=by
 unfold qX
 rw[<-List.countP_eq_length_filter,<-List.countP_eq_length_filter]
 refine List.countP_mono_left fun j _ hj=>?_
 cases hu:look j U with
 |none=>rfl
 |some v=>
  have:=h j (by rw[hu];rfl)
  cases hu':look j U' with
  |none=>rw[hu'] at this;cases this
  |some _=>simp[hu'] at hj
theorem alW {b o t:List Obj} {U:List (aB×aj)} {id:aB} {v:aj} (h1:id∈eV b o t) (h2:look id U=none):qX b o t (fk id v U)<qX b o t U:=by
 unfold qX
 have hsub: ∀l:List aB,l.filter (fun k=>(look k (fk id v U)).isNone)=(l.filter fun k=>(look k U).isNone).filter fun k=> !(k==id):=by
  intro l
  rw[List.filter_filter]
  congr 1
  funext k
  rw[nj]
  cases hk:k==id with
  |true=>simp
  |false=>simp
 rw[hsub]
 refine Nat.lt_of_le_of_ne (rF _ _) fun hc=>?_
 have:=List.length_filter_eq_length_iff.1 hc id (List.mem_filter.2 ⟨h1,by rw[h2];rfl⟩)
 simp at this
structure Rn (s1 s:St) (x mb mo mt mu md:Nat) (B O T U:List (aB×aj)) (b o t:List Obj) (C:List Cf):Prop where
 mg:Mg s x mb mo mt mu md B O T U C
 low: ∀n,n<mu->s.get [] n=s1.get [] n
 val: ∀k v,look k U=some v-> ∃q,fU b o t k=some q/\fM s s.next v (some q)
 base: ∀k,(gu b o t k).isSome=true->(look k U).isSome=true
 new: ∀k,(look k U).isSome=true->jq b o t k
 nd:(U.map (·.1)).Nodup
 cnd:C.Nodup
 conf: ∀c,c∈C↔(∃k,c∈j9 b o t k)\/ ∃k,(look k U).isSome=true/\gu b o t k=none/\c=(k,gG)
theorem Ip {b o t:List Obj} {k:aB} (hb:br k b=none) (ho:br k o=none) (ht:br k t=none):j9 b o t k=[]/\gu b o t k=none:=by
 unfold j9 gu
 rw[hb,ho,ht]
 exact⟨rfl,rfl⟩
theorem Rs.rn {s1 s:St} {x mb mo mt mu md:Nat} {B O T U:List (aB×aj)} {b o t:List Obj} {D:aB->Prop} {C:List Cf} (r:Rs s1 s x mb mo mt mu md B O T U b o t D C) (hD: ∀k,D k↔k∈eV b o t):Rn s1 s x mb mo mt mu md B O T U b o t C:=by
 have out: ∀k, ¬D k->j9 b o t k=[]/\gu b o t k=none:=fun k h=>by
  rw[hD] at h
  simp only[eV,sK,not_or] at h
  have nn: ∀ {l:List Obj},k ∉ l.map (·.id)->br k l=none:=fun {l} hn=>by
   cases ho:br k l with
   |none=>rfl
   |some q=>exact absurd (yq.1 (by rw[ho];simp)) hn
  exact Ip (nn h.1) (nn h.2.1) (nn h.2.2)
 have hin: ∀k,(gu b o t k).isSome=true->D k:=fun k h=>ml fun hc=>by rw[(out k hc).2] at h;cases h
 refine⟨r.mg,r.low,fun k v h=>?_,fun k h=>(r.dom k).2 ⟨hin k h,h⟩,fun k h=>.inl ((r.dom k).1 h).2,r.nd,r.cnd,fun c=>?_⟩
 ·obtain⟨q,h1,h2⟩:=r.val k v h
  exact⟨q,by simp only[fU,h1],h2⟩
 ·rw[r.conf c]
  constructor
  ·rintro⟨k,_,h⟩;exact .inl ⟨k,h⟩
  ·rintro(⟨k,h⟩|⟨k,h1,h2,_⟩)
   ·exact⟨k,ml fun hc=>(by rw[(out k hc).1] at h;cases h),h⟩
   ·have:=((r.dom k).1 h1).2
    rw[h2] at this;cases this
section
variable {s1 s s':St} {x mb mo mt mu md:Nat} {B O T U:List (aB×aj)} {b o t:List Obj} {C:List Cf}
theorem Rn.add (r:Rn s1 s x mb mo mt mu md B O T U b o t C) {id:aB} {p:Nat} {q:Obj} (hU:look id U=none) (hq:io b o t id=some q) (hp:fM s s.next (.ptr p 0) (some q)) (hR:Reach b o t id)
 (hg: ∀n,s'.get [] n=((s.put mu (some (.map (c8 0 (fk id (.ptr p 0) U)) (fk id (.ptr p 0) U).length))).put md (some (.map (fJ 0 (dU (id,gG) C)) (dU (id,gG) C).length))).get [] n) (hn:s'.next=s.next) (hm:s'.minw<=s'.next):
 Rn s1 s' x mb mo mt mu md B O T (fk id (.ptr p 0) U) b o t (dU (id,gG) C)/\(∀n,n≠mu->n≠md->s'.get [] n=s.get [] n):=by
 obtain⟨o1,o2,o3,o4,o5,o6⟩:=r.mg.ord
 have key: ∀n,n≠mu->n≠md->s'.get [] n=s.get [] n:=fun n h1 h2=>by
  rw[hg,cX,beq_eq_false_iff_ne.2 h2,cF,cX,beq_eq_false_iff_ne.2 h1];rfl
 have tr: ∀ {v:aj} {q:Obj},fM s s.next v (some q)->fM s' s'.next v (some q):=fun h=>by
  cases h with
  |at_ a1 a2 a3=>
   refine .at_ (by omega) ((key _ ?_ ?_).trans a2) a3
   ·intro e;subst e;rw[r.mg.hu] at a2;cases a2
   ·intro e;subst e;rw[r.mg.hd] at a2;cases a2
 have hmg:=hR.no.1
 have M:=r.mg
 refine⟨⟨⟨(key _ (by omega) (by omega)).trans M.hx,(key _ (by omega) (by omega)).trans M.hb,(key _ (by omega) (by omega)).trans M.ho,(key _ (by omega) (by omega)).trans M.ht,?_,?_,hm,o1,o2,o3,o4,o5,by omega⟩,fun n h=>(key n (by omega) (by omega)).trans (r.low n h),fun k v hk=>?_,fun k hk=>?_,fun k hk=>?_,DZ r.nd,uk r.cnd,fun c=>?_⟩,key⟩
 ·rw[hg,cX,beq_eq_false_iff_ne.2 (by omega),cF,cX,bS];rfl
 ·rw[hg,cX,bS];rfl
 ·rw[nj] at hk
  cases hjk:k==id with
  |true=>
   rw[hjk] at hk
   injection hk with hk;subst hk
   have:=eq_of_beq hjk
   subst this
   exact⟨q,by simp only[fU,hmg,hq],tr hp⟩
  |false=>
   rw[hjk] at hk
   obtain⟨q',h1,h2⟩:=r.val k v hk
   exact⟨q',h1,tr h2⟩
 ·rw[nj]
  cases k==id with
  |true=>rfl
  |false=>exact r.base k hk
 ·rw[nj] at hk
  cases hjk:k==id with
  |true=>rw[eq_of_beq hjk];exact .inr hR
  |false=>rw[hjk] at hk;exact r.new k hk
 ·rw[qp,r.conf c]
  constructor
  ·rintro(rfl|h|⟨k,h1,h2,h3⟩)
   ·exact .inr ⟨id,by rw[nj,bS];rfl,hmg,rfl⟩
   ·exact .inl h
   ·refine .inr ⟨k,?_,h2,h3⟩
    rw[nj]
    cases k==id<;>first|rfl|exact h1
  ·rintro(h|⟨k,h1,h2,h3⟩)
   ·exact .inr (.inl h)
   ·rw[nj] at h1
    cases hjk:k==id with
    |true=>rw[eq_of_beq hjk] at h3;exact .inl h3
    |false=>rw[hjk] at h1;exact .inr (.inr ⟨k,h1,h2,h3⟩)
end
section
variable {sp:FuncId->Option (List aj->Option aj)} {ch:Nat->Nat} (hS:vw sp) (h27:sp 27=none)
 {s1:St} {x mb mo mt mu md:Nat} {B O T:List (aB×aj)} {b o t:List Obj} (c:xi s1 mu B O T b o t)
structure Nd (s1 s s':St) (x mb mo mt mu md:Nat) (B O T U U':List (aB×aj)) (b o t:List Obj) (C':List Cf) (ids:List aB):Prop where
 rn:Rn s1 s' x mb mo mt mu md B O T U' b o t C'
 sub: ∀j,(look j U).isSome=true->(look j U').isSome=true
 refs: ∀id∈ids,(fU b o t id).isSome=true->(look id U').isSome=true
 clo: ∀j q,(look j U').isSome=true->look j U=none->fU b o t j=some q-> ∀id∈q.refs,(fU b o t id).isSome=true->(look id U').isSome=true
 old: ∀n,n<s.next->n≠mu->n≠md->s'.get [] n=s.get [] n
 next:s'.next=s.next
def HE (sp:FuncId->Option (List aj->Option aj)) (ch:Nat->Nat) (s1:St) (x mb mo mt mu md:Nat) (B O T:List (aB×aj)) (b o t:List Obj) (N:Nat):Prop:=
 ∀(s:St) (U:List (aB×aj)) (C:List Cf) (k:aB) (q:Obj) (p:Nat),Rn s1 s x mb mo mt mu md B O T U b o t C->qX b o t U<=N->jq b o t k->fU b o t k=some q->fM s s.next (.ptr p 0) (some q)->
  ∃s' U' C',bv (QM sp ch) 27 [.ptr x 0,.ptr p 0] s (jO []) s'/\Nd s1 s s' x mb mo mt mu md B O T U U' b o t C' q.refs
include hS c
theorem amA {N:Nat} (ih: ∀M,M<N->HE sp ch s1 x mb mo mt mu md B O T b o t M) {k:aB} {ob:Obj} (hk:jq b o t k) (hv:fU b o t k=some ob) (hg:ob.Good) {lc:Ag.Loc}: ∀(rest pre:List aB) (e:bq) (s:St) (U:List (aB×aj)) (C:List Cf),ob.refs=pre++rest->Rn s1 s x mb mo mt mu md B O T U b o t C->qX b o t U<=N->
 ay e 0= .ptr x 0->ay e 10=ob.refsV->ay e 11= .int .i64 (ob.refs.length:Nat)->ay e 12= .int .i64 (pre.length:Nat)->
 W (QM sp ch) 27 (.loop xZ) ⟨e,59,lc⟩ s fun y _fr s'=>y= .exit 0/\ ∃U' C',Nd s1 s s' x mb mo mt mu md B O T U U' b o t C' rest:=by
 intro rest
 have hcl:=hg.refs.clean
 have hsm:small=9223372036854775808:=rfl
 have hrl:=hg.reflen
 induction rest with
 |nil=>
  intro pre e s U C hpre r hN h0 h10 h11 h12
  have hl:ob.refs.length=pre.length:=by rw[hpre];simp
  refine cY ?_
  unfold xZ
  refine aF ?_
  unfold Ev
  simp only[aw,az,aA,aU,ak,aD,au,cE,aq,a7,cT,bQ,cN,tA,ar,decide_false,h11,h12,hl,ff]
  refine aV (bc (t:=false) (by simp only[ak,ai,ah,cT]) ?_)
  exact eL ⟨rfl,U,C,r,fun _ h=>h,fun id h=>(by cases h),fun j q h1 h2=>(by rw[h2] at h1;cases h1),fun _ _ _ _=>rfl,rfl⟩
 |cons id rest ihr=>
  intro pre e s U C hpre r hN h0 h10 h11 h12
  have hlt:pre.length<ob.refs.length:=by rw[hpre];simp
  have hat:ob.refs[pre.length]? =some id:=by rw[hpre];simp
  have hmem:id∈ob.refs:=by rw[hpre];simp
  have hia:=fun lc=>hg.refs.at lF hat lc .i64
  have M:=r.mg
  have hx:=M.hx
  have hm:=M.minw
  obtain⟨o1,o2,o3,o4,o5,o6⟩:=M.ord
  have hwr:IntKind.i64.wrap ((pre.length:Int)+1)=((pre.length+1:Nat):Int):=by rw[eh (by omega) (by omega)];omega
  have go: ∀(e2:bq) (s2:St) (U2:List (aB×aj)) (C2:List Cf),Rn s1 s2 x mb mo mt mu md B O T U2 b o t C2->(∀j,(look j U).isSome=true->(look j U2).isSome=true)->((fU b o t id).isSome=true->(look id U2).isSome=true)->(∀j q,(look j U2).isSome=true->look j U=none->fU b o t j=some q-> ∀i∈q.refs,(fU b o t i).isSome=true->(look i U2).isSome=true)->(∀n,n<s.next->n≠mu->n≠md->s2.get [] n=s.get [] n)->s2.next=s.next->
   ay e2 0= .ptr x 0->ay e2 10=ob.refsV->ay e2 11= .int .i64 (ob.refs.length:Nat)->ay e2 12= .int .i64 ((pre.length+1:Nat):Int)->
   W (QM sp ch) 27 (.loop xZ) ⟨e2,59,lc⟩ s2 fun y fr s'=>y= .exit 0/\ ∃U' C',Nd s1 s s' x mb mo mt mu md B O T U U' b o t C' (id::rest):=by
   intro e2 s2 U2 C2 r2 sub2 ref2 clo2 old2 n2 g0 g10 g11 g12
   refine W.mono (ihr (pre++[id]) e2 s2 U2 C2 (by rw[hpre];simp) r2 (gN (alX sub2) hN) g0 g10 g11 (by rw[g12,dw];rfl)) ?_
   rintro y fr s' ⟨rfl,U',C',nd⟩
   refine⟨rfl,U',C',nd.rn,fun j h=>nd.sub j (sub2 j h),fun i hi hvi=>?_,fun j q h1 h2 h3 i hi hvi=>?_,fun n h1 h2 h3=>(nd.old n (by omega) h2 h3).trans (old2 n h1 h2 h3),nd.next.trans n2⟩
   ·rcases List.mem_cons.1 hi with rfl|hi
    ·exact nd.sub _ (ref2 hvi)
    ·exact nd.refs i hi hvi
   ·cases hj:look j U2 with
    |none=>exact nd.clo j q h1 hj h3 i hi hvi
    |some v=>exact nd.sub i (clo2 j q (by rw[hj];rfl) h2 h3 i hi hvi)
  refine cY ?_
  unfold xZ
  refine aF ?_
  unfold Ev
  simp only[aw,az,aA,aU,ak,aD,au,cE,aq,a7,cT,bQ,cN,tA,ar,dT,h11,h12,hlt]
  refine aV (bc (t:=true) (by simp only[ak,ai,ah,cT]) (b7 ?_))
  simp only[aW]
  refine aV (cR (aF ?_))
  unfold NW
  simp only[aw,az,aA,ai,aM,bn,dI,ak,dR,au,ji,aq,cT,cF,bQ,aZ,bE,bS,tA,ah,ar,dv,h10,h12,hia,bB,dR]
  refine aV (W.sseq (cp ?_))
  unfold NX
  have hlk:=sh M.hu id
  cases hU:look id U with
  |some v=>
   obtain⟨q,v1,v2⟩:=r.val id v hU
   rcases v2.out with⟨_,v3⟩|⟨p,_,v3,_⟩
   ·cases v3
   have hat_:at_ id U= .ptr p 0:=by simp only[at_,hU,oh,v3]
   rw[hat_] at hlk
   simp only[aw,az,aA,ai,aG,bn,aU,bN,l5,gh,ak,aH,aD,au,aq,cw,ez,gr,cT,cF,bQ,aZ,bE,bS,tA,aQ,ah,ar,tf,nX,h0,gg,dH,hx,dG,hlk,ja,jj,sD,aW]
   refine bc (t:=true) (by simp only[ak,ai,ah,cT,cF]) (eL ?_)
   show W (QM sp ch) 27 _ _ _ _
   refine cp ?_
   unfold zX
   simp only[aw,az,aA,ai,aG,aU,ak,aH,aD,bm,au,dW,aq,a7,cT,cF,bQ,bS,tA,ah,ar,h12,hwr,aW]
   refine go _ s U C r (fun _ h=>h) (fun _=>by rw[hU];rfl) (fun j q h1 h2=>(by rw[h2] at h1;cases h1)) (fun _ _ _ _=>rfl) rfl ?_ ?_ ?_ ?_
   ·simp only[ai,ah,cF,h0]
   ·simp only[ai,ah,cF,h10]
   ·simp only[ai,ah,cF,h11]
   ·simp only[ai,ah,cT,cF]
  |none=>
   have hmg:gu b o t id=none:=by
    cases h:gu b o t id with
    |none=>rfl
    |some q=>
     have:=r.base id (by rw[h];rfl)
     rw[hU] at this;cases this
   have hval:fU b o t id=io b o t id:=by simp only[fU,hmg]
   have hat_:at_ id U= .nilp:=by simp only[at_,hU,Option.getD_none]
   rw[hat_] at hlk
   have take: ∀(e2:bq) (v:aj),ay e2 6=v->fM s s.next v (io b o t id)->ay e2 0= .ptr x 0->ay e2 5= .str id->ay e2 10=ob.refsV->ay e2 11= .int .i64 (ob.refs.length:Nat)->ay e2 12= .int .i64 (pre.length:Nat)-> ∀KK:Ex->Fr->St->Prop,
    (∀(e3:bq) (s2:St) (U2:List (aB×aj)) (C2:List Cf),Rn s1 s2 x mb mo mt mu md B O T U2 b o t C2->(∀j,(look j U).isSome=true->(look j U2).isSome=true)->((fU b o t id).isSome=true->(look id U2).isSome=true)->(∀j q,(look j U2).isSome=true->look j U=none->fU b o t j=some q-> ∀i∈q.refs,(fU b o t i).isSome=true->(look i U2).isSome=true)->(∀n,n<s.next->n≠mu->n≠md->s2.get [] n=s.get [] n)->s2.next=s.next->
     ay e3 0= .ptr x 0->ay e3 10=ob.refsV->ay e3 11= .int .i64 (ob.refs.length:Nat)->ay e3 12= .int .i64 (pre.length:Nat)->KK .normal ⟨e3,59,lc⟩ s2)->
    W (QM sp ch) 27 (.seq (.region Ey) (.cond (Operand.tmp 45) (.seq (.region Ez) (.seq (.region EA) (.region Ew))) .skip)) ⟨e2,59,lc⟩ s KK:=by
    intro e2 v g6 hp g0 g5 g10 g11 g12 KK hKK
    refine aF ?_
    unfold Ey
    rcases hp.out with⟨rfl,hq⟩|⟨p,q,rfl,hq,p1,p2,p3⟩
    ·simp only[aw,az,aA,ai,aG,aU,ak,aH,aD,au,aq,cT,bQ,bS,tA,ar,g6,ja,jj,uO]
     refine bc (t:=false) (by simp only[ak,ai,ah,cT,cF]) (b7 ?_)
     refine hKK _ s U C r (fun _ h=>h) (fun h=>?_) (fun j q h1 h2=>(by rw[h2] at h1;cases h1)) (fun _ _ _ _=>rfl) rfl ?_ ?_ ?_ ?_
     ·rw[hval,hq] at h;cases h
     ·simp only[ai,ah,cF,g0]
     ·simp only[ai,ah,cF,g10]
     ·simp only[ai,ah,cF,g11]
     ·simp only[ai,ah,cF,g12]
    ·have hR:Reach b o t id:=hk.next hv hmem hmg (by rw[hq];rfl)
     have hup:=w5 qR A5 M.hu id (.ptr p 0)
     obtain⟨s2,hs2⟩: ∃a,a=s.put mu (some (.map (c8 0 (fk id (.ptr p 0) U)) (fk id (.ptr p 0) U).length)):=⟨_,rfl⟩
     rw[<-hs2] at hup
     have x2:s2.get [] x=some (.cells [.map mb,.map mo,.map mt,.map mu,.map md]):=by rw[hs2,cX,beq_eq_false_iff_ne.2 (by omega)];exact hx
     have d2:s2.get [] md=some (.map (fJ 0 C) C.length):=by rw[hs2,cX,beq_eq_false_iff_ne.2 (by omega)];exact M.hd
     have hnote:=yp (sp:=sp) (ch:=ch) hS.h45 x2 d2 id gG
     obtain⟨s3,hs3⟩: ∃a,a=s2.put md (some (.map (fJ 0 (dU (id,gG) C)) (dU (id,gG) C).length)):=⟨_,rfl⟩
     rw[<-hs3] at hnote
     have n3:s3.next=s.next:=by rw[hs3,hs2];rfl
     have m3:s3.minw<=s3.next:=by rw[hs3,hs2];exact jW _ _ _ (jW _ _ _ hm)
     have hp':fM s s.next (.ptr p 0) (some q):=.at_ p1 p2 p3
     obtain⟨r3,k3⟩:=r.add hU hq hp' hR (s':=s3) (fun n=>by rw[hs3,hs2]) n3 m3
     have hname:id∈eV b o t:=Gq (by rw[hq];rfl)
     have hmeas:=alW (v:=.ptr p 0) hname hU
     have p3':fM s3 s3.next (.ptr p 0) (some q):=by
      refine .at_ (by omega) ((k3 p ?_ ?_).trans p2) p3
      ·intro e;subst e;rw[M.hu] at p2;cases p2
      ·intro e;subst e;rw[M.hd] at p2;cases p2
     obtain⟨s4,U4,C4,hrun,nd⟩:=ih (qX b o t (fk id (.ptr p 0) U)) (by omega) s3 _ _ id q p r3 (bK _) (.inr hR) (by rw[hval,hq]) p3'
     simp only[aw,az,aA,ai,aG,aU,ak,aH,aD,au,aq,ez,cT,bQ,bS,tA,ar,g6,ja,jj,sD]
     refine bc (t:=true) (by simp only[ak,ai,ah,cT,cF]) (aF ?_)
     unfold Ez
     simp only[aw,az,eD,aA,eE,ai,aG,bn,bN,tI,gh,ak,aD,au,tM,aq,cw,ez,gr,cT,cF,bQ,aZ,bE,bS,tA,aQ,ah,ar,tf,nX,g0,g5,g6,gg,dH,hx,dG,hup]
     refine aV (gH (gd 2 ?_))
     unfold EA
     simp only[aw,az,aA,ai,aG,ak,au,cF,bO,aZ,tA,ah,ar,g0,g5]
     refine gq (g:=45) (args:=[.ptr x 0,.str id,.str gG]) ?_ hnote (by decide) ?_
     ·simp only[callee,ai,ak,aH,fA,aD,bh,bk,iM,aq,cw,ez,cT,cF,cy,cP,bS,ah]
      rfl
     refine gp ?_
     simp only[aw,aW]
     refine gH (gd 2 ?_)
     unfold Ew
     simp only[aw,az,aA,ai,aG,ak,au,cF,bO,aZ,tA,ah,ar,g0,g6]
     refine gq (g:=27) (args:=[.ptr x 0,.ptr p 0]) ?_ hrun (by decide) ?_
     ·simp only[callee,ai,ak,fA,aD,bh,bk,aq,ez,cT,cF,cy,cP,bS,ah]
     refine gp ?_
     simp only[aw]
     have sub4: ∀j,(look j U).isSome=true->(look j U4).isSome=true:=fun j h=>nd.sub j (by
      rw[nj]
      cases j==id<;>first|rfl|exact h)
     have id4:(look id U4).isSome=true:=nd.sub id (by rw[nj,bS];rfl)
     refine hKK _ s4 U4 C4 nd.rn sub4 (fun _=>id4) (fun j q' h1 h2 h3 i hi hvi=>?_) (fun n h1 h2 h3=>(nd.old n (by omega) h2 h3).trans (k3 n h2 h3)) (nd.next.trans n3) ?_ ?_ ?_ ?_
     ·cases hj:j==id with
      |true=>
       have:=eq_of_beq hj
       subst this
       rw[hval,hq] at h3
       have h3:=Option.some.inj h3
       rw[<-h3] at hi
       exact nd.refs i hi hvi
      |false=>exact nd.clo j q' h1 (by rw[nj,hj];exact h2) h3 i hi hvi
     ·simp only[ai,ah,cF,g0]
     ·simp only[ai,ah,cF,g10]
     ·simp only[ai,ah,cF,g11]
     ·simp only[ai,ah,cF,g12]
   simp only[aw,az,aA,ai,aG,bn,aU,bN,l5,gh,ak,aH,aD,au,aq,cw,gr,cT,cF,bQ,aZ,bE,bS,tA,aQ,ah,ar,tf,nX,h0,gg,dH,hx,dG,hlk,ja,jj,uO,aW]
   refine bc (t:=false) (by simp only[ak,ai,ah,cT,cF]) (b7 ?_)
   simp only[aW]
   have lb:=sh M.hb id
   have hpb:=(c.pb id).low r.low
   have hpo:=(c.po id).low r.low
   have hpt:=(c.pt id).low r.low
   have cb:=(hpb.pv fun _ _=>rfl).clean
   have co:=(hpo.pv fun _ _=>rfl).clean
   have ct:=(hpt.pv fun _ _=>rfl).clean
   refine aF ?_
   unfold NY
   simp only[aw,az,aA,ai,aG,aM,bn,bN,l5,gh,ak,aD,au,aq,cw,gr,cT,cF,bQ,aZ,bE,bS,tA,cQ,ah,ar,Dh,nX,h0,gg,dH,hx,dG,lb]
   refine aV (aV (cp ?_))
   unfold NZ
   rcases hpb.out with⟨eb,qb⟩|⟨p,q,eb,qb,p1,p2,p3⟩
   ·have lo:=sh (s:=s.top) M.ho id
    have lt:=sh (s:=s.top) M.ht id
    have hxt:s.top.get [] x=some (.cells [.map mb,.map mo,.map mt,.map mu,.map md]):=hx
    have hless:=T9 (ch:=ch) hS.h46 hS.h77 hS.h122 hS.h119 hS.h123 hS.h124 hS.h31 (s:=s.top) (bK _) (hpo.pv (s':=s.top) fun _ _=>rfl) (hpt.pv (s':=s.top) fun _ _=>rfl) (c.vo id).len (c.vt id).len
    have hnd:io b o t id=js (br id o) (br id t):=by simp only[io,qb]
    have hlv:fM s s.next (qk (at_ id O) (at_ id T) (br id o) (br id t)) (io b o t id):=by
     rw[hnd]
     exact T7 (hpo.put_map M.hd (by omega) fun _ _ _=>rfl) (hpt.put_map M.hd (by omega) fun _ _ _=>rfl)
    have cl:=(hlv.pv fun _ _=>rfl).clean
    simp only[aw,az,aA,ai,aG,aU,ak,aH,aD,au,aq,cT,cF,bQ,bS,tA,ah,ar,eb,ja,jj,wK,aW]
    refine bc (t:=true) (by simp only[ak,ai,ah,cT,cF]) ?_
    show W (QM sp ch) 27 (SC.draw wn NU) _ _ _
    rw[show wn=wn.take 12++wn.drop 12 from(oe 12 _).symm]
    refine W.drawD (WD.calmOps hm (fun _ h=>by cases h) (fun _ h=>by cases h) ?_)
    unfold wn
    simp only[d8,d7,ec,isStore,ai,aG,bn,bN,l5,gh,ak,aD,au,aq,cw,gr,cT,cF,bQ,aR,aY,bO,aZ,bE,cy,cP,bS,tA,aQ,ah,ar,bJ,Di,Dj,nX,h0,gg,dH,hxt,dG,lo,lt]
    intro rs1 hc1 hi1
    refine WD.calmCall hm (g:=46) (args:=[at_ id O,at_ id T]) hc1 hi1 ?_ hless (by decide) ?_
    ·simp only[callee,ai,ak,fA,aD,bh,bk,aq,cT,cF,cy,cP,bS,ah,co,ct]
    intro rs2 hc2 hi2
    refine WD.calmOps (l1:=[_]) (l2:=[]) hm hc2 hi2 ?_
    simp only[d8,d7,ec,isStore,ai,aM,ak,au,cT,cF,aR,aY,aZ,gZ,bS,tA,aQ,ah,ar,bJ]
    intro rs3 hc3 hi3
    refine WD.nil ?_
    simp only[aW]
    refine take _ _ ?_ hlv ?_ ?_ ?_ ?_ ?_ _ (fun e3 s2 U2 C2 f1 f2 f3 f4 f5 f6 f0 f10 f11 f12=>?_)
    ·simp only[ai,ah,cT,cF]
    ·simp only[ai,ah,cF,h0]
    ·simp only[ai,ah,cT,cF]
    ·simp only[ai,ah,cF,h10]
    ·simp only[ai,ah,cF,h11]
    ·simp only[ai,ah,cF,h12]
    simp only[dM,aW]
    refine cp ?_
    unfold zX
    simp only[aw,az,aA,ai,aG,aU,ak,aH,aD,bm,au,dW,aq,a7,cT,bQ,bS,tA,ar,f12,hwr,aW]
    refine go _ s2 U2 C2 f1 f2 f3 f4 f5 f6 ?_ ?_ ?_ ?_
    ·simp only[ai,ah,cF,f0]
    ·simp only[ai,ah,cF,f10]
    ·simp only[ai,ah,cF,f11]
    ·simp only[ai,ah,cT,cF]
   ·simp only[aw,az,aA,ai,aG,aU,ak,aH,aD,au,aq,ez,cT,cF,bQ,bS,tA,ah,ar,eb,ja,jj,wL,aW]
    refine bc (t:=false) (by simp only[ak,ai,ah,cT,cF]) (b7 ?_)
    simp only[aW]
    have hnd:io b o t id=some q:=by simp only[io,qb]
    have hp:fM s s.next (.ptr p 0) (io b o t id):=by rw[hnd];exact .at_ (by omega) p2 p3
    refine take _ _ ?_ hp ?_ ?_ ?_ ?_ ?_ _ (fun e3 s2 U2 C2 f1 f2 f3 f4 f5 f6 f0 f10 f11 f12=>?_)
    ·simp only[ai,ah,cT,cF]
    ·simp only[ai,ah,cF,h0]
    ·simp only[ai,ah,cT,cF]
    ·simp only[ai,ah,cF,h10]
    ·simp only[ai,ah,cF,h11]
    ·simp only[ai,ah,cF,h12]
    simp only[dM,aW]
    refine cp ?_
    unfold zX
    simp only[aw,az,aA,ai,aG,aU,ak,aH,aD,bm,au,dW,aq,a7,cT,bQ,bS,tA,ar,f12,hwr,aW]
    refine go _ s2 U2 C2 f1 f2 f3 f4 f5 f6 ?_ ?_ ?_ ?_
    ·simp only[ai,ah,cF,f0]
    ·simp only[ai,ah,cF,f10]
    ·simp only[ai,ah,cF,f11]
    ·simp only[ai,ah,cT,cF]
include h27
theorem amB: ∀N,HE sp ch s1 x mb mo mt mu md B O T b o t N:=by
 intro N
 induction N using Nat.strongRecOn with
 |ind N ih=>
  intro s U C k q p r hN hk hv hp
  rcases hp.out with⟨e,_⟩|⟨p',q',e1,e2,p1,p2,p3⟩
  ·cases e
  have e1:=(aj.ptr.inj e1).1
  have e2:=Option.some.inj e2
  subst e1;subst e2
  have hcl:=p3.refs.clean
  have hlen:=fun mk s=>p3.refs.len iV jl mk s
  simp only[Obj.cells] at p2
  have h: ∃v s',bv (QM sp ch) 27 [.ptr x 0,.ptr p 0] s v s'/\(v=jO []/\ ∃U' C',Nd s1 s s' x mb mo mt mu md B O T U U' b o t C' q.refs):=by
   refine bv.ofEx agJ agI agL agK h27 ?_
   unfold NT
   refine aF ?_
   unfold NV
   simp only[dr,cZ,aw,az,aA,ai,aG,bn,bN,gh,cG,ak,aH,aD,bh,bk,bm,au,bZ,cW,bG,aq,cT,cF,bQ,hG,aR,aY,aZ,bE,bS,tA,aQ,ah,ar,bJ,ck,aX,cd,dT,na,fT,ab8,gg,dH,p2,dG,hcl,hlen]
   refine cR ?_
   refine(amA hS c (N:=N) (fun M hM=>ih M hM) hk hv p3 q.refs [] _ s U C rfl r hN ?_ ?_ ?_ ?_).mono ?_
   ·simp only[ai,ah,cT,cF]
   ·simp only[ai,ah,cT,cF]
   ·simp only[ai,ah,cT,cF]
   ·simp only[ai,ah,cT,cF];rfl
   rintro y fr s' ⟨rfl,U',C',nd⟩
   exact⟨.inl rfl,_,⟨[],rfl,rfl⟩,rfl,U',C',nd⟩
  obtain⟨v,s',h1,rfl,U',C',h2⟩:=h
  exact⟨s',U',C',h1,h2⟩
end
structure KL (s:St) (lim:Nat) (v:aj) (ks:List aB):Prop where
 clean:v.clean=true
 len: ∀mk s',ie Tryz.prog mk 37 v s'=some (.int .i64 (ks.length:Nat))
 row: ∀i k,ks[i]? =some k-> ∃rk,rk<lim/\s.get [] rk=some (.cells (ks.map bB))/\ ∀lc,iU Tryz.prog lc 37 v (.int .i64 (i:Nat))=some (.ptr rk i)
theorem KL.of {s0 s:St} {v:aj} {ks:List aB} (g:oq 1 s0 s v (ks.map bB)):KL s s.next v ks:=by
 rcases g.row with⟨rfl,hx⟩|⟨hne,rk,rfl,hk,h4,h5⟩
 ·have hk0:ks=[]:=List.map_eq_nil_iff.1 hx
  subst hk0
  exact⟨rfl,fun mk s'=>iV mk s',fun i k h=>(by simp at h)⟩
 ·rw[wc] at hk
  refine⟨rfl,fun mk s'=>by rw[Ue,fw],fun i k h=>⟨rk,h5,hk,fun lc=>?_⟩⟩
  have hlt:i<ks.length:=by
   rcases iJ i ks.length with h1|h1
   ·exact h1
   ·rw[jS h1] at h;cases h
  have hna:fV (.int .i64 (i:Int))=some i:=rfl
  have hb:Nat.blt i (ks.map bB).length=true:=Nat.ble_eq_true_of_le (by rw[fw];exact hlt)
  rw[JQ,hna]
  simp only[aq,aX,bS,iq,hb,cT,Nat.mul_one,aQ]
theorem KL.keep {s s':St} {lim lim':Nat} {v:aj} {ks:List aB} (k:KL s lim v ks) (hl:lim<=lim') (hg: ∀n cs,n<lim->s.get [] n=some (.cells cs)->s'.get [] n=some (.cells cs)):KL s' lim' v ks:=
 ⟨k.clean,k.len,fun i x h=>let⟨rk,h1,h2,h3⟩:=k.row i x h;⟨rk,by omega,hg rk _ h1 h2,h3⟩⟩
section
variable {sp:FuncId->Option (List aj->Option aj)} {ch:Nat->Nat}
theorem TU (h26:sp 26=none) {m:Nat} {s:St}:bv (QM sp ch) 26 [.map m] s (.func (.func 49) [] [.ptr s.next 0]) (s.new (.cells [.map m])):=by
 refine bv.of2 agF agE agH agG h26 ?_
 unfold NQ
 refine aF ?_
 unfold NR
 simp only[dr,cZ,aw,az,aA,ai,aM,iA,ak,aH,aD,i9,au,bG,aq,gr,cT,hG,aR,aY,bS,tA,aQ,ar,ck,cd,dT,ab7,i9,ofValue,gD]
 refine aF ?_
 unfold NS
 simp only[aw,az,aA,ai,aM,wJ,ak,aD,bh,bk,au,aq,ez,cT,cF,bS,tA,ah,ar,pz]
 exact bP ⟨rfl,.inr rfl,bV (by simp only[ai,ah,cT,cF]) rfl⟩
theorem aa9 (h49:sp 49=none) {m cb:Nat} {s0:St} {L:List (aB×aj)} (hmw:s0.minw<=s0.next) (hm:m<s0.next) (hcb:cb<s0.next) (hc:s0.get [] cb=some (.cells [.map m])) (hmm:s0.get [] m=some (.map (c8 0 L) L.length)) (hL:L.length<=1000000):rJ (QM sp ch) 1 49 s0 cb (c8 0 L):=by
 intro s bx lo lim lob c ht
 refine akS (Q:=QM sp ch) rfl rfl (ch:=ch) rfl rfl (IX L) (fun i=>by rw[rY];exact hL) h49 rfl rfl hmw hm hcb hc (by rw[rY];exact hmm) c ht fun e he=>?_
 have h1:e.key∈(c8 0 L).map (·.key):=List.mem_map.2 ⟨e,he,rfl⟩
 rw[xH] at h1
 obtain⟨b,_,e2⟩:=List.mem_map.1 h1
 exact⟨b,e2.symm⟩
structure HF (sp:FuncId->Option (List aj->Option aj)):Prop where
 s25: ∀n,n=25\/n=47\/n=78\/n=48->sp n=none
 h26:sp 26=none
 h49:sp 49=none
theorem Wd (hS:HF sp) {s:St} {m:Nat} {L:List (aB×aj)} (hm:s.minw<=s.next) (hlt:m<s.next) (hs:s.get [] m=some (.map (c8 0 L) L.length)) (hL:L.length<=1000000):
 ∃v s',bv (QM sp ch) 25 [.func (.func 49) [] [.ptr s.next 0]] (s.new (.cells [.map m])) v s'/\KL s' s'.next v (fC (L.map (·.1)))/\(∀n,n<s.next->s'.get [] n=s.get [] n)/\s.next<=s'.next/\s'.minw<=s'.next:=by
 have hg2: ∀n,n<s.next->(s.new (.cells [.map m])).get [] n=s.get [] n:=fun n h=>by rw[dy,beq_eq_false_iff_ne.2 (by omega)];rfl
 obtain⟨v,s2,hr,hgot⟩:=Wc (Q:=QM sp ch) rfl rfl hS.s25 (fun _=>rfl) (fun n hn=>by rcases hn with rfl|rfl|rfl<;>rfl) rfl (g:=49) (cb:=s.next) (s0:=s.new (.cells [.map m])) (es:=c8 0 L) (ks:=L.map (·.1)) (lj hm) (by rw[rY];omega) (by rw[xH]) (by kernel_rfl)
  (aa9 hS.h49 (m:=m) (lj hm) (og hlt) (iC _) (by rw[dy,bS];rfl) ((hg2 _ hlt).trans hs) hL)
 have hn:s.next+1<=s2.next:=hgot.next
 have h1:=hgot.minw
 have h2:(s.new (.cells [.map m])).minw=s.minw:=rfl
 exact⟨v,s2,hr,.of hgot,fun n h=>(hgot.old n (og h)).trans (hg2 n h),by omega,by omega⟩
end
section
variable {sp:FuncId->Option (List aj->Option aj)} {ch:Nat->Nat} (hS:vw sp) (h27:sp 27=none)
 {s1:St} {x mb mo mt mu md:Nat} {B O T:List (aB×aj)} {b o t:List Obj} (c:xi s1 mu B O T b o t)
include hS h27 c
theorem XS {lim:Nat} {v:aj} {ks:List aB} (hlen:ks.length<=1000000) {lc:Ag.Loc}: ∀(rest pre:List aB) (e:bq) (s:St) (U:List (aB×aj)) (C:List Cf),ks=pre++rest->KL s lim v ks->lim<=s.next->Rn s1 s x mb mo mt mu md B O T U b o t C->(∀k∈rest,(look k U).isSome=true)->
 ay e 8= .ptr x 0->ay e 84=v->ay e 85= .int .i64 (ks.length:Nat)->ay e 86= .int .i64 (pre.length:Nat)->
 W (QM sp ch) 9 (.loop AJ) ⟨e,132,lc⟩ s fun y fr s'=>y= .exit 4/\ ∃e',fr=⟨e',132,lc⟩/\(ay e' 6=ay e 6/\ay e' 8= .ptr x 0)/\ ∃U' C',Rn s1 s' x mb mo mt mu md B O T U' b o t C'/\(∀j,(look j U).isSome=true->(look j U').isSome=true)/\
   (∀k∈rest, ∀q,fU b o t k=some q-> ∀id∈q.refs,(fU b o t id).isSome=true->(look id U').isSome=true)/\
   (∀j q,(look j U').isSome=true->look j U=none->fU b o t j=some q-> ∀id∈q.refs,(fU b o t id).isSome=true->(look id U').isSome=true)/\s'.next=s.next:=by
 intro rest
 induction rest with
 |nil=>
  intro pre e s U C hpre K hlim r hin h8 h84 h85 h86
  have hl:ks.length=pre.length:=by rw[hpre];simp
  refine cY ?_
  unfold AJ
  refine aF ?_
  unfold FP
  simp only[aw,az,aA,aU,ak,aD,au,cE,aq,a7,cT,bQ,cN,tA,ar,decide_false,h85,h86,hl,ff]
  refine aV (bc (t:=false) (by simp only[ak,ai,ah,cT]) ?_)
  refine eL ⟨rfl,_,rfl,⟨?_,?_⟩,U,C,r,fun _ h=>h,fun k h=>(by cases h),fun j q h1 h2=>(by rw[h2] at h1;cases h1),rfl⟩
  ·simp only[ai,ah,cF]
  ·simp only[ai,ah,cF,h8]
 |cons k rest ih=>
  intro pre e s U C hpre K hlim r hin h8 h84 h85 h86
  have hlt:pre.length<ks.length:=by rw[hpre];simp
  have hat:ks[pre.length]? =some k:=by rw[hpre];simp
  obtain⟨rk,k1,k2,hia⟩:=K.row pre.length k hat
  have hcl:=K.clean
  have hwr:IntKind.i64.wrap ((pre.length:Int)+1)=((pre.length+1:Nat):Int):=by rw[eh (by omega) (by omega)];omega
  have hrd:((ks.map bB).drop pre.length).head?=some (.str k):=by rw[hpre,mm,List.drop_left' (by simp)];rfl
  have M:=r.mg
  have hx:=M.hx
  obtain⟨u,hu⟩:=Option.isSome_iff_exists.1 (hin k (by simp))
  obtain⟨q,v1,v2⟩:=r.val k u hu
  rcases v2.out with⟨_,v3⟩|⟨p,q',rfl,hq',_⟩
  ·cases v3
  have hlk:=sh M.hu k
  have hat_:at_ k U= .ptr p 0:=by simp only[at_,hu,oh]
  rw[hat_] at hlk
  obtain⟨s2,U2,C2,hrun,nd⟩:=amB hS h27 c (ch:=ch) (qX b o t U) s U C k q p r (bK _) (r.new k (by rw[hu];rfl)) v1 v2
  have K2:KL s2 lim v ks:=K.keep (bK _) fun n cs h1 h2=>(nd.old n (by omega) (fun e=>by subst e;rw[M.hu] at h2;cases h2) (fun e=>by subst e;rw[M.hd] at h2;cases h2)).trans h2
  refine cY ?_
  unfold AJ
  refine aF ?_
  unfold FP
  simp only[aw,az,aA,aU,ak,aD,au,cE,aq,a7,cT,bQ,cN,tA,ar,dT,h85,h86,hlt]
  refine aV (bc (t:=true) (by simp only[ak,ai,ah,cT]) (b7 ?_))
  simp only[aW]
  refine aV (cR (aF ?_))
  unfold TE
  simp only[aw,az,aA,ai,aM,bn,dI,ak,au,aq,cT,cF,bS,tA,ah,ar,bQ,h84,h86,hia,dH,k2,dG,dv,hrd]
  refine gH (gd 7 ?_)
  unfold TF
  simp only[aw,az,aA,ai,aG,bn,bN,l5,gh,ak,aD,au,aq,cw,gr,cT,cF,bQ,bO,aZ,bE,bS,tA,aQ,ah,ar,tf,nX,h8,gg,dH,hx,dG,hlk]
  refine gq (g:=27) (args:=[.ptr x 0,.ptr p 0]) ?_ hrun (by decide) ?_
  ·simp only[callee,ai,ak,fA,aD,bh,bk,aq,ez,cT,cF,cy,cP,bS,ah]
  refine gp ?_
  simp only[aw,dM,aW]
  refine cp ?_
  unfold TG
  simp only[aw,az,aA,ai,aG,aU,ak,aH,aD,bm,au,dW,aq,a7,cT,cF,bQ,bS,tA,ah,ar,h86,hwr,aW]
  refine(ih (pre++[k]) _ s2 U2 C2 (by rw[hpre];simp) K2 (by rw[nd.next];exact hlim) nd.rn (fun j hj=>nd.sub j (hin j (by simp[hj]))) ?_ ?_ ?_ ?_).mono ?_
  ·simp only[ai,ah,cF,h8]
  ·simp only[ai,ah,cF,h84]
  ·simp only[ai,ah,cF,h85]
  ·simp only[ai,ah,cT,cF,dw,aR,aY]
  rintro y fr s' ⟨rfl,e',rfl,⟨g6,g8⟩,U',C',q1,q2,q3,q4,q5⟩
  refine⟨rfl,e',rfl,⟨g6.trans ?_,g8⟩,U',C',q1,fun j h=>q2 j (nd.sub j h),fun j hj q' hq' i hi hvi=>?_,fun j q' h1 h2 h3 i hi hvi=>?_,q5.trans nd.next⟩
  ·simp only[ai,ah,cF]
  ·rcases List.mem_cons.1 hj with rfl|hj
   ·rw[v1] at hq'
    have hq':=Option.some.inj hq'
    rw[<-hq'] at hi
    exact q2 i (nd.refs i hi hvi)
   ·exact q3 j hj q' hq' i hi hvi
  ·cases hj:look j U2 with
   |none=>exact q4 j q' h1 hj h3 i hi hvi
   |some w=>exact q2 i (nd.clo j q' (by rw[hj];rfl) h2 h3 i hi hvi)
end
theorem amz {s1 s:St} {x mb mo mt mu md:Nat} {B O T U:List (aB×aj)} {b o t:List Obj} {C:List Cf} (r:Rn s1 s x mb mo mt mu md B O T U b o t C)
 (hc: ∀j q,(look j U).isSome=true->fU b o t j=some q-> ∀id∈q.refs,(fU b o t id).isSome=true->(look id U).isSome=true):
 (∀k,(look k U).isSome=true↔jq b o t k)/\ ∀c,c∈C↔(∃k,c∈j9 b o t k)\/ ∃k,Reach b o t k/\c=(k,gG):=by
 have hR: ∀k,Reach b o t k->(look k U).isSome=true:=by
  intro k h
  induction h with
  |of h1 h2 h3 h4=>exact hc _ _ (r.base _ (by rw[h1];rfl)) (by simp only[fU,h1]) _ h2 (by simp only[fU,h3];exact h4)
  |step h0 h1 h2 h3 h4 ih=>exact hc _ _ ih (by simp only[fU,h0.no.1];exact h1) _ h2 (by simp only[fU,h3];exact h4)
 refine⟨fun k=>⟨r.new k,fun h=>h.elim (r.base k) (hR k)⟩,fun c=>?_⟩
 rw[r.conf c]
 constructor
 ·rintro(h|⟨k,h1,h2,h3⟩)
  ·exact .inl h
  ·rcases r.new k h1 with h|h
   ·rw[h2] at h;cases h
   ·exact .inr ⟨k,h,h3⟩
 ·rintro(h|⟨k,h1,h2⟩)
  ·exact .inl h
  ·exact .inr ⟨k,hR k h1,h1.no.1,h2⟩
theorem Yi {e:bq} {x:Operand} {a b c d f g:aj} (h:ev e x=some (.agg [a,b,c,d,f,g])) (s:St):ey Tryz.prog 22 1 [(0,x)] false e s=some (.list 6 [.agg [a,b,c,d,f,g]] .full,s):=by
 simp only[ey,IM,aq,ee,evc,h,aj.clean,cT,gU,aj.cells,aR,aY,dl,Nat.zero_mul,aQ,bJ,jJ,iL,cut]
 rfl
section
variable {sp:FuncId->Option (List aj->Option aj)} {ch:Nat->Nat}
theorem XX {e:bq} {lc:Ag.Loc} {s:St} {lo:Nat} {ov:aj} {acc:List Obj} {ob:Obj} {rs1:List eY} {P:Fr->St->Prop} (hi: ∀r∈rs1,r.i<11) (h15:ay e 15= .lref 15 1 0) (h111:ay e 111=ov) (h120:ay e 120= .list 6 [ob.val] .full) (g15:lc.gen 15=1) (b15:lc.get 15 1=some [ov])
 (hO:gW 6 lo s ov (acc.map Obj.val)) (hm:s.minw<=s.next) (hlo:lo<=s.next) (hlen:acc.length<=900000)
 (hk: ∀(ov':aj) (s':St),gW 6 lo s' ov' ((acc++[ob]).map Obj.val)->s'.minw<=s'.next->(∀n,n<lo->s'.get [] n=s.get [] n)->s.next<=s'.next->P ⟨(e.set 121 (some ov')).set 122 (some (.lref 15 1 0)),132,lc.set 15 1 [ov']⟩ s'):
 WD (QM sp ch) 9 [2047,4095,8191] rs1 11 (uD.drop 11) ⟨e,132,lc⟩ s P:=by
 have hOt:gW 6 lo s.top ov (acc.map Obj.val):=hO
 obtain⟨s1,a1,a2,a3,a4,a5,a6⟩:=CC IM rfl (by decide) (y:=.list 6 [ob.val] .full) (ys:=[ob.val]) hOt rfl (by simp) (by rw[fw,List.length_singleton];omega) (bK _)
 have a4:s1.next=s.next+1:=a4
 have hcl:=hO.clean
 have hmw:(s.least s1).minw<=(s.least s1).next:=by
  show(bif Nat.ble s.minw s1.minw then s.minw else s1.minw)<=s1.next
  cases Nat.ble s.minw s1.minw with
  |true=>exact gN hm (by omega)
  |false=>exact a5
 have hO2:gW 6 lo (s.least s1) (.list 6 (acc.map Obj.val++[ob.val]) (.own s.next)) ((acc++[ob]).map Obj.val):=.inr ⟨by simp,s.next,by rw[mm];rfl,a2,hlo,by show s.next<s1.next;omega⟩
 have hcl2:=hO2.clean
 have hold: ∀n,n<lo->(s.least s1).get [] n=s.get [] n:=fun n hn=>a6 n (by show n<s.next;omega) fun k hk'=>by have:=(hO.token hk').1;omega
 unfold uD
 refine WD.fullL (v:=.list 6 (acc.map Obj.val++[ob.val]) (.own s.next)) (lc:=lc) (s1:=s1) (fr1:=⟨e.set 121 (some (.list 6 (acc.map Obj.val++[ob.val]) (.own s.next))),132,lc⟩) hi (by decide) rfl ?_ a3 (iO.2 ⟨by decide,rfl⟩) (fun rs2 k2=>?_)
 ·simp only[cG,ak,aD,bh,bk,bZ,ph,bG,aq,jD,cT,bQ,hG,ah,aX,ad4,ady,h111,h120,hcl,a1]
  rfl
 refine WD.fullL (v:=.lref 15 1 0) (lc:=lc) (s1:=(s.least s1).top) (fr1:=⟨_,132,lc⟩) k2 (by decide) rfl ?_ rfl (iO.2 ⟨by decide,rfl⟩) (fun rs3 k3=>?_)
 ·simp only[ai,bN,ak,au,aq,cT,cF,bQ,bS,cQ,ah,aX,iz,h15,g15]
 rw[ni hmw]
 refine WD.fullL (v:=iB) (lc:=lc.set 15 1 [.list 6 (acc.map Obj.val++[ob.val]) (.own s.next)]) (s1:=(s.least s1).top) (fr1:=⟨_,132,lc.set 15 1 [.list 6 (acc.map Obj.val++[ob.val]) (.own s.next)]⟩) k3 (by decide) rfl ?_ rfl rfl (fun rs4 k4=>?_)
 ·simp only[ai,eN,ak,aD,YF,ik,aq,cT,cF,bQ,aR,aY,dl,bO,aZ,cy,cP,bS,aQ,ah,ar,ck,dX,aX,dA,cd,dT,apj,hcl2,b15]
 rw[ni hmw]
 exact WD.nil (hk _ _ hO2 hmw hold (by show s.next<=s1.next;omega))
theorem ak8 {s0:St} {x mb mo mt mu md lim:Nat} {B O T U:List (aB×aj)} {C:List Cf} (M:Mg s0 x mb mo mt mu md B O T U C) {v:aj} {ks:List aB} (K:KL s0 lim v ks) (hlim:lim<=s0.next) (hlen:ks.length<=800000) {g:aB->Obj} (hg: ∀k∈ks, ∃p,look k U=some (.ptr p 0)/\p<s0.next/\s0.get [] p=some (.cells (g k).cells)): ∀(rest pre:List aB) (e:bq) (lc:Ag.Loc) (s:St) (ov:aj),ks=pre++rest->gW 6 s0.next s ov ((pre.map g).map Obj.val)->s.minw<=s.next->s0.next<=s.next->(∀n,n<s0.next->s.get [] n=s0.get [] n)->
 ay e 8= .ptr x 0->ay e 15= .lref 15 1 0->lc.gen 15=1->lc.get 15 1=some [ov]->ay e 104=v->ay e 105= .int .i64 (ks.length:Nat)->ay e 106= .int .i64 (pre.length:Nat)->
 W (QM sp ch) 9 (.loop AK) ⟨e,132,lc⟩ s fun y fr s'=>y= .exit 6/\ ∃e' lc' ov',fr=⟨e',132,lc'⟩/\(ay e' 6=ay e 6/\ay e' 8= .ptr x 0/\ay e' 15= .lref 15 1 0)/\lc'.gen 15=1/\lc'.get 15 1=some [ov']/\(lc'.gen 6=lc.gen 6/\lc'.get 6 1=lc.get 6 1)/\gW 6 s0.next s' ov' ((ks.map g).map Obj.val)/\s'.minw<=s'.next/\s0.next<=s'.next/\(∀n,n<s0.next->s'.get [] n=s0.get [] n):=by
 intro rest
 have hx0:=M.hx
 obtain⟨o1,o2,o3,o4,o5,o6⟩:=M.ord
 induction rest with
 |nil=>
  intro pre e lc s ov hpre hO hm hn hold h8 h15 g15 b15 h104 h105 h106
  have hl:ks.length=pre.length:=by rw[hpre];simp
  have hpp:pre=ks:=by rw[hpre];simp
  refine cY ?_
  unfold AK
  refine aF ?_
  unfold FQ
  simp only[aw,az,aA,aU,ak,aD,au,cE,aq,a7,cT,bQ,cN,tA,ar,decide_false,h105,h106,hl,ff]
  refine aV (bc (t:=false) (by simp only[ak,ai,ah,cT]) ?_)
  rw[hpp] at hO
  refine eL ⟨rfl,_,_,ov,rfl,⟨?_,?_,?_⟩,g15,b15,⟨rfl,rfl⟩,hO,hm,hn,hold⟩
  ·simp only[ai,ah,cF]
  ·simp only[ai,ah,cF,h8]
  ·simp only[ai,ah,cF,h15]
 |cons k rest ih=>
  intro pre e lc s ov hpre hO hm hn hold h8 h15 g15 b15 h104 h105 h106
  have hlt:pre.length<ks.length:=by rw[hpre];simp
  have hat:ks[pre.length]? =some k:=by rw[hpre];simp
  obtain⟨rk,k1,k2,hia⟩:=K.row pre.length k hat
  have k2:=(hold rk (by omega)).trans k2
  have hcl:=K.clean
  have hoc:=hO.clean
  have hwr:IntKind.i64.wrap ((pre.length:Int)+1)=((pre.length+1:Nat):Int):=by rw[eh (by omega) (by omega)];omega
  have hrd:((ks.map bB).drop pre.length).head?=some (.str k):=by rw[hpre,mm,List.drop_left' (by simp)];rfl
  have hx:s.top.get [] x=some (.cells [.map mb,.map mo,.map mt,.map mu,.map md]):=(hold x o6).trans hx0
  obtain⟨p,p1,p2,p3⟩:=hg k (by rw[hpre];simp)
  have hp:s.top.get [] p=some (.cells [.str (g k).id,.int .i64 (g k).kind,.int .i64 (g k).x,.int .i64 (g k).y,(g k).refsV,(g k).tagsV]):=(hold p p2).trans p3
  have hus:s.top.get [] mu=some (.map (c8 0 U) U.length):=(hold mu (by omega)).trans M.hu
  have hlk:=sh hus k
  have hat_:at_ k U= .ptr p 0:=by simp only[at_,p1,oh]
  rw[hat_] at hlk
  have hbs: ∀e s,ay e 119= .agg [.str (g k).id,.int .i64 (g k).kind,.int .i64 (g k).x,.int .i64 (g k).y,(g k).refsV,(g k).tagsV]->ey Tryz.prog 22 1 [(0,.tmp 119)] false e s=some (.list 6 [.agg [.str (g k).id,.int .i64 (g k).kind,.int .i64 (g k).x,.int .i64 (g k).y,(g k).refsV,(g k).tagsV]] .full,s):=fun e s h=>Yi (by rw[ak,h]) s
  refine cY ?_
  unfold AK
  refine aF ?_
  unfold FQ
  simp only[aw,az,aA,aU,ak,aD,au,cE,aq,a7,cT,bQ,cN,tA,ar,dT,h105,h106,hlt]
  refine aV (bc (t:=true) (by simp only[ak,ai,ah,cT]) (b7 ?_))
  simp only[aW]
  refine aV (cR (aF ?_))
  unfold TJ
  simp only[aw,az,aA,ai,aM,bn,dI,ak,au,aq,cT,cF,bS,tA,ah,ar,bQ,h104,h106,hia,dH,k2,dG,dv,hrd]
  rw[show uD=uD.take 11++uD.drop 11 from(oe 11 _).symm]
  refine W.drawD (WD.calmOps hm (fun _ h=>by cases h) (fun _ h=>by cases h) ?_)
  unfold uD
  simp only[d8,d7,ec,isStore,ai,aG,lL,bn,bN,l5,gh,ak,aD,bT,au,bZ,bG,aq,cw,gr,cT,cF,bQ,hG,aR,aY,cut,bO,aZ,bE,List.take_succ_cons,cy,cP,bS,tA,aQ,cQ,ah,ar,bJ,aX,iz,tf,iG,nX,kT,h8,h15,g15,b15,gg,dH,hx,hp,dG,hlk,adx,hbs]
  intro rs1 hc1 hi1
  refine XX (acc:=pre.map g) (ob:=g k) hi1 ?_ ?_ ?_ g15 b15 hO hm hn (by rw[fw];omega) ?_
  ·simp only[ai,ah,cF,h15]
  ·simp only[ai,ah,cT,cF]
  ·simp only[ai,ah,cT,cF];rfl
  intro ov2 s2 hO2 hm2 hold2 hn2
  simp only[dM,aW]
  refine cp ?_
  unfold TK
  simp only[aw,az,aA,ai,aG,aU,ak,aH,aD,bm,au,dW,aq,a7,cT,cF,bQ,bS,tA,ah,ar,h106,hwr,aW]
  refine(ih (pre++[k]) _ _ s2 ov2 (by rw[hpre];simp) (by rw[mm];exact hO2) hm2 (by omega) (fun n h=>(hold2 n h).trans (hold n h)) ?_ ?_ ?_ ?_ ?_ ?_ ?_).mono ?_
  ·simp only[ai,ah,cF,h8]
  ·simp only[ai,ah,cF,h15]
  ·simp only[cJ,ah,cT]
  ·simp only[bU,cT,bS]
  ·simp only[ai,ah,cF,h104]
  ·simp only[ai,ah,cF,h105]
  ·simp only[ai,ah,cT,cF,dw,aR,aY]
  rintro y fr s' ⟨rfl,e',lc',ov',rfl,⟨w6,w8,w15⟩,q1,q2,⟨q3,q4⟩,q5⟩
  refine⟨rfl,e',lc',ov',rfl,⟨w6.trans ?_,w8,w15⟩,q1,q2,⟨q3.trans ?_,q4.trans ?_⟩,q5⟩
  ·simp only[ai,ah,cF]
  ·simp only[cJ,ah,cF]
  ·simp only[bU,ah,cF]
end
structure Xg (s s':St) (b o t:List Obj) (mb mo mt mu md x:Nat):Prop where
 emb:mb=s.next
 emo:mo=mb+1+b.length
 emt:mt=mo+1+o.length
 emu:mu=mt+1+t.length
 emd:md=mu+1
 ex:x=md+1
 next:s'.next=x+1
 minw:s'.minw<=s'.next
 ci:s'.ci=s.ci
 mg:Mg s' x mb mo mt mu md (oA [] (mb+1) b) (oA [] (mo+1) o) (oA [] (mt+1) t) [] []
 ob: ∀(i:Nat) (q:Obj),b[i]? =some q->s'.get [] (mb+1+i)=some (.cells q.cells)
 oo: ∀(i:Nat) (q:Obj),o[i]? =some q->s'.get [] (mo+1+i)=some (.cells q.cells)
 ot: ∀(i:Nat) (q:Obj),t[i]? =some q->s'.get [] (mt+1+i)=some (.cells q.cells)
def jY:Nat->List Obj->List (aB×aj)
 |_,[]=>[]
 |p,o::r=>(o.id,.ptr p 0)::jY (p+1) r
theorem Um (k:aB): ∀(L R:List (aB×aj)),look k (L++R)=(look k L).or (look k R)
 | [],R=>rfl
 |(a,v)::L,R=>by
  simp only[cP,look]
  cases k==a with
  |true=>rfl
  |false=>exact Um k L R
theorem zi: ∀(l:List Obj) (L:List (aB×aj)) (p:Nat),(∀o∈l,look o.id L=none)->(l.map (·.id)).Nodup->oA L p l=L++jY p l
 | [],L,p,_,_=>by simp[oA,jY]
 |o::r,L,p,h,hn=>by
  simp only[fS,xc] at hn
  simp only[oA,jY]
  rw[DY (h o (by simp)),zi r _ (p+1) (fun q hq=>?_) hn.2,List.append_assoc]
  ·rfl
  ·rw[Um,h q (by simp[hq])]
   have:(q.id==o.id)=false:=beq_eq_false_iff_ne.2 fun e=>hn.1 (by rw[<-e];exact List.mem_map.2 ⟨q,hq,rfl⟩)
   simp only[look,this,Option.none_or,cF]
theorem Bn {s:St} {lim:Nat}: ∀(l:List Obj) (p:Nat),(∀(i:Nat) (o:Obj),l[i]? =some o->s.get [] (p+i)=some (.cells o.cells))->(∀o∈l,o.Good)->p+l.length<=lim-> ∀k,fM s lim (at_ k (jY p l)) (br k l)
 | [],p,_,_,_,k=>.nil
 |o::r,p,h,hg,hl,k=>by
  simp only[aR] at hl
  simp only[at_,jY,look,br]
  cases k==o.id with
  |true=>exact .at_ (by omega) (h 0 o rfl) (hg o (by simp))
  |false=>exact Bn r (p+1) (fun i q hq=>by rw[show p+1+i=p+(i+1) by omega];exact h (i+1) q (by simpa using hq)) (fun q hq=>hg q (by simp[hq])) (by omega) k
theorem Bm: ∀(l:List Obj) (p:Nat),(jY p l).length=l.length
 | [],_=>rfl
 |o::l,p=>by simp only[jY,aR,Bm l (p+1)]
theorem Vo: ∀(l:List Obj) (p:Nat),(jY p l).map (·.1)=l.map (·.id)
 | [],_=>rfl
 |o::l,p=>by simp only[jY,fS,Vo l (p+1)]
section
variable {sp:FuncId->Option (List aj->Option aj)} {ch:Nat->Nat}
theorem alS (h23:sp 23=none) {vb vo vt:aj} {b o t:List Obj} (hb:bH 6 Obj.val vb b) (ho:bH 6 Obj.val vo o) (ht:bH 6 Obj.val vt t) (sb:b.length<small) (so:o.length<small) (st:t.length<small) {e:bq} {lc:Ag.Loc} {s:St} (hm:s.minw<=s.next)
 (h3:ay e 3= .lref 3 1 0) (_g3:lc.gen 3=1) (b3:lc.get 3 1=some [vb]) (h4:ay e 4= .lref 4 1 0) (_g4:lc.gen 4=1) (b4:lc.get 4 1=some [vo]) (h5:ay e 5= .lref 5 1 0) (_g5:lc.gen 5=1) (b5:lc.get 5 1=some [vt]) {K:Fr->St->Prop}
 (hk: ∀(e':bq) (s':St) (mb mo mt mu md x:Nat),Xg s s' b o t mb mo mt mu md x->ay e' 8= .ptr x 0->ay e' 6=ay e 6->ay e' 7=ay e 7->K ⟨e',132,lc⟩ s'):
 WD (QM sp ch) 9 FO [] 0 FR ⟨e,132,lc⟩ s K:=by
 have cb:=hb.clean
 have co:=ho.clean
 have ct:=ht.clean
 obtain⟨s1,r1,l1⟩:=Gw (ch:=ch) h23 hb sb s.top (bK _)
 have n1:s1.next=s.next+1+b.length:=l1.next
 have w1:s1.minw=s.next:=l1.minw
 let sA:=s.least s1
 have mA:sA.minw=s.minw:=FY hm (by omega)
 have nA:sA.next=s.next+1+b.length:=n1
 have hA:sA.minw<=sA.next:=by omega
 obtain⟨s2,r2,l2⟩:=Gw (ch:=ch) h23 ho so sA.top (bK _)
 have n2:s2.next=sA.next+1+o.length:=l2.next
 have w2:s2.minw=sA.next:=l2.minw
 let sB:=sA.least s2
 have mB:sB.minw=sA.minw:=FY hA (by omega)
 have nB:sB.next=sA.next+1+o.length:=n2
 have hB:sB.minw<=sB.next:=by omega
 obtain⟨s3,r3,l3⟩:=Gw (ch:=ch) h23 ht st sB.top (bK _)
 have n3:s3.next=sB.next+1+t.length:=l3.next
 have w3:s3.minw=sB.next:=l3.minw
 let sC:=sB.least s3
 have mC:sC.minw=sB.minw:=FY hB (by omega)
 have nC:sC.next=sB.next+1+t.length:=n3
 have hC:sC.minw<=sC.next:=by omega
 have gB: ∀n,n<sA.next->sB.get [] n=sA.get [] n:=fun n h=>l2.old n (by show n<sA.next+1;omega) (by show n≠sA.next;omega)
 have gC: ∀n,n<sB.next->sC.get [] n=sB.get [] n:=fun n h=>l3.old n (by show n<sB.next+1;omega) (by show n≠sB.next;omega)
 have gF: ∀n v,n<sC.next->(((sC.new (.map [] 0)).new (.map [] 0)).new v).get [] n=sC.get [] n:=fun n v h=>by
  rw[dy,dy,dy]
  have e1:(n==((sC.new (.map [] 0)).new (.map [] 0)).next)=false:=beq_eq_false_iff_ne.2 (by show n≠sC.next+1+1;omega)
  have e2:(n==(sC.new (.map [] 0)).next)=false:=beq_eq_false_iff_ne.2 (by show n≠sC.next+1;omega)
  have e3:(n==sC.next)=false:=beq_eq_false_iff_ne.2 (by omega)
  rw[e1,e2,e3];rfl
 unfold FR FO
 refine WD.hush (v:=.agg [vb]) (lc:=lc) (s1:=s.top) (fr1:=⟨e.set 33 (some (.agg [vb])),132,lc⟩) (fun _ h=>by cases h) rfl (bK _) rfl (fun mk=>by simp only[bn,ak,bT,au,aq,cT,bQ,aR,aY,cut,bO,aZ,bS,aQ,aX,iY,h3,b3]) rfl (iO.2 ⟨by decide,rfl⟩) (fun rs1 k1=>?_)
 rw[ni hm]
 refine WD.call (g:=23) (args:=[.agg [vb]]) (v:=.map s.next) (s1:=s1) (fr1:=⟨(e.set 33 (some (.agg [vb]))).set 34 (some (.map s.next)),132,lc⟩) k1 (by decide) rfl (by omega) rfl (fun b=>by simp) (by simp only[callee,ai,ak,fA,aD,bh,bk,aq,cu,cT,cy,cP,bS]) r1 l1.ci (iO.2 ⟨by decide,rfl⟩) (fun rs2 k2=>?_)
 refine WD.hush (v:=.agg [vo]) (lc:=lc) (s1:=sA.top) (fr1:=⟨((e.set 33 (some (.agg [vb]))).set 34 (some (.map s.next))).set 35 (some (.agg [vo])),132,lc⟩) k2 rfl (bK _) rfl (fun mk=>by simp only[ai,bn,ak,bT,au,aq,cT,cF,bQ,aR,aY,cut,bO,aZ,bS,aQ,ah,aX,iY,h4,b4];rfl) rfl (iO.2 ⟨by decide,rfl⟩) (fun rs3 k3=>?_)
 rw[show(s.least s1).least sA.top=sA from ni hA]
 refine WD.call (g:=23) (args:=[.agg [vo]]) (v:=.map sA.next) (s1:=s2) (fr1:=⟨(((e.set 33 (some (.agg [vb]))).set 34 (some (.map s.next))).set 35 (some (.agg [vo]))).set 36 (some (.map sA.next)),132,lc⟩) k3 (by decide) rfl (by omega) rfl (fun b=>by simp) (by simp only[callee,ai,ak,fA,aD,bh,bk,aq,cu,cT,cF,cy,cP,bS,ah]) r2 l2.ci (iO.2 ⟨by decide,rfl⟩) (fun rs4 k4=>?_)
 refine WD.hush (v:=.agg [vt]) (lc:=lc) (s1:=sB.top) (fr1:=⟨((((e.set 33 (some (.agg [vb]))).set 34 (some (.map s.next))).set 35 (some (.agg [vo]))).set 36 (some (.map sA.next))).set 37 (some (.agg [vt])),132,lc⟩) k4 rfl (bK _) rfl (fun mk=>by simp only[ai,bn,ak,bT,au,aq,cT,cF,bQ,aR,aY,cut,bO,aZ,bS,aQ,ah,aX,iY,h5,b5];rfl) rfl (iO.2 ⟨by decide,rfl⟩) (fun rs5 k5=>?_)
 rw[show(sA.least s2).least sB.top=sB from ni hB]
 refine WD.call (g:=23) (args:=[.agg [vt]]) (v:=.map sB.next) (s1:=s3) (fr1:=⟨(((((e.set 33 (some (.agg [vb]))).set 34 (some (.map s.next))).set 35 (some (.agg [vo]))).set 36 (some (.map sA.next))).set 37 (some (.agg [vt]))).set 38 (some (.map sB.next)),132,lc⟩) k5 (by decide) rfl (by omega) rfl (fun b=>by simp) (by simp only[callee,ai,ak,fA,aD,bh,bk,aq,cu,cT,cF,cy,cP,bS,ah]) r3 l3.ci (iO.2 ⟨by decide,rfl⟩) (fun rs6 k6=>?_)
 refine WD.hush (v:=.map sC.next) (lc:=lc) (s1:=sC.top.new (.map [] 0)) (fr1:=⟨((((((e.set 33 (some (.agg [vb]))).set 34 (some (.map s.next))).set 35 (some (.agg [vo]))).set 36 (some (.map sA.next))).set 37 (some (.agg [vt]))).set 38 (some (.map sB.next))).set 39 (some (.map sC.next)),132,lc⟩) k6 rfl (bK _) rfl (fun mk=>by simp only[uM,bZ,bQ,A3];rfl) rfl (iO.2 ⟨by decide,rfl⟩) (fun rs7 k7=>?_)
 rw[show(sB.least s3).least (sC.top.new (.map [] 0))=sC.new (.map [] 0) from F4 hC _]
 have hD:(sC.new (.map [] 0)).minw<=(sC.new (.map [] 0)).next:=lj hC
 refine WD.hush (v:=.map (sC.next+1)) (lc:=lc) (s1:=(sC.new (.map [] 0)).top.new (.map [] 0)) (fr1:=⟨(((((((e.set 33 (some (.agg [vb]))).set 34 (some (.map s.next))).set 35 (some (.agg [vo]))).set 36 (some (.map sA.next))).set 37 (some (.agg [vt]))).set 38 (some (.map sB.next))).set 39 (some (.map sC.next))).set 40 (some (.map (sC.next+1))),132,lc⟩) k7 rfl (bK _) rfl (fun mk=>by simp only[uM,bZ,bQ,A3];rfl) rfl (iO.2 ⟨by decide,rfl⟩) (fun rs8 k8=>?_)
 rw[show(sC.new (.map [] 0)).least ((sC.new (.map [] 0)).top.new (.map [] 0))=(sC.new (.map [] 0)).new (.map [] 0) from F4 hD _]
 have hE:((sC.new (.map [] 0)).new (.map [] 0)).minw<=((sC.new (.map [] 0)).new (.map [] 0)).next:=lj hD
 refine WD.full (v:=.agg [.map s.next,.map sA.next,.map sB.next,.map sC.next,.map (sC.next+1)]) (lc:=lc) (s1:=((sC.new (.map [] 0)).new (.map [] 0)).top) (fr1:=⟨((((((((e.set 33 (some (.agg [vb]))).set 34 (some (.map s.next))).set 35 (some (.agg [vo]))).set 36 (some (.map sA.next))).set 37 (some (.agg [vt]))).set 38 (some (.map sB.next))).set 39 (some (.map sC.next))).set 40 (some (.map (sC.next+1)))).set 41 (some (.agg [.map s.next,.map sA.next,.map sB.next,.map sC.next,.map (sC.next+1)])),132,lc⟩) k8 (by decide) rfl (bK _) rfl ?_ rfl (iO.2 ⟨by decide,rfl⟩) (fun rs9 k9=>?_)
 ·simp only[ai,lK,ak,aD,dj,aq,gr,cT,cF,bQ,aR,aY,dl,gZ,cy,cP,bS,aQ,ah,bJ,ck,aX,cd,Yc,aqB,ee,Im];rfl
 rw[ni hE]
 refine WD.fullL (v:=.ptr (sC.next+2) 0) (lc:=lc) (s1:=((sC.new (.map [] 0)).new (.map [] 0)).top.new (.cells [.map s.next,.map sA.next,.map sB.next,.map sC.next,.map (sC.next+1)])) (fr1:=⟨(((((((((e.set 33 (some (.agg [vb]))).set 34 (some (.map s.next))).set 35 (some (.agg [vo]))).set 36 (some (.map sA.next))).set 37 (some (.agg [vt]))).set 38 (some (.map sB.next))).set 39 (some (.map sC.next))).set 40 (some (.map (sC.next+1)))).set 41 (some (.agg [.map s.next,.map sA.next,.map sB.next,.map sC.next,.map (sC.next+1)]))).set 42 (some (.ptr (sC.next+2) 0)),132,lc⟩) (fun r hr=>(k9 r hr).1) (by decide) rfl ?_ rfl (iO.2 ⟨by decide,rfl⟩) (fun rs10 J2=>?_)
 ·simp only[ai,iA,ak,aD,i9,bG,dj,aq,cu,cT,cF,hG,bS,ah,adC,i9];rfl
 rw[F4 hE]
 have hF:=lj hE
 refine WD.fullL (v:=.ptr (sC.next+2) 0) (lc:=lc) (s1:=(((sC.new (.map [] 0)).new (.map [] 0)).new (.cells [.map s.next,.map sA.next,.map sB.next,.map sC.next,.map (sC.next+1)])).top) (fr1:=⟨((((((((((e.set 33 (some (.agg [vb]))).set 34 (some (.map s.next))).set 35 (some (.agg [vo]))).set 36 (some (.map sA.next))).set 37 (some (.agg [vt]))).set 38 (some (.map sB.next))).set 39 (some (.map sC.next))).set 40 (some (.map (sC.next+1)))).set 41 (some (.agg [.map s.next,.map sA.next,.map sB.next,.map sC.next,.map (sC.next+1)]))).set 42 (some (.ptr (sC.next+2) 0))).set 8 (some (.ptr (sC.next+2) 0)),132,lc⟩) J2 (by decide) rfl ?_ rfl (iO.2 ⟨by decide,rfl⟩) (fun rs11 k11=>?_)
 ·simp only[ai,aM,ak,au,cT,cF,bS,ah]
 rw[ni hF]
 refine WD.nil (hk _ _ s.next sA.next sB.next sC.next (sC.next+1) (sC.next+2) ⟨rfl,nA,nB,nC,rfl,rfl,rfl,hF,?_,⟨?_,?_,?_,?_,?_,?_,hF,by omega,by omega,by omega,by omega,by omega,iC _⟩,?_,?_,?_⟩ (by simp only[ai,ah,cT,cF, *]) (by simp only[ai,ah,cF, *]) (by simp only[ai,ah,cF, *]))
 ·exact(l3.ci.trans (l2.ci.trans l1.ci):_)
 ·rw[dy,show(sC.next+2==((sC.new (.map [] 0)).new (.map [] 0)).next)=true from bS _];rfl
 ·rw[gF _ _ (by omega),gC _ (by omega),gB _ (by omega)];exact l1.map
 ·rw[gF _ _ (by omega),gC _ (by omega)];exact l2.map
 ·rw[gF _ _ (by omega)];exact l3.map
 ·rw[dy,dy,dy]
  have e1:(sC.next==((sC.new (.map [] 0)).new (.map [] 0)).next)=false:=beq_eq_false_iff_ne.2 (by show sC.next≠sC.next+1+1;omega)
  have e2:(sC.next==(sC.new (.map [] 0)).next)=false:=beq_eq_false_iff_ne.2 (by show sC.next≠sC.next+1;omega)
  rw[e1,e2,bS];rfl
 ·rw[dy,dy]
  have e1:(sC.next+1==((sC.new (.map [] 0)).new (.map [] 0)).next)=false:=beq_eq_false_iff_ne.2 (by show sC.next+1≠sC.next+1+1;omega)
  have e2:(sC.next+1==(sC.new (.map [] 0)).next)=true:=bS _
  rw[e1,e2];rfl
 ·intro i q hq
  have hi:i<b.length:=by
   rcases iJ i b.length with h|h
   ·exact h
   ·rw[jS h] at hq;cases hq
  rw[gF _ _ (by omega),gC _ (by omega),gB _ (by omega)];exact l1.obj i q hq
 ·intro i q hq
  have hi:i<o.length:=by
   rcases iJ i o.length with h|h
   ·exact h
   ·rw[jS h] at hq;cases hq
  rw[gF _ _ (by omega),gC _ (by omega)];exact l2.obj i q hq
 ·intro i q hq
  have hi:i<t.length:=by
   rcases iJ i t.length with h|h
   ·exact h
   ·rw[jS h] at hq;cases hq
  rw[gF _ _ (by omega)];exact l3.obj i q hq
end
def rX (l:List aB):List aB:=l.foldl (fun K k=>jh k K) []
def CZ (l:List Cf):List Cf:=l.foldl (fun C c=>dU c C) []
theorem alZ {k x:aB} {K:List aB}:x∈jh k K↔x=k\/x∈K:=by
 unfold jh
 cases h:K.elem k with
 |true=>
  have:=rG h
  simp only[cT]
  exact⟨.inr,fun h'=>h'.elim (fun e=>e▸this) id⟩
 |false=>simp only[cF,sK,qI];exact⟨Or.symm,Or.symm⟩
theorem HR {k:aB} {K:List aB} (h:K.Nodup):(jh k K).Nodup:=by
 unfold jh
 cases hk:K.elem k with
 |true=>exact h
 |false=>
  have hn:k ∉ K:=fun hm=>by rw[rD hm] at hk;cases hk
  exact List.nodup_append.2 ⟨h,by simp,fun a ha b hb e=>by simp only[qI] at hb;subst hb;subst e;exact hn ha⟩
theorem ut: ∀(l K:List aB),K.Nodup->(l.foldl (fun K k=>jh k K) K).Nodup/\(∀x,x∈l.foldl (fun K k=>jh k K) K↔x∈K\/x∈l)/\(l.foldl (fun K k=>jh k K) K).length<=K.length+l.length
 | [],K,h=>⟨h,fun x=>by simp,bK _⟩
 |k::l,K,h=>by
  obtain⟨h1,h2,h3⟩:=ut l (jh k K) (HR h)
  refine⟨h1,fun x=>?_,?_⟩
  ·rw[vj,h2,alZ,qH]
   constructor
   ·rintro((h|h)|h)
    ·exact .inr (.inl h)
    ·exact .inl h
    ·exact .inr (.inr h)
   ·rintro(h|h|h)
    ·exact .inl (.inr h)
    ·exact .inl (.inl h)
    ·exact .inr h
  ·rw[vj,aR]
   have h4:(jh k K).length<=K.length+1:=by
    unfold jh
    cases K.elem k<;>simp
   omega
theorem zp: ∀(l K:List Cf),K.Nodup->(l.foldl (fun C c=>dU c C) K).Nodup/\(∀x,x∈l.foldl (fun C c=>dU c C) K↔x∈K\/x∈l)/\(l.foldl (fun C c=>dU c C) K).length<=K.length+l.length
 | [],K,h=>⟨h,fun x=>by simp,bK _⟩
 |k::l,K,h=>by
  obtain⟨h1,h2,h3⟩:=zp l (dU k K) (uk h)
  refine⟨h1,fun x=>?_,?_⟩
  ·rw[vj,h2,qp,qH]
   constructor
   ·rintro((h|h)|h)
    ·exact .inr (.inl h)
    ·exact .inl h
    ·exact .inr (.inr h)
   ·rintro(h|h|h)
    ·exact .inl (.inr h)
    ·exact .inl (.inl h)
    ·exact .inr h
  ·rw[vj,aR]
   have h4:(dU k K).length<=K.length+1:=by
    unfold dU
    cases nf k K<;>simp
   omega
open Classical in
noncomputable def oT (b o t:List Obj):List aB:=(rX (eV b o t)).filter fun k=>decide (jq b o t k)
open Classical in
noncomputable def rT (b o t:List Obj):List Cf:=CZ ((eV b o t).flatMap (j9 b o t)++((eV b o t).filter fun k=>decide (Reach b o t k)).map fun k=>(k,gG))
def nq (b o t:List Obj) (k:aB):Obj:=(fU b o t k).getD mS
noncomputable def jt (b o t:List Obj):List Obj:=(fC (oT b o t)).map (nq b o t)
noncomputable def pn (b o t:List Obj):List Cf:=iH (rT b o t)
noncomputable def uT (b o t:List Obj):aj:=.tup [.agg [gK 6 ((jt b o t).map Obj.val)],gK 2 ((pn b o t).map dP)]
theorem UG {b o t:List Obj} {k:aB} (h:k ∉ eV b o t):j9 b o t k=[]/\gu b o t k=none:=by
 simp only[eV,sK,not_or] at h
 have nn: ∀ {l:List Obj},k ∉ l.map (·.id)->br k l=none:=fun {l} hn=>by
  cases ho:br k l with
  |none=>rfl
  |some q=>exact absurd (yq.1 (by rw[ho];simp)) hn
 exact Ip (nn h.1) (nn h.2.1) (nn h.2.2)
theorem jq.name {b o t:List Obj} {k:aB} (h:jq b o t k):k∈eV b o t:=by
 rcases h with h|h
 ·exact ml fun hc=>by rw[(UG hc).2] at h;cases h
 ·exact Gq h.no.2
theorem ym {b o t:List Obj} {k:aB}:k∈oT b o t↔jq b o t k:=by
 unfold oT
 rw[List.mem_filter]
 have:=(ut (eV b o t) [] oZ).2.1 k
 simp only[decide_eq_true_eq]
 constructor
 ·exact fun h=>h.2
 ·exact fun h=>⟨this.2 (.inr h.name),h⟩
theorem Vg (b o t:List Obj):(oT b o t).Nodup:=List.Nodup.sublist (List.filter_sublist) (ut (eV b o t) [] oZ).1
theorem anB (b o t:List Obj):(oT b o t).length<=(eV b o t).length:=by
 have h1:=(ut (eV b o t) [] oZ).2.2
 have h2:(oT b o t).length<=(rX (eV b o t)).length:=rF _ _
 have h3:(rX (eV b o t)).length<=([]:List aB).length+(eV b o t).length:=h1
 simp only[aY] at h3
 omega
theorem UC {b o t:List Obj} {c:Cf}:c∈rT b o t↔(∃k,c∈j9 b o t k)\/ ∃k,Reach b o t k/\c=(k,gG):=by
 unfold rT
 have:=(zp ((eV b o t).flatMap (j9 b o t)++((eV b o t).filter fun k=> @decide (Reach b o t k) (vi _)).map fun k=>(k,gG)) [] oZ).2.1 c
 refine Iff.trans this ?_
 simp only[rH,false_or,sK,List.mem_flatMap,List.mem_map,List.mem_filter,decide_eq_true_eq]
 constructor
 ·rintro(⟨k,_,h⟩|⟨k,⟨_,h⟩,rfl⟩)
  ·exact .inl ⟨k,h⟩
  ·exact .inr ⟨k,h,rfl⟩
 ·rintro(⟨k,h⟩|⟨k,h,rfl⟩)
  ·exact .inl ⟨k,ml fun hc=>(by rw[(UG hc).1] at h;cases h),h⟩
  ·exact .inr ⟨k,⟨Gq h.no.2,h⟩,rfl⟩
theorem Ze (b o t:List Obj):(rT b o t).Nodup:=(zp _ [] oZ).1
theorem zh (k:Cf) (C:List Cf):(dU k C).length<=C.length+1:=by
 unfold dU
 cases nf k C<;>simp
theorem WA {id:aB}: ∀(ks:List aB) (C:List Cf),(mQ id ks C).length<=C.length+ks.length
 | [],C=>bK _
 |k::ks,C=>by
  have h1:mQ id (k::ks) C=mQ id ks (dU (id,mO k) C):=rfl
  have h2:=WA (id:=id) ks (dU (id,mO k) C)
  have h3:=zh (id,mO k) C
  rw[h1,aR];omega
theorem kC.sixty {p:Option Obj} (h:kC p): ∀o,p=some o->o.tags.length<=60:=fun o ho=>by
 have h1:=h o ho
 simp only[gM,df,decide_eq_true_eq] at h1
 omega
theorem YJ {b o t:List Obj} {k:aB} (vb:kC (br k b)) (vo:kC (br k o)) (vt:kC (br k t)):(j9 b o t k).length<=400:=by
 have h1:=vb.sixty
 have h2:=vo.sixty
 have h3:=vt.sixty
 unfold j9 gR
 cases dz (br k o) (br k t)||dz (br k t) (br k b) with
 |true=>simp
 |false=>
  cases dz (br k o) (br k b) with
  |true=>simp
  |false=>
   have hC:=zh (k,gG) []
   simp only[aY] at hC
   simp only[cF]
   split
   ·rename_i q1 q2 q3 e1 e2 e3
    cases bz q2.kind q1.kind&&bz q3.kind q1.kind with
    |false=>simp only[cF];omega
    |true=>
     simp only[cT,qd]
     have h4:=WA (id:=q1.id) (jp q1.tags q2.tags q3.tags).2 (m7 q1 q2 q3 (kA q1 q2 q3 []))
     have h5:=(BO q1.tags q2.tags q3.tags).2
     have h6:(m7 q1 q2 q3 (kA q1 q2 q3 [])).length<=2:=by
      have h7:(kA q1 q2 q3 []).length<=1:=by
       unfold kA
       cases kd q1 q2 q3 with
       |none=>exact zh _ []
       |some _=>exact Nat.zero_le _
      unfold m7
      cases re (q1.x,q1.y) (q2.x,q2.y) (q3.x,q3.y) with
      |true=>have:=zh (q1.id,BC) (kA q1 q2 q3 []);simp only[cT];omega
      |false=>simp only[cF];omega
     have a1:=h1 q1 e1
     have a2:=h2 q2 e2
     have a3:=h3 q3 e3
     omega
   ·omega
theorem Ji {α β:Type} {n:Nat} {f:α->List β}: ∀(l:List α),(∀a∈l,(f a).length<=n)->(l.flatMap f).length<=n*l.length
 | [],_=>Nat.zero_le _
 |a::l,h=>by
  have ih:=Ji l fun b hb=>h b (by simp[hb])
  have h1:=h a (by simp)
  rw[List.flatMap_cons,dw,aR,Nat.mul_succ];omega
theorem IJ {b o t:List Obj} (vb: ∀k,kC (br k b)) (vo: ∀k,kC (br k o)) (vt: ∀k,kC (br k t)):(rT b o t).length<=401*(eV b o t).length:=by
 have h1:=(zp ((eV b o t).flatMap (j9 b o t)++((eV b o t).filter fun k=> @decide (Reach b o t k) (vi _)).map fun k=>(k,gG)) [] oZ).2.2
 have h2:=Ji (f:=j9 b o t) (eV b o t) fun k _=>YJ (vb k) (vo k) (vt k)
 have h3:(((eV b o t).filter fun k=> @decide (Reach b o t k) (vi _)).map fun k=>(k,gG)).length<=(eV b o t).length:=by
  rw[fw];exact rF _ _
 rw[dw,aY] at h1
 unfold rT CZ
 refine gN h1 ?_
 omega
theorem Ir: ∀l:List (aB×aB),iL (!bo 2 1) 2 l.length (cj (l.map dP))=some (l.map dP)
 | []=>rfl
 |a::l=>by
  have ih:=Ir l
  have h1:cj ((a::l).map dP)= .str a.1:: .str a.2::cj (l.map dP):=rfl
  rw[h1]
  simp only[aR,fS]
  show(bif(!bo 2 1) then _ else _)=_
  have h2:cut (aj.str a.1::aj.str a.2::cj (l.map dP)) 0 2=some [.str a.1,.str a.2]:=rfl
  rw[h2]
  simp only[aq,gZ,nH,ih]
  rfl
theorem aaY {s0 s:St} {v:aj} {l:List (aB×aB)} (g:oq 2 s0 s v (l.map dP)):dt s.heap 3 v=some (gK 2 (l.map dP)):=by
 rcases g.row with⟨rfl,hx⟩|⟨hne,k,rfl,hk,_⟩
 ·rw[hx];rfl
 ·have hk':s.heap.get k=some (.cells (cj (l.map dP))):=hk
  have hlen:=xN l
  have hcut:cut (cj (l.map dP)) 0 ((l.map dP).length*2)=some (cj (l.map dP)):=by
   simp only[cut,nH,fw,<-hlen,List.take_length,aX,bS,cT]
  have hself:eU (dt s.heap 2) (cj (l.map dP))=some (cj (l.map dP)):=we fun v hv=>by
   have: ∀(l:List (aB×aB)), ∀v∈cj (l.map dP), ∃b:aB,v= .str b:=by
    intro l
    induction l with
    |nil=>intro v hv;cases hv
    |cons a l ih=>
     intro v hv
     have h1:cj ((a::l).map dP)= .str a.1:: .str a.2::cj (l.map dP):=rfl
     rw[h1] at hv
     rcases List.mem_cons.1 hv with rfl|hv
     ·exact⟨_,rfl⟩
     ·rcases List.mem_cons.1 hv with rfl|hv
      ·exact⟨_,rfl⟩
      ·exact ih v hv
   obtain⟨b,rfl⟩:=this l v hv
   rfl
  have h0: ∀n:Nat,dt s.heap 3 (.arr 2 k 0 n n)=(match s.heap.get k with
   |some (.cells cs)=>(cut cs 0 (n*2)).bind fun c=>(eU (dt s.heap 2) c).bind fun c'=>(iL (!bo 2 1) 2 n c').bind fun xs=>some (.list 2 xs .no)
   |_=>none):=fun _=>rfl
  rw[h0,hk']
  simp only[hcut,aq,hself]
  rw[fw,Ir]
  simp only[aq]
  cases l with
  |nil=>exact absurd rfl hne
  |cons a l=>rfl
theorem C7: ∀(C:List Cf) (n:Nat),(fJ n C).map (·.key)=C.map dP
 | [],_=>rfl
 |c::C,n=>by
  simp only[fJ,fS,C7 C (n+1)];rfl
theorem xG: ∀(C:List Cf) (n:Nat),(fJ n C).length=C.length
 | [],_=>rfl
 |c::C,n=>by simp only[fJ,aR,xG C (n+1)]
theorem C6: ∀(C:List Cf) (n:Nat),(fJ n C).map (·.born)=vp n C.length
 | [],_=>rfl
 |c::C,n=>by simp only[fJ,fS,C6 C (n+1),aR,ub]
theorem Zs (C:List Cf):y6 (fJ 0 C):=by
 refine⟨fun e he=>?_,by rw[C6];exact List.nodup_range'⟩
 have h1:e.born∈(fJ 0 C).map (·.born):=List.mem_map.2 ⟨e,he,rfl⟩
 rw[C6,List.mem_range'_1] at h1
 rw[xG];omega
section
variable {sp:FuncId->Option (List aj->Option aj)} {ch:Nat->Nat}
theorem akQ (h29:sp 29=none) {m:Nat} {s:St}:bv (QM sp ch) 29 [.map m] s (.func (.func 52) [] [.ptr s.next 0]) (s.new (.cells [.map m])):=by
 refine bv.of2 agR agQ agT agS h29 ?_
 unfold N8
 refine aF ?_
 unfold N9
 simp only[dr,cZ,aw,az,aA,ai,aM,iA,ak,aH,aD,i9,au,bG,aq,gr,cT,hG,aR,aY,bS,tA,aQ,ar,ck,cd,dT,ab9,i9,ofValue,gD]
 refine aF ?_
 unfold Oa
 simp only[aw,az,aA,ai,aM,wJ,ak,aD,bh,bk,au,aq,ez,cT,cF,bS,tA,ah,ar,pz]
 exact bP ⟨rfl,.inr rfl,bV (by simp only[ai,ah,cT,cF]) rfl⟩
theorem ao4 (s28: ∀n,n=28\/n=50\/n=81\/n=51->sp n=none) (h52:sp 52=none) {s:St} {m:Nat} {C:List Cf} (hm:s.minw<=s.next) (hlt:m<s.next) (hs:s.get [] m=some (.map (fJ 0 C) C.length)) (hC:C.length<=1000000):
 ∃v s',bv (QM sp ch) 28 [.func (.func 52) [] [.ptr s.next 0],.func (.func 30) [] []] (s.new (.cells [.map m])) v s'/\oq 2 (s.new (.cells [.map m])) s' v ((iH C).map dP):=by
 have hg2: ∀n,n<s.next->(s.new (.cells [.map m])).get [] n=s.get [] n:=fun n h=>by rw[dy,beq_eq_false_iff_ne.2 (by omega)];rfl
 have hgv:rJ (QM sp ch) 2 52 (s.new (.cells [.map m])) s.next (fJ 0 C):=by
  intro s' bx lo lim lob c ht
  refine akU (Q:=QM sp ch) rfl rfl (ch:=ch) rfl rfl (Zs C) (fun i=>by rw[xG];exact hC) h52 rfl rfl (m:=m) (lj hm) (og hlt) (iC _) (by rw[dy,bS];rfl) (by rw[xG];exact(hg2 m hlt).trans hs) c ht fun e he=>?_
  have h1:e.key∈(fJ 0 C).map (·.key):=List.mem_map.2 ⟨e,he,rfl⟩
  rw[C7] at h1
  obtain⟨b,_,e2⟩:=List.mem_map.1 h1
  exact⟨b.1,b.2,e2.symm⟩
 obtain⟨v,s2,hr,l,hl,hgot⟩:=ao3 (Q:=QM sp ch) rfl rfl s28 (fun _=>rfl) (fun n hn=>by rcases hn with rfl|rfl|rfl<;>rfl) rfl (g:=52) (cb:=s.next) (s0:=s.new (.cells [.map m])) (es:=fJ 0 C) (ks:=C) (lj hm) (by rw[xG];exact hC) (by rw[C7]) (by kernel_rfl) hgv
 rw[Wa hl] at hgot
 exact⟨v,s2,hr,hgot⟩
end
theorem Yp {e:bq} {x y z:Operand} {a b c:Nat} (hx:ev e x=some (.map a)) (hy:ev e y=some (.map b)) (hz:ev e z=some (.map c)) (s:St):ey Tryz.prog 66 3 [(0,x),(1,y),(2,z)] false e s=some (.list 1 [.map a,.map b,.map c] .full,s):=by
 simp only[ey,Zq,aq,ee,evc,hx,hy,hz,aj.clean,cT,gU,aj.cells,aR,aY,dl,Nat.zero_mul,aQ,bJ,jJ,iL,cut]
 rfl
theorem aoi {Q:cI} (hP:Q.P=Tryz.prog) {e:bq} {n:Nat} {lc:Ag.Loc} {s:St} {t u:Tmp} {ov w:aj} (h:ay e t= .lref t 1 0) (hl:lc.get t 1=some [ov]) (hu:ay e u=w) (hw:w.clean=true): ∃vs,gL Q [] ⟨e,n,lc⟩ s [.cell t 24,.tmp u]=some vs/\jO vs= .tup [.agg [ov],w]:=by
 refine⟨[.agg [ov],w],?_,rfl⟩
 simp only[gL,wP,h,hP,bT,hl,aq,iY,cut,nH,bO,aX,aR,aY,bS,cT,cu,evc,ev,hu,hw]
theorem UZ: ∀(l:List Obj) (last:aB),l0 last l=true-> ∀q∈l,gM q.tags=true
 | [],_,_,q,h=>by cases h
 |o::r,last,h,q,hq=>by
  simp only[l0] at h
  cases hb: !eK o||Ag.leBytes o.id last with
  |true=>rw[hb] at h;cases h
  |false=>
   rw[hb] at h
   rcases List.mem_cons.1 hq with rfl|hq
   ·have hv:eK q=true:=by
     cases hv:eK q with
     |true=>rfl
     |false=>rw[hv] at hb;cases hb
    unfold eK at hv
    cases hh:lV q with
    |true=>rw[hh] at hv;cases hv
    |false=>
     unfold lV at hh
     simp only[Bool.or_eq_false_iff,Bool.not_eq_false'] at hh
     exact hh.1.1.2
   ·exact UZ r o.id h q hq
structure ow (b o t:List Obj):Prop where
 vb:jV b=true
 vo:jV o=true
 vt:jV t=true
 gb: ∀q∈b,q.Good
 go: ∀q∈o,q.Good
 gt: ∀q∈t,q.Good
 lb:b.length<=300
 lo:o.length<=300
 lt:t.length<=300
theorem sk {l:List Obj} (h:jV l=true) (k:aB):kC (br k l):=by
 intro q hq
 simp only[jV,df] at h
 exact UZ l [] h.1 q (ju hq).1
theorem Rn.grow {s1 s s':St} {x mb mo mt mu md:Nat} {B O T U:List (aB×aj)} {b o t:List Obj} {C:List Cf} (r:Rn s1 s x mb mo mt mu md B O T U b o t C) (hg: ∀n,n<s.next->s'.get [] n=s.get [] n) (hn:s.next<=s'.next) (hm:s'.minw<=s'.next):Rn s1 s' x mb mo mt mu md B O T U b o t C:=by
 obtain⟨o1,o2,o3,o4,o5,o6⟩:=r.mg.ord
 refine⟨r.mg.grow ((hg md (by omega)).trans r.mg.hd) (fun n h _=>hg n h) hn hm,fun n h=>(hg n (by omega)).trans (r.low n h),fun k v h=>?_,r.base,r.new,r.nd,r.cnd,r.conf⟩
 obtain⟨q,h1,h2⟩:=r.val k v h
 exact⟨q,h1,h2.keep r.mg.hd hn fun n a _=>hg n a⟩
theorem yi {U:List (aB×aj)} {k:aB}:(look k U).isSome=true↔k∈U.map (·.1):=by
 rw[AU]
 exact⟨rG,rD⟩
theorem Rn.perm {s1 s:St} {x mb mo mt mu md:Nat} {B O T U:List (aB×aj)} {b o t:List Obj} {C:List Cf} (r:Rn s1 s x mb mo mt mu md B O T U b o t C) (h: ∀k,(look k U).isSome=true↔jq b o t k):(U.map (·.1)).Perm (oT b o t):=
 (Hz r.nd (Vg b o t)).2 fun k=>by rw[<-yi,h,ym]
theorem Rn.len {s1 s:St} {x mb mo mt mu md:Nat} {B O T U:List (aB×aj)} {b o t:List Obj} {C:List Cf} (r:Rn s1 s x mb mo mt mu md B O T U b o t C) (hi:ow b o t):U.length<=900:=by
 have h1: ∀k∈U.map (·.1),k∈rX (eV b o t):=fun k hk=>((ut (eV b o t) [] oZ).2.1 k).2 (.inr (r.new k (yi.2 hk)).name)
 have h2:((rX (eV b o t)).filter fun k=>(U.map (·.1)).elem k).Perm (U.map (·.1)):=(Hz (List.Nodup.sublist List.filter_sublist (ut (eV b o t) [] oZ).1) r.nd).2 fun k=>by
  rw[List.mem_filter]
  exact⟨fun h=>rG h.2,fun h=>⟨h1 k h,rD h⟩⟩
 have h3:=h2.length_eq
 have h4:((rX (eV b o t)).filter fun k=>(U.map (·.1)).elem k).length<=(rX (eV b o t)).length:=rF _ _
 have h5:(rX (eV b o t)).length<=([]:List aB).length+(eV b o t).length:=(ut (eV b o t) [] oZ).2.2
 have h6:(eV b o t).length=b.length+(o.length+t.length):=by simp[eV]
 have:=hi.lb
 have:=hi.lo
 have:=hi.lt
 rw[fw] at h3
 simp only[aY] at h5
 omega
structure HA (sp:FuncId->Option (List aj->Option aj)):Prop where
 m:vw sp
 s:HF sp
 h9:sp 9=none
 h13:sp 13=some si
 h23:sp 23=none
 h27:sp 27=none
 h29:sp 29=none
 h52:sp 52=none
 s28: ∀n,n=28\/n=50\/n=81\/n=51->sp n=none
section
variable {sp:FuncId->Option (List aj->Option aj)} {ch:Nat->Nat}
theorem al7 (hA:HA sp) {vb vo vt:aj} {b o t:List Obj} (hb:bH 6 Obj.val vb b) (ho:bH 6 Obj.val vo o) (ht:bH 6 Obj.val vt t) (hi:ow b o t) {s:St} (hm:s.minw<=s.next):
 ∃v s',bv (QM sp ch) 9 [.agg [vb],.agg [vo],.agg [vt]] s v s'/\j5 s'.heap v (uT b o t):=by
 have cb:=hb.clean
 have co:=ho.clean
 have ct:=ht.clean
 have hsm:small=9223372036854775808:=rfl
 have lb:=hi.lb
 have lo:=hi.lo
 have lt:=hi.lt
 have h13:=hA.h13
 have hvb:=AX hb hi.gb (by omega)
 have hvo:=AX ho hi.go (by omega)
 have hvt:=AX ht hi.gt (by omega)
 rw[hi.vb] at hvb
 rw[hi.vo] at hvo
 rw[hi.vt] at hvt
 refine bv.ofEx akH akG akK akJ hA.h9 ?_
 unfold k9
 refine aF ?_
 unfold Tw
 simp only[dr,cZ,aw,az,aA,ai,dp,cJ,aM,gY,iA,ak,aH,aD,fv,au,bG,dj,aq,cu,cT,cF,bQ,hG,aR,aY,bS,tA,aQ,ah,ar,bJ,ck,cd,dT,Hv,adA,adB,adE,adH,ofValue,gD]
 refine aV (aF ?_)
 unfold Tx
 simp only[aw,az,de,aA,dQ,eG,ai,bU,aG,cz,bn,fp,dc,da,ak,aH,aD,bh,bk,bF,bT,cD,du,au,fq,aq,eJ,cu,cT,cF,bQ,rK,aR,aY,cut,bO,aZ,Bool.not_true,bS,tA,aQ,ah,ar,aX,iY,h13,hvb,hvo,hvt]
 refine bc (t:=false) (by simp only[ak,ai,ah,cT,cF]) (b7 ?_)
 simp only[aW]
 refine aV (W.drawD (alS hA.h23 hb ho ht (by omega) (by omega) (by omega) hm (by simp only[ai,ah,cT,cF, *]) ?_ ?_ (by simp only[ai,ah,cT,cF, *]) ?_ ?_ (by simp only[ai,ah,cT,cF, *]) ?_ ?_ ?_))
 ·simp only[dp,cJ,ah,cT,cF]
 ·simp only[bU,ah,cT,cF]
 ·simp only[dp,cJ,ah,cT,cF]
 ·simp only[bU,ah,cT,cF]
 ·simp only[dp,cJ,ah,cT,cF]
 ·simp only[bU,ah,cT,cF]
 intro e1 s1 mb mo mt mu md x M h8 h6 _
 simp only[aW]
 have eB:oA [] (mb+1) b=jY (mb+1) b:=by simpa using zi b [] (mb+1) (fun _ _=>rfl) (DV hi.vb)
 have eO:oA [] (mo+1) o=jY (mo+1) o:=by simpa using zi o [] (mo+1) (fun _ _=>rfl) (DV hi.vo)
 have eT:oA [] (mt+1) t=jY (mt+1) t:=by simpa using zi t [] (mt+1) (fun _ _=>rfl) (DV hi.vt)
 have mg:=M.mg
 rw[eB,eO,eT] at mg
 have q1:=M.emb
 have q2:=M.emo
 have q3:=M.emt
 have q4:=M.emu
 have q5:=M.emd
 have q6:=M.ex
 have q7:=M.next
 have vb':=sk hi.vb
 have vo':=sk hi.vo
 have vt':=sk hi.vt
 have ctx:xi s1 mu (jY (mb+1) b) (jY (mo+1) o) (jY (mt+1) t) b o t:=⟨Bn b _ M.ob hi.gb (by omega),Bn o _ M.oo hi.go (by omega),Bn t _ M.ot hi.gt (by omega),vb',vo',vt'⟩
 have rs:Rs s1 s1 x mb mo mt mu md (jY (mb+1) b) (jY (mo+1) o) (jY (mt+1) t) [] b o t (fun _=>False) []:=⟨mg,fun _ _=>rfl,fun k v h=>(by cases h),fun k=>⟨fun h=>(by cases h),fun h=>h.1.elim⟩,oZ,oZ,fun c=>⟨fun h=>(by cases h),fun⟨_,h,_⟩=>h.elim⟩⟩
 have h6:ay e1 6= .lref 6 1 0:=h6.trans (by simp only[ai,ah,cT,cF, *])
 have hx:s1.top.get [] x=_:=mg.hx
 have hbs: ∀e s,ay e 46= .map mb->ay e 50= .map mo->ay e 54= .map mt->ey Tryz.prog 66 3 [(0,.tmp 46),(1,.tmp 50),(2,.tmp 54)] false e s=some (.list 1 [.map mb,.map mo,.map mt] .full,s):=fun e s p q r=>Yp (by rw[ak,p]) (by rw[ak,q]) (by rw[ak,r]) s
 refine aV (ll M.minw ?_)
 unfold TP
 simp only[d8,d7,ec,isStore,ai,aG,lL,bn,bN,gh,cG,ak,aH,aD,bh,bk,bm,au,bZ,cW,bG,aq,jD,cT,cF,bQ,hG,aR,aY,aZ,bE,bS,tA,aQ,cQ,ah,ar,bJ,aX,nX,Dh,Di,Dj,ali,adF,adG,h8,gg,dH,hx,dG,hbs]
 refine cR ?_
 refine(anC hA.m ctx (ms:=[(mb,jY (mb+1) b),(mo,jY (mo+1) o),(mt,jY (mt+1) t)]) (rt:=.full) (by simp) ?_ _ [] _ _ [] (fun _=>False) [] rfl rs ?_ ?_ ?_ ?_).mono ?_
 ·intro p hp
  simp only[qH,rH,or_false] at hp
  rcases hp with rfl|rfl|rfl
  ·exact⟨by show mb<mu;omega,by rw[Bm];omega,mg.hb⟩
  ·exact⟨by show mo<mu;omega,by rw[Bm];omega,mg.ho⟩
  ·exact⟨by show mt<mu;omega,by rw[Bm];omega,mg.ht⟩
 ·simp only[ai,ah,cF,h8]
 ·simp only[ai,ah,cT,cF,fS,List.map_nil]
 ·simp only[ai,ah,cT,cF];rfl
 ·simp only[ai,ah,cT,cF];rfl
 rintro y fr s2 ⟨rfl,e2,rfl,⟨g6,g8⟩,U,C,rs2⟩
 have g6:ay e2 6= .lref 6 1 0:=g6.trans (by simp only[ai,ah,cF,h6])
 have rn2:=rs2.rn fun k=>by
  simp only[false_or,qH,rH,or_false,exists_eq_or_imp,exists_eq_left,Vo,eV,sK]
 show W (QM sp ch) 9 _ _ _ _
 have hx2:=rn2.mg.hx
 obtain⟨o1,o2,o3,o4,o5,o6⟩:=rn2.mg.ord
 have l2:=rn2.len hi
 obtain⟨kv,s3,hsort,K3,old3,n3,m3⟩:=Wd (ch:=ch) hA.s rn2.mg.minw (by omega:mu<s2.next) rn2.mg.hu (by omega)
 have hk3:=(kU (U.map (·.1))).length_eq
 rw[fw] at hk3
 have rn3:=rn2.grow old3 n3 m3
 have kc3:=K3.clean
 have kl3:=K3.len
 refine aV (aV (gH (gd 4 ?_)))
 unfold TD
 simp only[aw,az,aA,ai,aG,bn,bN,gh,ak,au,aq,cT,cF,bQ,bO,aZ,bE,bS,tA,aQ,ah,ar,tf,nX,g8,gg,dH,hx2,dG]
 refine gq (g:=26) (args:=[.map mu]) ?_ (TU hA.s.h26) (by decide) ?_
 ·simp only[callee,ai,ak,fA,aD,bh,bk,aq,gr,cT,cF,cy,cP,bS,ah]
 refine gq (g:=25) (args:=[.func (.func 49) [] [.ptr s2.next 0]]) ?_ hsort (by decide) ?_
 ·simp only[callee,ai,ak,fA,aD,bh,bk,aq,oG,cT,cF,cy,cP,bS,ah]
 refine gp ?_
 simp only[aw,az,aA,ai,aG,cG,ak,aH,aD,bh,bk,bm,au,bZ,cW,bG,aq,cT,cF,bQ,hG,bS,tA,ah,ar,aX,adI,kc3,kl3,aW]
 refine cR ?_
 have hks3:(fC (U.map (·.1))).length<=1000000:=by omega
 refine(XS hA.m hA.h27 ctx hks3 (fC (U.map (·.1))) [] _ s3 U C rfl K3 (bK _) rn3 (fun k hk=>yi.2 ((kU _).mem_iff.1 hk)) ?_ ?_ ?_ ?_).mono ?_
 ·simp only[ai,ah,cF,g8]
 ·simp only[ai,ah,cT,cF]
 ·simp only[ai,ah,cT,cF]
 ·simp only[ai,ah,cT,cF];rfl
 rintro y fr s4 ⟨rfl,e4,rfl,⟨f6,f8⟩,U4,C4,rn4,sub4,ref4,clo4,n4⟩
 have f6:ay e4 6= .lref 6 1 0:=f6.trans (by simp only[ai,ah,cF,g6])
 obtain⟨hdom,hconf⟩:=amz rn4 fun j q h1 h2 id h3 h4=>by
  cases hj:look j U with
  |none=>exact clo4 j q h1 hj h2 id h3 h4
  |some v=>exact ref4 j ((kU _).mem_iff.2 (yi.1 (by rw[hj];rfl))) q h2 id h3 h4
 have hperm:=rn4.perm hdom
 have hx4:=rn4.mg.hx
 obtain⟨p1,p2,p3,p4,p5,p6⟩:=rn4.mg.ord
 have l4:=rn4.len hi
 obtain⟨kw,s5,hsort5,K5,old5,n5,m5⟩:=Wd (ch:=ch) hA.s rn4.mg.minw (by omega:mu<s4.next) rn4.mg.hu (by omega)
 have hkeys:fC (U4.map (·.1))=fC (oT b o t):=V9 hperm
 have hk5:=(kU (U4.map (·.1))).length_eq
 rw[fw] at hk5
 have rn5:=rn4.grow old5 n5 m5
 have kc5:=K5.clean
 have kl5:=K5.len
 show W (QM sp ch) 9 _ _ _ _
 refine aF ?_
 unfold TH
 simp only[aw,az,aA,dp,cJ,gY,fv,bG,dj,aq,cF,bQ,hG,tA,aQ,ah,ar,adz,Hv]
 refine aV (aV (gH (gd 4 ?_)))
 unfold TI
 simp only[aw,az,aA,ai,aG,bn,bN,gh,ak,au,aq,cT,cF,bQ,bO,aZ,bE,bS,tA,aQ,ah,ar,tf,nX,f8,gg,dH,hx4,dG]
 refine gq (g:=26) (args:=[.map mu]) ?_ (TU hA.s.h26) (by decide) ?_
 ·simp only[callee,ai,ak,fA,aD,bh,bk,aq,gr,cT,cF,cy,cP,bS,ah]
 refine gq (g:=25) (args:=[.func (.func 49) [] [.ptr s4.next 0]]) ?_ hsort5 (by decide) ?_
 ·simp only[callee,ai,ak,fA,aD,bh,bk,aq,oG,cT,cF,cy,cP,bS,ah]
 refine gp ?_
 simp only[aw,az,aA,ai,aG,cG,ak,aH,aD,bh,bk,bm,au,bZ,cW,bG,aq,cT,cF,bQ,hG,bS,tA,ah,ar,aX,adw,kc5,kl5,aW]
 refine cR ?_
 have hgood: ∀k∈fC (U4.map (·.1)), ∃p,look k U4=some (.ptr p 0)/\p<s5.next/\s5.get [] p=some (.cells (nq b o t k).cells)/\(nq b o t k).Good:=by
  intro k hk
  obtain⟨v,hv⟩:=Option.isSome_iff_exists.1 (yi.2 ((kU _).mem_iff.1 hk))
  obtain⟨q,a1,a2⟩:=rn5.val k v hv
  rcases a2.out with⟨_,h⟩|⟨p,q',rfl,a3,a4,a5,a6⟩
  ·cases h
  have a3:=Option.some.inj a3
  have:nq b o t k=q':=by rw[nq,a1,a3];rfl
  rw[this]
  exact⟨p,hv,a4,a5,a6⟩
 have hks5:(fC (U4.map (·.1))).length<=800000:=by omega
 refine(ak8 rn5.mg K5 (bK _) hks5 (g:=nq b o t) (fun k hk=>let⟨p,a,b,c,_⟩:=hgood k hk;⟨p,a,b,c⟩) (fC (U4.map (·.1))) [] _ _ s5 .nils rfl (.inl ⟨rfl,rfl⟩) m5 (bK _) (fun _ _=>rfl) ?_ ?_ ?_ ?_ ?_ ?_ ?_).mono ?_
 ·simp only[ai,ah,cF,f8]
 ·simp only[ai,ah,cT,cF]
 ·simp only[dp,cJ,ah,cT,cF]
 ·simp only[bU,ah,cT,cF,bS]
 ·simp only[ai,ah,cT,cF]
 ·simp only[ai,ah,cT,cF]
 ·simp only[ai,ah,cT,cF];rfl
 rintro y fr s6 ⟨rfl,e6,lc6,ov,rfl,⟨w6,w8,w15⟩,lg15,lb15,⟨lg6,lb6⟩,hO,m6,n6,old6⟩
 have w6:ay e6 6= .lref 6 1 0:=w6.trans (by simp only[ai,ah,cF,f6])
 obtain⟨r1,r2,r3,r4,r5,r6⟩:=rn5.mg.ord
 have hx6:s6.get [] x=some (.cells [.map mb,.map mo,.map mt,.map mu,.map md]):=(old6 x r6).trans rn5.mg.hx
 have hd6:s6.get [] md=some (.map (fJ 0 C4) C4.length):=(old6 md (by omega)).trans rn5.mg.hd
 have hCperm:C4.Perm (rT b o t):=(Hz rn4.cnd (Ze b o t)).2 fun c=>by rw[hconf,UC]
 have hClen:C4.length<=1000000:=by
  have h1:=hCperm.length_eq
  have h2:=IJ vb' vo' vt'
  have h3:(eV b o t).length=b.length+(o.length+t.length):=by simp[eV]
  omega
 have hCs:iH C4=pn b o t:=Wa hCperm
 obtain⟨cv,s7,hsort7,hgot⟩:=ao4 (ch:=ch) hA.s28 hA.h52 m6 (by omega:md<s6.next) hd6 hClen
 have cc7:=hgot.clean
 have hoc:=hO.clean
 have hoce:ov.cells=[ov]:=by rcases hO with⟨rfl,_⟩|⟨_,k,rfl,_⟩<;>rfl
 show W (QM sp ch) 9 _ _ _ _
 refine aV (gH (gd 4 ?_))
 unfold TL
 simp only[aw,az,aA,ai,aG,bn,bN,gh,ak,au,aq,cT,cF,bQ,bO,aZ,bE,bS,tA,aQ,ah,ar,I5,GH,w8,gg,dH,hx6,dG]
 refine gq (g:=29) (args:=[.map md]) ?_ (akQ hA.h29) (by decide) ?_
 ·simp only[callee,ai,ak,fA,aD,bh,bk,aq,gr,cT,cF,cy,cP,bS,ah]
 refine gq (g:=28) (args:=[.func (.func 52) [] [.ptr s6.next 0],.func (.func 30) [] []]) ?_ hsort7 (by decide) ?_
 ·simp only[callee,ai,ak,fA,aD,bh,bk,aq,oG,cT,cF,cy,cP,bS,ah]
 refine gp ?_
 simp only[aw,az,aA,ai,aM,ak,au,cT,cF,bS,tA,ah,ar,aW]
 refine aF ?_
 unfold TN
 have g6':lc6.gen 6=1:=lg6.trans (by simp only[dp,cJ,ah,cT,cF])
 simp only[aw,az,eD,aA,eE,ai,bU,aG,aM,bn,eN,ak,aD,bT,au,dj,ik,aq,cu,cT,cF,bQ,aR,aY,cut,dl,bO,aZ,cy,cP,bS,tA,aQ,ah,ar,ck,dX,aX,dA,cd,dT,iY,Wq,w6,w15,lb15,lb6]
 have hmg:(jt b o t)=(fC (U4.map (·.1))).map (nq b o t):=by rw[jt,hkeys]
 have f1:dt s7.heap 7 ov=some (gK 6 ((jt b o t).map Obj.val)):=by
  rw[hmg]
  exact xQ hO (k:=6) fun v hv=>by
   obtain⟨q,hq,rfl⟩:=List.mem_map.1 hv
   obtain⟨k,hk,rfl⟩:=List.mem_map.1 hq
   obtain⟨_,_,_,_,hgd⟩:=hgood k hk
   exact DK _ hgd 2
 have f2:dt s7.heap 8 cv=some (gK 2 ((pn b o t).map dP)):=by
  rw[<-hCs]
  exact uy _ _ _ _ (uy _ _ _ _ (uy _ _ _ _ (uy _ _ _ _ (uy _ _ _ _ (aaY hgot)))))
 refine bP ⟨.inr rfl,.tup [.agg [ov],cv],aoi rfl (ov:=ov) (w:=cv) ?_ ?_ ?_ cc7,9,?_⟩
 ·simp only[ai,ah,cF,w6]
 ·simp only[bU,bS,cT]
 ·simp only[ai,ah,cT,cF]
 show(eU (dt s7.heap 8) [.agg [ov],cv]).bind (fun r=>some (aj.tup r))=_
 have f3:dt s7.heap 8 (.agg [ov])=some (.agg [gK 6 ((jt b o t).map Obj.val)]):=by
  show(eU (dt s7.heap 7) [ov]).bind (fun r=>some (aj.agg r))=_
  simp only[eU,f1,aq]
 simp only[eU,f3,f2,aq,uT]
end
def HL:fh:=[(13,si),(16,rb),(31,qw),(36,su),(74,tR),(76,u6),(118,tE),(119,rf),(122,p9),(123,tT),(124,tX)]
theorem Xo:fI HL:=.cons F7 (.cons GA (.cons Vd (.cons UW (.cons aoO (.cons apC (.cons amg (.cons Vm (.cons IA (.cons apa (.cons aql .nil))))))))))
theorem Xp:HA (fun f=>eR f HL) where
 m:=⟨rfl,rfl,rfl,rfl,rfl,rfl,rfl,rfl,rfl,rfl,rfl,rfl,rfl,rfl,rfl,rfl,rfl⟩
 s:=⟨fun n hn=>by rcases hn with rfl|rfl|rfl|rfl<;>rfl,rfl,rfl⟩
 h9:=rfl
 h13:=rfl
 h23:=rfl
 h27:=rfl
 h29:=rfl
 h52:=rfl
 s28:=fun n hn=>by rcases hn with rfl|rfl|rfl|rfl<;>rfl
open Classical in
noncomputable def pA:Sp
 | [u,v,w]=>(jK u).bind fun b=>(jK v).bind fun o=>(jK w).bind fun t=>if ow b o t then some (uT b o t) else none
 |_=>none
theorem amf {vb vo vt:aj} {b o t:List Obj} (hb:bH 6 Obj.val vb b) (ho:bH 6 Obj.val vo o) (ht:bH 6 Obj.val vt t) (hc:ow b o t):pA [.agg [vb],.agg [vo],.agg [vt]]=some (uT b o t):=by
 have hsm:small=9223372036854775808:=rfl
 have h1:=hc.lb
 have h2:=hc.lo
 have h3:=hc.lt
 simp only[pA,mq hb hc.gb (by omega),mq ho hc.go (by omega),mq ht hc.gt (by omega),aq,if_pos hc]
theorem yn:ek Tryz.prog 9 pA:=by
 intro args x hv G h w xs wr hx
 unfold pA at hv
 split at hv
 ·rename_i a1 a2 a3
  simp only[aN] at hv
  obtain⟨b,h1,o,h2,t,h3,hv⟩:=hv
  split at hv
  ·rename_i hc
   injection hv with hv;subst hv
   obtain⟨vb,rfl,hb,hgb,_⟩:=kK h1
   obtain⟨vo,rfl,ho,hgo,_⟩:=kK h2
   obtain⟨vt,rfl,ht,hgt,_⟩:=kK h3
   obtain⟨t1,vb',w1,hb'⟩:=kS hb hgb
   obtain⟨t2,vo',w2,ho'⟩:=kS ho hgo
   obtain⟨t3,vt',w3,ht'⟩:=kS ht hgt
   have hw:eX [.agg [vb],.agg [vo],.agg [vt]]=[.agg [vb'],.agg [vo'],.agg [vt']]:=by simp only[eX,w1,w2,w3]
   exact We Xo (args:=[.agg [vb],.agg [vo],.agg [vt]]) (by simp only[jv,t1,t2,t3,Bool.and_self]) (fun ch=>by
    rw[hw]
    exact al7 Xp hb' ho' ht' hc (s:=s0) (bK _)) G h w xs wr hx
  ·cases hv
 ·cases hv
noncomputable def QH (t:fh) (k:Nat->Nat):cI:= {P:=Tryz.prog,hint:=bL,spec:=fun f=>eR f t,ch:=fun _=>0,kmax:=k }
theorem aba {t:fh} (h:fI t) (k:Nat->Nat):Ag.Good (QH t k) where
 mixed:=Gg
 spec f sp hsp args v hv G hp w xs wr hx:=h _ (BR hsp) args v hv G hp w xs wr hx
 specH f sp h args v G hp w xs wr hx hv:=by cases h
 names f fn hf:=by
  have hf:Tryz.prog.funcs[f]? =some fn:=hf
  have:=List.all_eq_true.1 Gl fn (by
   rw[<-Array.getElem?_toList] at hf
   exact List.mem_of_getElem? hf)
  simpa using this
def qv:List Nat->Nat->Nat->Nat
 | [],_,d=>d
 |a::_,0,_=>a
 |_::l,i+1,d=>qv l i d
noncomputable def vT (t:fh) (ks c:List Nat) (n f:Nat) (args:List aj):Option (aj×Nat):=((db ((QH t (fun i=>qv ks i 1)).at (fun i=>qv c i 0)) n).call f args [] s0).bind fun x=>(dt x.2.heap 12 x.1).bind fun u=>some (u,x.2.ci)
theorem UN (ch:Nat->Nat): ∀(n i j:Nat),i<n->qv ((vp j n).map ch) i 0=ch (j+i)
 |0,i,j,h=>by omega
 |n+1,0,j,_=>by simp[ub,qv]
 |n+1,i+1,j,h=>by
  rw[ub,fS]
  show qv _ i 0=_
  rw[UN ch n i (j+1) (by omega),show j+1+i=j+(i+1) by omega]
inductive vB:List Nat->List Nat->Prop
 |nil:vB [] []
 |cons {k c:Nat} {ks cs:List Nat}:c<k->vB ks cs->vB (k::ks) (c::cs)
theorem WU (ch:Nat->Nat): ∀(ks:List Nat) (j:Nat),(∀i,i<ks.length->ch (j+i)<qv ks i 1)->vB ks ((vp j ks.length).map ch)
 | [],_,_=>.nil
 |k::ks,j,h=>by
  rw[aR,ub,fS]
  refine .cons (h 0 (by simp)) (WU ch ks (j+1) fun i hi=>?_)
  have:=h (i+1) (by simpa using hi)
  rwa [show j+(i+1)=j+1+i by omega] at this
theorem Wf {t:fh} (ht:fI t) {ks:List Nat} (hk: ∀i,0<qv ks i 1) {n f m:Nat} {args:List aj} {u:aj} (hm:m<=ks.length) (h: ∀c,vB ks c->vT t ks c n f args=some (u,m)) {args':List aj} (ha:eX args'=args) (hp:jv args'=true)
 (G:Gh) (hh:bD bR) (w:World) (xs:List Value) (wr:WR G hh w) (hx:cU G args' xs):lp Tryz.prog f ⟨xs⟩ w fun y w'=> ∃G',WR G' hh w'/\dF G hh w G' hh w' 0 0/\VR G' u y:=by
 refine G3 (Q:=QH t (fun i=>qv ks i 1)) (n:=n) (aba ht _) hk hp (fun ch hi=>?_) G hh w xs wr hx
 rw[ha]
 have hw:=WU ch ks 0 (fun i _=>by rw[aQ];exact hi i)
 have he:=h _ hw
 simp only[vT,aN,Option.some.injEq,Prod.mk.injEq] at he
 obtain⟨⟨v,s'⟩,a,u',b,rfl,c⟩:=he
 have c:s'.ci=m:=c
 exact⟨v,s',(qn (QH t (fun i=>qv ks i 1)) n).call f args [] _ s0 v s' a ch (fun i hi=>by
  rw[UN ch _ i 0 (by omega),aQ]),12,b⟩
def Db:fZ->fZ->Bool
 | .full,.full=>true
 | .no,.no=>true
 |_,_=>false
def nQ (g:aj->aj->Bool):List aj->List aj->Bool
 | [],[]=>true
 |a::x,b::y=>g a b&&nQ g x y
 |_,_=>false
def oL:Nat->aj->aj->Bool
 |0,_,_=>false
 |_+1,.bool a,.bool b=>a==b
 |_+1,.int k a,.int k' b=>k==k'&&bz a b
 |_+1,.str a,.str b=>a==b
 |k+1,.agg a,.agg b=>nQ (oL k) a b
 |_+1,.nils,.nils=>true
 |k+1,.list n a r,.list m b r'=>bo n m&&Db r r'&&nQ (oL k) a b
 |_,_,_=>false
theorem ZA {r r':fZ} (h:Db r r'=true):r=r':=by
 unfold Db at h;split at h<;>first|rfl|cases h
theorem te {g:aj->aj->Bool} (hg: ∀a b,g a b=true->a=b): ∀ {x y:List aj},nQ g x y=true->x=y
 | [],[],_=>rfl
 | [],_::_,h=>by cases h
 |_::_,[],h=>by cases h
 |a::x,b::y,h=>by
  simp only[nQ,df] at h
  rw[hg a b h.1,te hg h.2]
theorem vR: ∀(k:Nat) {a b:aj},oL k a b=true->a=b
 |0,_,_,h=>by cases h
 |k+1,a,b,h=>by
  have ih:=fun a b=>vR k (a:=a) (b:=b)
  cases a<;>cases b<;>simp only[oL,Bool.false_eq_true] at h
  ·rw[eq_of_beq h]
  ·simp only[df] at h
   rw[eq_of_beq h.1,eq_of_beq h.2]
  ·rw[eq_of_beq h]
  ·rw[te ih h]
  ·rfl
  ·simp only[df] at h
   rw[Nat.eq_of_beq_eq_true h.1.1,ZA h.1.2,te ih h.2]
def rp (r:fZ):aj:=.list 2 [.agg [.str [110,97,109,101],.str [69,108,109]]] r
def lH (x y:Int) (t:aj):aj:=.agg [.str [110,49],.int .i64 1,.int .i64 x,.int .i64 y,.nils,t]
def Gs:aj:=.agg [.str [110,50],.int .i64 1,.int .i64 4,.int .i64 0,.nils,.nils]
def Hm (t:aj):aj:=.agg [.str [119,49],.int .i64 2,.int .i64 0,.int .i64 0,.list 1 [.str [110,49],.str [110,50]] .full,t]
def lG (l:List aj):aj:=.agg [.list 6 l .no]
def bad (id what:aB):aj:=.agg [.str id,.str what]
def kAt:aB:=[97,116]
def FV:aB:=[111,98,106,101,99,116]
def a1:List aj:=[lG [lH 0 0 .nils],lG [lH 1 0 .nils],lG [lH 0 0 (rp .full)]]
def a2:List aj:=[lG [lH 0 0 .nils],lG [lH 2 0 .nils],lG [lH 1 5 .nils]]
def a3:List aj:=[lG [lH 0 0 .nils],.agg [.nils],lG [lH 0 0 (rp .full)]]
def a4:List aj:=[lG [lH 0 0 .nils,Gs,Hm .nils],lG [lH 0 0 .nils],lG [lH 0 0 .nils,Gs,Hm (rp .full)]]
def r1:aj:=.tup [lG [lH 1 0 (rp .no)],.nils]
def r2:aj:=.tup [lG [lH 1 5 .nils],.list 2 [bad [110,49] kAt] .no]
def r3:aj:=.tup [lG [lH 0 0 (rp .full)],.list 2 [bad [110,49] FV] .no]
def r4:aj:=.tup [lG [lH 0 0 .nils,Gs,Hm (rp .full)],.list 2 [bad [110,50] FV,bad [119,49] FV] .no]
def HT:fh:=(83,nP)::(16,rb)::(13,si)::T5
theorem Xd:fI HT:=.cons CU (.cons GA (.cons F7 HK))
def CP (b o t:List Obj) (R:List aB):Bool:=(eV b o t).all fun k=>match(match gu b o t k with|some q=>some q|none=>bif R.elem k then io b o t k else none) with
 |some q=>q.refs.all fun id=>(gu b o t id).isSome||(io b o t id).isNone||R.elem id
 |none=>true
theorem an6 {b o t:List Obj} {R:List aB} (hR: ∀k∈R,Reach b o t k) (hc:CP b o t R=true) (k:aB):Reach b o t k↔k∈R:=by
 refine⟨fun h=>?_,hR k⟩
 have step: ∀ {j id:aB} {q:Obj},j∈eV b o t->(match gu b o t j with|some q=>some q|none=>bif R.elem j then io b o t j else none)=some q->id∈q.refs->gu b o t id=none->(io b o t id).isSome=true->id∈R:=by
  intro j id q h1 h2 h3 h4 h5
  have h:=List.all_eq_true.1 hc j h1
  rw[h2] at h
  have h:=List.all_eq_true.1 h id h3
  rw[h4] at h
  cases hn:io b o t id with
  |none=>rw[hn] at h5;cases h5
  |some x=>
   rw[hn] at h
   exact rG (by simpa using h)
 induction h with
 |of h1 h2 h3 h4=>exact step (jq.name (.inl (by rw[h1];rfl))) (by rw[h1]) h2 h3 h4
 |step h0 h1 h2 h3 h4 ih=>
  refine step (jq.name (.inr h0)) ?_ h2 h3 h4
  rw[h0.no.1]
  simp only[rD ih,cT,h1]
def GI (b o t:List Obj) (R:List aB):aj:=.tup [.agg [gK 6 (((fC ((rX (eV b o t)).filter fun k=>(gu b o t k).isSome||R.elem k)).map (nq b o t)).map Obj.val)],gK 2 ((iH (CZ ((eV b o t).flatMap (j9 b o t)++((eV b o t).filter fun k=>R.elem k).map fun k=>(k,gG)))).map dP)]
theorem aog {b o t:List Obj} {R:List aB} (hR: ∀k∈R,Reach b o t k) (hc:CP b o t R=true):uT b o t=GI b o t R:=by
 have hr:=an6 hR hc
 have e1:(fun k=> @decide (jq b o t k) (vi _))=fun k=>(gu b o t k).isSome||R.elem k:=by
  funext k
  have:jq b o t k↔((gu b o t k).isSome||R.elem k)=true:=by
   rw[Bool.or_eq_true]
   exact or_congr Iff.rfl ((hr k).trans ⟨rD,rG⟩)
  rw[Bool.eq_iff_iff,<-this]
  exact @decide_eq_true_iff _ (vi _)
 have e2:(fun k=> @decide (Reach b o t k) (vi _))=fun k=>R.elem k:=by
  funext k
  rw[Bool.eq_iff_iff]
  refine(@decide_eq_true_iff _ (vi _)).trans ?_
  exact(hr k).trans ⟨rD,rG⟩
 unfold uT jt pn oT rT GI
 rw[e1,e2]
theorem A1 {u v w:aj} {b o t:List Obj} {R:List aB} (h1:jK u=some b) (h2:jK v=some o) (h3:jK w=some t) (vb:jV b=true) (vo:jV o=true) (vt:jV t=true) (lb:b.length<=300) (lo:o.length<=300) (lt:t.length<=300) (hR: ∀k∈R,Reach b o t k) (hc:CP b o t R=true):pA [u,v,w]=some (GI b o t R):=by
 obtain⟨_,_,_,gb,_⟩:=kK h1
 obtain⟨_,_,_,go,_⟩:=kK h2
 obtain⟨_,_,_,gt,_⟩:=kK h3
 have hi:ow b o t:=⟨vb,vo,vt,gb,go,gt,lb,lo,lt⟩
 simp only[pA,h1,h2,h3,aq,if_pos hi,aog hR hc]
def Gj:aB:=[110,49]
def A6:aB:=[110,50]
def WS:aB:=[119,49]
def zq:List cM:=[([110,97,109,101],[69,108,109])]
def qu (x y:Int) (tv:aj) (l:List cM):Obj:=⟨Gj,1,x,y,.nils,tv,[],l⟩
def UM:Obj:=⟨A6,1,4,0,.nils,.nils,[],[]⟩
def BV (tv:aj) (l:List cM):Obj:=⟨WS,2,0,0,.list 1 [.str Gj,.str A6] .full,tv,[Gj,A6],l⟩
theorem m1:pA a1=some r1:=(A1 (b:=[qu 0 0 .nils []]) (o:=[qu 1 0 .nils []]) (t:=[qu 0 0 (rp .full) zq]) (R:=[]) (by kernel_rfl) (by kernel_rfl) (by kernel_rfl) (by kernel_rfl) (by kernel_rfl) (by kernel_rfl) (by decide) (by decide) (by decide) (fun _ h=>by cases h) (by kernel_rfl)).trans (congrArg some (by kernel_rfl))
theorem m2:pA a2=some r2:=(A1 (b:=[qu 0 0 .nils []]) (o:=[qu 2 0 .nils []]) (t:=[qu 1 5 .nils []]) (R:=[]) (by kernel_rfl) (by kernel_rfl) (by kernel_rfl) (by kernel_rfl) (by kernel_rfl) (by kernel_rfl) (by decide) (by decide) (by decide) (fun _ h=>by cases h) (by kernel_rfl)).trans (congrArg some (by kernel_rfl))
theorem m3:pA a3=some r3:=(A1 (b:=[qu 0 0 .nils []]) (o:=[]) (t:=[qu 0 0 (rp .full) zq]) (R:=[]) (by kernel_rfl) (by kernel_rfl) (by kernel_rfl) (by kernel_rfl) (by kernel_rfl) (by kernel_rfl) (by decide) (by decide) (by decide) (fun _ h=>by cases h) (by kernel_rfl)).trans (congrArg some (by kernel_rfl))
theorem m4:pA a4=some r4:=(A1 (b:=[qu 0 0 .nils [],UM,BV .nils []]) (o:=[qu 0 0 .nils []]) (t:=[qu 0 0 .nils [],UM,BV (rp .full) zq]) (R:=[A6]) (by kernel_rfl) (by kernel_rfl) (by kernel_rfl) (by kernel_rfl) (by kernel_rfl) (by kernel_rfl) (by decide) (by decide) (by decide)
 (fun k h=>by
  simp only[qI] at h
  subst h
  exact .of (k:=WS) (q:=BV (rp .full) zq) (by kernel_rfl) (by simp[BV]) (by kernel_rfl) (by kernel_rfl)) (by kernel_rfl)).trans (congrArg some (by kernel_rfl))
end Go.Proofs.YtbfmdojdemckbaaGreat
