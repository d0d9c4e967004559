/- merge.Merge: its contract. -/
import Derived.Test.YtnnppcoplinajaaGreatT1
set_option linter.defProp false
open Bool renaming and_eq_true→bA,eq_iff_iff→yK,false_or→jd,or_self→iR,true_and→jD
open Classical renaming byContradiction→l9,propDecidable→yL
open List renaming all_eq_true→fY,drop_zero→pF,drop→ay,elem_eq_true_of_mem→sV,filter_sublist→HH,foldl_cons→vE,getElem?_cons_zero→jN,getElem?_eq_none→jE,length_append→dX,length_cons→cP,length_filter_le→pG,length_map→cZ,length_nil→fJ,map_append→je,map_cons→dG,mem_append→iE,mem_cons→cQ,mem_filter→uf,mem_map→dp,mem_of_elem_eq_true→sY,mem_singleton→sZ,nodup_cons→uh,nodup_nil→pJ,not_mem_nil→rC,perm_ext_iff_of_nodup→CU,range'_succ→xb,range'→yR,take_append_drop→oH,take→aN
open Nat renaming beq→aJ,le_refl→aU,le_succ_of_le→ky,le_trans→fh,lt_irrefl→cR,lt_of_lt_of_le→gX,lt_or_ge→ix,lt_succ_of_lt→nQ,lt_succ_self→fK,reduceAdd→aG,reduceBEq→aa,reduceLT→ah,reduceLeDiff→aV,reduceMul→jg,zero_add→gl
open Option renaming bind_eq_some_iff→az,bind_some→bn,getD_some→fq,isSome_iff_exists→rE
open Go.Proofs.Tryz renaming prog→ar
open Go.Ag.W renaming block→bL,cnFZ→cJ,cnSZ→dq,cnTZ→bU,exit→dL,loop1→bV,region→fU,reg→bH,ret→bo,sdrawQ→lD,seq→aC,skip→cL,sreg→aw
namespace Go.Proofs.YtnnppcoplinajaaGreat
open Go.Ag
def dw:ak:=[111,98,106,101,99,116]
def gS(p q:Option Obj):Option Obj:=match p,q with
 |none,_=>q
 |some o,none=>some o
 |some o,some t=>bif bG (tk t o) 0 then some t else some o
def dl(pb po pt:Option Obj):Option Obj:=bif cU po pt||cU pt pb then po else bif cU po pb then pt else match pb,po,pt with
 |some b,some o,some t=>bif aK o.uP b.uP&&aK t.uP b.uP then some (nu b o t) else gS po pt
 |_,_,_=>gS po pt
def fR(k:ak)(pb po pt:Option Obj)(C:List Cf):List Cf:=bif cU po pt||cU pt pb then C else bif cU po pb then C else match pb,po,pt with
 |some b,some o,some t=>bif aK o.uP b.uP&&aK t.uP b.uP then qN b o t C else dh (k,dw) C
 |_,_,_=>dh (k,dw) C
inductive eR (s:St) (lim:Nat):ae->Option Obj->Prop
 |nil:eR s lim .nilp none
 |at_ {p:Nat} {o:Obj}:p<lim->s.get [] p=some (.cells o.cells)->o.Al->eR s lim (.ptr p 0) (some o)
variable{lim:Nat}{q:Option Obj}{s s':St}{a:ae}
def eR.pv(h:eR s lim a q)(hs: ∀n,n<lim->s'.get [] n=s.get [] n):PV s' a q:=by
 cases h with
 |nil=>exact .nil
 |at_ h1 h2 h3=>exact .at_ ((hs _ h1).trans h2) h3
structure Mg (s:St) (x mb mo mt mu md:Nat) (B O T U:List (ak×ae)) (C:List Cf):Prop where
 hx:s.get [] x=some (.cells [.map mb,.map mo,.map mt,.map mu,.map md])
 hb:s.get [] mb=some (.map (bX 0 B) B.length)
 ho:s.get [] mo=some (.map (bX 0 O) O.length)
 ht:s.get [] mt=some (.map (bX 0 T) T.length)
 hu:s.get [] mu=some (.map (bX 0 U) U.length)
 hd:s.get [] md=some (.map (eI 0 C) C.length)
 ge:s.ge<=s.al
 ord:mb<mu/\mo<mu/\mt<mu/\mu<md/\md<x/\x<s.al
variable{C:List Cf}{lim' md:Nat}
def eR.keep(h:eR s lim a q)(hd:s.get [] md=some (.map (eI 0 C) C.length))(hl:lim<=lim')(hs: ∀n,n<lim->n≠md->s'.get [] n=s.get [] n):eR s' lim' a q:=by
 cases h with
 |nil=>exact .nil
 |at_ h1 h2 h3=>
  refine .at_ (by omega) ((hs _ h1 ?_).trans h2) h3;intro e;subst e;rw[hd] at h2;cases h2
section
variable{s s':St}{x mb mo mt mu md:Nat}{B O T U:List (ak×ae)}{C C':List Cf}
def Mg.grow(M:Mg s x mb mo mt mu md B O T U C)(hd:s'.get [] md=some (.map (eI 0 C') C'.length))(hs: ∀n,n<s.al->n≠md->s'.get [] n=s.get [] n)(hn:s.al<=s'.al)(hm:s'.ge<=s'.al):Mg s' x mb mo mt mu md B O T U C':=by
 obtain⟨o1,o2,o3,o4,o5,o6⟩:=M.ord;exact⟨(hs x (by omega) (by omega)).trans M.hx,(hs mb (by omega) (by omega)).trans M.hb,(hs mo (by omega) (by omega)).trans M.ho,(hs mt (by omega) (by omega)).trans M.ht,(hs mu (by omega) (by omega)).trans M.hu,hd,hm,o1,o2,o3,o4,o5,by omega⟩
end
variable{o:Obj}
def apG(h:o.Al)(p:Int×Int):(sT o p).Al:=⟨⟨h.gE,h.gT,h.id,h.reflen,h.ref,h.taglen,h.key⟩,h.pr,h.pt⟩
def apI(h:o.Al){l:List be}(h1:l.length<small)(h2: ∀t∈l,t.1.length<small):(CN o l).Al:=⟨⟨h.gE,Gr l,h.id,h.reflen,h.ref,h1,h2⟩,h.pr,al3 l⟩
variable{b t:Obj}
def amG(gb:b.Al)(go:o.Al)(gt:t.Al):(jK b o t).Al:=by
 unfold jK;cases h:ia b o t with
 |none=>exact gb
 |some r=>
  unfold ia at h;cases hr:jB b.gE o.gE t.gE with
  |none=>rw[hr] at h;cases h
  |some r'=>
   rw[hr] at h;cases hv:ef (nN b r') with
   |false=>simp only[hv,cF] at h;cases h
   |true=>
    simp only[hv,cT] at h;injection h with h;subst h
    exact Md gb go gt hr
def Bo(gb:b.Al)(go:o.Al)(gt:t.Al)(vb:cY b.gT=true)(vo:cY o.gT=true)(vt:cY t.gT=true):(nu b o t).Al:=by
 have hsm:=fg;refine apI (apG (amG gb go gt) _) (by have:=(CJ b.gT o.gT t.gT).1;omega) fun u hu=>?_
 have:=Ln (Mx vb vo vt u.1 (Mw.1 u hu));omega
variable{p:Option Obj}
def KS(hp: ∀o,p=some o->o.Al)(hq: ∀o,q=some o->o.Al): ∀o,gS p q=some o->o.Al:=by
 intro o h;cases p with
 |none=>exact hq o h
 |some a=>
  cases q with
  |none=>exact hp o h
  |some c=>
   simp only[gS] at h;cases hc:bG (tk c a) 0 with
   |true=>rw[hc] at h;exact hq o h
   |false=>rw[hc] at h;exact hp o h
def R8{b:ae}(ha:eR s lim a p)(hb:eR s lim b q):eR s lim (sg a b p q) (gS p q):=by
 cases ha with
 |nil=>exact hb
 |at_ h1 h2 h3=>
  cases hb with
  |nil=>exact .at_ h1 h2 h3
  |at_ h4 h5 h6=>
   rename_i o _ t;simp only[sg,gS];cases bG (tk t o) 0 with
   |true=>exact .at_ h4 h5 h6
   |false=>exact .at_ h1 h2 h3
structure yX (sp:bC):Prop where
 h24:sp 101=none
 h43:sp 185=none
 h44:sp 186=none
 h45:sp 187=none
 h46:sp 188=none
 h75:sp 281=none
 h77:sp 283=none
 h16:sp 279=some wH
 h31:sp 108=some sJ
 h36:sp 75=some ve
 h74:sp 280=some wR
 h76:sp 282=some yE
 h118:sp 378=some wC
 h119:sp 379=some tM
 h122:sp 232=some rQ
 h123:sp 136=some wS
 h124:sp 381=some wV
structure yW (s s':St) (x mb mo mt mu md:Nat) (B O T U:List (ak×ae)) (C':List Cf) (v:ae) (q:Option Obj):Prop where
 mg:Mg s' x mb mo mt mu md B O T U C'
 pv:eR s' s'.al v q
 old: ∀n,n<s.al->n≠md->s'.get [] n=s.get [] n
 al:s.al<=s'.al
 ci:s'.ci=s.ci
def lB(p:Option Obj):Prop:= ∀o,p=some o->cY o.gT=true
def lB.len(h:lB p): ∀o,p=some o->o.gT.length<=400000:=fun o ho=>by
 have h1:=h o ho;simp only[cY,bA,dE] at h1;omega
variable{v:ae}
def eR.out(h:eR s lim v q):(v= .nilp/\q=none)\/ ∃p o,v= .ptr p 0/\q=some o/\p<lim/\s.get [] p=some (.cells o.cells)/\o.Al:=by
 cases h with
 |nil=>exact .inl ⟨rfl,rfl⟩
 |at_ h1 h2 h3=>exact .inr ⟨_,_,rfl,rfl,h1,h2,h3⟩
variable{B O T U:List (ak×ae)}{mb mo mt mu x:Nat}{pb po pt:Option Obj}
section
variable{sp:bC}{ch:Nat->Nat}(hS:yX sp)
include hS
def ajf(M:Mg s x mb mo mt mu md B O T U C){id:ak}(hb:eR s mu (at_ id B) pb)(ho:eR s mu (at_ id O) po)(ht:eR s mu (at_ id T) pt)(gb:lB pb)(go:lB po)(gt:lB pt): ∃v s',aM (QM sp ch) 101 [.ptr x 0,.str id] s v s'/\yW s s' x mb mo mt mu md B O T U (fR id pb po pt C) v (dl pb po pt):=by
 have hm:=M.ge;obtain⟨o1,o2,o3,o4,o5,o6⟩:=M.ord;have hx:s.top.get [] x=_:=M.hx;have lb:=uV (s:=s.top) M.hb id;have lo:=uV (s:=s.top) M.ho id;have lt:=uV (s:=s.top) M.ht id;have vb:=hb.pv fun _ _=>rfl;have vo:=ho.pv fun _ _=>rfl;have vt:=ht.pv fun _ _=>rfl;have cb:=vb.aL;have co:=vo.aL;have ct:=vt.aL;have same: ∀ {v:ae} {q:Option Obj},eR s mu v q->yW s s x mb mo mt mu md B O T U C v q:=fun h=>⟨M,h.keep M.hd (by omega) fun _ _ _=>rfl,fun _ _ _=>rfl,aU _,rfl⟩;refine aM.ofEx DU.1 DU.2 DU.3 DU.4 hS.h24 ?_;refine aw ?_;simp only[ai,bv,bt,ah,aG,aV,iQ];refine lD hm ?_;simp only[ai,ax,isStore,bh,ay,aa,ah,fB,cO,hx,cN,lb,lo,lt];refine aC (bL (aC (aC ?_)));refine fU (fM 2 ?_);simp only[ai,aN,ay,aa,ah];refine fO (g:=185) (args:=[at_ id O,at_ id T]) ?_ (Mb hS.h43 hS.h16 hm vo vt) (by decide) ?_;simp only[ai,callee,aa,co,ct];refine fN ?_;simp only[ai,aA,aa,ah];have last: ∀(e':aI) (lc':Ag.Loc),aj e' 6=at_ id O->dl pb po pt=po->fR id pb po pt C=C->W (QM sp ch) 101 (.seq (.region ad4) .ret) ⟨e',83,lc'⟩ s fun y fr s1=>y= .ret/\ ∃v,(∃vs,bW (QM sp ch) [] fr s1 [.tmp 4]=some vs/\gG vs=v)/\yW s s1 x mb mo mt mu md B O T U (fR id pb po pt C) v (dl pb po pt):=by
  intro e' lc' h6 hp hc;refine aw ?_;simp only[ai,ah,h6];refine bo ⟨rfl,at_ id O,bz (by simp only[aq,aa]) co,?_⟩;rw[hp,hc];exact same ho
 cases h1:cU po pt with
 |true=>
  have hO:dl pb po pt=po:=by simp only[dl,h1,Bool.true_or,cT]
  have hC:fR id pb po pt C=C:=by simp only[fR,h1,Bool.true_or,cT]
  refine bU (cL ?_);simp only[bM];refine bU ?_;refine(last _ _ (by simp only[aq,aa]) hO hC).mono ?_;rintro y fr s' ⟨rfl,h⟩;exact⟨.inr rfl,h⟩
 |false=>
  refine cJ ?_;refine fU (fM 2 ?_);simp only[ai,aN,ay,aa,ah];refine fO (g:=185) (args:=[at_ id T,at_ id B]) ?_ (Mb hS.h43 hS.h16 hm vt vb) (by decide) ?_;simp only[ai,callee,aa,cb,ct];refine fN ?_;simp only[ai,aA,aa,ah];cases h2:cU pt pb with
  |true=>
   have hO:dl pb po pt=po:=by simp only[dl,h1,h2,jd,cT]
   have hC:fR id pb po pt C=C:=by simp only[fR,h1,h2,jd,cT]
   refine bU ?_;refine(last _ _ (by simp only[aq,aa]) hO hC).mono ?_;rintro y fr s' ⟨rfl,h⟩;exact⟨.inr rfl,h⟩
  |false=>
   refine cJ ?_;refine aC (fU (fM 2 ?_));simp only[ai,aN,ay,aa,ah];refine fO (g:=185) (args:=[at_ id O,at_ id B]) ?_ (Mb hS.h43 hS.h16 hm vo vb) (by decide) ?_;simp only[ai,callee,aa,cb,co];refine fN ?_;simp only[ai,aA,aa,ah];cases h3:cU po pb with
   |true=>
    have hO:dl pb po pt=pt:=by simp only[cz,dl,h1,h2,h3,jd]
    have hC:fR id pb po pt C=C:=by simp only[cz,fR,h1,h2,h3,jd]
    refine bU (aw ?_);simp only[ai,aa,ah];refine bo ⟨.inr rfl,at_ id T,bz (by simp only[aq,aa]) ct,?_⟩;rw[hO,hC];exact same ht
   |false=>
    refine cJ ?_;have conf: ∀(e':aI) (lc':Ag.Loc),aj e' 0= .ptr x 0->aj e' 1= .str id->aj e' 6=at_ id O->aj e' 7=at_ id T->dl pb po pt=gS po pt->fR id pb po pt C=dh (id,dw) C->W (QM sp ch) 101 (.seq (.region ad7) (.seq (.region ad3) .ret)) ⟨e',83,lc'⟩ s fun y fr s1=>(y= .normal\/y= .ret)/\ ∃v,(∃vs,bW (QM sp ch) [] fr s1 [.tmp 4]=some vs/\gG vs=v)/\yW s s1 x mb mo mt mu md B O T U (fR id pb po pt C) v (dl pb po pt):=by
     intro e' lc' h0 h1' h6 h7 hO hC;have hnote:=Cd (sp:=sp) (ch:=ch) hS.h45 M.hx M.hd id dw;refine aC (fU (fM 2 ?_));simp only[au,vS,aN,ay,aa,ah,h0,h1'];refine fO (g:=187) (args:=[.ptr x 0,.str id,.str dw]) ?_ hnote (by decide) ?_;simp only[ai,callee,aa];rfl;refine fN ?_;obtain⟨s2,hs2⟩: ∃a,a=s.put md (some (.map (eI 0 (dh (id,dw) C)) (dh (id,dw) C).length)):=⟨_,rfl⟩;rw[<-hs2];have e1: ∀n,n<s.al->n≠md->s2.get [] n=s.get [] n:=fun n _ h=>by rw[hs2,bO,bN.2 h];rfl
     have e2:s2.al=s.al:=by rw[hs2];rfl
     have e3:s2.ge<=s2.al:=by rw[hs2];exact ji _ _ _ hm
     have e4:s2.get [] md=some (.map (eI 0 (dh (id,dw) C)) (dh (id,dw) C).length):=by rw[hs2,bO,bS];rfl
     have M2:=M.grow e4 e1 (by omega) e3;have ho2:=ho.keep M.hd (by omega:mu<=s2.al) fun n h1 h2=>e1 n (by omega) h2;have ht2:=ht.keep M.hd (by omega:mu<=s2.al) fun n h1 h2=>e1 n (by omega) h2;have hless:=Sa (ch:=ch) hS.h46 hS.h77 hS.h122 hS.h119 hS.h123 hS.h124 hS.h31 e3 (ho2.pv fun _ _=>rfl) (ht2.pv fun _ _=>rfl) go.len gt.len;have hlv:=R8 ho2 ht2;have cl:=(hlv.pv fun _ _=>rfl).aL;simp only[nV,bM];refine aC (fU (fM 2 ?_));simp only[au,vS,aN,ay,aa,ah,h6,h7];refine fO (g:=188) (args:=[at_ id O,at_ id T]) ?_ hless (by decide) ?_;simp only[ai,callee,aa,co,ct];refine fN ?_;simp only[ai,aA,aa,ah];refine bo ⟨.inr rfl,sg (at_ id O) (at_ id T) po pt,bz (by simp only[aq,aa]) cl,?_⟩;rw[hO,hC];exact⟨M2,hlv,e1,by omega,by rw[hs2];rfl⟩
    have mid: ∀(e1:aI) (lc1:Ag.Loc) (KK:Ex->Fr->St->Prop),aj e1 0= .ptr x 0->aj e1 1= .str id->aj e1 5=at_ id B->aj e1 6=at_ id O->aj e1 7=at_ id T->
     (∀fr s1,(∃v,(∃vs,bW (QM sp ch) [] fr s1 [.tmp 4]=some vs/\gG vs=v)/\yW s s1 x mb mo mt mu md B O T U (fR id pb po pt C) v (dl pb po pt))->KK .ret fr s1)->
     (∀e',aj e' 0= .ptr x 0->aj e' 1= .str id->aj e' 6=at_ id O->aj e' 7=at_ id T->dl pb po pt=gS po pt->fR id pb po pt C=dh (id,dw) C->KK .normal ⟨e',83,lc1⟩ s)->
     W (QM sp ch) 101 (.seq (.draw ad5 Qc) (.cond (Operand.tmp 39) (.seq (.region ad6) .ret) .skip)) ⟨e1,83,lc1⟩ s KK:=by
     intro e1 lc1 KK g0 g1 g5 g6 g7 hret hskip;refine lD hm ?_;rcases ho.out with⟨eo,qo⟩|⟨p2,o2,eo,qo,a1,a2,a3⟩
     have hO:dl pb po pt=gS po pt:=by
      simp only[dl,h1,h2,h3,iR,cF];rw[qo];cases pb<;>rfl
     have hC:fR id pb po pt C=dh (id,dw) C:=by
      simp only[fR,h1,h2,h3,iR,cF];rw[qo];cases pb<;>rfl
     simp only[ai,isStore,bh,aa,ah,g6,eo,iQ,iY,yp];refine cJ (cL (hskip _ ?_ ?_ ?_ ?_ hO hC));simp only[au,aa,g0];simp only[au,aa,g1];simp only[au,aa,g6];simp only[au,aa,g7];rcases ht.out with⟨et,qt⟩|⟨p3,o3,et,qt,b1,b2,b3⟩
     have hO:dl pb po pt=gS po pt:=by
      simp only[dl,h1,h2,h3,iR,cF];rw[qt];cases pb<;>cases po<;>rfl
     have hC:fR id pb po pt C=dh (id,dw) C:=by
      simp only[fR,h1,h2,h3,iR,cF];rw[qt];cases pb<;>cases po<;>rfl
     simp only[ai,isStore,bh,aa,ah,g6,g7,eo,et,iQ,iY,yp,vj];refine cJ (cL (hskip _ ?_ ?_ ?_ ?_ hO hC));simp only[au,aa,g0];simp only[au,aa,g1];simp only[au,aa,g6];simp only[au,aa,g7];rcases hb.out with⟨eb,qb⟩|⟨p1,o1',eb,qb,d1,d2,d3⟩
     have hO:dl pb po pt=gS po pt:=by
      simp only[dl,h1,h2,h3,iR,cF];rw[qb]
     have hC:fR id pb po pt C=dh (id,dw) C:=by
      simp only[fR,h1,h2,h3,iR,cF];rw[qb]
     simp only[ai,isStore,bh,aa,ah,g5,g6,g7,eo,et,eb,iQ,iY,yp,vj];refine cJ (cL (hskip _ ?_ ?_ ?_ ?_ hO hC));simp only[au,aa,g0];simp only[au,aa,g1];simp only[au,aa,g6];simp only[au,aa,g7];have a2':s.get [] p2=some (.cells [.str o2.id,.int .i64 o2.uP,.int .i64 o2.x,.int .i64 o2.y,o2.refsV,o2.tagsV]):=a2;have b2':s.get [] p3=some (.cells [.str o3.id,.int .i64 o3.uP,.int .i64 o3.x,.int .i64 o3.y,o3.refsV,o3.tagsV]):=b2;have d2':s.get [] p1=some (.cells [.str o1'.id,.int .i64 o1'.uP,.int .i64 o1'.x,.int .i64 o1'.y,o1'.refsV,o1'.tagsV]):=d2;cases hk:aK o2.uP o1'.uP&&aK o3.uP o1'.uP with
     |false=>
      have hO:dl pb po pt=gS po pt:=by
       simp only[dl,h1,h2,h3,iR,cF];rw[qb,qo,qt];simp only[hk,cF]
      have hC:fR id pb po pt C=dh (id,dw) C:=by
       simp only[fR,h1,h2,h3,iR,cF];rw[qb,qo,qt];simp only[hk,cF]
      cases hk1:aK o2.uP o1'.uP with
      |false=>
       simp only[ai,ax,isStore,bh,ay,aa,ah,g5,g6,g7,eo,et,eb,fB,cO,wc,a2',d2',cN,hk1,iQ,iY,vj];refine cJ (cL (hskip _ ?_ ?_ ?_ ?_ hO hC));simp only[au,aa,g0];simp only[au,aa,g1];simp only[au,aa,g6];simp only[au,aa,g7]
      |true=>
       have hk2:aK o3.uP o1'.uP=false:=by rw[hk1,jD] at hk;exact hk
       simp only[ai,ax,isStore,bh,ay,aa,ah,g5,g6,g7,eo,et,eb,fB,cO,wc,a2',b2',d2',cN,hk1,hk2,iQ,iY,vj];refine cJ (cL (hskip _ ?_ ?_ ?_ ?_ hO hC));simp only[au,aa,g0];simp only[au,aa,g1];simp only[au,aa,g6];simp only[au,aa,g7]
     |true=>
      have hO:dl pb po pt=some (nu o1' o2 o3):=by
       simp only[dl,h1,h2,h3,iR,cF];rw[qb,qo,qt];simp only[hk,cT]
      have hC:fR id pb po pt C=qN o1' o2 o3 C:=by
       simp only[fR,h1,h2,h3,iR,cF];rw[qb,qo,qt];simp only[hk,cT]
      simp only[bA] at hk;simp only[ai,ax,isStore,bh,ay,aa,ah,g5,g6,g7,eo,et,eb,fB,cO,wc,a2',b2',d2',cN,hk.1,hk.2,iQ,iY,vj];obtain⟨s1,hrun,F⟩:=abG (sp:=sp) (ch:=ch) hS.h44 hS.h74 hS.h36 hS.h45 hS.h75 hS.h118 hS.h76 M.hx M.hd ⟨by omega,by omega⟩ hm d2 a2 b2 d3 a3 b3 ⟨by omega,by omega,by omega⟩ (gb _ qb) (go _ qo) (gt _ qt);refine bU ?_;refine aC (fU (fM 4 ?_));simp only[au,vS,aN,ay,aa,ah,g0,g5,g6,g7,eo,et,eb];refine fO (g:=186) (args:=[.ptr x 0,.ptr p1 0,.ptr p2 0,.ptr p3 0]) ?_ hrun (by decide) ?_;simp only[ai,callee,aa];refine fN ?_;simp only[ai,aA,aa,ah];have hn1:=F.al;refine bo (hret _ _ ⟨.ptr s.al 0,bz (by simp only[aq,aa]) rfl,?_⟩);rw[hO,hC];exact⟨M.grow F.hd F.old (by omega) F.ge,.at_ (by omega) F.row (Bo d3 a3 b3 (gb _ qb) (go _ qo) (gt _ qt)),F.old,by omega,F.ci⟩
    refine mid _ _ _ ?_ ?_ ?_ ?_ ?_ (fun fr s1 h=>⟨.inr rfl,h⟩) (fun e' f0 f1 f6 f7 hO hC=>conf e' _ f0 f1 f6 f7 hO hC);simp only[aq,aa];simp only[aq,aa];simp only[aq,aa];simp only[aq,aa];simp only[aq,aa]
end
def ee(b o t:List Obj)(k:ak):Option Obj:=dl (bc k b) (bc k o) (bc k t)
def kF(b o t:List Obj)(k:ak):List Cf:=fR k (bc k b) (bc k o) (bc k t) []
def zS{id:ak}{c:Cf}: ∀ {ks:List ak} {C:List Cf},c∈m8 id ks C↔c∈C\/c∈m8 id ks []
 | [],C=>by simp[m8]
 |k::ks,C=>by
  have h1:m8 id (k::ks) C=m8 id ks (dh (id,jm k) C):=rfl;have h2:m8 id (k::ks) []=m8 id ks (dh (id,jm k) []):=rfl;rw[h1,h2,zS (C:=dh (id,jm k) C),zS (C:=dh (id,jm k) []),sk,sk];simp only[rC,or_false];constructor;rintro((h|h)|h);exact .inr (.inl h);exact .inl h;exact .inr (.inr h);rintro(h|h|h);exact .inl (.inr h);exact .inl (.inl h);exact .inr h
variable{c:Cf}
def La:c∈nl b o t C↔c∈C\/c∈nl b o t []:=by
 unfold nl;cases lp (b.x,b.y) (o.x,o.y) (t.x,t.y) with
 |true=>simp only[cT,sk,rC,or_false];exact Or.comm
 |false=>simp
def ajb:c∈kN b o t C↔c∈C\/c∈kN b o t []:=by
 unfold kN;cases ia b o t with
 |none=>simp only[sk,rC,or_false];exact Or.comm
 |some r=>simp
def ai6:c∈qN b o t C↔c∈C\/c∈qN b o t []:=by
 unfold qN;rw[zS,La,ajb (C:=C),zS (C:=nl b o t (kN b o t [])),La (C:=kN b o t [])];simp only[or_assoc]
variable{k:ak}
def ai9:c∈fR k pb po pt C↔c∈C\/c∈fR k pb po pt []:=by
 have h1:c∈dh (k,dw) C↔c∈C\/c∈dh (k,dw) []:=by simp only[sk,rC,or_false];exact Or.comm
 unfold fR;cases cU po pt||cU pt pb with
 |true=>simp
 |false=>
  cases cU po pb with
  |true=>simp
  |false=>
   simp only[cF];split;rename_i b o t;cases aK o.uP b.uP&&aK t.uP b.uP with
   |true=>exact ai6
   |false=>exact h1
   exact h1
def VC{id:ak}: ∀ {ks:List ak} {C:List Cf},C.Nodup->(m8 id ks C).Nodup
 | [],_C,h=>h
 |_k::ks,_C,h=>VC (ks:=ks) (xm h)
def abE(h:C.Nodup):(qN b o t C).Nodup:=by
 refine VC ?_;have h1:(kN b o t C).Nodup:=by
  unfold kN;cases ia b o t with
  |none=>exact xm h
  |some _=>exact h
 unfold nl;cases lp (b.x,b.y) (o.x,o.y) (t.x,t.y) with
 |true=>exact xm h1
 |false=>exact h1
def SO(h:C.Nodup):(fR k pb po pt C).Nodup:=by
 unfold fR;cases cU po pt||cU pt pb with
 |true=>exact h
 |false=>
  cases cU po pb with
  |true=>exact h
  |false=>
   simp only[cF];split;rename_i b o t;cases aK o.uP b.uP&&aK t.uP b.uP with
   |true=>exact abE h
   |false=>exact xm h
   exact xm h
structure AR (s1:St) (mu:Nat) (B O T:List (ak×ae)) (b o t:List Obj):Prop where
 pb: ∀k,eR s1 mu (at_ k B) (bc k b)
 po: ∀k,eR s1 mu (at_ k O) (bc k o)
 pt: ∀k,eR s1 mu (at_ k T) (bc k t)
 vb: ∀k,lB (bc k b)
 vo: ∀k,lB (bc k o)
 vt: ∀k,lB (bc k t)
def eR.low(h:eR s lim v q)(hs: ∀n,n<lim->s'.get [] n=s.get [] n):eR s' lim v q:=by
 cases h with
 |nil=>exact .nil
 |at_ h1 h2 h3=>exact .at_ h1 ((hs _ h1).trans h2) h3
variable{n:Nat}
def eR.put_map{c:Nat}{es:List cw}(h:eR s lim v q)(hn:s.get [] n=some (.map es c))(hl:lim<=lim')(hs: ∀m,m<lim->m≠n->s'.get [] m=s.get [] m):eR s' lim' v q:=by
 cases h with
 |nil=>exact .nil
 |at_ h1 h2 h3=>
  refine .at_ (by omega) ((hs _ h1 ?_).trans h2) h3;intro e;subst e;rw[hn] at h2;cases h2
structure Rs (s1 s:St) (x mb mo mt mu md:Nat) (B O T U:List (ak×ae)) (b o t:List Obj) (D:ak->Prop) (C:List Cf):Prop where
 mg:Mg s x mb mo mt mu md B O T U C
 low: ∀n,n<mu->s.get [] n=s1.get [] n
 val: ∀k v,look k U=some v-> ∃q,ee b o t k=some q/\eR s s.al v (some q)
 dom: ∀k,(look k U).isSome=true↔D k/\(ee b o t k).isSome=true
 nd:(U.map (·.1)).Nodup
 cnd:C.Nodup
 conf: ∀c,c∈C↔ ∃k,D k/\c∈kF b o t k
def P6(k:ak)(v:ae): ∀(L:List (ak×ae)) (a:ak),a∈(dY k v L).map (·.1)↔a=k\/a∈L.map (·.1)
 | [],a=>by simp[dY]
 |(b,u)::L,a=>by
  simp only[dY];cases h:k==b with
  |true=>
   have:k=b:=by simpa using h
   subst this;simp
  |false=>
   simp only[cF,dG,cQ,P6 k v L a];constructor;rintro(h|h|h)<;>simp[h];rintro(h|h|h)<;>simp[h]
def JV{k:ak}{v:ae}: ∀ {L:List (ak×ae)},(L.map (·.1)).Nodup->((dY k v L).map (·.1)).Nodup
 | [],_=>by simp[dY]
 |(b,u)::L,h=>by
  simp only[dG,uh] at h;simp only[dY];cases hb:k==b with
  |true=>
   have:k=b:=by simpa using hb
   subst this;simp only[cT,dG,uh];exact h
  |false=>
   have hne:k≠b:=by simpa using hb
   simp only[cF,dG,uh,P6];exact⟨fun hc=>hc.elim (fun e=>hne e.symm) h.1,JV h.2⟩
variable{m:Nat}
section
variable{s1 s s':St}{x mb mo mt mu md it:Nat}{B O T U:List (ak×ae)}{b o t:List Obj}{D D':ak->Prop}{C:List Cf}
def Rs.iff(r:Rs s1 s x mb mo mt mu md B O T U b o t D C)(h: ∀k,D k↔D' k):Rs s1 s x mb mo mt mu md B O T U b o t D' C:=by
 have:D=D':=funext fun k=>propext (h k);subst this;exact r
def Rs.put_it(r:Rs s1 s x mb mo mt mu md B O T U b o t D C)(hit:x<it){c:Nat}{seen:List Nat}(hi:s.get [] it=some (.iter (some m) c seen c)){ob:bf}(hg: ∀n,s'.get [] n=(s.put it (some ob)).get [] n)(hn:s'.al=s.al)(hw:s'.ge=(s.put it none).ge):Rs s1 s' x mb mo mt mu md B O T U b o t D C:=by
 obtain⟨o1,o2,o3,o4,o5,o6⟩:=r.mg.ord;have key: ∀n,n≠it->s'.get [] n=s.get [] n:=fun n h=>by
  rw[hg,bO,bN.2 h];rfl
 have M:=r.mg;refine⟨⟨(key _ (by omega)).trans M.hx,(key _ (by omega)).trans M.hb,(key _ (by omega)).trans M.ho,(key _ (by omega)).trans M.ht,(key _ (by omega)).trans M.hu,(key _ (by omega)).trans M.hd,?_,o1,o2,o3,o4,o5,by omega⟩,fun n h=>(key n (by omega)).trans (r.low n h),fun k v h=>?_,r.dom,r.nd,r.cnd,r.conf⟩;rw[hw,hn];exact ji s it none M.ge;obtain⟨q,h1,h2⟩:=r.val k v h;refine⟨q,h1,?_⟩;cases h2 with
 |at_ a1 a2 a3=>
  refine .at_ (by omega) ((key _ ?_).trans a2) a3;intro e;subst e;rw[hi] at a2;cases a2
def Rs.step(r:Rs s1 s x mb mo mt mu md B O T U b o t D C)(h:yW s s' x mb mo mt mu md B O T U (fR k (bc k b) (bc k o) (bc k t) C) v (ee b o t k)):
 (v= .nilp->ee b o t k=none/\Rs s1 s' x mb mo mt mu md B O T U b o t (fun j=>D j\/j=k) (fR k (bc k b) (bc k o) (bc k t) C))/\
 (∀p,v= .ptr p 0->Rs s1 (s'.put mu (some (.map (bX 0 (dY k v U)) (dY k v U).length))) x mb mo mt mu md B O T (dY k v U) b o t (fun j=>D j\/j=k) (fR k (bc k b) (bc k o) (bc k t) C)):=by
 obtain⟨o1,o2,o3,o4,o5,o6⟩:=r.mg.ord;have hn:=h.al;have hval: ∀j u,look j U=some u-> ∃q,ee b o t j=some q/\eR s' s'.al u (some q):=fun j u hj=>by
  obtain⟨q,h1,h2⟩:=r.val j u hj;exact⟨q,h1,h2.keep r.mg.hd hn fun n a c=>h.old n a c⟩
 have hconf: ∀c,c∈fR k (bc k b) (bc k o) (bc k t) C↔ ∃j,(D j\/j=k)/\c∈kF b o t j:=fun c=>by
  rw[ai9,r.conf c];constructor;rintro(⟨j,h1,h2⟩|h);exact⟨j,.inl h1,h2⟩;exact⟨k,.inr rfl,h⟩;rintro⟨j,h1|rfl,h2⟩;exact .inl ⟨j,h1,h2⟩;exact .inr h2
 refine⟨fun e=>?_,fun p e=>?_⟩;subst e;have hnone:ee b o t k=none:=by
  rcases h.pv.out with⟨_,h⟩|⟨p,o,h,_⟩
  exact h;cases h
 refine⟨hnone,h.mg,fun n hl=>(h.old n (by omega) (by omega)).trans (r.low n hl),hval,fun j=>?_,r.nd,SO r.cnd,hconf⟩;rw[r.dom j];constructor;rintro⟨h1,h2⟩;exact⟨.inl h1,h2⟩;rintro⟨h1|rfl,h2⟩;exact⟨h1,h2⟩;rw[hnone] at h2;cases h2;have M:=h.mg;have key: ∀n ob,n≠mu->(s'.put mu ob).get [] n=s'.get [] n:=fun n ob hne=>by
  rw[bO,bN.2 hne];rfl
 have hsome: ∃q,ee b o t k=some q/\eR s' s'.al v (some q):=by
  rcases h.pv.out with⟨h1,_⟩|⟨p',q,h1,h2,h3,h4,h5⟩
  rw[e] at h1;cases h1;exact⟨q,h2,by rw[h1];exact .at_ h3 h4 h5⟩
 refine⟨⟨(key _ _ (by omega)).trans M.hx,(key _ _ (by omega)).trans M.hb,(key _ _ (by omega)).trans M.ho,(key _ _ (by omega)).trans M.ht,by rw[bO,bS];rfl,(key _ _ (by omega)).trans M.hd,ji _ _ _ M.ge,o1,o2,o3,o4,o5,gX o6 hn⟩,fun n hl=>(key n _ (by omega)).trans ((h.old n (by omega) (by omega)).trans (r.low n hl)),fun j u hj=>?_,fun j=>?_,JV r.nd,SO r.cnd,hconf⟩;rw[od] at hj;have tr: ∀ {q:Obj},eR s' s'.al u (some q)->eR (s'.put mu (some (.map (bX 0 (dY k v U)) (dY k v U).length))) s'.al u (some q):=fun hp=>hp.put_map M.hu (aU _) fun m _ hm=>key m _ hm;cases hjk:j==k with
 |true=>
  rw[hjk] at hj;injection hj with hj
  subst hj
  have:=eq_of_beq hjk;subst this;obtain⟨q,h1,h2⟩:=hsome;exact⟨q,h1,tr h2⟩
 |false=>
  rw[hjk] at hj;obtain⟨q,h1,h2⟩:=hval j u hj;exact⟨q,h1,tr h2⟩
 rw[od];cases hjk:j==k with
 |true=>
  have:=eq_of_beq hjk;subst this;obtain⟨q,h1,_⟩:=hsome;simp[h1]
 |false=>
  have hne:j≠k:=bN.1 hjk;simp only[cF,r.dom j,hne,or_false]
end
def Og(n:Nat):(ae.map n).cells=[.map n]:=rfl
variable{lc:Ag.Loc}
section
variable{sp:bC}{ch:Nat->Nat}(hS:yX sp)
 {s1:St} {x mb mo mt mu md:Nat} {B O T:List (ak×ae)} {b o t:List Obj} (c:AR s1 mu B O T b o t)
include hS c
def adQ{it:Nat}{L:List (ak×ae)}(hL:L.length<=1000000)(hit:x<it)(hm:m<mu): ∀(n:Nat) (seen:List Nat) (e:aI) (s:St) (U:List (ak×ae)) (D:ak->Prop) (C:List Cf),(cX seen (bX 0 L)).length<=n->Rs s1 s x mb mo mt mu md B O T U b o t D C->It s it m L seen->it<s.al->aj e 62= .ptr it 0->aj e 8= .ptr x 0->
 W (QM sp ch) 47 (.loop KC) ⟨e,132,lc⟩ s fun y fr s'=>y= .exit 2/\ ∃e',fr=⟨e',132,lc⟩/\(aj e' 6=aj e 6/\aj e' 8= .ptr x 0/\aj e' 55=aj e 55/\aj e' 56=aj e 56/\aj e' 57=aj e 57)/\
   ∃U' C',Rs s1 s' x mb mo mt mu md B O T U' b o t (fun k=>D k\/ ∃en∈cX seen (bX 0 L),en.key= .str k) C':=by
 have hQc:(QM sp ch).ch=ch:=rfl;have hQk:(QM sp ch).kmax=fun _=>1000000:=rfl;have fin: ∀(seen:List Nat) (e:aI) (s:St) (U:List (ak×ae)) (D:ak->Prop) (C:List Cf),cX seen (bX 0 L)=[]->Rs s1 s x mb mo mt mu md B O T U b o t D C->It s it m L seen->aj e 62= .ptr it 0->aj e 8= .ptr x 0->
  W (QM sp ch) 47 (.loop KC) ⟨e,132,lc⟩ s fun y fr s'=>y= .exit 2/\ ∃e',fr=⟨e',132,lc⟩/\(aj e' 6=aj e 6/\aj e' 8= .ptr x 0/\aj e' 55=aj e 55/\aj e' 56=aj e 56/\aj e' 57=aj e 57)/\
    ∃U' C',Rs s1 s' x mb mo mt mu md B O T U' b o t (fun k=>D k\/ ∃en∈cX seen (bX 0 L),en.key= .str k) C':=by
  intro seen e s U D C h0 r i h62 h8;have hd:=i.done ch (fun _=>1000000) h0;refine bV ?_;refine aw ?_;simp only[ai,ah,sK,h62,hQc,hQk,hd,dU,jN];refine aC (cJ ?_);refine dL ⟨rfl,_,rfl,⟨?_,?_,?_,?_,?_⟩,U,C,r.iff fun k=>?_⟩;simp only[au,aa];simp only[au,aa,h8];simp only[au,aa];simp only[au,aa];simp only[au,aa];rw[h0];simp
 intro n
 induction n with
 |zero=>
  intro seen e s U D C hn r i _ h62 h8;exact fin seen e s U D C (List.eq_nil_of_length_eq_zero (Nat.le_zero.1 hn)) r i h62 h8
 |succ n ih=>
  intro seen e s U D C hn r i hits h62 h8;by_cases h0:cX seen (bX 0 L)=[];exact fin seen e s U D C h0 r i h62 h8
  ·obtain⟨en,s2,hen,hnx,hg,hnn,hw,hci⟩:=i.step ch (fun _=>1000000) (fun _=>hL) h0
   have r2:=r.put_it hit i.hi hg hnn hw;have hmem:=(qp.1 hen).1;obtain⟨k,v,hkey,_,_⟩:=I2 L 0 en hmem;obtain⟨q1,q2,q3,q4,q5,q6⟩:=r.mg.ord;have i2:It s2 it m L (seen++[en.born]):=⟨by rw[hg,bO,bS];rfl,by rw[hg,bO,bN.2 (by omega:m≠it)];exact i.hm⟩;have hent:=i2.entry hmem;have hless:=Hw hen;rw[hkey] at hnx hent;obtain⟨v,s3,hcall,hout⟩:=ajf (ch:=ch) hS r2.mg (id:=k) ((c.pb k).low r2.low) ((c.po k).low r2.low) ((c.pt k).low r2.low) (c.vb k) (c.vo k) (c.vt k);obtain⟨st1,st2⟩:=r2.step hout;have hcl:=(hout.pv.pv fun _ _=>rfl).aL;have n3:=hout.al;have i3:It s3 it m L (seen++[en.born]):=⟨(hout.old it (by omega) (by omega)).trans i2.hi,(hout.old m (by omega) (by omega)).trans i2.hm⟩;have hD: ∀j,((D j\/j=k)\/ ∃e'∈cX (seen++[en.born]) (bX 0 L),e'.key= .str j)↔(D j\/ ∃e'∈cX seen (bX 0 L),e'.key= .str j):=fun j=>by
    constructor;rintro((h|rfl)|⟨e',h1,h2⟩);exact .inl h;exact .inr ⟨en,hen,hkey⟩;refine .inr ⟨e',qp.2 ⟨(qp.1 h1).1,fun hc=>(qp.1 h1).2 (by simp[hc])⟩,h2⟩;rintro(h|⟨e',h1,h2⟩);exact .inl (.inl h);by_cases hb:e'.born=en.born;have a1:=Dy L 0 e' (qp.1 h1).1;have a2:=Dy L 0 en hmem;rw[hb,a2] at a1;replace a1:=sI a1;rw[<-a1,hkey] at h2;exact .inl (.inr (ae.str.inj h2).symm);exact .inr ⟨e',qp.2 ⟨(qp.1 h1).1,fun hc=>by
     rcases iE.1 hc with hc|hc
     exact(qp.1 h1).2 hc;exact hb (by simpa using hc)⟩,h2⟩
   refine bV ?_;refine aw ?_;simp only[ai,ah,sK,h62,hQc,hQk,hnx,dU,jN];refine aC (bU (cL ?_));simp only[bM];refine bL (aw ?_);simp only[ai,aa,ah,GR,h62,hent,dU,jN];refine aC (fU (fM 2 ?_));simp only[ai,aN,ay,aa,ah,h8];refine fO (g:=101) (args:=[.ptr x 0,.str k]) ?_ hcall (by decide) ?_;simp only[ai,callee,aa];refine fN ?_;simp only[ai,aA,aa,ah];refine aw ?_;rcases hout.pv.out with⟨ev0,_⟩|⟨p,q,ev0,_⟩
   ·obtain⟨_,r3⟩:=st1 ev0
    simp only[ai,bh,aa,ah,ev0,iQ,iY,yp];refine dq ?_;simp only[dA];refine(ih (seen++[en.born]) _ s3 U _ _ (by omega) r3 i3 (by omega) ?_ ?_).mono ?_;simp only[au,aa,h62];simp only[au,aa,h8];rintro y fr s' ⟨rfl,e',rfl,⟨g1,g2,g3,g4,g5⟩,U',C',r'⟩;refine⟨rfl,e',rfl,⟨g1.trans ?_,g2,g3.trans ?_,g4.trans ?_,g5.trans ?_⟩,U',C',r'.iff hD⟩
    all_goals simp only[au,aa]
   ·have r3:=st2 p ev0
    have hup:=AC tn Gk hout.mg.hu k v;have hx3:=hout.mg.hx;rw[ev0] at hup r3;have i4:It (s3.put mu (some (.map (bX 0 (dY k (.ptr p 0) U)) (dY k (.ptr p 0) U).length))) it m L (seen++[en.born]):=⟨by rw[bO,bN.2 (by omega)];exact i3.hi,by rw[bO,bN.2 (by omega)];exact i3.hm⟩;simp only[ai,bh,aa,ah,ev0,iQ,iY,vj];refine bU (bH ?_);simp only[ai,ax,aA,bh,ay,aa,ah,h8,fB,cO,hx3,cN,hup];refine(ih (seen++[en.born]) _ _ (dY k (.ptr p 0) U) _ _ (by omega) r3 i4 (gX (by omega) n3) ?_ ?_).mono ?_;simp only[au,aa,h62];simp only[au,aa,h8];rintro y fr s' ⟨rfl,e',rfl,⟨g1,g2,g3,g4,g5⟩,U',C',r'⟩;refine⟨rfl,e',rfl,⟨g1.trans ?_,g2,g3.trans ?_,g4.trans ?_,g5.trans ?_⟩,U',C',r'.iff hD⟩
    all_goals simp only[au,aa]
end
section
variable{sp:bC}{ch:Nat->Nat}(hS:yX sp)
 {s1:St} {x mb mo mt mu md:Nat} {B O T:List (ak×ae)} {b o t:List Obj} (c:AR s1 mu B O T b o t)
include hS c
def alr{ms:List (Nat×List (ak×ae))}{rt:fu}(hsm:ms.length<=1000)(hms: ∀p∈ms,p.1<mu/\p.2.length<=1000000/\s1.get [] p.1=some (.map (bX 0 p.2) p.2.length)): ∀(rest pre:List (Nat×List (ak×ae))) (e:aI) (s:St) (U:List (ak×ae)) (D:ak->Prop) (C:List Cf),ms=pre++rest->Rs s1 s x mb mo mt mu md B O T U b o t D C->
 aj e 8= .ptr x 0->aj e 55= .list 1 (ms.map fun p=>.map p.1) rt->aj e 56= .int .i64 (ms.length:Nat)->aj e 57= .int .i64 (pre.length:Nat)->
 W (QM sp ch) 47 (.loop RA) ⟨e,132,lc⟩ s fun y fr s'=>y= .exit 0/\ ∃e',fr=⟨e',132,lc⟩/\(aj e' 6=aj e 6/\aj e' 8= .ptr x 0)/\
   ∃U' C',Rs s1 s' x mb mo mt mu md B O T U' b o t (fun k=>D k\/ ∃p∈rest,k∈p.2.map (·.1)) C':=by
 intro rest
 induction rest with
 |nil=>
  intro pre e s U D C hpre r h8 h55 h56 h57;have hl:ms.length=pre.length:=by rw[hpre];simp
  refine bV ?_;refine aw ?_;simp only[ai,bh,ah,h56,h57,hl,cR];refine aC (cJ ?_);refine dL ⟨rfl,_,rfl,⟨?_,?_⟩,U,C,r.iff fun k=>by simp⟩;simp only[au,aa];simp only[au,aa,h8]
 |cons p rest ih=>
  intro pre e s U D C hpre r h8 h55 h56 h57;obtain⟨m,L⟩:=p;have hlt:pre.length<ms.length:=by rw[hpre];simp
  have hat:(ms.map fun p=>ae.map p.1)[pre.length]? =some (.map m):=by rw[hpre];simp
  obtain⟨hm,hL,hs⟩:=hms (m,L) (by rw[hpre];simp);have hm:m<mu:=hm;have hL:L.length<=1000000:=hL;have hs:s.get [] m=some (.map (bX 0 L) L.length):=(r.low m hm).trans hs;have hr:=amh hs;have hn:=S7 hat;have hwr:=eE (n:=pre.length) (by omega);obtain⟨o1,o2,o3,o4,o5,o6⟩:=r.mg.ord;have hg2: ∀n,n<s.al->(s.new (.iter (some m) L.length [] L.length)).get [] n=s.get [] n:=fun n h=>by
   rw[cp,bN.2 (by omega:n≠s.al)];rfl
  have M:=r.mg;have r2:Rs s1 (s.new (.iter (some m) L.length [] L.length)) x mb mo mt mu md B O T U b o t D C:=by
   refine⟨M.grow ((hg2 md (by omega)).trans M.hd) (fun n h _=>hg2 n h) (Nat.le_succ _) (ky M.ge),fun n h=>(hg2 n (by omega)).trans (r.low n h),fun k v h=>?_,r.dom,r.nd,r.cnd,r.conf⟩;obtain⟨q,a1,a2⟩:=r.val k v h;exact⟨q,a1,a2.keep M.hd (Nat.le_succ _) fun n h _=>hg2 n h⟩
  have i2:It (s.new (.iter (some m) L.length [] L.length)) s.al m L []:=⟨by rw[cp,bS];rfl,by rw[hg2 _ (by omega)];exact hs⟩;have hun: ∀es:List cw,cX [] es=es:=fun es=>by simp[cX]
  refine bV ?_;refine aw ?_;simp only[ai,bh,ah,h56,h57,hlt];refine aC (bU (cL ?_));simp only[bM];refine aC (bL (aw ?_));simp only[ai,ax,bh,ay,aa,ah,h55,h57,cZ,hlt,hn,Og];refine aw ?_;simp only[ai,bh,aa,ah,GU,hr];refine bL ?_;refine(adQ hS c hL (it:=s.al) o6 hm L.length [] _ _ U D C (by rw[hun,uE];exact aU _) r2 i2 (fK _) ?_ ?_).mono ?_;simp only[aq,aa];simp only[au,aa,h8];rintro y fr s' ⟨rfl,e',rfl,⟨g1,g2,g3,g4,g5⟩,U',C',r'⟩;simp only[au,aa,h55,h56,h57] at g1 g3 g4 g5;show W (QM sp ch) 47 _ _ _ _;refine bH ?_;simp only[ai,aA,bh,ah,g5,hwr];refine(ih (pre++[(m,L)]) _ s' U' _ C' (by rw[hpre];simp) r' ?_ ?_ ?_ ?_).mono ?_;simp only[au,aa,g2];simp only[au,aa,g3];simp only[au,aa,g4];simp only[aq,cK,aa];rintro y fr s'' ⟨rfl,e'',rfl,⟨w1,w2⟩,U'',C'',r''⟩;refine⟨rfl,e'',rfl,⟨w1.trans ?_,w2⟩,U'',C'',r''.iff fun k=>?_⟩;simp only[au,aa,g1];rw[hun];have hk:(∃en∈bX 0 L,en.key= .str k)↔k∈L.map (·.1):=by
   constructor;rintro⟨en,h1,h2⟩;obtain⟨k',v,a1,_,a3⟩:=I2 L 0 en h1;rw[a1] at h2
   have:=ae.str.inj h2;subst this;exact dp.2 ⟨_,a3,rfl⟩;intro h;obtain⟨⟨k',v⟩,h1,rfl⟩:=dp.1 h;exact OS L 0 k' v h1
  rw[hk];simp only[cQ,exists_eq_or_imp,or_assoc]
end
def fS(b o t:List Obj)(k:ak):Option Obj:=match bc k b with
 |some q=>some q
 |none=>gS (bc k o) (bc k t)
def eN(b o t:List Obj)(k:ak):Option Obj:=match ee b o t k with
 |some q=>some q
 |none=>fS b o t k
inductive Reach (b o t:List Obj):ak->Prop
 |of {k id:ak} {q:Obj}:ee b o t k=some q->id∈q.gE->ee b o t id=none->(fS b o t id).isSome=true->Reach b o t id
 |step {k id:ak} {q:Obj}:Reach b o t k->fS b o t k=some q->id∈q.gE->ee b o t id=none->(fS b o t id).isSome=true->Reach b o t id
variable{b o t:List Obj}
def Reach.no(h:Reach b o t k):ee b o t k=none/\(fS b o t k).isSome=true:=by
 cases h with
 |of _ _ h1 h2=>exact⟨h1,h2⟩
 |step _ _ _ h1 h2=>exact⟨h1,h2⟩
def jh(b o t:List Obj)(k:ak):Prop:=(ee b o t k).isSome=true\/Reach b o t k
variable{q:Obj}
def jh.al{id:ak}(h:jh b o t k)(hq:eN b o t k=some q)(hid:id∈q.gE)(h1:ee b o t id=none)(h2:(fS b o t id).isSome=true):Reach b o t id:=by
 rcases h with h|h
 obtain⟨q',hq'⟩:=rE.1 h;simp only[eN,hq'] at hq;injection hq with hq;subst hq
 exact .of hq' hid h1 h2;have hn:=h.no.1;simp only[eN,hn] at hq;exact .step h hq hid h1 h2
def dg(b o t:List Obj):List ak:=b.map (·.id)++(o.map (·.id)++t.map (·.id))
def Gq(h:(fS b o t k).isSome=true):k∈dg b o t:=by
 unfold fS at h;unfold dg;cases hb:bc k b with
 |some q=>exact iE.2 (.inl (yf.1 (by rw[hb];simp)))
 |none=>
  rw[hb] at h;cases ho:bc k o with
  |some q=>exact iE.2 (.inr (iE.2 (.inl (yf.1 (by rw[ho];simp)))))
  |none=>
   cases ht:bc k t with
   |some q=>exact iE.2 (.inr (iE.2 (.inr (yf.1 (by rw[ht];simp)))))
   |none=>rw[ho,ht] at h;cases h
def tE(b o t:List Obj)(U:List (ak×ae)):Nat:=((dg b o t).filter fun k=>(look k U).isNone).length
def ai1{U':List (ak×ae)}(h: ∀j,(look j U).isSome=true->(look j U').isSome=true):tE b o t U'<=tE b o t U:=by
 unfold tE;rw[<-List.countP_eq_length_filter,<-List.countP_eq_length_filter];refine List.countP_mono_left fun j _ hj=>?_;cases hu:look j U with
 |none=>rfl
 |some v=>
  have:=h j (by rw[hu];rfl);cases hu':look j U' with
  |none=>rw[hu'] at this;cases this
  |some _=>simp[hu'] at hj
def ai0{id:ak}(h1:id∈dg b o t)(h2:look id U=none):tE b o t (dY id v U)<tE b o t U:=by
 unfold tE;have hsub: ∀l:List ak,l.filter (fun k=>(look k (dY id v U)).isNone)=(l.filter fun k=>(look k U).isNone).filter fun k=> !(k==id):=by
  intro l;rw[List.filter_filter];congr 1;funext k;rw[od];cases hk:k==id with
  |true=>simp
  |false=>simp
 rw[hsub];refine Nat.lt_of_le_of_ne (pG _ _) fun hc=>?_
 have:=List.length_filter_eq_length_iff.1 hc id (uf.2 ⟨h1,by rw[h2];rfl⟩);simp at this
structure Rn (s1 s:St) (x mb mo mt mu md:Nat) (B O T U:List (ak×ae)) (b o t:List Obj) (C:List Cf):Prop where
 mg:Mg s x mb mo mt mu md B O T U C
 low: ∀n,n<mu->s.get [] n=s1.get [] n
 val: ∀k v,look k U=some v-> ∃q,eN b o t k=some q/\eR s s.al v (some q)
 base: ∀k,(ee b o t k).isSome=true->(look k U).isSome=true
 new: ∀k,(look k U).isSome=true->jh b o t k
 nd:(U.map (·.1)).Nodup
 cnd:C.Nodup
 conf: ∀c,c∈C↔(∃k,c∈kF b o t k)\/ ∃k,(look k U).isSome=true/\ee b o t k=none/\c=(k,dw)
def Oi(hb:bc k b=none)(ho:bc k o=none)(ht:bc k t=none):kF b o t k=[]/\ee b o t k=none:=by
 unfold kF ee;rw[hb,ho,ht];exact⟨rfl,rfl⟩
variable{s1:St}
def Rs.rn{D:ak->Prop}(r:Rs s1 s x mb mo mt mu md B O T U b o t D C)(hD: ∀k,D k↔k∈dg b o t):Rn s1 s x mb mo mt mu md B O T U b o t C:=by
 have out: ∀k, ¬D k->kF b o t k=[]/\ee b o t k=none:=fun k h=>by
  rw[hD] at h;simp only[dg,iE,not_or] at h;have nn: ∀ {l:List Obj},k ∉ l.map (·.id)->bc k l=none:=fun {l} hn=>by
   cases ho:bc k l with
   |none=>rfl
   |some q=>exact absurd (yf.1 (by rw[ho];simp)) hn
  exact Oi (nn h.1) (nn h.2.1) (nn h.2.2)
 have hin: ∀k,(ee b o t k).isSome=true->D k:=fun k h=>l9 fun hc=>by rw[(out k hc).2] at h;cases h
 refine⟨r.mg,r.low,fun k v h=>?_,fun k h=>(r.dom k).2 ⟨hin k h,h⟩,fun k h=>.inl ((r.dom k).1 h).2,r.nd,r.cnd,fun c=>?_⟩;obtain⟨q,h1,h2⟩:=r.val k v h;exact⟨q,by simp only[eN,h1],h2⟩;rw[r.conf c];constructor;rintro⟨k,_,h⟩;exact .inl ⟨k,h⟩;rintro(⟨k,h⟩|⟨k,h1,h2,_⟩);exact⟨k,l9 fun hc=>(by rw[(out k hc).1] at h;cases h),h⟩
 have:=((r.dom k).1 h1).2;rw[h2] at this;cases this
section
variable{s1 s s':St}{x mb mo mt mu md:Nat}{B O T U:List (ak×ae)}{b o t:List Obj}{C:List Cf}
def Rn.add(r:Rn s1 s x mb mo mt mu md B O T U b o t C){id:ak}{p:Nat}(hU:look id U=none)(hq:fS b o t id=some q)(hp:eR s s.al (.ptr p 0) (some q))(hR:Reach b o t id)(hg: ∀n,s'.get [] n=((s.put mu (some (.map (bX 0 (dY id (.ptr p 0) U)) (dY id (.ptr p 0) U).length))).put md (some (.map (eI 0 (dh (id,dw) C)) (dh (id,dw) C).length))).get [] n)(hn:s'.al=s.al)(hm:s'.ge<=s'.al):
 Rn s1 s' x mb mo mt mu md B O T (dY id (.ptr p 0) U) b o t (dh (id,dw) C)/\(∀n,n≠mu->n≠md->s'.get [] n=s.get [] n):=by
 obtain⟨o1,o2,o3,o4,o5,o6⟩:=r.mg.ord;have key: ∀n,n≠mu->n≠md->s'.get [] n=s.get [] n:=fun n h1 h2=>by
  rw[hg,bO,bN.2 h2,cF,bO,bN.2 h1];rfl
 have tr: ∀ {v:ae} {q:Obj},eR s s.al v (some q)->eR s' s'.al v (some q):=fun h=>by
  cases h with
  |at_ a1 a2 a3=>
   refine .at_ (by omega) ((key _ ?_ ?_).trans a2) a3;intro e;subst e;rw[r.mg.hu] at a2;cases a2;intro e;subst e;rw[r.mg.hd] at a2;cases a2
 have hmg:=hR.no.1;have M:=r.mg;refine⟨⟨⟨(key _ (by omega) (by omega)).trans M.hx,(key _ (by omega) (by omega)).trans M.hb,(key _ (by omega) (by omega)).trans M.ho,(key _ (by omega) (by omega)).trans M.ht,?_,?_,hm,o1,o2,o3,o4,o5,by omega⟩,fun n h=>(key n (by omega) (by omega)).trans (r.low n h),fun k v hk=>?_,fun k hk=>?_,fun k hk=>?_,JV r.nd,xm r.cnd,fun c=>?_⟩,key⟩;rw[hg,bO,bN.2 (by omega),cF,bO,bS];rfl;rw[hg,bO,bS];rfl;rw[od] at hk;cases hjk:k==id with
 |true=>
  rw[hjk] at hk;injection hk with hk;subst hk
  have:=eq_of_beq hjk;subst this;exact⟨q,by simp only[eN,hmg,hq],tr hp⟩
 |false=>
  rw[hjk] at hk;obtain⟨q',h1,h2⟩:=r.val k v hk;exact⟨q',h1,tr h2⟩
 rw[od];cases k==id with
 |true=>rfl
 |false=>exact r.base k hk
 rw[od] at hk;cases hjk:k==id with
 |true=>rw[eq_of_beq hjk];exact .inr hR
 |false=>rw[hjk] at hk;exact r.new k hk
 rw[sk,r.conf c];constructor;rintro(rfl|h|⟨k,h1,h2,h3⟩);exact .inr ⟨id,by rw[od,bS];rfl,hmg,rfl⟩;exact .inl h;refine .inr ⟨k,?_,h2,h3⟩;rw[od];cases k==id<;>first|rfl|exact h1
 rintro(h|⟨k,h1,h2,h3⟩);exact .inr (.inl h);rw[od] at h1;cases hjk:k==id with
 |true=>rw[eq_of_beq hjk] at h3;exact .inl h3
 |false=>rw[hjk] at h1;exact .inr (.inr ⟨k,h1,h2,h3⟩)
end
variable{ob:Obj}
section
variable{sp:bC}{ch:Nat->Nat}(hS:yX sp)(h27:sp 104=none)
 {s1:St} {x mb mo mt mu md:Nat} {B O T:List (ak×ae)} {b o t:List Obj} (c:AR s1 mu B O T b o t)
structure Nd (s1 s s':St) (x mb mo mt mu md:Nat) (B O T U U':List (ak×ae)) (b o t:List Obj) (C':List Cf) (ids:List ak):Prop where
 rn:Rn s1 s' x mb mo mt mu md B O T U' b o t C'
 sub: ∀j,(look j U).isSome=true->(look j U').isSome=true
 gE: ∀id∈ids,(eN b o t id).isSome=true->(look id U').isSome=true
 clo: ∀j q,(look j U').isSome=true->look j U=none->eN b o t j=some q-> ∀id∈q.gE,(eN b o t id).isSome=true->(look id U').isSome=true
 old: ∀n,n<s.al->n≠mu->n≠md->s'.get [] n=s.get [] n
 al:s'.al=s.al
def M7(sp:bC)(ch:Nat->Nat)(s1:St)(x mb mo mt mu md:Nat)(B O T:List (ak×ae))(b o t:List Obj)(N:Nat):Prop:=
 ∀(s:St) (U:List (ak×ae)) (C:List Cf) (k:ak) (q:Obj) (p:Nat),Rn s1 s x mb mo mt mu md B O T U b o t C->tE b o t U<=N->jh b o t k->eN b o t k=some q->eR s s.al (.ptr p 0) (some q)->
  ∃s' U' C',aM (QM sp ch) 104 [.ptr x 0,.ptr p 0] s (gG []) s'/\Nd s1 s s' x mb mo mt mu md B O T U U' b o t C' q.gE
include hS c
def aj3{N:Nat}(ih: ∀M,M<N->M7 sp ch s1 x mb mo mt mu md B O T b o t M)(hk:jh b o t k)(hv:eN b o t k=some ob)(hg:ob.Al): ∀(rest pre:List ak) (e:aI) (s:St) (U:List (ak×ae)) (C:List Cf),ob.gE=pre++rest->Rn s1 s x mb mo mt mu md B O T U b o t C->tE b o t U<=N->
 aj e 0= .ptr x 0->aj e 10=ob.refsV->aj e 11= .int .i64 (ob.gE.length:Nat)->aj e 12= .int .i64 (pre.length:Nat)->
 W (QM sp ch) 104 (.loop J2) ⟨e,59,lc⟩ s fun y _fr s'=>y= .exit 0/\ ∃U' C',Nd s1 s s' x mb mo mt mu md B O T U U' b o t C' rest:=by
 intro rest;have hcl:=hg.gE.aL;have hsm:=fg;have hrl:=hg.reflen
 induction rest with
 |nil=>
  intro pre e s U C hpre r hN h0 h10 h11 h12;have hl:ob.gE.length=pre.length:=by rw[hpre];simp
  refine bV ?_;refine aw ?_;simp only[ai,bh,ah,h11,h12,hl,cR];refine aC (cJ ?_);exact dL ⟨rfl,U,C,r,fun _ h=>h,fun id h=>(by cases h),fun j q h1 h2=>(by rw[h2] at h1;cases h1),fun _ _ _ _=>rfl,rfl⟩
 |cons id rest ihr=>
  intro pre e s U C hpre r hN h0 h10 h11 h12;have hlt:pre.length<ob.gE.length:=by rw[hpre];simp
  have hat:ob.gE[pre.length]? =some id:=by rw[hpre];simp
  have hmem:id∈ob.gE:=by rw[hpre];simp
  have hia:=fun lc=>hg.gE.at gR hat lc .i64;have M:=r.mg;have hx:=M.hx;have hm:=M.ge;obtain⟨o1,o2,o3,o4,o5,o6⟩:=M.ord;have hwr:=eE (n:=pre.length) (by omega);have go: ∀(e2:aI) (s2:St) (U2:List (ak×ae)) (C2:List Cf),Rn s1 s2 x mb mo mt mu md B O T U2 b o t C2->(∀j,(look j U).isSome=true->(look j U2).isSome=true)->((eN b o t id).isSome=true->(look id U2).isSome=true)->(∀j q,(look j U2).isSome=true->look j U=none->eN b o t j=some q-> ∀i∈q.gE,(eN b o t i).isSome=true->(look i U2).isSome=true)->(∀n,n<s.al->n≠mu->n≠md->s2.get [] n=s.get [] n)->s2.al=s.al->
   aj e2 0= .ptr x 0->aj e2 10=ob.refsV->aj e2 11= .int .i64 (ob.gE.length:Nat)->aj e2 12= .int .i64 ((pre.length+1:Nat):Int)->
   W (QM sp ch) 104 (.loop J2) ⟨e2,59,lc⟩ s2 fun y fr s'=>y= .exit 0/\ ∃U' C',Nd s1 s s' x mb mo mt mu md B O T U U' b o t C' (id::rest):=by
   intro e2 s2 U2 C2 r2 sub2 ref2 clo2 old2 n2 g0 g10 g11 g12;refine W.mono (ihr (pre++[id]) e2 s2 U2 C2 (by rw[hpre];simp) r2 (fh (ai1 sub2) hN) g0 g10 g11 (by rw[g12,dX];rfl)) ?_;rintro y fr s' ⟨rfl,U',C',nd⟩;refine⟨rfl,U',C',nd.rn,fun j h=>nd.sub j (sub2 j h),fun i hi hvi=>?_,fun j q h1 h2 h3 i hi hvi=>?_,fun n h1 h2 h3=>(nd.old n (by omega) h2 h3).trans (old2 n h1 h2 h3),nd.al.trans n2⟩;rcases cQ.1 hi with rfl|hi
   exact nd.sub _ (ref2 hvi);exact nd.gE i hi hvi;cases hj:look j U2 with
   |none=>exact nd.clo j q h1 hj h3 i hi hvi
   |some v=>exact nd.sub i (clo2 j q (by rw[hj];rfl) h2 h3 i hi hvi)
  refine bV ?_;refine aw ?_;simp only[ai,bh,ah,h11,h12,hlt];refine aC (bU (cL ?_));simp only[bM];refine aC (bL (aw ?_));simp only[ai,ax,bh,ay,aa,ah,h10,h12,hia,aF];refine aC (W.sseq (bH ?_));have hlk:=uV M.hu id;cases hU:look id U with
  |some v=>
   obtain⟨q,v1,v2⟩:=r.val id v hU;rcases v2.out with⟨_,v3⟩|⟨p,_,v3,_⟩
   cases v3;have hat_:at_ id U= .ptr p 0:=by simp only[at_,hU,fq,v3]
   rw[hat_] at hlk;simp only[ai,ax,aA,bh,ay,aa,ah,h0,fB,cO,hx,cN,hlk,iQ,iY,vj];refine bU (dL ?_);show W (QM sp ch) 104 _ _ _ _;refine bH ?_;simp only[ai,aA,bh,aa,ah,h12,hwr];refine go _ s U C r (fun _ h=>h) (fun _=>by rw[hU];rfl) (fun j q h1 h2=>(by rw[h2] at h1;cases h1)) (fun _ _ _ _=>rfl) rfl ?_ ?_ ?_ ?_;simp only[au,aa,h0];simp only[au,aa,h10];simp only[au,aa,h11];simp only[aq,aa]
  |none=>
   have hmg:ee b o t id=none:=by
    cases h:ee b o t id with
    |none=>rfl
    |some q=>
     have:=r.base id (by rw[h];rfl);rw[hU] at this;cases this
   have hval:eN b o t id=fS b o t id:=by simp only[eN,hmg]
   have hat_:at_ id U= .nilp:=by simp only[at_,hU,Option.getD_none]
   rw[hat_] at hlk;have take: ∀(e2:aI) (v:ae),aj e2 6=v->eR s s.al v (fS b o t id)->aj e2 0= .ptr x 0->aj e2 5= .str id->aj e2 10=ob.refsV->aj e2 11= .int .i64 (ob.gE.length:Nat)->aj e2 12= .int .i64 (pre.length:Nat)-> ∀KK:Ex->Fr->St->Prop,
    (∀(e3:aI) (s2:St) (U2:List (ak×ae)) (C2:List Cf),Rn s1 s2 x mb mo mt mu md B O T U2 b o t C2->(∀j,(look j U).isSome=true->(look j U2).isSome=true)->((eN b o t id).isSome=true->(look id U2).isSome=true)->(∀j q,(look j U2).isSome=true->look j U=none->eN b o t j=some q-> ∀i∈q.gE,(eN b o t i).isSome=true->(look i U2).isSome=true)->(∀n,n<s.al->n≠mu->n≠md->s2.get [] n=s.get [] n)->s2.al=s.al->
     aj e3 0= .ptr x 0->aj e3 10=ob.refsV->aj e3 11= .int .i64 (ob.gE.length:Nat)->aj e3 12= .int .i64 (pre.length:Nat)->KK .normal ⟨e3,59,lc⟩ s2)->
    W (QM sp ch) 104 (.seq (.region Qf) (.cond (Operand.tmp 45) (.seq (.region Qg) (.seq (.region Qh) (.region Qe))) .skip)) ⟨e2,59,lc⟩ s KK:=by
    intro e2 v g6 hp g0 g5 g10 g11 g12 KK hKK;refine aw ?_;rcases hp.out with⟨rfl,hq⟩|⟨p,q,rfl,hq,p1,p2,p3⟩
    simp only[ai,bh,ah,g6,iQ,iY,yp];refine dq ?_;refine hKK _ s U C r (fun _ h=>h) (fun h=>?_) (fun j q h1 h2=>(by rw[h2] at h1;cases h1)) (fun _ _ _ _=>rfl) rfl ?_ ?_ ?_ ?_;rw[hval,hq] at h;cases h;simp only[au,aa,g0];simp only[au,aa,g10];simp only[au,aa,g11];simp only[au,aa,g12];have hR:Reach b o t id:=hk.al hv hmem hmg (by rw[hq];rfl);have hup:=AC tn Gk M.hu id (.ptr p 0);obtain⟨s2,hs2⟩: ∃a,a=s.put mu (some (.map (bX 0 (dY id (.ptr p 0) U)) (dY id (.ptr p 0) U).length)):=⟨_,rfl⟩;rw[<-hs2] at hup;have x2:s2.get [] x=some (.cells [.map mb,.map mo,.map mt,.map mu,.map md]):=by rw[hs2,bO,bN.2 (by omega)];exact hx
    have d2:s2.get [] md=some (.map (eI 0 C) C.length):=by rw[hs2,bO,bN.2 (by omega)];exact M.hd
    have hnote:=Cd (sp:=sp) (ch:=ch) hS.h45 x2 d2 id dw;obtain⟨s3,hs3⟩: ∃a,a=s2.put md (some (.map (eI 0 (dh (id,dw) C)) (dh (id,dw) C).length)):=⟨_,rfl⟩;rw[<-hs3] at hnote;have n3:s3.al=s.al:=by rw[hs3,hs2];rfl
    have m3:s3.ge<=s3.al:=by rw[hs3,hs2];exact ji _ _ _ (ji _ _ _ hm)
    have hp':eR s s.al (.ptr p 0) (some q):=.at_ p1 p2 p3;obtain⟨r3,k3⟩:=r.add hU hq hp' hR (s':=s3) (fun n=>by rw[hs3,hs2]) n3 m3;have hname:id∈dg b o t:=Gq (by rw[hq];rfl);have hmeas:=ai0 (v:=.ptr p 0) hname hU;have p3':eR s3 s3.al (.ptr p 0) (some q):=by
     refine .at_ (by omega) ((k3 p ?_ ?_).trans p2) p3;intro e;subst e;rw[M.hu] at p2;cases p2;intro e;subst e;rw[M.hd] at p2;cases p2
    obtain⟨s4,U4,C4,hrun,nd⟩:=ih (tE b o t (dY id (.ptr p 0) U)) (by omega) s3 _ _ id q p r3 (aU _) (.inr hR) (by rw[hval,hq]) p3';simp only[ai,bh,ah,g6,iQ,iY,vj];refine bU (aw ?_);simp only[ai,ax,bh,ay,aa,ah,g0,g5,g6,fB,cO,hx,cN,hup];refine aC (fU (fM 2 ?_));simp only[au,vS,aN,ay,aa,ah,g0,g5];refine fO (g:=187) (args:=[.ptr x 0,.str id,.str dw]) ?_ hnote (by decide) ?_;simp only[ai,callee,aa];rfl;refine fN ?_;simp only[nV,bM];refine fU (fM 2 ?_);simp only[au,vS,aN,ay,aa,ah,g0,g6];refine fO (g:=104) (args:=[.ptr x 0,.ptr p 0]) ?_ hrun (by decide) ?_;simp only[ai,callee,aa];refine fN ?_;simp only[nV];have sub4: ∀j,(look j U).isSome=true->(look j U4).isSome=true:=fun j h=>nd.sub j (by
     rw[od];cases j==id<;>first|rfl|exact h)
    have id4:(look id U4).isSome=true:=nd.sub id (by rw[od,bS];rfl);refine hKK _ s4 U4 C4 nd.rn sub4 (fun _=>id4) (fun j q' h1 h2 h3 i hi hvi=>?_) (fun n h1 h2 h3=>(nd.old n (by omega) h2 h3).trans (k3 n h2 h3)) (nd.al.trans n3) ?_ ?_ ?_ ?_;cases hj:j==id with
    |true=>
     have:=eq_of_beq hj;subst this;rw[hval,hq] at h3;have h3:=sI h3;rw[<-h3] at hi;exact nd.gE i hi hvi
    |false=>exact nd.clo j q' h1 (by rw[od,hj];exact h2) h3 i hi hvi
    simp only[au,aa,g0];simp only[au,aa,g10];simp only[au,aa,g11];simp only[au,aa,g12]
   simp only[ai,ax,aA,bh,ay,aa,ah,h0,fB,cO,hx,cN,hlk,iQ,iY,yp];refine dq ?_;simp only[bM];have lb:=uV M.hb id;have hpb:=(c.pb id).low r.low;have hpo:=(c.po id).low r.low;have hpt:=(c.pt id).low r.low;have cb:=(hpb.pv fun _ _=>rfl).aL;have co:=(hpo.pv fun _ _=>rfl).aL;have ct:=(hpt.pv fun _ _=>rfl).aL;refine aw ?_;simp only[ai,ax,bh,ay,aa,ah,h0,fB,cO,hx,cN,lb];refine aC (aC (bH ?_));rcases hpb.out with⟨eb,qb⟩|⟨p,q,eb,qb,p1,p2,p3⟩
   have lo:=uV (s:=s.top) M.ho id;have lt:=uV (s:=s.top) M.ht id;have hxt:s.top.get [] x=some (.cells [.map mb,.map mo,.map mt,.map mu,.map md]):=hx;have hless:=Sa (ch:=ch) hS.h46 hS.h77 hS.h122 hS.h119 hS.h123 hS.h124 hS.h31 (s:=s.top) (aU _) (hpo.pv (s':=s.top) fun _ _=>rfl) (hpt.pv (s':=s.top) fun _ _=>rfl) (c.vo id).len (c.vt id).len;have hnd:fS b o t id=gS (bc id o) (bc id t):=by simp only[fS,qb]
   have hlv:eR s s.al (sg (at_ id O) (at_ id T) (bc id o) (bc id t)) (fS b o t id):=by
    rw[hnd];exact R8 (hpo.put_map M.hd (by omega) fun _ _ _=>rfl) (hpt.put_map M.hd (by omega) fun _ _ _=>rfl)
   have cl:=(hlv.pv fun _ _=>rfl).aL;simp only[ai,aA,bh,aa,ah,eb,iQ,iY,Ah];refine bU ?_;show W (QM sp ch) 104 (SC.draw BG Qd) _ _ _;rw[show BG=BG.take 12++BG.drop 12 from(oH 12 _).symm];refine W.drawD (WD.calmOps hm (fun _ h=>by cases h) (fun _ h=>by cases h) ?_);simp only[ai,ax,isStore,bh,aN,ay,aa,ah,aG,h0,fB,cO,hxt,cN,lo,lt];intro rs1 hc1 hi1;refine WD.calmCall hm (g:=188) (args:=[at_ id O,at_ id T]) hc1 hi1 ?_ hless (by decide) ?_;simp only[ai,callee,aa,co,ct];intro rs2 hc2 hi2;refine WD.calmOps (l1:=[_]) (l2:=[]) hm hc2 hi2 ?_;simp only[ai,isStore,ay,aa,ah,aG];intro rs3 hc3 hi3;refine WD.nil ?_;simp only[bM];refine take _ _ ?_ hlv ?_ ?_ ?_ ?_ ?_ _ (fun e3 s2 U2 C2 f1 f2 f3 f4 f5 f6 f0 f10 f11 f12=>?_);simp only[aq,aa];simp only[au,aa,h0];simp only[aq,aa];simp only[au,aa,h10];simp only[au,aa,h11];simp only[au,aa,h12];simp only[dA];refine bH ?_;simp only[ai,aA,bh,ah,f12,hwr];refine go _ s2 U2 C2 f1 f2 f3 f4 f5 f6 ?_ ?_ ?_ ?_;simp only[au,aa,f0];simp only[au,aa,f10];simp only[au,aa,f11];simp only[aq,aa];simp only[ai,aA,bh,aa,ah,eb,iQ,iY,Ai];refine dq ?_;simp only[bM];have hnd:fS b o t id=some q:=by simp only[fS,qb]
   have hp:eR s s.al (.ptr p 0) (fS b o t id):=by rw[hnd];exact .at_ (by omega) p2 p3
   refine take _ _ ?_ hp ?_ ?_ ?_ ?_ ?_ _ (fun e3 s2 U2 C2 f1 f2 f3 f4 f5 f6 f0 f10 f11 f12=>?_);simp only[aq,aa];simp only[au,aa,h0];simp only[aq,aa];simp only[au,aa,h10];simp only[au,aa,h11];simp only[au,aa,h12];simp only[dA];refine bH ?_;simp only[ai,aA,bh,ah,f12,hwr];refine go _ s2 U2 C2 f1 f2 f3 f4 f5 f6 ?_ ?_ ?_ ?_;simp only[au,aa,f0];simp only[au,aa,f10];simp only[au,aa,f11];simp only[aq,aa]
include h27
def aj4: ∀N,M7 sp ch s1 x mb mo mt mu md B O T b o t N:=by
 intro N
 induction N using Nat.strongRecOn with
 |ind N ih=>
  intro s U C k q p r hN hk hv hp;rcases hp.out with⟨e,_⟩|⟨p',q',e1,e2,p1,p2,p3⟩
  cases e;have e1:=(ae.ptr.inj e1).1;have e2:=sI e2;subst e1;subst e2;have hcl:=p3.gE.aL;have hlen:=fun mk s=>p3.gE.len dB dH mk s;simp only[Obj.cells] at p2;have h: ∃v s',aM (QM sp ch) 104 [.ptr x 0,.ptr p 0] s v s'/\(v=gG []/\ ∃U' C',Nd s1 s s' x mb mo mt mu md B O T U U' b o t C' q.gE):=by
   refine aM.ofEx DX.1 DX.2 DX.3 DX.4 h27 ?_;refine aw ?_;simp only[ai,ax,bv,bt,bh,gd,ay,aa,ah,aG,aV,ac6,fB,cO,p2,cN,hcl,hlen];refine bL ?_;refine(aj3 hS c (N:=N) (fun M hM=>ih M hM) hk hv p3 q.gE [] _ s U C rfl r hN ?_ ?_ ?_ ?_).mono ?_;simp only[aq,aa];simp only[aq,aa];simp only[aq,aa];simp only[aq,aa];rfl;rintro y fr s' ⟨rfl,U',C',nd⟩;exact⟨.inl rfl,_,⟨[],rfl,rfl⟩,rfl,U',C',nd⟩
  obtain⟨v,s',h1,rfl,U',C',h2⟩:=h;exact⟨s',U',C',h1,h2⟩
end
structure KL (s:St) (lim:Nat) (v:ae) (ks:List ak):Prop where
 aL:v.aL=true
 len: ∀mk s',gD ar mk 25 v s'=some (.int .i64 (ks.length:Nat))
 row: ∀i k,ks[i]? =some k-> ∃rk,rk<lim/\s.get [] rk=some (.cells (ks.map aF))/\ ∀lc,hJ ar lc 25 v (.int .i64 (i:Nat))=some (.ptr rk i)
variable{ks:List ak}
def KL.of{s0:St}(g:pN 1 s0 s v (ks.map aF)):KL s s.al v ks:=by
 rcases g.row with⟨rfl,hx⟩|⟨hne,rk,rfl,hk,h4,h5⟩
 have hk0:ks=[]:=List.map_eq_nil_iff.1 hx;subst hk0;exact⟨rfl,fun mk s'=>dB mk s',fun i k h=>(by simp at h)⟩;rw[zx] at hk;refine⟨rfl,fun mk s'=>by rw[Sd,cZ],fun i k h=>⟨rk,h5,hk,fun lc=>?_⟩⟩;have hlt:i<ks.length:=by
  rcases ix i ks.length with h1|h1
  exact h1;rw[jE h1] at h;cases h
 have hna:eK (.int .i64 (i:Int))=some i:=rfl;have hb:Nat.blt i (ks.map aF).length=true:=Nat.ble_eq_true_of_le (by rw[cZ];exact hlt);rw[PR,hna];simp only[ce,fe,bS,jD,hb,Nat.mul_one,gl]
def KL.keep(k:KL s lim v ks)(hl:lim<=lim')(hg: ∀n cs,n<lim->s.get [] n=some (.cells cs)->s'.get [] n=some (.cells cs)):KL s' lim' v ks:=
 ⟨k.aL,k.len,fun i x h=>let⟨rk,h1,h2,h3⟩:=k.row i x h;⟨rk,by omega,hg rk _ h1 h2,h3⟩⟩
section
variable{sp:bC}{ch:Nat->Nat}
def RX(h26:sp 103=none):aM (QM sp ch) 103 [.map m] s (.func (.func 190) [] [.ptr s.al 0]) (s.new (.cells [.map m])):=by
 refine aM.of2 DW.1 DW.2 DW.3 DW.4 h26 ?_;refine aw ?_;simp only[ai,bv,bt,gd,ah,aV,ac5,ofValue,aX];refine aw ?_;simp only[ai,aa,ah,si];exact bo ⟨rfl,.inr rfl,bz (by simp only[aq,aa]) rfl⟩
def acE(h49:sp 190=none){cb:Nat}{s0:St}{L:List (ak×ae)}(hmw:s0.ge<=s0.al)(hm:m<s0.al)(hcb:cb<s0.al)(hc:s0.get [] cb=some (.cells [.map m]))(hmm:s0.get [] m=some (.map (bX 0 L) L.length))(hL:L.length<=1000000):um (QM sp ch) 1 190 s0 cb (bX 0 L):=by
 intro s bx lo lim lob c ht;refine ahB (Q:=QM sp ch) rfl rfl (ch:=ch) rfl rfl (OP L) (fun i=>by rw[uE];exact hL) h49 rfl rfl hmw hm hcb hc (by rw[uE];exact hmm) c ht fun e he=>?_;have h1:e.key∈(bX 0 L).map (·.key):=dp.2 ⟨e,he,rfl⟩;rw[Bm] at h1;obtain⟨b,_,e2⟩:=dp.1 h1;exact⟨b,e2.symm⟩
structure M9 (sp:bC):Prop where
 s25: ∀n,n=102\/n=189\/n=284\/n=140->sp n=none
 h26:sp 103=none
 h49:sp 190=none
def U6(hS:M9 sp){L:List (ak×ae)}(hm:s.ge<=s.al)(hlt:m<s.al)(hs:s.get [] m=some (.map (bX 0 L) L.length))(hL:L.length<=1000000):
 ∃v s',aM (QM sp ch) 102 [.func (.func 190) [] [.ptr s.al 0]] (s.new (.cells [.map m])) v s'/\KL s' s'.al v (eX (L.map (·.1)))/\(∀n,n<s.al->s'.get [] n=s.get [] n)/\s.al<=s'.al/\s'.ge<=s'.al:=by
 have hg2: ∀n,n<s.al->(s.new (.cells [.map m])).get [] n=s.get [] n:=fun n h=>by rw[cp,bN.2 (by omega)];rfl
 obtain⟨v,s2,hr,hgot⟩:=U5 (Q:=QM sp ch) rfl rfl hS.s25 (fun _=>rfl) (fun n hn=>by rcases hn with rfl|rfl|rfl<;>rfl) rfl (g:=190) (cb:=s.al) (s0:=s.new (.cells [.map m])) (es:=bX 0 L) (ks:=L.map (·.1)) (ky hm) (by rw[uE];omega) (by rw[Bm]) (by kernel_rfl)
  (acE hS.h49 (m:=m) (ky hm) (nQ hlt) (fK _) (by rw[cp,bS];rfl) ((hg2 _ hlt).trans hs) hL)
 have hn:s.al+1<=s2.al:=hgot.al;have h1:=hgot.ge;have h2:(s.new (.cells [.map m])).ge=s.ge:=rfl;exact⟨v,s2,hr,.of hgot,fun n h=>(hgot.old n (nQ h)).trans (hg2 n h),by omega,by omega⟩
end
section
variable{sp:bC}{ch:Nat->Nat}(hS:yX sp)(h27:sp 104=none)
 {s1:St} {x mb mo mt mu md:Nat} {B O T:List (ak×ae)} {b o t:List Obj} (c:AR s1 mu B O T b o t)
include hS h27 c
def XF(hlen:ks.length<=1000000): ∀(rest pre:List ak) (e:aI) (s:St) (U:List (ak×ae)) (C:List Cf),ks=pre++rest->KL s lim v ks->lim<=s.al->Rn s1 s x mb mo mt mu md B O T U b o t C->(∀k∈rest,(look k U).isSome=true)->
 aj e 8= .ptr x 0->aj e 84=v->aj e 85= .int .i64 (ks.length:Nat)->aj e 86= .int .i64 (pre.length:Nat)->
 W (QM sp ch) 47 (.loop RB) ⟨e,132,lc⟩ s fun y fr s'=>y= .exit 4/\ ∃e',fr=⟨e',132,lc⟩/\(aj e' 6=aj e 6/\aj e' 8= .ptr x 0)/\ ∃U' C',Rn s1 s' x mb mo mt mu md B O T U' b o t C'/\(∀j,(look j U).isSome=true->(look j U').isSome=true)/\
   (∀k∈rest, ∀q,eN b o t k=some q-> ∀id∈q.gE,(eN b o t id).isSome=true->(look id U').isSome=true)/\
   (∀j q,(look j U').isSome=true->look j U=none->eN b o t j=some q-> ∀id∈q.gE,(eN b o t id).isSome=true->(look id U').isSome=true)/\s'.al=s.al:=by
 intro rest
 induction rest with
 |nil=>
  intro pre e s U C hpre K hlim r hin h8 h84 h85 h86;have hl:ks.length=pre.length:=by rw[hpre];simp
  refine bV ?_;refine aw ?_;simp only[ai,bh,ah,h85,h86,hl,cR];refine aC (cJ ?_);refine dL ⟨rfl,_,rfl,⟨?_,?_⟩,U,C,r,fun _ h=>h,fun k h=>(by cases h),fun j q h1 h2=>(by rw[h2] at h1;cases h1),rfl⟩;simp only[au,aa];simp only[au,aa,h8]
 |cons k rest ih=>
  intro pre e s U C hpre K hlim r hin h8 h84 h85 h86;have hlt:pre.length<ks.length:=by rw[hpre];simp
  have hat:ks[pre.length]? =some k:=by rw[hpre];simp
  obtain⟨rk,k1,k2,hia⟩:=K.row pre.length k hat;have hcl:=K.aL;have hwr:=eE (n:=pre.length) (by omega);have hrd:((ks.map aF).drop pre.length).head?=some (.str k):=by rw[hpre,je,List.drop_left' (by simp)];rfl
  have M:=r.mg;have hx:=M.hx;obtain⟨u,hu⟩:=rE.1 (hin k (by simp));obtain⟨q,v1,v2⟩:=r.val k u hu;rcases v2.out with⟨_,v3⟩|⟨p,q',rfl,hq',_⟩
  cases v3;have hlk:=uV M.hu k;have hat_:at_ k U= .ptr p 0:=by simp only[at_,hu,fq]
  rw[hat_] at hlk;obtain⟨s2,U2,C2,hrun,nd⟩:=aj4 hS h27 c (ch:=ch) (tE b o t U) s U C k q p r (aU _) (r.new k (by rw[hu];rfl)) v1 v2;have K2:KL s2 lim v ks:=K.keep (aU _) fun n cs h1 h2=>(nd.old n (by omega) (fun e=>by subst e;rw[M.hu] at h2;cases h2) (fun e=>by subst e;rw[M.hd] at h2;cases h2)).trans h2;refine bV ?_;refine aw ?_;simp only[ai,bh,ah,h85,h86,hlt];refine aC (bU (cL ?_));simp only[bM];refine aC (bL (aw ?_));simp only[ai,ax,aa,ah,bh,h84,h86,hia,cO,k2,cN,hrd];refine fU (fM 7 ?_);simp only[ai,ax,bh,aN,ay,aa,ah,h8,fB,cO,hx,cN,hlk];refine fO (g:=104) (args:=[.ptr x 0,.ptr p 0]) ?_ hrun (by decide) ?_;simp only[ai,callee,aa];refine fN ?_;simp only[dA,nV];refine bH ?_;simp only[ai,aA,bh,aa,ah,h86,hwr];refine(ih (pre++[k]) _ s2 U2 C2 (by rw[hpre];simp) K2 (by rw[nd.al];exact hlim) nd.rn (fun j hj=>nd.sub j (hin j (by simp[hj]))) ?_ ?_ ?_ ?_).mono ?_;simp only[au,aa,h8];simp only[au,aa,h84];simp only[au,aa,h85];simp only[aq,cK,aa];rintro y fr s' ⟨rfl,e',rfl,⟨g6,g8⟩,U',C',q1,q2,q3,q4,q5⟩;refine⟨rfl,e',rfl,⟨g6.trans ?_,g8⟩,U',C',q1,fun j h=>q2 j (nd.sub j h),fun j hj q' hq' i hi hvi=>?_,fun j q' h1 h2 h3 i hi hvi=>?_,q5.trans nd.al⟩;simp only[au,aa];rcases cQ.1 hj with rfl|hj
  rw[v1] at hq';have hq':=sI hq';rw[<-hq'] at hi;exact q2 i (nd.gE i hi hvi);exact q3 j hj q' hq' i hi hvi;cases hj:look j U2 with
  |none=>exact q4 j q' h1 hj h3 i hi hvi
  |some w=>exact q2 i (nd.clo j q' (by rw[hj];rfl) h2 h3 i hi hvi)
end
def aj2(r:Rn s1 s x mb mo mt mu md B O T U b o t C)(hc: ∀j q,(look j U).isSome=true->eN b o t j=some q-> ∀id∈q.gE,(eN b o t id).isSome=true->(look id U).isSome=true):
 (∀k,(look k U).isSome=true↔jh b o t k)/\ ∀c,c∈C↔(∃k,c∈kF b o t k)\/ ∃k,Reach b o t k/\c=(k,dw):=by
 have hR: ∀k,Reach b o t k->(look k U).isSome=true:=by
  intro k h
  induction h with
  |of h1 h2 h3 h4=>exact hc _ _ (r.base _ (by rw[h1];rfl)) (by simp only[eN,h1]) _ h2 (by simp only[eN,h3];exact h4)
  |step h0 h1 h2 h3 h4 ih=>exact hc _ _ ih (by simp only[eN,h0.no.1];exact h1) _ h2 (by simp only[eN,h3];exact h4)
 refine⟨fun k=>⟨r.new k,fun h=>h.elim (r.base k) (hR k)⟩,fun c=>?_⟩;rw[r.conf c];constructor;rintro(h|⟨k,h1,h2,h3⟩);exact .inl h;rcases r.new k h1 with h|h
 rw[h2] at h;cases h;exact .inr ⟨k,h,h3⟩;rintro(h|⟨k,h1,h2⟩);exact .inl h;exact .inr ⟨k,hR k h1,h1.no.1,h2⟩
variable{e:aI}
def Iz{x:Operand}{b c d f g:ae}(h:ev e x=some (.agg [a,b,c,d,f,g]))(s:St):cx ar 22 1 [(0,x)] false e s=some (.list 6 [.agg [a,b,c,d,f,g]] .GE,s):=by
 simp only[ce,jR,cx,uD,cS,evc,h,ae.aL,eW,ae.cells,bu,Nat.zero_mul,aG,jg,fW,cut];rfl
variable{ov:ae}
section
variable{sp:bC}{ch:Nat->Nat}
def XM{lo:Nat}{acc:List Obj}{rs1:List dr}{P:Fr->St->Prop}(hi: ∀r∈rs1,r.i<11)(h15:aj e 15= .Ge 15 1 0)(h111:aj e 111=ov)(h120:aj e 120= .list 6 [ob.val] .GE)(g15:lc.gen 15=1)(b15:lc.get 15 1=some [ov])(hO:cE 6 lo s ov (acc.map Obj.val))(hm:s.ge<=s.al)(hlo:lo<=s.al)(hlen:acc.length<=900000)(hk: ∀(ov':ae) (s':St),cE 6 lo s' ov' ((acc++[ob]).map Obj.val)->s'.ge<=s'.al->(∀n,n<lo->s'.get [] n=s.get [] n)->s.al<=s'.al->P ⟨(e.set 121 (some ov')).set 122 (some (.Ge 15 1 0)),132,lc.set 15 1 [ov']⟩ s'):
 WD (QM sp ch) 47 [2047,4095,8191] rs1 11 (BN.drop 11) ⟨e,132,lc⟩ s P:=by
 have hOt:cE 6 lo s.top ov (acc.map Obj.val):=hO;obtain⟨s1,a1,a2,a3,a4,a5,a6⟩:=Ip uD rfl (by decide) (y:=.list 6 [ob.val] .GE) (ys:=[ob.val]) hOt rfl (by simp) (by rw[cZ,List.length_singleton];omega) (aU _);have a4:s1.al=s.al+1:=a4;have hcl:=hO.aL;have hmw:(s.Gt s1).ge<=(s.Gt s1).al:=by
  show(bif Nat.ble s.ge s1.ge then s.ge else s1.ge)<=s1.al;cases Nat.ble s.ge s1.ge with
  |true=>exact fh hm (by omega)
  |false=>exact a5
 have hO2:cE 6 lo (s.Gt s1) (.list 6 (acc.map Obj.val++[ob.val]) (.own s.al)) ((acc++[ob]).map Obj.val):=.inr ⟨by simp,s.al,by rw[je];rfl,a2,hlo,by show s.al<s1.al;omega⟩;have hcl2:=hO2.aL;have hold: ∀n,n<lo->(s.Gt s1).get [] n=s.get [] n:=fun n hn=>a6 n (by show n<s.al;omega) fun k hk'=>by have:=(hO.token hk').1;omega
 refine WD.fullL (v:=.list 6 (acc.map Obj.val++[ob.val]) (.own s.al)) (lc:=lc) (s1:=s1) (fr1:=⟨e.set 121 (some (.list 6 (acc.map Obj.val++[ob.val]) (.own s.al))),132,lc⟩) hi (by decide) rfl ?_ a3 (eM.2 ⟨by decide,rfl⟩) (fun rs2 k2=>?_);simp only[ai,ax,bh,gd,aa,uR,h111,h120,hcl,a1];rfl;refine WD.fullL (v:=.Ge 15 1 0) (lc:=lc) (s1:=(s.Gt s1).top) (fr1:=⟨_,132,lc⟩) k2 (by decide) rfl ?_ rfl (eM.2 ⟨by decide,rfl⟩) (fun rs3 k3=>?_);simp only[ai,ax,bh,aa,h15,g15];rw[lQ hmw];refine WD.fullL (v:=fX) (lc:=lc.set 15 1 [.list 6 (acc.map Obj.val++[ob.val]) (.own s.al)]) (s1:=(s.Gt s1).top) (fr1:=⟨_,132,lc.set 15 1 [.list 6 (acc.map Obj.val++[ob.val]) (.own s.al)]⟩) k3 (by decide) rfl ?_ rfl rfl (fun rs4 k4=>?_);simp only[ai,ax,bh,bu,aN,ay,aa,ah,aV,hcl2,b15];rw[lQ hmw];exact WD.nil (hk _ _ hO2 hmw hold (by show s.al<=s1.al;omega))
def ah4{s0:St}(M:Mg s0 x mb mo mt mu md B O T U C)(K:KL s0 lim v ks)(hlim:lim<=s0.al)(hlen:ks.length<=800000){g:ak->Obj}(hg: ∀k∈ks, ∃p,look k U=some (.ptr p 0)/\p<s0.al/\s0.get [] p=some (.cells (g k).cells)): ∀(rest pre:List ak) (e:aI) (lc:Ag.Loc) (s:St) (ov:ae),ks=pre++rest->cE 6 s0.al s ov ((pre.map g).map Obj.val)->s.ge<=s.al->s0.al<=s.al->(∀n,n<s0.al->s.get [] n=s0.get [] n)->
 aj e 8= .ptr x 0->aj e 15= .Ge 15 1 0->lc.gen 15=1->lc.get 15 1=some [ov]->aj e 104=v->aj e 105= .int .i64 (ks.length:Nat)->aj e 106= .int .i64 (pre.length:Nat)->
 W (QM sp ch) 47 (.loop RC) ⟨e,132,lc⟩ s fun y fr s'=>y= .exit 6/\ ∃e' lc' ov',fr=⟨e',132,lc'⟩/\(aj e' 6=aj e 6/\aj e' 8= .ptr x 0/\aj e' 15= .Ge 15 1 0)/\lc'.gen 15=1/\lc'.get 15 1=some [ov']/\(lc'.gen 6=lc.gen 6/\lc'.get 6 1=lc.get 6 1)/\cE 6 s0.al s' ov' ((ks.map g).map Obj.val)/\s'.ge<=s'.al/\s0.al<=s'.al/\(∀n,n<s0.al->s'.get [] n=s0.get [] n):=by
 intro rest;have hx0:=M.hx;obtain⟨o1,o2,o3,o4,o5,o6⟩:=M.ord
 induction rest with
 |nil=>
  intro pre e lc s ov hpre hO hm hn hold h8 h15 g15 b15 h104 h105 h106;have hl:ks.length=pre.length:=by rw[hpre];simp
  have hpp:pre=ks:=by rw[hpre];simp
  refine bV ?_;refine aw ?_;simp only[ai,bh,ah,h105,h106,hl,cR];refine aC (cJ ?_);rw[hpp] at hO;refine dL ⟨rfl,_,_,ov,rfl,⟨?_,?_,?_⟩,g15,b15,⟨rfl,rfl⟩,hO,hm,hn,hold⟩;simp only[au,aa];simp only[au,aa,h8];simp only[au,aa,h15]
 |cons k rest ih=>
  intro pre e lc s ov hpre hO hm hn hold h8 h15 g15 b15 h104 h105 h106;have hlt:pre.length<ks.length:=by rw[hpre];simp
  have hat:ks[pre.length]? =some k:=by rw[hpre];simp
  obtain⟨rk,k1,k2,hia⟩:=K.row pre.length k hat;have k2:=(hold rk (by omega)).trans k2;have hcl:=K.aL;have hoc:=hO.aL;have hwr:=eE (n:=pre.length) (by omega);have hrd:((ks.map aF).drop pre.length).head?=some (.str k):=by rw[hpre,je,List.drop_left' (by simp)];rfl
  have hx:s.top.get [] x=some (.cells [.map mb,.map mo,.map mt,.map mu,.map md]):=(hold x o6).trans hx0;obtain⟨p,p1,p2,p3⟩:=hg k (by rw[hpre];simp);have hp:s.top.get [] p=some (.cells [.str (g k).id,.int .i64 (g k).uP,.int .i64 (g k).x,.int .i64 (g k).y,(g k).refsV,(g k).tagsV]):=(hold p p2).trans p3;have hus:s.top.get [] mu=some (.map (bX 0 U) U.length):=(hold mu (by omega)).trans M.hu;have hlk:=uV hus k;have hat_:at_ k U= .ptr p 0:=by simp only[at_,p1,fq]
  rw[hat_] at hlk;have hbs: ∀e s,aj e 119= .agg [.str (g k).id,.int .i64 (g k).uP,.int .i64 (g k).x,.int .i64 (g k).y,(g k).refsV,(g k).tagsV]->cx ar 22 1 [(0,.tmp 119)] false e s=some (.list 6 [.agg [.str (g k).id,.int .i64 (g k).uP,.int .i64 (g k).x,.int .i64 (g k).y,(g k).refsV,(g k).tagsV]] .GE,s):=fun e s h=>Iz (by rw[bq,h]) s;refine bV ?_;refine aw ?_;simp only[ai,bh,ah,h105,h106,hlt];refine aC (bU (cL ?_));simp only[bM];refine aC (bL (aw ?_));simp only[ai,ax,aa,ah,bh,h104,h106,hia,cO,k2,cN,hrd];rw[show BN=BN.take 11++BN.drop 11 from(oH 11 _).symm];refine W.drawD (WD.calmOps hm (fun _ h=>by cases h) (fun _ h=>by cases h) ?_);simp only[ai,ax,isStore,bh,gd,cut,aN,ay,aa,ah,aG,h8,h15,g15,b15,fB,cO,hx,hp,cN,hlk,uR,hbs];intro rs1 hc1 hi1;refine XM (acc:=pre.map g) (ob:=g k) hi1 ?_ ?_ ?_ g15 b15 hO hm hn (by rw[cZ];omega) ?_;simp only[au,aa,h15];simp only[aq,aa];simp only[aq,aa];rfl;intro ov2 s2 hO2 hm2 hold2 hn2;simp only[dA];refine bH ?_;simp only[ai,aA,bh,aa,ah,h106,hwr];refine(ih (pre++[k]) _ _ s2 ov2 (by rw[hpre];simp) (by rw[je];exact hO2) hm2 (by omega) (fun n h=>(hold2 n h).trans (hold n h)) ?_ ?_ ?_ ?_ ?_ ?_ ?_).mono ?_;simp only[au,aa,h8];simp only[au,aa,h15];simp only[eZ,aa,cT];simp only[ew,cT,bS];simp only[au,aa,h104];simp only[au,aa,h105];simp only[aq,cK,aa];rintro y fr s' ⟨rfl,e',lc',ov',rfl,⟨w6,w8,w15⟩,q1,q2,⟨q3,q4⟩,q5⟩;refine⟨rfl,e',lc',ov',rfl,⟨w6.trans ?_,w8,w15⟩,q1,q2,⟨q3.trans ?_,q4.trans ?_⟩,q5⟩;simp only[au,aa];simp only[eZ,aa,cF];simp only[ew,aa,cF]
end
structure Ww (s s':St) (b o t:List Obj) (mb mo mt mu md x:Nat):Prop where
 emb:mb=s.al
 emo:mo=mb+1+b.length
 emt:mt=mo+1+o.length
 emu:mu=mt+1+t.length
 emd:md=mu+1
 ex:x=md+1
 al:s'.al=x+1
 ge:s'.ge<=s'.al
 ci:s'.ci=s.ci
 mg:Mg s' x mb mo mt mu md (pT [] (mb+1) b) (pT [] (mo+1) o) (pT [] (mt+1) t) [] []
 ob: ∀(i:Nat) (q:Obj),b[i]? =some q->s'.get [] (mb+1+i)=some (.cells q.cells)
 oo: ∀(i:Nat) (q:Obj),o[i]? =some q->s'.get [] (mo+1+i)=some (.cells q.cells)
 ot: ∀(i:Nat) (q:Obj),t[i]? =some q->s'.get [] (mt+1+i)=some (.cells q.cells)
def j5:Nat->List Obj->List (ak×ae)
 |_,[]=>[]
 |p,o::r=>(o.id,.ptr p 0)::j5 (p+1) r
def Sq(k:ak): ∀(L R:List (ak×ae)),look k (L++R)=(look k L).or (look k R)
 | [],R=>rfl
 |(a,v)::L,R=>by
  simp only[List.cons_append,look];cases k==a with
  |true=>rfl
  |false=>exact Sq k L R
def Dg: ∀(l:List Obj) (L:List (ak×ae)) (p:Nat),(∀o∈l,look o.id L=none)->(l.map (·.id)).Nodup->pT L p l=L++j5 p l
 | [],L,p,_,_=>by simp[pT,j5]
 |o::r,L,p,h,hn=>by
  simp only[dG,uh] at hn;simp only[pT,j5];rw[JU (h o (by simp)),Dg r _ (p+1) (fun q hq=>?_) hn.2,List.append_assoc];rfl;rw[Sq,h q (by simp[hq])];have:(q.id==o.id)=false:=bN.2 fun e=>hn.1 (by rw[<-e];exact dp.2 ⟨q,hq,rfl⟩);simp only[look,this,Option.none_or,cF]
def GW{s:St}{lim:Nat}: ∀(l:List Obj) (p:Nat),(∀(i:Nat) (o:Obj),l[i]? =some o->s.get [] (p+i)=some (.cells o.cells))->(∀o∈l,o.Al)->p+l.length<=lim-> ∀k,eR s lim (at_ k (j5 p l)) (bc k l)
 | [],p,_,_,_,k=>.nil
 |o::r,p,h,hg,hl,k=>by
  simp only[cP] at hl;simp only[at_,j5,look,bc];cases k==o.id with
  |true=>exact .at_ (by omega) (h 0 o rfl) (hg o (by simp))
  |false=>exact GW r (p+1) (fun i q hq=>by rw[show p+1+i=p+(i+1) by omega];exact h (i+1) q (by simpa using hq)) (fun q hq=>hg q (by simp[hq])) (by omega) k
def GV: ∀(l:List Obj) (p:Nat),(j5 p l).length=l.length
 | [],_=>rfl
 |o::l,p=>by simp only[j5,cP,GV l (p+1)]
def Ub: ∀(l:List Obj) (p:Nat),(j5 p l).map (·.1)=l.map (·.id)
 | [],_=>rfl
 |o::l,p=>by simp only[j5,dG,Ub l (p+1)]
variable{vb vo vt:ae}
section
variable{sp:bC}{ch:Nat->Nat}
def aiS(h23:sp 100=none)(hb:aD 6 Obj.val vb b)(ho:aD 6 Obj.val vo o)(ht:aD 6 Obj.val vt t)(sb:b.length<small)(so:o.length<small)(st:t.length<small)(hm:s.ge<=s.al)(h3:aj e 3= .Ge 3 1 0)(_g3:lc.gen 3=1)(b3:lc.get 3 1=some [vb])(h4:aj e 4= .Ge 4 1 0)(_g4:lc.gen 4=1)(b4:lc.get 4 1=some [vo])(h5:aj e 5= .Ge 5 1 0)(_g5:lc.gen 5=1)(b5:lc.get 5 1=some [vt]){K:Fr->St->Prop}(hk: ∀(e':aI) (s':St) (mb mo mt mu md x:Nat),Ww s s' b o t mb mo mt mu md x->aj e' 8= .ptr x 0->aj e' 6=aj e 6->aj e' 7=aj e 7->K ⟨e',132,lc⟩ s'):
 WD (QM sp ch) 47 KB [] 0 RE ⟨e,132,lc⟩ s K:=by
 have cb:=hb.aL;have co:=ho.aL;have ct:=ht.aL;obtain⟨s1,r1,l1⟩:=LC (ch:=ch) h23 hb sb s.top (aU _);have n1:s1.al=s.al+1+b.length:=l1.al;have w1:s1.ge=s.al:=l1.ge
 let sA:=s.Gt s1
 have mA:sA.ge=s.ge:=KO hm (by omega);have nA:sA.al=s.al+1+b.length:=n1;have hA:sA.ge<=sA.al:=by omega
 obtain⟨s2,r2,l2⟩:=LC (ch:=ch) h23 ho so sA.top (aU _);have n2:s2.al=sA.al+1+o.length:=l2.al;have w2:s2.ge=sA.al:=l2.ge
 let sB:=sA.Gt s2
 have mB:sB.ge=sA.ge:=KO hA (by omega);have nB:sB.al=sA.al+1+o.length:=n2;have hB:sB.ge<=sB.al:=by omega
 obtain⟨s3,r3,l3⟩:=LC (ch:=ch) h23 ht st sB.top (aU _);have n3:s3.al=sB.al+1+t.length:=l3.al;have w3:s3.ge=sB.al:=l3.ge
 let sC:=sB.Gt s3
 have mC:sC.ge=sB.ge:=KO hB (by omega);have nC:sC.al=sB.al+1+t.length:=n3;have hC:sC.ge<=sC.al:=by omega
 have gB: ∀n,n<sA.al->sB.get [] n=sA.get [] n:=fun n h=>l2.old n (by show n<sA.al+1;omega) (by show n≠sA.al;omega);have gC: ∀n,n<sB.al->sC.get [] n=sB.get [] n:=fun n h=>l3.old n (by show n<sB.al+1;omega) (by show n≠sB.al;omega);have gF: ∀n v,n<sC.al->(((sC.new (.map [] 0)).new (.map [] 0)).new v).get [] n=sC.get [] n:=fun n v h=>by
  rw[cp,cp,cp];have e1:(n==((sC.new (.map [] 0)).new (.map [] 0)).al)=false:=bN.2 (by show n≠sC.al+1+1;omega);have e2:(n==(sC.new (.map [] 0)).al)=false:=bN.2 (by show n≠sC.al+1;omega);have e3:(n==sC.al)=false:=bN.2 (by omega);rw[e1,e2,e3];rfl
 unfold KB;refine WD.hush (v:=.agg [vb]) (lc:=lc) (s1:=s.top) (fr1:=⟨e.set 33 (some (.agg [vb])),132,lc⟩) (fun _ h=>by cases h) rfl (aU _) rfl (fun mk=>by simp only[ai,ax,bh,cut,aN,ay,h3,b3]) rfl (eM.2 ⟨by decide,rfl⟩) (fun rs1 k1=>?_);rw[lQ hm];refine WD.call (g:=100) (args:=[.agg [vb]]) (v:=.map s.al) (s1:=s1) (fr1:=⟨(e.set 33 (some (.agg [vb]))).set 34 (some (.map s.al)),132,lc⟩) k1 (by decide) rfl (by omega) rfl (fun b=>by simp) (by simp only[ai,callee]) r1 l1.ci (eM.2 ⟨by decide,rfl⟩) (fun rs2 k2=>?_);refine WD.hush (v:=.agg [vo]) (lc:=lc) (s1:=sA.top) (fr1:=⟨((e.set 33 (some (.agg [vb]))).set 34 (some (.map s.al))).set 35 (some (.agg [vo])),132,lc⟩) k2 rfl (aU _) rfl (fun mk=>by simp only[ai,ax,bh,cut,aN,ay,aa,h4,b4];rfl) rfl (eM.2 ⟨by decide,rfl⟩) (fun rs3 k3=>?_);rw[show(s.Gt s1).Gt sA.top=sA from lQ hA];refine WD.call (g:=100) (args:=[.agg [vo]]) (v:=.map sA.al) (s1:=s2) (fr1:=⟨(((e.set 33 (some (.agg [vb]))).set 34 (some (.map s.al))).set 35 (some (.agg [vo]))).set 36 (some (.map sA.al)),132,lc⟩) k3 (by decide) rfl (by omega) rfl (fun b=>by simp) (by simp only[ai,callee,aa]) r2 l2.ci (eM.2 ⟨by decide,rfl⟩) (fun rs4 k4=>?_);refine WD.hush (v:=.agg [vt]) (lc:=lc) (s1:=sB.top) (fr1:=⟨((((e.set 33 (some (.agg [vb]))).set 34 (some (.map s.al))).set 35 (some (.agg [vo]))).set 36 (some (.map sA.al))).set 37 (some (.agg [vt])),132,lc⟩) k4 rfl (aU _) rfl (fun mk=>by simp only[ai,ax,bh,cut,aN,ay,aa,h5,b5];rfl) rfl (eM.2 ⟨by decide,rfl⟩) (fun rs5 k5=>?_);rw[show(sA.Gt s2).Gt sB.top=sB from lQ hB];refine WD.call (g:=100) (args:=[.agg [vt]]) (v:=.map sB.al) (s1:=s3) (fr1:=⟨(((((e.set 33 (some (.agg [vb]))).set 34 (some (.map s.al))).set 35 (some (.agg [vo]))).set 36 (some (.map sA.al))).set 37 (some (.agg [vt]))).set 38 (some (.map sB.al)),132,lc⟩) k5 (by decide) rfl (by omega) rfl (fun b=>by simp) (by simp only[ai,callee,aa]) r3 l3.ci (eM.2 ⟨by decide,rfl⟩) (fun rs6 k6=>?_);refine WD.hush (v:=.map sC.al) (lc:=lc) (s1:=sC.top.new (.map [] 0)) (fr1:=⟨((((((e.set 33 (some (.agg [vb]))).set 34 (some (.map s.al))).set 35 (some (.agg [vo]))).set 36 (some (.map sA.al))).set 37 (some (.agg [vt]))).set 38 (some (.map sB.al))).set 39 (some (.map sC.al)),132,lc⟩) k6 rfl (aU _) rfl (fun mk=>by simp only[LQ,L1,bh,Gj];rfl) rfl (eM.2 ⟨by decide,rfl⟩) (fun rs7 k7=>?_);rw[show(sB.Gt s3).Gt (sC.top.new (.map [] 0))=sC.new (.map [] 0) from KR hC _];have hD:(sC.new (.map [] 0)).ge<=(sC.new (.map [] 0)).al:=ky hC;refine WD.hush (v:=.map (sC.al+1)) (lc:=lc) (s1:=(sC.new (.map [] 0)).top.new (.map [] 0)) (fr1:=⟨(((((((e.set 33 (some (.agg [vb]))).set 34 (some (.map s.al))).set 35 (some (.agg [vo]))).set 36 (some (.map sA.al))).set 37 (some (.agg [vt]))).set 38 (some (.map sB.al))).set 39 (some (.map sC.al))).set 40 (some (.map (sC.al+1))),132,lc⟩) k7 rfl (aU _) rfl (fun mk=>by simp only[LQ,L1,bh,Gj];rfl) rfl (eM.2 ⟨by decide,rfl⟩) (fun rs8 k8=>?_);rw[show(sC.new (.map [] 0)).Gt ((sC.new (.map [] 0)).top.new (.map [] 0))=(sC.new (.map [] 0)).new (.map [] 0) from KR hD _];have hE:((sC.new (.map [] 0)).new (.map [] 0)).ge<=((sC.new (.map [] 0)).new (.map [] 0)).al:=ky hD;refine WD.GE (v:=.agg [.map s.al,.map sA.al,.map sB.al,.map sC.al,.map (sC.al+1)]) (lc:=lc) (s1:=((sC.new (.map [] 0)).new (.map [] 0)).top) (fr1:=⟨((((((((e.set 33 (some (.agg [vb]))).set 34 (some (.map s.al))).set 35 (some (.agg [vo]))).set 36 (some (.map sA.al))).set 37 (some (.agg [vt]))).set 38 (some (.map sB.al))).set 39 (some (.map sC.al))).set 40 (some (.map (sC.al+1)))).set 41 (some (.agg [.map s.al,.map sA.al,.map sB.al,.map sC.al,.map (sC.al+1)])),132,lc⟩) k8 (by decide) rfl (aU _) rfl ?_ rfl (eM.2 ⟨by decide,rfl⟩) (fun rs9 k9=>?_);simp only[ai,ax,bh,bu,aa,aG,aV,cS,Og];rfl;rw[lQ hE];refine WD.fullL (v:=.ptr (sC.al+2) 0) (lc:=lc) (s1:=((sC.new (.map [] 0)).new (.map [] 0)).top.new (.cells [.map s.al,.map sA.al,.map sB.al,.map sC.al,.map (sC.al+1)])) (fr1:=⟨(((((((((e.set 33 (some (.agg [vb]))).set 34 (some (.map s.al))).set 35 (some (.agg [vo]))).set 36 (some (.map sA.al))).set 37 (some (.agg [vt]))).set 38 (some (.map sB.al))).set 39 (some (.map sC.al))).set 40 (some (.map (sC.al+1)))).set 41 (some (.agg [.map s.al,.map sA.al,.map sB.al,.map sC.al,.map (sC.al+1)]))).set 42 (some (.ptr (sC.al+2) 0)),132,lc⟩) (fun r hr=>(k9 r hr).1) (by decide) rfl ?_ rfl (eM.2 ⟨by decide,rfl⟩) (fun rs10 k10=>?_);simp only[ai,gd,aa,uR];rfl;rw[KR hE];have hF:=ky hE;refine WD.fullL (v:=.ptr (sC.al+2) 0) (lc:=lc) (s1:=(((sC.new (.map [] 0)).new (.map [] 0)).new (.cells [.map s.al,.map sA.al,.map sB.al,.map sC.al,.map (sC.al+1)])).top) (fr1:=⟨((((((((((e.set 33 (some (.agg [vb]))).set 34 (some (.map s.al))).set 35 (some (.agg [vo]))).set 36 (some (.map sA.al))).set 37 (some (.agg [vt]))).set 38 (some (.map sB.al))).set 39 (some (.map sC.al))).set 40 (some (.map (sC.al+1)))).set 41 (some (.agg [.map s.al,.map sA.al,.map sB.al,.map sC.al,.map (sC.al+1)]))).set 42 (some (.ptr (sC.al+2) 0))).set 8 (some (.ptr (sC.al+2) 0)),132,lc⟩) k10 (by decide) rfl ?_ rfl (eM.2 ⟨by decide,rfl⟩) (fun rs11 k11=>?_);simp only[aq,GQ,bq,yy,bS,aa];rw[lQ hF];refine WD.nil (hk _ _ s.al sA.al sB.al sC.al (sC.al+1) (sC.al+2) ⟨rfl,nA,nB,nC,rfl,rfl,rfl,hF,?_,⟨?_,?_,?_,?_,?_,?_,hF,by omega,by omega,by omega,by omega,by omega,fK _⟩,?_,?_,?_⟩ (by simp only[aq,aa, *]) (by simp only[au,aa, *]) (by simp only[au,aa, *]));exact(l3.ci.trans (l2.ci.trans l1.ci):_);rw[cp,show(sC.al+2==((sC.new (.map [] 0)).new (.map [] 0)).al)=true from bS _];rfl;rw[gF _ _ (by omega),gC _ (by omega),gB _ (by omega)];exact l1.map;rw[gF _ _ (by omega),gC _ (by omega)];exact l2.map;rw[gF _ _ (by omega)];exact l3.map;rw[cp,cp,cp];have e1:(sC.al==((sC.new (.map [] 0)).new (.map [] 0)).al)=false:=bN.2 (by show sC.al≠sC.al+1+1;omega);have e2:(sC.al==(sC.new (.map [] 0)).al)=false:=bN.2 (by show sC.al≠sC.al+1;omega);rw[e1,e2,bS];rfl;rw[cp,cp];have e1:(sC.al+1==((sC.new (.map [] 0)).new (.map [] 0)).al)=false:=bN.2 (by show sC.al+1≠sC.al+1+1;omega);have e2:(sC.al+1==(sC.new (.map [] 0)).al)=true:=bS _;rw[e1,e2];rfl;intro i q hq;have hi:i<b.length:=by
  rcases ix i b.length with h|h
  exact h;rw[jE h] at hq;cases hq
 rw[gF _ _ (by omega),gC _ (by omega),gB _ (by omega)];exact l1.obj i q hq;intro i q hq;have hi:i<o.length:=by
  rcases ix i o.length with h|h
  exact h;rw[jE h] at hq;cases hq
 rw[gF _ _ (by omega),gC _ (by omega)];exact l2.obj i q hq;intro i q hq;have hi:i<t.length:=by
  rcases ix i t.length with h|h
  exact h;rw[jE h] at hq;cases hq
 rw[gF _ _ (by omega)];exact l3.obj i q hq
end
def uC(l:List ak):List ak:=l.foldl (fun K k=>iW k K) []
def IQ(l:List Cf):List Cf:=l.foldl (fun C c=>dh c C) []
variable{K:List ak}
def ai3{x:ak}:x∈iW k K↔x=k\/x∈K:=by
 unfold iW;cases h:K.elem k with
 |true=>
  have:=sY h;simp only[cT];exact⟨.inr,fun h'=>h'.elim (fun e=>e▸this) id⟩
 |false=>simp only[cF,iE,sZ];exact⟨Or.symm,Or.symm⟩
def NF(h:K.Nodup):(iW k K).Nodup:=by
 unfold iW;cases hk:K.elem k with
 |true=>exact h
 |false=>
  have hn:k ∉ K:=fun hm=>by rw[sV hm] at hk;cases hk
  exact List.nodup_append.2 ⟨h,by simp,fun a ha b hb e=>by simp only[sZ] at hb;subst hb;subst e;exact hn ha⟩
def xF: ∀(l K:List ak),K.Nodup->(l.foldl (fun K k=>iW k K) K).Nodup/\(∀x,x∈l.foldl (fun K k=>iW k K) K↔x∈K\/x∈l)/\(l.foldl (fun K k=>iW k K) K).length<=K.length+l.length
 | [],K,h=>⟨h,fun x=>by simp,aU _⟩
 |k::l,K,h=>by
  obtain⟨h1,h2,h3⟩:=xF l (iW k K) (NF h);refine⟨h1,fun x=>?_,?_⟩;rw[vE,h2,ai3,cQ];constructor;rintro((h|h)|h);exact .inr (.inl h);exact .inl h;exact .inr (.inr h);rintro(h|h|h);exact .inl (.inr h);exact .inl (.inl h);exact .inr h;rw[vE,cP];have h4:(iW k K).length<=K.length+1:=by
   unfold iW;cases K.elem k<;>simp
  omega
def Dt: ∀(l K:List Cf),K.Nodup->(l.foldl (fun C c=>dh c C) K).Nodup/\(∀x,x∈l.foldl (fun C c=>dh c C) K↔x∈K\/x∈l)/\(l.foldl (fun C c=>dh c C) K).length<=K.length+l.length
 | [],K,h=>⟨h,fun x=>by simp,aU _⟩
 |k::l,K,h=>by
  obtain⟨h1,h2,h3⟩:=Dt l (dh k K) (xm h);refine⟨h1,fun x=>?_,?_⟩;rw[vE,h2,sk,cQ];constructor;rintro((h|h)|h);exact .inr (.inl h);exact .inl h;exact .inr (.inr h);rintro(h|h|h);exact .inl (.inr h);exact .inl (.inl h);exact .inr h;rw[vE,cP];have h4:(dh k K).length<=K.length+1:=by
   unfold dh;cases n8 k K<;>simp
  omega
open Classical in
noncomputable def qw(b o t:List Obj):List ak:=(uC (dg b o t)).filter fun k=>decide (jh b o t k)
open Classical in
noncomputable def rR(b o t:List Obj):List Cf:=IQ ((dg b o t).flatMap (kF b o t)++((dg b o t).filter fun k=>decide (Reach b o t k)).map fun k=>(k,dw))
def pn(b o t:List Obj)(k:ak):Obj:=(eN b o t k).getD eP
noncomputable def jH(b o t:List Obj):List Obj:=(eX (qw b o t)).map (pn b o t)
noncomputable def oV(b o t:List Obj):List Cf:=ic (rR b o t)
noncomputable def yx(b o t:List Obj):ae:=.tup [.agg [fv 6 ((jH b o t).map Obj.val)],fv 2 ((oV b o t).map cg)]
def Ld(h:k ∉ dg b o t):kF b o t k=[]/\ee b o t k=none:=by
 simp only[dg,iE,not_or] at h;have nn: ∀ {l:List Obj},k ∉ l.map (·.id)->bc k l=none:=fun {l} hn=>by
  cases ho:bc k l with
  |none=>rfl
  |some q=>exact absurd (yf.1 (by rw[ho];simp)) hn
 exact Oi (nn h.1) (nn h.2.1) (nn h.2.2)
def jh.name(h:jh b o t k):k∈dg b o t:=by
 rcases h with h|h
 exact l9 fun hc=>by rw[(Ld hc).2] at h;cases h
 exact Gq h.no.2
def Gd:k∈qw b o t↔jh b o t k:=by
 unfold qw;rw[uf]
 have:=(xF (dg b o t) [] pJ).2.1 k;simp only[dE];constructor;exact fun h=>h.2;exact fun h=>⟨this.2 (.inr h.name),h⟩
def TS(b o t:List Obj):(qw b o t).Nodup:=List.Nodup.sublist (HH) (xF (dg b o t) [] pJ).1
def alq(b o t:List Obj):(qw b o t).length<=(dg b o t).length:=by
 have h1:=(xF (dg b o t) [] pJ).2.2;have h2:(qw b o t).length<=(uC (dg b o t)).length:=pG _ _;have h3:(uC (dg b o t)).length<=([]:List ak).length+(dg b o t).length:=h1;simp only[fJ] at h3;omega
def SK:c∈rR b o t↔(∃k,c∈kF b o t k)\/ ∃k,Reach b o t k/\c=(k,dw):=by
 unfold rR
 have:=(Dt ((dg b o t).flatMap (kF b o t)++((dg b o t).filter fun k=> @decide (Reach b o t k) (yL _)).map fun k=>(k,dw)) [] pJ).2.1 c;refine Iff.trans this ?_;simp only[rC,false_or,iE,List.mem_flatMap,dp,uf,dE];constructor;rintro(⟨k,_,h⟩|⟨k,⟨_,h⟩,rfl⟩);exact .inl ⟨k,h⟩;exact .inr ⟨k,h,rfl⟩;rintro(⟨k,h⟩|⟨k,h,rfl⟩);exact .inl ⟨k,l9 fun hc=>(by rw[(Ld hc).1] at h;cases h),h⟩;exact .inr ⟨k,⟨Gq h.no.2,h⟩,rfl⟩
def OH(b o t:List Obj):(rR b o t).Nodup:=(Dt _ [] pJ).1
def De(k:Cf)(C:List Cf):(dh k C).length<=C.length+1:=by
 unfold dh;cases n8 k C<;>simp
def VB{id:ak}: ∀(ks:List ak) (C:List Cf),(m8 id ks C).length<=C.length+ks.length
 | [],C=>aU _
 |k::ks,C=>by
  have h1:m8 id (k::ks) C=m8 id ks (dh (id,jm k) C):=rfl;have h2:=VB (id:=id) ks (dh (id,jm k) C);have h3:=De (id,jm k) C;rw[h1,cP];omega
def lB.sixty(h:lB p): ∀o,p=some o->o.gT.length<=60:=fun o ho=>by
 have h1:=h o ho;simp only[cY,bA,dE] at h1;omega
def Y9(vb:lB (bc k b))(vo:lB (bc k o))(vt:lB (bc k t)):(kF b o t k).length<=400:=by
 have h1:=vb.sixty;have h2:=vo.sixty;have h3:=vt.sixty;unfold kF fR;cases cU (bc k o) (bc k t)||cU (bc k t) (bc k b) with
 |true=>simp
 |false=>
  cases cU (bc k o) (bc k b) with
  |true=>simp
  |false=>
   have hC:=De (k,dw) [];simp only[fJ] at hC;simp only[cF];split;rename_i q1 q2 q3 e1 e2 e3;cases aK q2.uP q1.uP&&aK q3.uP q1.uP with
   |false=>simp only[cF];omega
   |true=>
    simp only[cT,qN];have h4:=VB (id:=q1.id) (iu q1.gT q2.gT q3.gT).2 (nl q1 q2 q3 (kN q1 q2 q3 []));have h5:=(CJ q1.gT q2.gT q3.gT).2;have h6:(nl q1 q2 q3 (kN q1 q2 q3 [])).length<=2:=by
     have h7:(kN q1 q2 q3 []).length<=1:=by
      unfold kN;cases ia q1 q2 q3 with
      |none=>exact De _ []
      |some _=>exact Nat.zero_le _
     unfold nl;cases lp (q1.x,q1.y) (q2.x,q2.y) (q3.x,q3.y) with
     |true=>have:=De (q1.id,sP) (kN q1 q2 q3 []);simp only[cT];omega
     |false=>simp only[cF];omega
    have a1:=h1 q1 e1;have a2:=h2 q2 e2;have a3:=h3 q3 e3;omega
   omega
def O9{α β:Type}{n:Nat}{f:α->List β}: ∀(l:List α),(∀a∈l,(f a).length<=n)->(l.flatMap f).length<=n*l.length
 | [],_=>Nat.zero_le _
 |a::l,h=>by
  have ih:=O9 l fun b hb=>h b (by simp[hb]);have h1:=h a (by simp);rw[List.flatMap_cons,dX,cP,Nat.mul_succ];omega
def OG(vb: ∀k,lB (bc k b))(vo: ∀k,lB (bc k o))(vt: ∀k,lB (bc k t)):(rR b o t).length<=401*(dg b o t).length:=by
 have h1:=(Dt ((dg b o t).flatMap (kF b o t)++((dg b o t).filter fun k=> @decide (Reach b o t k) (yL _)).map fun k=>(k,dw)) [] pJ).2.2;have h2:=O9 (f:=kF b o t) (dg b o t) fun k _=>Y9 (vb k) (vo k) (vt k);have h3:(((dg b o t).filter fun k=> @decide (Reach b o t k) (yL _)).map fun k=>(k,dw)).length<=(dg b o t).length:=by
  rw[cZ];exact pG _ _
 rw[dX,fJ] at h1;unfold rR IQ;refine fh h1 ?_;omega
def On: ∀l:List (ak×ak),fW (!aJ 2 1) 2 l.length (bB (l.map cg))=some (l.map cg)
 | []=>rfl
 |a::l=>by
  have ih:=On l;have h1:bB ((a::l).map cg)= .str a.1:: .str a.2::bB (l.map cg):=rfl;rw[h1];simp only[cP,dG];show(bif(!aJ 2 1) then _ else _)=_;have h2:cut (ae.str a.1::ae.str a.2::bB (l.map cg)) 0 2=some [.str a.1,.str a.2]:=rfl;rw[h2];simp only[bn,List.drop_succ_cons,pF,ih];rfl
def acb{s0:St}{l:List (ak×ak)}(g:pN 2 s0 s v (l.map cg)):cj s.heap 3 v=some (fv 2 (l.map cg)):=by
 rcases g.row with⟨rfl,hx⟩|⟨hne,k,rfl,hk,_⟩
 rw[hx];rfl;have hk':s.heap.get k=some (.cells (bB (l.map cg))):=hk;have hlen:=Bt l;have hcut:cut (bB (l.map cg)) 0 ((l.map cg).length*2)=some (bB (l.map cg)):=by
  simp only[cut,pF,cZ,<-hlen,List.take_length,fe,bS,cT]
 have hself:de (cj s.heap 2) (bB (l.map cg))=some (bB (l.map cg)):=uJ fun v hv=>by
  have: ∀(l:List (ak×ak)), ∀v∈bB (l.map cg), ∃b:ak,v= .str b:=by
   intro l
   induction l with
   |nil=>intro v hv;cases hv
   |cons a l ih=>
    intro v hv;have h1:bB ((a::l).map cg)= .str a.1:: .str a.2::bB (l.map cg):=rfl;rw[h1] at hv;rcases cQ.1 hv with rfl|hv
    exact⟨_,rfl⟩;rcases cQ.1 hv with rfl|hv
    exact⟨_,rfl⟩;exact ih v hv
  obtain⟨b,rfl⟩:=this l v hv;rfl
 have h0: ∀n:Nat,cj s.heap 3 (.arr 2 k 0 n n)=(match s.heap.get k with
  |some (.cells cs)=>(cut cs 0 (n*2)).bind fun c=>(de (cj s.heap 2) c).bind fun c'=>(fW (!aJ 2 1) 2 n c').bind fun xs=>some (.list 2 xs .no)
  |_=>none):=fun _=>rfl
 rw[h0,hk'];simp only[hcut,bn,hself];rw[cZ,On];simp only[bn];cases l with
 |nil=>exact absurd rfl hne
 |cons a l=>rfl
def IY: ∀(C:List Cf) (n:Nat),(eI n C).map (·.key)=C.map cg
 | [],_=>rfl
 |c::C,n=>by
  simp only[eI,dG,IY C (n+1)];rfl
def Bl: ∀(C:List Cf) (n:Nat),(eI n C).length=C.length
 | [],_=>rfl
 |c::C,n=>by simp only[eI,cP,Bl C (n+1)]
def IX: ∀(C:List Cf) (n:Nat),(eI n C).map (·.born)=yR n C.length
 | [],_=>rfl
 |c::C,n=>by simp only[eI,dG,IX C (n+1),cP,xb]
def aaa(C:List Cf):CV (eI 0 C):=by
 refine⟨fun e he=>?_,by rw[IX];exact List.nodup_range'⟩;have h1:e.born∈(eI 0 C).map (·.born):=dp.2 ⟨e,he,rfl⟩;rw[IX,List.mem_range'_1] at h1;rw[Bl];omega
section
variable{sp:bC}{ch:Nat->Nat}
def ahz(h29:sp 106=none):aM (QM sp ch) 106 [.map m] s (.func (.func 193) [] [.ptr s.al 0]) (s.new (.cells [.map m])):=by
 refine aM.of2 DZ.1 DZ.2 DZ.3 DZ.4 h29 ?_;refine aw ?_;simp only[ai,bv,bt,gd,ah,aV,ac7,ofValue,aX];refine aw ?_;simp only[ai,aa,ah,si];exact bo ⟨rfl,.inr rfl,bz (by simp only[aq,aa]) rfl⟩
def anS(s28: ∀n,n=105\/n=191\/n=285\/n=192->sp n=none)(h52:sp 193=none)(hm:s.ge<=s.al)(hlt:m<s.al)(hs:s.get [] m=some (.map (eI 0 C) C.length))(hC:C.length<=1000000):
 ∃v s',aM (QM sp ch) 105 [.func (.func 193) [] [.ptr s.al 0],.func (.func 107) [] []] (s.new (.cells [.map m])) v s'/\pN 2 (s.new (.cells [.map m])) s' v ((ic C).map cg):=by
 have hg2: ∀n,n<s.al->(s.new (.cells [.map m])).get [] n=s.get [] n:=fun n h=>by rw[cp,bN.2 (by omega)];rfl
 have hgv:um (QM sp ch) 2 193 (s.new (.cells [.map m])) s.al (eI 0 C):=by
  intro s' bx lo lim lob c ht;refine ahD (Q:=QM sp ch) rfl rfl (ch:=ch) rfl rfl (aaa C) (fun i=>by rw[Bl];exact hC) h52 rfl rfl (m:=m) (ky hm) (nQ hlt) (fK _) (by rw[cp,bS];rfl) (by rw[Bl];exact(hg2 m hlt).trans hs) c ht fun e he=>?_;have h1:e.key∈(eI 0 C).map (·.key):=dp.2 ⟨e,he,rfl⟩;rw[IY] at h1;obtain⟨b,_,e2⟩:=dp.1 h1;exact⟨b.1,b.2,e2.symm⟩
 obtain⟨v,s2,hr,l,hl,hgot⟩:=anR (Q:=QM sp ch) rfl rfl s28 (fun _=>rfl) (fun n hn=>by rcases hn with rfl|rfl|rfl<;>rfl) rfl (g:=193) (cb:=s.al) (s0:=s.new (.cells [.map m])) (es:=eI 0 C) (ks:=C) (ky hm) (by rw[Bl];exact hC) (by rw[IY]) (by kernel_rfl) hgv;rw[UZ hl] at hgot;exact⟨v,s2,hr,hgot⟩
end
def Yw{x y z:Operand}{a b c:Nat}(hx:ev e x=some (.map a))(hy:ev e y=some (.map b))(hz:ev e z=some (.map c))(s:St):cx ar 150 3 [(0,x),(1,y),(2,z)] false e s=some (.list 1 [.map a,.map b,.map c] .GE,s):=by
 simp only[ce,jR,cx,Z3,cS,evc,hx,hy,hz,ae.aL,eW,ae.cells,bu,Nat.zero_mul,aG,jg,fW,cut];rfl
def G8{Q:bF}(hP:Q.P=ar){t u:Tmp}{w:ae}(h:aj e t= .Ge t 1 0)(hl:lc.get t 1=some [ov])(hu:aj e u=w)(hw:w.aL=true): ∃vs,bW Q [] ⟨e,n,lc⟩ s [.cell t 24,.tmp u]=some vs/\gG vs= .tup [.agg [ov],w]:=by
 refine⟨[.agg [ov],w],?_,rfl⟩;simp only[ai,ax,bW,dy,h,hP,hl,cut,aN,evc,ev,hu,hw]
def Tq: ∀(l:List Obj) (last:ak),mX last l=true-> ∀q∈l,cY q.gT=true
 | [],_,_,q,h=>by cases h
 |o::r,last,h,q,hq=>by
  simp only[mX] at h;cases hb: !ef o||Ag.leBytes o.id last with
  |true=>rw[hb] at h;cases h
  |false=>
   rw[hb] at h;rcases cQ.1 hq with rfl|hq
   have hv:ef q=true:=by
    cases hv:ef q with
    |true=>rfl
    |false=>rw[hv] at hb;cases hb
   unfold ef at hv;cases hh:kI q with
   |true=>rw[hh] at hv;cases hv
   |false=>
    unfold kI at hh;simp only[Bool.or_eq_false_iff,Bool.not_eq_false'] at hh;exact hh.1.1.2
   exact Tq r o.id h q hq
structure pP (b o t:List Obj):Prop where
 vb:gU b=true
 vo:gU o=true
 vt:gU t=true
 gb: ∀q∈b,q.Al
 go: ∀q∈o,q.Al
 gt: ∀q∈t,q.Al
 lb:b.length<=300
 lo:o.length<=300
 lt:t.length<=300
def uY{l:List Obj}(h:gU l=true)(k:ak):lB (bc k l):=by
 intro q hq;simp only[gU,bA] at h;exact Tq l [] h.1 q (iO hq).1
def Rn.grow(r:Rn s1 s x mb mo mt mu md B O T U b o t C)(hg: ∀n,n<s.al->s'.get [] n=s.get [] n)(hn:s.al<=s'.al)(hm:s'.ge<=s'.al):Rn s1 s' x mb mo mt mu md B O T U b o t C:=by
 obtain⟨o1,o2,o3,o4,o5,o6⟩:=r.mg.ord;refine⟨r.mg.grow ((hg md (by omega)).trans r.mg.hd) (fun n h _=>hg n h) hn hm,fun n h=>(hg n (by omega)).trans (r.low n h),fun k v h=>?_,r.base,r.new,r.nd,r.cnd,r.conf⟩;obtain⟨q,h1,h2⟩:=r.val k v h;exact⟨q,h1,h2.keep r.mg.hd hn fun n a _=>hg n a⟩
def B0:(look k U).isSome=true↔k∈U.map (·.1):=by
 rw[F4];exact⟨sY,sV⟩
def Rn.perm(r:Rn s1 s x mb mo mt mu md B O T U b o t C)(h: ∀k,(look k U).isSome=true↔jh b o t k):(U.map (·.1)).Perm (qw b o t):=
 (CU r.nd (TS b o t)).2 fun k=>by rw[<-B0,h,Gd]
def Rn.len(r:Rn s1 s x mb mo mt mu md B O T U b o t C)(hi:pP b o t):U.length<=900:=by
 have h1: ∀k∈U.map (·.1),k∈uC (dg b o t):=fun k hk=>((xF (dg b o t) [] pJ).2.1 k).2 (.inr (r.new k (B0.2 hk)).name);have h2:((uC (dg b o t)).filter fun k=>(U.map (·.1)).elem k).Perm (U.map (·.1)):=(CU (List.Nodup.sublist HH (xF (dg b o t) [] pJ).1) r.nd).2 fun k=>by
  rw[uf];exact⟨fun h=>sY h.2,fun h=>⟨h1 k h,sV h⟩⟩
 have h3:=h2.length_eq;have h4:((uC (dg b o t)).filter fun k=>(U.map (·.1)).elem k).length<=(uC (dg b o t)).length:=pG _ _;have h5:(uC (dg b o t)).length<=([]:List ak).length+(dg b o t).length:=(xF (dg b o t) [] pJ).2.2;have h6:(dg b o t).length=b.length+(o.length+t.length):=by simp[dg]
 have:=hi.lb
 have:=hi.lo
 have:=hi.lt;rw[cZ] at h3;simp only[fJ] at h5;omega
structure MZ (sp:bC):Prop where
 m:yX sp
 s:M9 sp
 h9:sp 47=none
 h13:sp 31=some uW
 h23:sp 100=none
 h27:sp 104=none
 h29:sp 106=none
 h52:sp 193=none
 s28: ∀n,n=105\/n=191\/n=285\/n=192->sp n=none
section
variable{sp:bC}{ch:Nat->Nat}
def ajp(hA:MZ sp)(hb:aD 6 Obj.val vb b)(ho:aD 6 Obj.val vo o)(ht:aD 6 Obj.val vt t)(hi:pP b o t)(hm:s.ge<=s.al):
 ∃v s',aM (QM sp ch) 47 [.agg [vb],.agg [vo],.agg [vt]] s v s'/\dP s'.heap v (yx b o t):=by
 have cb:=hb.aL;have co:=ho.aL;have ct:=ht.aL;have hsm:=fg;have lb:=hi.lb;have lo:=hi.lo;have lt:=hi.lt;have h13:=hA.h13;have hvb:=zN hb hi.gb (by omega);have hvo:=zN ho hi.go (by omega);have hvt:=zN ht hi.gt (by omega);rw[hi.vb] at hvb;rw[hi.vo] at hvo;rw[hi.vt] at hvt;refine aM.ofEx wx.1 wx.2 wx.3 wx.4 hA.h9 ?_;refine aw ?_;simp only[ai,ax,bv,bt,bh,gd,aa,ah,aG,aV,uR,ofValue,aX];refine aC (aw ?_);simp only[ai,ax,bh,uq,cut,aN,ay,aa,ah,h13,hvb,hvo,hvt];refine dq ?_;simp only[bM];refine aC (W.drawD (aiS hA.h23 hb ho ht (by omega) (by omega) (by omega) hm (by simp only[aq,aa, *]) ?_ ?_ (by simp only[aq,aa, *]) ?_ ?_ (by simp only[aq,aa, *]) ?_ ?_ ?_));simp only[cz,gi,eZ,aa];simp only[cz,ew,aa];simp only[cz,gi,eZ,aa];simp only[cz,ew,aa];simp only[cz,gi,eZ,aa];simp only[cz,ew,aa];intro e1 s1 mb mo mt mu md x M h8 h6 _;simp only[bM];have eB:pT [] (mb+1) b=j5 (mb+1) b:=by simpa using Dg b [] (mb+1) (fun _ _=>rfl) (JQ hi.vb)
 have eO:pT [] (mo+1) o=j5 (mo+1) o:=by simpa using Dg o [] (mo+1) (fun _ _=>rfl) (JQ hi.vo)
 have eT:pT [] (mt+1) t=j5 (mt+1) t:=by simpa using Dg t [] (mt+1) (fun _ _=>rfl) (JQ hi.vt)
 have mg:=M.mg;rw[eB,eO,eT] at mg;have q1:=M.emb;have q2:=M.emo;have q3:=M.emt;have q4:=M.emu;have q5:=M.emd;have q6:=M.ex;have q7:=M.al;have vb':=uY hi.vb;have vo':=uY hi.vo;have vt':=uY hi.vt;have ctx:AR s1 mu (j5 (mb+1) b) (j5 (mo+1) o) (j5 (mt+1) t) b o t:=⟨GW b _ M.ob hi.gb (by omega),GW o _ M.oo hi.go (by omega),GW t _ M.ot hi.gt (by omega),vb',vo',vt'⟩;have rs:Rs s1 s1 x mb mo mt mu md (j5 (mb+1) b) (j5 (mo+1) o) (j5 (mt+1) t) [] b o t (fun _=>False) []:=⟨mg,fun _ _=>rfl,fun k v h=>(by cases h),fun k=>⟨fun h=>(by cases h),fun h=>h.1.elim⟩,pJ,pJ,fun c=>⟨fun h=>(by cases h),fun⟨_,h,_⟩=>h.elim⟩⟩;have h6:aj e1 6= .Ge 6 1 0:=h6.trans (by simp only[aq,aa, *]);have hx:s1.top.get [] x=_:=mg.hx;have hbs: ∀e s,aj e 46= .map mb->aj e 50= .map mo->aj e 54= .map mt->cx ar 150 3 [(0,.tmp 46),(1,.tmp 50),(2,.tmp 54)] false e s=some (.list 1 [.map mb,.map mo,.map mt] .GE,s):=fun e s p q r=>Yw (by rw[bq,p]) (by rw[bq,q]) (by rw[bq,r]) s;refine aC (lD M.ge ?_);simp only[ai,ax,isStore,bh,gd,ay,aa,ah,aG,uR,h8,fB,cO,hx,cN,hbs];refine bL ?_;refine(alr hA.m ctx (ms:=[(mb,j5 (mb+1) b),(mo,j5 (mo+1) o),(mt,j5 (mt+1) t)]) (rt:=.GE) (by simp) ?_ _ [] _ _ [] (fun _=>False) [] rfl rs ?_ ?_ ?_ ?_).mono ?_;intro p hp;simp only[cQ,rC,or_false] at hp;rcases hp with rfl|rfl|rfl
 exact⟨by show mb<mu;omega,by rw[GV];omega,mg.hb⟩;exact⟨by show mo<mu;omega,by rw[GV];omega,mg.ho⟩;exact⟨by show mt<mu;omega,by rw[GV];omega,mg.ht⟩;simp only[au,aa,h8];simp only[aq,aa,dG,List.map_nil];simp only[aq,aa];rfl;simp only[aq,aa];rfl;rintro y fr s2 ⟨rfl,e2,rfl,⟨g6,g8⟩,U,C,rs2⟩;have g6:aj e2 6= .Ge 6 1 0:=g6.trans (by simp only[au,aa,h6]);have rn2:=rs2.rn fun k=>by
  simp only[false_or,cQ,rC,or_false,exists_eq_or_imp,exists_eq_left,Ub,dg,iE]
 show W (QM sp ch) 47 _ _ _ _;have hx2:=rn2.mg.hx;obtain⟨o1,o2,o3,o4,o5,o6⟩:=rn2.mg.ord;have l2:=rn2.len hi;obtain⟨kv,s3,hsort,K3,old3,n3,m3⟩:=U6 (ch:=ch) hA.s rn2.mg.ge (by omega:mu<s2.al) rn2.mg.hu (by omega);have hk3:=(lr (U.map (·.1))).length_eq;rw[cZ] at hk3;have rn3:=rn2.grow old3 n3 m3;have kc3:=K3.aL;have kl3:=K3.len;refine aC (aC (fU (fM 4 ?_)));simp only[ai,ax,bh,aN,ay,aa,ah,g8,fB,cO,hx2,cN];refine fO (g:=103) (args:=[.map mu]) ?_ (RX hA.s.h26) (by decide) ?_;simp only[ai,callee,aa];refine fO (g:=102) (args:=[.func (.func 190) [] [.ptr s2.al 0]]) ?_ hsort (by decide) ?_;simp only[ai,callee,aa];refine fN ?_;simp only[ai,aA,bh,gd,aa,ah,uR,kc3,kl3];refine bL ?_;have hks3:(eX (U.map (·.1))).length<=1000000:=by omega
 refine(XF hA.m hA.h27 ctx hks3 (eX (U.map (·.1))) [] _ s3 U C rfl K3 (aU _) rn3 (fun k hk=>B0.2 ((lr _).mem_iff.1 hk)) ?_ ?_ ?_ ?_).mono ?_;simp only[au,aa,g8];simp only[aq,aa];simp only[aq,aa];simp only[aq,aa];rfl;rintro y fr s4 ⟨rfl,e4,rfl,⟨f6,f8⟩,U4,C4,rn4,sub4,ref4,clo4,n4⟩;have f6:aj e4 6= .Ge 6 1 0:=f6.trans (by simp only[au,aa,g6]);obtain⟨hdom,hconf⟩:=aj2 rn4 fun j q h1 h2 id h3 h4=>by
  cases hj:look j U with
  |none=>exact clo4 j q h1 hj h2 id h3 h4
  |some v=>exact ref4 j ((lr _).mem_iff.2 (B0.1 (by rw[hj];rfl))) q h2 id h3 h4
 have hperm:=rn4.perm hdom;have hx4:=rn4.mg.hx;obtain⟨p1,p2,p3,p4,p5,p6⟩:=rn4.mg.ord;have l4:=rn4.len hi;obtain⟨kw,s5,hsort5,K5,old5,n5,m5⟩:=U6 (ch:=ch) hA.s rn4.mg.ge (by omega:mu<s4.al) rn4.mg.hu (by omega);have hkeys:eX (U4.map (·.1))=eX (qw b o t):=UY hperm;have hk5:=(lr (U4.map (·.1))).length_eq;rw[cZ] at hk5;have rn5:=rn4.grow old5 n5 m5;have kc5:=K5.aL;have kl5:=K5.len;show W (QM sp ch) 47 _ _ _ _;refine aw ?_;simp only[ai,ax,bh,gd,aa,ah,uR];refine aC (aC (fU (fM 4 ?_)));simp only[ai,ax,bh,aN,ay,aa,ah,f8,fB,cO,hx4,cN];refine fO (g:=103) (args:=[.map mu]) ?_ (RX hA.s.h26) (by decide) ?_;simp only[ai,callee,aa];refine fO (g:=102) (args:=[.func (.func 190) [] [.ptr s4.al 0]]) ?_ hsort5 (by decide) ?_;simp only[ai,callee,aa];refine fN ?_;simp only[ai,aA,bh,gd,aa,ah,uR,kc5,kl5];refine bL ?_;have hgood: ∀k∈eX (U4.map (·.1)), ∃p,look k U4=some (.ptr p 0)/\p<s5.al/\s5.get [] p=some (.cells (pn b o t k).cells)/\(pn b o t k).Al:=by
  intro k hk;obtain⟨v,hv⟩:=rE.1 (B0.2 ((lr _).mem_iff.1 hk));obtain⟨q,a1,a2⟩:=rn5.val k v hv;rcases a2.out with⟨_,h⟩|⟨p,q',rfl,a3,a4,a5,a6⟩
  cases h;have a3:=sI a3;have:pn b o t k=q':=by rw[pn,a1,a3];rfl
  rw[this];exact⟨p,hv,a4,a5,a6⟩
 have hks5:(eX (U4.map (·.1))).length<=800000:=by omega
 refine(ah4 rn5.mg K5 (aU _) hks5 (g:=pn b o t) (fun k hk=>let⟨p,a,b,c,_⟩:=hgood k hk;⟨p,a,b,c⟩) (eX (U4.map (·.1))) [] _ _ s5 .AL rfl (.inl ⟨rfl,rfl⟩) m5 (aU _) (fun _ _=>rfl) ?_ ?_ ?_ ?_ ?_ ?_ ?_).mono ?_;simp only[au,aa,f8];simp only[aq,aa];simp only[cz,gi,eZ,aa];simp only[cz,ew,aa,bS];simp only[aq,aa];simp only[aq,aa];simp only[aq,aa];rfl;rintro y fr s6 ⟨rfl,e6,lc6,ov,rfl,⟨w6,w8,w15⟩,lg15,lb15,⟨lg6,lb6⟩,hO,m6,n6,old6⟩;have w6:aj e6 6= .Ge 6 1 0:=w6.trans (by simp only[au,aa,f6]);obtain⟨r1,r2,r3,r4,r5,r6⟩:=rn5.mg.ord;have hx6:s6.get [] x=some (.cells [.map mb,.map mo,.map mt,.map mu,.map md]):=(old6 x r6).trans rn5.mg.hx;have hd6:s6.get [] md=some (.map (eI 0 C4) C4.length):=(old6 md (by omega)).trans rn5.mg.hd;have hCperm:C4.Perm (rR b o t):=(CU rn4.cnd (OH b o t)).2 fun c=>by rw[hconf,SK]
 have hClen:C4.length<=1000000:=by
  have h1:=hCperm.length_eq;have h2:=OG vb' vo' vt';have h3:(dg b o t).length=b.length+(o.length+t.length):=by simp[dg]
  omega
 have hCs:ic C4=oV b o t:=UZ hCperm;obtain⟨cv,s7,hsort7,hgot⟩:=anS (ch:=ch) hA.s28 hA.h52 m6 (by omega:md<s6.al) hd6 hClen;have cc7:=hgot.aL;have hoc:=hO.aL;have hoce:ov.cells=[ov]:=by rcases hO with⟨rfl,_⟩|⟨_,k,rfl,_⟩<;>rfl
 show W (QM sp ch) 47 _ _ _ _;refine aC (fU (fM 4 ?_));simp only[ai,ax,bh,aN,ay,aa,ah,w8,fB,cO,hx6,cN];refine fO (g:=106) (args:=[.map md]) ?_ (ahz hA.h29) (by decide) ?_;simp only[ai,callee,aa];refine fO (g:=105) (args:=[.func (.func 193) [] [.ptr s6.al 0],.func (.func 107) [] []]) ?_ hsort7 (by decide) ?_;simp only[ai,callee,aa];refine fN ?_;simp only[ai,aA,aa,ah];refine aw ?_;have g6':lc6.gen 6=1:=lg6.trans (by simp only[cz,gi,eZ,aa]);simp only[ai,ax,bh,cut,bu,aN,ay,aa,ah,aV,w6,w15,lb15,lb6];have hmg:(jH b o t)=(eX (U4.map (·.1))).map (pn b o t):=by rw[jH,hkeys]
 have f1:cj s7.heap 7 ov=some (fv 6 ((jH b o t).map Obj.val)):=by
  rw[hmg];exact uL hO (k:=6) fun v hv=>by
   obtain⟨q,hq,rfl⟩:=dp.1 hv;obtain⟨k,hk,rfl⟩:=dp.1 hq;obtain⟨_,_,_,_,hgd⟩:=hgood k hk;exact DF _ hgd 2
 have f2:cj s7.heap 8 cv=some (fv 2 ((oV b o t).map cg)):=by
  rw[<-hCs];exact xK _ _ _ _ (xK _ _ _ _ (xK _ _ _ _ (xK _ _ _ _ (xK _ _ _ _ (acb hgot)))))
 refine bo ⟨.inr rfl,.tup [.agg [ov],cv],G8 rfl (ov:=ov) (w:=cv) ?_ ?_ ?_ cc7,9,?_⟩;simp only[au,aa,w6];simp only[ew,bS,cT];simp only[aq,aa];show(de (cj s7.heap 8) [.agg [ov],cv]).bind (fun r=>some (ae.tup r))=_;have f3:cj s7.heap 8 (.agg [ov])=some (.agg [fv 6 ((jH b o t).map Obj.val)]):=by
  show(de (cj s7.heap 7) [ov]).bind (fun r=>some (ae.agg r))=_;simp only[de,f1,bn]
 simp only[de,f3,f2,bn,yx]
end
def Nt:du:=[(31,uW),(279,wH),(108,sJ),(75,ve),(280,wR),(282,yE),(378,wC),(379,tM),(232,rQ),(136,wS),(381,wV)]
def W2:dc Nt:=.cons K7 (.cons TQ (.cons TP (.cons Tg (.cons anA (.cons aoO (.cons ajB (.cons T8 (.cons Oz (.cons aof (.cons apX .nil))))))))))
def W3:MZ (fun f=>cI f Nt) where
 m:=⟨rfl,rfl,rfl,rfl,rfl,rfl,rfl,rfl,rfl,rfl,rfl,rfl,rfl,rfl,rfl,rfl,rfl⟩
 s:=⟨fun n hn=>by rcases hn with rfl|rfl|rfl|rfl<;>rfl,rfl,rfl⟩
 h9:=rfl
 h13:=rfl
 h23:=rfl
 h27:=rfl
 h29:=rfl
 h52:=rfl
 s28:=fun n hn=>by rcases hn with rfl|rfl|rfl|rfl<;>rfl
open Classical in
noncomputable def qq:Sp
 | [u,v,w]=>(jF u).bind fun b=>(jF v).bind fun o=>(jF w).bind fun t=>if pP b o t then some (yx b o t) else none
 |_=>none
def ajw(hb:aD 6 Obj.val vb b)(ho:aD 6 Obj.val vo o)(ht:aD 6 Obj.val vt t)(hc:pP b o t):qq [.agg [vb],.agg [vo],.agg [vt]]=some (yx b o t):=by
 have hsm:=fg;have h1:=hc.lb;have h2:=hc.lo;have h3:=hc.lt;simp only[qq,lK hb hc.gb (by omega),lK ho hc.go (by omega),lK ht hc.gt (by omega),bn,iP hc]
def Ca:cq ar 47 qq:=by
 intro args x hv G h w xs wr hx;unfold qq at hv;split at hv;rename_i a1 a2 a3;simp only[az] at hv;obtain⟨b,h1,o,h2,t,h3,hv⟩:=hv;split at hv;rename_i hc;injection hv with hv;subst hv
 obtain⟨vb,rfl,hb,hgb,_⟩:=lJ h1;obtain⟨vo,rfl,ho,hgo,_⟩:=lJ h2;obtain⟨vt,rfl,ht,hgt,_⟩:=lJ h3;obtain⟨t1,vb',w1,hb'⟩:=oq hb hgb;obtain⟨t2,vo',w2,ho'⟩:=oq ho hgo;obtain⟨t3,vt',w3,ht'⟩:=oq ht hgt;have hw:ej [.agg [vb],.agg [vo],.agg [vt]]=[.agg [vb'],.agg [vo'],.agg [vt']]:=by simp only[ej,w1,w2,w3]
 exact U7 W2 (args:=[.agg [vb],.agg [vo],.agg [vt]]) (by simp only[jn,t1,t2,t3,Bool.and_self]) (fun ch=>by
  rw[hw];exact ajp W3 hb' ho' ht' hc (s:=s0) (aU _)) G h w xs wr hx
 cases hv;cases hv
noncomputable def QH(t:du)(k:Nat->Nat):bF:= {P:=ar,hint:=aH,spec:=fun f=>cI f t,ch:=fun _=>0,kmax:=k }
def acX{t:du}(h:dc t)(k:Nat->Nat):Ag.Al (QH t k) where
 mixed:=Lj
 spec f sp hsp args v hv G hp w xs wr hx:=h _ (Hu hsp) args v hv G hp w xs wr hx
 specH f sp h args v G hp w xs wr hx hv:=by cases h
 names f fn hf:=by
  have hf:ar.funcs[f]? =some fn:=hf
  have:=fY.1 Lp fn (by
   rw[<-Array.getElem?_toList] at hf;exact List.mem_of_getElem? hf)
  simpa using this
def su:List Nat->Nat->Nat->Nat
 | [],_,d=>d
 |a::_,0,_=>a
 |_::l,i+1,d=>su l i d
noncomputable def zr(t:du)(ks c:List Nat)(n f:Nat)(args:List ae):Option (ae×Nat):=((cd ((QH t (fun i=>su ks i 1)).at (fun i=>su c i 0)) n).call f args [] s0).bind fun x=>(cj x.2.heap 12 x.1).bind fun u=>some (u,x.2.ci)
def S6(ch:Nat->Nat): ∀(n i j:Nat),i<n->su ((yR j n).map ch) i 0=ch (j+i)
 |0,i,j,h=>by omega
 |n+1,0,j,_=>by simp[xb,su]
 |n+1,i+1,j,h=>by
  rw[xb,dG];show su _ i 0=_;rw[S6 ch n i (j+1) (by omega),show j+1+i=j+(i+1) by omega]
inductive y7:List Nat->List Nat->Prop
 |nil:y7 [] []
 |cons {k c:Nat} {ks cs:List Nat}:c<k->y7 ks cs->y7 (k::ks) (c::cs)
def VZ(ch:Nat->Nat): ∀(ks:List Nat) (j:Nat),(∀i,i<ks.length->ch (j+i)<su ks i 1)->y7 ks ((yR j ks.length).map ch)
 | [],_,_=>.nil
 |k::ks,j,h=>by
  rw[cP,xb,dG];refine .cons (h 0 (by simp)) (VZ ch ks (j+1) fun i hi=>?_)
  have:=h (i+1) (by simpa using hi);rwa [show j+(i+1)=j+1+i by omega] at this
def U8{t:du}(ht:dc t){ks:List Nat}(hk: ∀i,0<su ks i 1){f:Nat}{args:List ae}{u:ae}(hm:m<=ks.length)(h: ∀c,y7 ks c->zr t ks c n f args=some (u,m)){args':List ae}(ha:ej args'=args)(hp:jn args'=true)(G:Gh)(hh:aZ bf)(w:World)(xs:List Value)(wr:WR G hh w)(hx:bP G args' xs):mh ar f ⟨xs⟩ w fun y w'=> ∃G',WR G' hh w'/\cM G hh w G' hh w' 0 0/\VR G' u y:=by
 refine Ml (Q:=QH t (fun i=>su ks i 1)) (n:=n) (acX ht _) hk hp (fun ch hi=>?_) G hh w xs wr hx;rw[ha];have hw:=VZ ch ks 0 (fun i _=>by rw[gl];exact hi i);have he:=h _ hw;simp only[zr,az,Option.some.injEq,Prod.mk.injEq] at he;obtain⟨⟨v,s'⟩,a,u',b,rfl,c⟩:=he;have c:s'.ci=m:=c;exact⟨v,s',(sh (QH t (fun i=>su ks i 1)) n).call f args [] _ s0 v s' a ch (fun i hi=>by
  rw[S6 ch _ i 0 (by omega),gl]),12,b⟩
def I3:fu->fu->Bool
 | .GE,.GE=>true
 | .no,.no=>true
 |_,_=>false
def oX(g:ae->ae->Bool):List ae->List ae->Bool
 | [],[]=>true
 |a::x,b::y=>g a b&&oX g x y
 |_,_=>false
def qh:Nat->ae->ae->Bool
 |0,_,_=>false
 |_+1,.bool a,.bool b=>a==b
 |_+1,.int k a,.int k' b=>k==k'&&aK a b
 |_+1,.str a,.str b=>a==b
 |k+1,.agg a,.agg b=>oX (qh k) a b
 |_+1,.AL,.AL=>true
 |k+1,.list n a r,.list m b r'=>aJ n m&&I3 r r'&&oX (qh k) a b
 |_,_,_=>false
def aah{r r':fu}(h:I3 r r'=true):r=r':=by
 unfold I3 at h;split at h<;>first|rfl|cases h
def vZ{g:ae->ae->Bool}(hg: ∀a b,g a b=true->a=b): ∀ {x y:List ae},oX g x y=true->x=y
 | [],[],_=>rfl
 | [],_::_,h=>by cases h
 |_::_,[],h=>by cases h
 |a::x,b::y,h=>by
  simp only[oX,bA] at h;rw[hg a b h.1,vZ hg h.2]
def zq: ∀(k:Nat) {a b:ae},qh k a b=true->a=b
 |0,_,_,h=>by cases h
 |k+1,a,b,h=>by
  have ih:=fun a b=>zq k (a:=a) (b:=b);cases a<;>cases b<;>simp only[qh,Bool.false_eq_true] at h;rw[eq_of_beq h];simp only[bA] at h;rw[eq_of_beq h.1,eq_of_beq h.2];rw[eq_of_beq h];rw[vZ ih h];rfl;simp only[bA] at h;rw[Nat.eq_of_beq_eq_true h.1.1,aah h.1.2,vZ ih h.2]
def tW(r:fu):ae:=.list 2 [.agg [.str [110,97,109,101],.str [69,108,109]]] r
def mD(x y:Int)(t:ae):ae:=.agg [.str [110,49],.int .i64 1,.int .i64 x,.int .i64 y,.AL,t]
def Lv:ae:=.agg [.str [110,50],.int .i64 1,.int .i64 4,.int .i64 0,.AL,.AL]
def MG(t:ae):ae:=.agg [.str [119,49],.int .i64 2,.int .i64 0,.int .i64 0,.list 1 [.str [110,49],.str [110,50]] .GE,t]
def mz(l:List ae):ae:=.agg [.list 6 l .no]
def bad(id what:ak):ae:=.agg [.str id,.str what]
def kAt:ak:=[97,116]
def KG:ak:=[111,98,106,101,99,116]
def a1:List ae:=[mz [mD 0 0 .AL],mz [mD 1 0 .AL],mz [mD 0 0 (tW .GE)]]
def a2:List ae:=[mz [mD 0 0 .AL],mz [mD 2 0 .AL],mz [mD 1 5 .AL]]
def a3:List ae:=[mz [mD 0 0 .AL],.agg [.AL],mz [mD 0 0 (tW .GE)]]
def a4:List ae:=[mz [mD 0 0 .AL,Lv,MG .AL],mz [mD 0 0 .AL],mz [mD 0 0 .AL,Lv,MG (tW .GE)]]
def r1:ae:=.tup [mz [mD 1 0 (tW .no)],.AL]
def r2:ae:=.tup [mz [mD 1 5 .AL],.list 2 [bad [110,49] kAt] .no]
def r3:ae:=.tup [mz [mD 0 0 (tW .GE)],.list 2 [bad [110,49] KG] .no]
def r4:ae:=.tup [mz [mD 0 0 .AL,Lv,MG (tW .GE)],.list 2 [bad [110,50] KG,bad [119,49] KG] .no]
def HT:du:=(287,oU)::(279,wH)::(31,uW)::T5
def Wu:dc HT:=.cons IL (.cons TQ (.cons K7 Ng))
def IH(b o t:List Obj)(R:List ak):Bool:=(dg b o t).all fun k=>match(match ee b o t k with|some q=>some q|none=>bif R.elem k then fS b o t k else none) with
 |some q=>q.gE.all fun id=>(ee b o t id).isSome||(fS b o t id).isNone||R.elem id
 |none=>true
variable{R:List ak}
def amE(hR: ∀k∈R,Reach b o t k)(hc:IH b o t R=true)(k:ak):Reach b o t k↔k∈R:=by
 refine⟨fun h=>?_,hR k⟩;have step: ∀ {j id:ak} {q:Obj},j∈dg b o t->(match ee b o t j with|some q=>some q|none=>bif R.elem j then fS b o t j else none)=some q->id∈q.gE->ee b o t id=none->(fS b o t id).isSome=true->id∈R:=by
  intro j id q h1 h2 h3 h4 h5;have h:=fY.1 hc j h1;rw[h2] at h;have h:=fY.1 h id h3;rw[h4] at h;cases hn:fS b o t id with
  |none=>rw[hn] at h5;cases h5
  |some x=>
   rw[hn] at h;exact sY (by simpa using h)
 induction h with
 |of h1 h2 h3 h4=>exact step (jh.name (.inl (by rw[h1];rfl))) (by rw[h1]) h2 h3 h4
 |step h0 h1 h2 h3 h4 ih=>
  refine step (jh.name (.inr h0)) ?_ h2 h3 h4;rw[h0.no.1];simp only[sV ih,cT,h1]
def L0(b o t:List Obj)(R:List ak):ae:=.tup [.agg [fv 6 (((eX ((uC (dg b o t)).filter fun k=>(ee b o t k).isSome||R.elem k)).map (pn b o t)).map Obj.val)],fv 2 ((ic (IQ ((dg b o t).flatMap (kF b o t)++((dg b o t).filter fun k=>R.elem k).map fun k=>(k,dw)))).map cg)]
def amJ(hR: ∀k∈R,Reach b o t k)(hc:IH b o t R=true):yx b o t=L0 b o t R:=by
 have hr:=amE hR hc;have e1:(fun k=> @decide (jh b o t k) (yL _))=fun k=>(ee b o t k).isSome||R.elem k:=by
  funext k;have:jh b o t k↔((ee b o t k).isSome||R.elem k)=true:=by
   rw[Bool.or_eq_true];exact or_congr Iff.rfl ((hr k).trans ⟨sV,sY⟩)
  rw[yK,<-this];exact @decide_eq_true_iff _ (yL _)
 have e2:(fun k=> @decide (Reach b o t k) (yL _))=fun k=>R.elem k:=by
  funext k;rw[yK];refine(@decide_eq_true_iff _ (yL _)).trans ?_;exact(hr k).trans ⟨sV,sY⟩
 unfold yx jH oV qw rR L0;rw[e1,e2]
def Gg{u w:ae}(h1:jF u=some b)(h2:jF v=some o)(h3:jF w=some t)(vb:gU b=true)(vo:gU o=true)(vt:gU t=true)(lb:b.length<=300)(lo:o.length<=300)(lt:t.length<=300)(hR: ∀k∈R,Reach b o t k)(hc:IH b o t R=true):qq [u,v,w]=some (L0 b o t R):=by
 obtain⟨_,_,_,gb,_⟩:=lJ h1;obtain⟨_,_,_,go,_⟩:=lJ h2;obtain⟨_,_,_,gt,_⟩:=lJ h3;have hi:pP b o t:=⟨vb,vo,vt,gb,go,gt,lb,lo,lt⟩;simp only[qq,h1,h2,h3,bn,iP hi,amJ hR hc]
def Ll:ak:=[110,49]
def Gm:ak:=[110,50]
def VT:ak:=[119,49]
def Dv:List be:=[([110,97,109,101],[69,108,109])]
def sr(x y:Int)(tv:ae)(l:List be):Obj:=⟨Ll,1,x,y,.AL,tv,[],l⟩
def S5:Obj:=⟨Gm,1,4,0,.AL,.AL,[],[]⟩
def Hz(tv:ae)(l:List be):Obj:=⟨VT,2,0,0,.list 1 [.str Ll,.str Gm] .GE,tv,[Ll,Gm],l⟩
def m1:qq a1=some r1:=(Gg (b:=[sr 0 0 .AL []]) (o:=[sr 1 0 .AL []]) (t:=[sr 0 0 (tW .GE) Dv]) (R:=[]) (by kernel_rfl) (by kernel_rfl) (by kernel_rfl) (by kernel_rfl) (by kernel_rfl) (by kernel_rfl) (by decide) (by decide) (by decide) (fun _ h=>by cases h) (by kernel_rfl)).trans (congrArg some (by kernel_rfl))
def m2:qq a2=some r2:=(Gg (b:=[sr 0 0 .AL []]) (o:=[sr 2 0 .AL []]) (t:=[sr 1 5 .AL []]) (R:=[]) (by kernel_rfl) (by kernel_rfl) (by kernel_rfl) (by kernel_rfl) (by kernel_rfl) (by kernel_rfl) (by decide) (by decide) (by decide) (fun _ h=>by cases h) (by kernel_rfl)).trans (congrArg some (by kernel_rfl))
def m3:qq a3=some r3:=(Gg (b:=[sr 0 0 .AL []]) (o:=[]) (t:=[sr 0 0 (tW .GE) Dv]) (R:=[]) (by kernel_rfl) (by kernel_rfl) (by kernel_rfl) (by kernel_rfl) (by kernel_rfl) (by kernel_rfl) (by decide) (by decide) (by decide) (fun _ h=>by cases h) (by kernel_rfl)).trans (congrArg some (by kernel_rfl))
def m4:qq a4=some r4:=(Gg (b:=[sr 0 0 .AL [],S5,Hz .AL []]) (o:=[sr 0 0 .AL []]) (t:=[sr 0 0 .AL [],S5,Hz (tW .GE) Dv]) (R:=[Gm]) (by kernel_rfl) (by kernel_rfl) (by kernel_rfl) (by kernel_rfl) (by kernel_rfl) (by kernel_rfl) (by decide) (by decide) (by decide)
 (fun k h=>by
  simp only[sZ] at h;subst h;exact .of (k:=VT) (q:=Hz (tW .GE) Dv) (by kernel_rfl) (by simp[Hz]) (by kernel_rfl) (by kernel_rfl)) (by kernel_rfl)).trans (congrArg some (by kernel_rfl))
