/- Lemmas for PartUnits. -/
import Derived.Test.YtnhmcokmdhgpbaaGreatB4
import Derived.Test.YtnhmcokmdhgpbaaGreatB9
import Derived.Test.YtnhmcokmdhgpbaaGreatZ1
import Derived.Test.YtnhmcokmdhgpbaaGreatB8
import Derived.Shelf.Spec.SlicesInsertGrow
import Derived.Shelf.RegionOpenPlain
import Derived.WalkKit
import Derived.Deep.RegionLaw
set_option linter.all false
open Option renaming some→X,none→Z,bind_eq_some_iff→an,bind_some→aH,isNone_none→Fb,map_none→nQ,map_some→kL,ne_none_iff_exists'→Uq
open Bool renaming true→O,false→I,and_eq_true→bh,and_false→jQ,and_self→cj,not_eq_true'→m9,or_eq_false_iff→v6,true_or→AC
open List renaming length→J,all_eq_true→fK,append_nil→iw,drop_append→Iq,drop_eq_getElem_cons→yi,drop_of_length_le→yj,drop_succ_cons→uq,drop_zero→kz,filter_append→Ir,getD_eq_getElem?_getD→lQ,getElem?_append_left→AG,getElem?_append_right→sw,getElem?_drop→qH,getElem?_eq_getElem→dp,getElem?_eq_none→sC,getElem?_eq_some_iff→gn,getElem?_map→gZ,getElem?_set→E6,getElem?_take→we,head?_drop→Cr,length_append→bK,length_cons→bT,length_drop→kd,length_eraseIdx_of_lt→E7,length_filter_le→jv,length_map→bj,length_nil→bn,length_set→nN,length_singleton→yy,length_take→jw,length→nM,map_append→db,map_cons→cU,map_eq_nil_iff→pE,map_map→kW,map_set→AJ,mem_append→fA,mem_cons_of_mem→iE,mem_cons_self→gG,mem_cons→dG,mem_flatMap→sD,mem_iff_getElem?→qI,mem_map_of_mem→E8,mem_map→cC,mem_of_getElem?→co,mem_of_mem_drop→oK,mem_of_mem_take→wh,mem_or_eq_of_mem_set→Nt,mem_singleton→kg,nil_append→ng,not_mem_nil→pF,pairwise_append→Iy,pairwise_iff_getElem→Iz,pairwise_map→ux,set_eq_take_append_cons_drop→Nx,size_toArray→IA,sum_cons→qK,take_append_drop→wq,take_left'→IB,take_length→IC,take_of_length_le→nh,take_succ_cons→wt,take_zero→wu
open Go.Ag.aa renaming cells→m8
open Array renaming getElem?_push→Nk,size_append→Ip
open Go.Builtin renaming append_→qF,copy_→ss,zeroCells→AE
open Go.IntKind renaming wrap_i64→nf
open Go.Ag.bg renaming put→qM
open Nat renaming add_assoc→sE,add_zero→oL,beq→aB,ble_eq_true_of_le→bH,ble→aP,blt→bC,eq_of_beq_eq_true→fL,le_of_ble_eq_true→im,le_refl→aD,le_succ_of_le→cr,le_succ→io,le_trans→dj,lt_irrefl→bJ,lt_of_lt_of_le→fE,lt_or_ge→ip,lt_succ_of_lt→IG,lt_succ_self→gN,mul_le_mul_right→kX,mul_le_mul→nP,not_lt_zero→wB,succ_mul→jR,zero_add→dP,zero_le→fN
open Go.Op renaming bytesLess→gQ
open Go.Ag.St renaming get→kZ
open Go.Proofs.Tryz renaming prog→ae
open Go.Ag.W renaming loopC→aF
open Go.Ag.WC renaming sound→aM
namespace Go.Proofs.YtnhmcokmdhgpbaaGreat
open Tryz
open Go.Ag
variable{Q:ay}[Std Q]
def BX(l:ba):b_:=(l.filter (re l)).map λo=>(1,[o.id],I)
def yY(l:ba):b_:=(qB (uL l)).map λk=>(2,iM k,O)
def DZ(l:ba):b_:=(wN l).map (λi=>(3,[i],I))++((vH (kC l)).filter (Ju l)).map λq=>(4,[q.1,q.2],I)
def D1(l:ba):b_:=(l.filter (nz l)).map (λo=>(5,[o.id],I))++(l.filter (lu l)).map λo=>(6,[o.id],I)
def En(l:ba)(rl:vx):b_:=(l.filter (Fy l rl)).map λo=>(7,[o.id],I)
def aCk(l:ba):Ig l=dS 3 ((BX l).map (je [])):=by unfold Ig Ta BX;rw[kW];rfl
def aiO(l:ba):Ch l=dS 3 ((yY l).map (je [])):=by unfold Ch yY;rw[kW];rfl
def ayl(l:ba):EU l=dS 3 ((DZ l).map (je [])):=by unfold EU vr DZ;rw[db,kW,kW];rfl
def ayo(l:ba):Ie l=dS 3 ((D1 l).map (je [])):=by unfold Ie ac0 D1;rw[db,kW,kW];rfl
def aCW(l:ba)(rl:vx):Av l rl=dS 3 ((En l rl).map (je [])):=by unfold Av Mw En;rw[kW];rfl
def ze(l:ba)(rl:vx):List b_:=[BX l,yY l,DZ l,D1 l,En l rl]
def VZ(rb:Nat):List (FuncId×az):=[(39,[]),(40,[]),(41,[]),(42,[]),(37,[.ptr rb 0])]
def CU(l:ba)(rl:vx)(rb:Nat):List ((S_)×b_):=[((39,[]),BX l),((40,[]),yY l),((41,[]),DZ l),((42,[]),D1 l),((37,[.ptr rb 0]),En l rl)]
def m7(l:ba)(rl:vx)(name:ag):az:=(ze (iR l name) rl).flatMap λL=>L.map (je name)
theorem adW(l:ba)(rl:vx)(rb:Nat)(name:ag):pj name (CU (iR l name) rl rb)=m7 l rl name:=rfl
def ta(l:ba)(views:cf)(rl:vx):az:=bif bw l then([]::views).flatMap (m7 l rl)else []
def afm(K:pX):(qB K).length=J K:=by
 unfold qB;rw[bj,(vS _ _ _).length_eq,bj]
variable{l:ba}
theorem af8{rl:vx}{name:ag}(h:J l<=900):(m7 l rl name).length<=3000000:=by
 have d:(iR l name).length<=900:=dj (Ic l name).length_le h;generalize hL:iR l name=L at d;have j:J L*J L<=900*900:=nP d d;have D:(BX L).length<=J L:=by unfold BX;rw[bj];exact jv _ _
 have B:(yY L).length<=J L*J L:=by unfold yY;rw[bj,afm];exact Vv L
 have A:(wN L).length<=J L:=by unfold wN;rw[bj];exact jv _ _
 have g:(kC L).length<=J L:=by unfold kC;rw[bj];exact jv _ _
 have q:(kC L).length*(kC L).length<=900*900:=nP (dj g d) (dj g d)
 grind [SR,DZ,bj,D1,En,m7,ze]
def Ua{l:ba}{rl:vx}(h:J l<=900):∀N:cf,(N.flatMap (m7 l rl)).length<=J N*3000000
 |[]=>fN _
 |n::N=>by
  rw[List.flatMap_cons,bK,bT,jR];have g:=af8 (rl:=rl) (name:=n) h;have d:=Ua (rl:=rl) h N;omega
def aGD(g:∀o∈l,o.rf)(name:ag):∀o∈iR l name,o.rf:=λo d=>g o ((Ic l name).subset d)
def ayW(l:ba):(vw l).gt=O/\(vw l).cells=[vw l]:=by cases l<;>exact R_
def ac5(n:Nat)(l:az):(dS n l).gt=O:=by cases l<;>rfl
theorem Xf(d:md l=O):J l<small:=by
 have:=(oh.1 d).len
 grind [small]
variable{rb:Nat}{s:St}{rv vv:aa}
def aCV(q:Q.spec 38=X Ab){mv:aa}{L:ba}(B:aq 6 Obj.val mv L)(hg:∀o∈L,o.rf)(D:md L=O){R P N F:aa}(V:s.get [] rb=X (.cells [R,P,N,F,vv,rv])){rl:vx}(d:aq 8 aZ.val rv rl)(S:∀x∈rl,x.Ok)(j:J rl<=1000000):ai Q 37 [.agg [mv],.ptr rb 0] s (Av L rl) s:=by
 have a0:=B.cs;have g:=d.gt;have A:Ab [.agg [mv],rv]=X (Av L rl):=by
  simp only[fq,Ab,sS B hg (Xf D),I8 d S j,D]
 have vc:=ac5 3 (Mw L rl);refine ai.ofNZ auw (aM ?_) (ac5 3 (Mw L rl));unfold Av at A⊢;simp only[go_sem,seval,g,V,q,A]
def aj5(F:Q.spec 39=X Ek)(D:Q.spec 40=X CR)(B:Q.spec 41=X D0)(A:Q.spec 42=X D2)(N:Q.spec 38=X Ab){mv:aa}{L:ba}(P:aq 6 Obj.val mv L)(R:∀o∈L,o.rf)(d:md L=O){w0 w1 w2 V:aa}{rl:vx}(j:aq 8 aZ.val rv rl)(ok:∀x∈rl,x.Ok)(q:J rl<=1000000):
 ∀c∈CU L rl rb,∀s:St,s.get [] rb=X (.cells [w0,w1,w2,V,vv,rv])->∃v,ai Q c.1.1 (.agg [mv]::c.1.2) s v s/\aq 3 (je []) v c.2:=by
 have g:=sS P R (Xf d);intro c S s hr;simp only[CU,dG,pF,or_false]at S;rcases S with rfl|rfl|rfl|rfl|rfl
 exact⟨Ig L,ai.sp F (by simp only[fq,Ek,g,d]),by rw[aCk];exact xG _ _ _⟩;exact⟨Ch L,ai.sp D (by simp only[fq,CR,g,d]),by rw[aiO];exact xG _ _ _⟩;exact⟨EU L,ai.sp B (by simp only[fq,D0,g,d]),by rw[ayl];exact xG _ _ _⟩;exact⟨Ie L,ai.sp A (by simp only[fq,D2,g,d]),by rw[ayo];exact xG _ _ _⟩;exact⟨Av L rl,aCV N P R d hr j ok q,by rw[aCW];exact xG _ _ _⟩
variable{K:gk}{ov:aa}
theorem aGE(a8:Q.spec 43=X Cg)(ho:aq 6 Obj.val ov l)(hg:∀o∈l,o.rf)(R:wD l){rl:vx}{lo:Nat}(a3:rb<lo){wc:az}{nv:aa}{N:cf}(hN:aq 1 ax nv N)(b5:J N<=201){cv:aa}(hC:aq 1 fV cv (VZ rb)){s0:St}(a4:s0.get [] rb=X (.cells wc))(hc:∀name,∀c∈CU (iR l name) rl rb,∀s:St,s.get [] rb=X (.cells wc)->∃v,ai Q c.1.1 (.agg [vw (iR l name)]::c.1.2) s v s/\aq 3 (je []) v c.2)(hx:∀e lc s tv,bR 3 lo s tv (N.flatMap (m7 l rl))->ac e 7=tv->K (.exit 0) ⟨e,57,lc⟩ s):
 ∀(rest d:cf)(e:aw)(lc:Ag.Loc)(s:St)(tv:aa),N=d++rest->bR 3 lo s tv (d.flatMap (m7 l rl))->lo<=s.aL->s.gE<=s.aL->(∀k,k<lo->s.get [] k=s0.get [] k)->ac e 2=.uV 2 1 0->lc.gen 2=1->lc.get 2 1=X [ov]->ac e 6=cv->ac e 7=tv->ac e 24=nv->ac e 25=ak (J N)->ac e 26=ak (J d)->W Q 20 (.loop Qz) ⟨e,57,lc⟩ s K:=by
 intro rest
 induction rest with
 |nil=>
  intro d e lc s tv P hO D B A V g2 l2 h6 h7 q j g;have a6:=cz P;have a5:d=N:=by rw[P];simp
  refine aF ?_;simp only[go_sem,seval,Qz,j,g,a6,bJ];rw[a5]at hO;exact hx _ _ _ tv hO (by simp only[sN,seval,h7])
 |cons name rest ih=>
  intro d e lc s tv P hO D B A V g2 l2 h6 h7 q j g
  let⟨hlt,hat⟩:=cH P
  have a7:=λlc k=>hN.at bL.2.2.1 hat lc k;have a1:=cm (n:=J d) w_;have b3:=ho.gt;have q1:=aGB ho hg (by have:=R.len;omega) name;have eo:tN l name=iR l name:=by unfold tN;rw[R.valid];rfl
  rw[eo]at q1
  let⟨mc,ms⟩:=ayW (iR l name)
  have b0:=hC.gt;have a9:∀mk s',fZ ae mk 96 cv s'=X (ah ((5:Nat):Int)):=hC.lenS MJ;have a2:(d.flatMap (m7 l rl)).length+(m7 l rl name).length<=900000000:=by
   have a:=Ua (rl:=rl) R.len d;have b:=af8 (rl:=rl) (name:=name) R.len;have c:J d*3000000<=200*3000000:=kX _ w_;omega
  refine aF ?_;simp only[go_sem,seval,Qz,ax,V,l2,h6,q,j,g,hlt,a7,a8,q1,b0,a9];refine aj4 (name:=name) (cs:=CU (iR l name) rl rb) hC (by show 5<=1000;decide) (lo:=lo) (rb:=rb) (wc:=wc) a3 (ov:=ov) (mv:=vw (iR l name)) (nv:=nv) mc ms (s0:=s0) a4 (hc name) (bse:=d.flatMap (m7 l rl)) (by rw[adW];exact a2) (g10:=lc.gen 10+1) (nn:=J N) (i:=J d) ?_ (CU (iR l name) rl rb) [] _ _ s tv rfl (by simp_all [pj]) D B A ?_ ⟨?_,?_,?_,?_,?_,?_,?_,?_,?_,?_,?_,?_,?_,?_⟩
  ·intro e2 b2 s2 S b4 a0 m2 o2 c7 F
   have b1:=F.h26;simp only[go_sem,seval,b1,a1];refine ih (d++[name]) _ _ s2 S (cP P) ?_ a0 m2 o2 ?_ F.g2 F.l2 ?_ ?_ ?_ ?_ ?_
   grind [adW]
   all_goals simp only[sN,seval,c7,F.h2,F.h6,F.h24,F.h25,sA]
  all_goals simp only[sL,seval,V,g2,l2,h6,h7,q,j,g,bn]
  all_goals rfl
variable{views:cf}
def ajP(g:Q.spec 36=X gV)(a7:Q.spec 43=X Cg)(a5:Q.spec 39=X Ek)(a4:Q.spec 40=X CR)(a3:Q.spec 41=X D0)(a2:Q.spec 42=X D2)(a6:Q.spec 38=X Ab)(a9:No Q 20)(ho:aq 6 Obj.val ov l)(hg:∀o∈l,o.rf)(V:J l<small)(hw:bw l=O->wD l){F D B A:aa}(hV:aq 1 ax vv views)(b0:J views<=200){rl:vx}(a0:aq 8 aZ.val rv rl)(ok:∀x∈rl,x.Ok)(a1:J rl<=1000000)(hm:s.gE<=s.aL):
 ∃v s',ai Q 20 [.agg [ov],.agg [F,D,B,A,vv,rv]] s v s'/\eY s'.heap v (dS 3 (ta l views rl)):=by
 have b2:=ho.cs;have N:=hV.gt;have j:=zP ho hg V
 let⟨z,hz,zn,zm,_,zg⟩:=ow (.cells [F,D,B,A,vv,rv]) hm
 refine ai.ofNRZ atT (aM ?_);cases hmv:bw l with
 |false=>
  rw[hmv]at j;simp only[go_sem,seval,hz,g,j];refine⟨_,rfl,?_⟩;have:ta l views rl=[]:=by unfold ta;rw[hmv];rfl
  rw[this];exact⟨1,rfl⟩
 |true=>
  rw[hmv]at j;have W:=hw hmv
  let⟨nv,s2,b1,hN,b3,b4,b5⟩:=aya hV w_ zm
  have S:=hN.gt;have R:=hN.lenS bL;have hC:aq 1 fV (.list 1 [.func (.func 39) [] [],.func (.func 40) [] [],.func (.func 41) [] [],.func (.func 42) [] [],.func (.func 37) [] [.ptr s.aL 0]] .Al) (VZ s.aL):=.inr ⟨.Al,rfl⟩;have a8:(aa.nilf).cells=[.nilf]:=rfl;simp only[go_sem,seval,a8,hz,g,j,FB,zg,N,b1,S,R,MJ,sB];refine aGE a7 ho hg W (rl:=rl) (rb:=s.aL) (lo:=s2.aL) w_ (wc:=[F,D,B,A,vv,rv]) hN (by rw[bT];omega) hC (s0:=s2) ((b5 _ w_).trans zg) (λname c hc s' hr=>aj5 a5 a4 a3 a2 a6 (ayX _) (aGD hg name) (oh.2 (W.sub (Ic l name)).fine) a0 ok a1 c hc s' hr) ?_ ([]::views) [] _ _ s2 .uP rfl (.inl R_) (aD _) b4 (λ_ _=>rfl) ?_ ?_ ?_ ?_ ?_ ?_ ?_ ?_;intro e lc s3 tv hO h7;have P:=hO.gt;simp only[go_sem,seval,h7,P];have e:ta l views rl=([]::views).flatMap (m7 l rl):=by unfold ta;rw[hmv];rfl
  rw[e];refine⟨_,rfl,4,Bk hO λv d=>?_⟩
  let⟨name,_,d⟩:=sD.1 d
  let⟨L,_,d⟩:=sD.1 d
  obtain⟨q,_,rfl⟩:=cC.1 d;exact an0 _ _ _
  all_goals simp only[aaj,bS,u6,Nat.reduceBEq,bn]
  all_goals rfl
def UF:de:=[(36,gV),(43,Cg),(39,Ek),(40,CR),(41,D0),(42,D2),(38,Ab)]
def agO:eh UF:=.cons xC (.cons aGC (.cons aCq (.cons aiP (.cons aym (.cons ayn (.cons aCY .nil))))))
def xI(l:ba):Bool:= !bw l||JG l
def oW:Sp
 |[m,.agg [a,b,c,d,vv,rv]]=>(lY m).bind λl=>(fH 1 jB vv).bind λviews=>(uJ rv).bind λrl=>bif xI l&&(decide (J views<=200)&&dW [a,b,c,d])then X (dS 3 (ta l views rl))else Z
 |_=>Z
def aj1{m a b c d:aa}{rl:vx}(q:lY m=X l)(g:fH 1 jB vv=X views)(j:uJ rv=X rl)(h1:xI l=O)(B:J views<=200)(A:dW [a,b,c,d]=O):oW [m,.agg [a,b,c,d,vv,rv]]=X (dS 3 (ta l views rl)):=by
 simp only[fb,oW,q,g,j,h1,B,A,dT]
def VY:da ae 20 oW:=by
 intro args u g G h w F N P;unfold oW at g;split at g;rename_i m a b c d vv rv;simp only[an]at g
 let⟨l,B,views,j,rl,hrl,g⟩:=g
 let⟨hf,g⟩:=bf g
 have g:=sI g;subst g;simp only[bh,dE]at hf
 let⟨hf1,hf2,hf3⟩:=hf
 obtain⟨v,rfl,B,D,R⟩:=qX B
 let⟨hrl,ok,hle⟩:=Oa hrl
 have j:=lX (λ_ _ h=>pS h) j
 let⟨ht,v',q,hl'⟩:=pg B D
 let⟨ht2,hrl'⟩:=Tq hrl ok
 let⟨ht3,hvw'⟩:=qh qC j
 have q:di [.agg [v],.agg [a,b,c,d,vv,rv]]=[.agg [v'],.agg [dh a,dh b,dh c,dh d,dh vv,dh rv]]:=by simp only[di,dh];rw[<-q];simp only[dh,di]
 have A:bw l=O->wD l:=λe=>by
  unfold xI at hf1;rw[e]at hf1;exact Pe.1 (by simpa using hf1)
 simp only[dW,bh]at hf3;refine jd agO (W:=[]) .nil (args:=[.agg [v],.agg [a,b,c,d,vv,rv]]) (by
  have:Ag.d8 (.agg [a,b,c,d,vv,rv])=O:=by
   simp only[Ag.d8,dW,hf3.1,hf3.2.1,hf3.2.2.1,hf3.2.2.2.1,ht2,ht3,cj]
  simp only[dW,ht,this,cj]) (λS=>?_) G h w F N P
 rw[q];exact ajP (Q:=QW UF [] S) rfl rfl rfl rfl rfl rfl rfl R_ hl' D R A hvw' hf2 hrl' ok hle d_;cases g
abbrev VE:=ag×VQ
def jG(p:VE):aa:=je p.1 p.2
structure aA where
 op:Int
 id:ag
 other:ag
 node:ag
 x:Int
 y:Int
 key:ag
 value:ag
 refsV:aa
 gT:cf
 obj:Obj
def aA.cells(e:aA):az:=[ah e.op,.str e.id,.str e.other,.str e.node,ah e.x,ah e.y,.str e.key,.str e.value,e.refsV,.str e.obj.id,ah e.obj.mT,ah e.obj.x,ah e.obj.y,e.obj.refsV,e.obj.tagsV]
def aA.val(e:aA):aa:=.agg e.cells
structure aA.rf (e:aA):Prop where
 gT:aq 1 ax e.refsV e.gT
 pr:br e.refsV=true
 obj:e.obj.rf
 id:e.id.length<small
 other:e.other.length<small
 node:e.node.length<small
 key:e.key.length<small
 value:e.value.length<small
 reflen:e.gT.length<=1000000
 ref:∀r∈e.gT,r.length<small
def ld(Q:ay)(f:FuncId)(args:az)(s:St):Prop:=∃b:Bool,ai Q f args s (.bool b) s
variable{f:FuncId}{args:az}{n:Nat}
def ld.of{fn:Func}{q:SC}{t:Tmp}(D:ae.funcs[f]?=X fn)(F:fn.body.map dZ=X q)(B:fn.ntmps=n)(A:fn.results.toList=[.tmp t])(h:W Q f q (uZ n args) s λx j d=>(x=.normal\/x=.ret)/\∃b:Bool,ac j.env t=.bool b/\d=s)(w:No Q f:=by first|assumption|exact tI rfl):ld Q f args s:=by
 obtain⟨v,s',g,b,rfl,rfl⟩:=ai.ofNR (R:=λv s'=>∃b:Bool,v=.bool b/\s'=s) D F B A (h.mono λx S d ⟨g,b,P,N⟩=>⟨g,.bool b,by
  let⟨vs,q1,q2⟩:=aeG (Q:=Q) (s:=d) P rfl
  rw[q1];exact congrArg X q2,b,rfl,N⟩)
 exact⟨b,g⟩
def ax5(d:Q.spec 104=X jg){v:ag}(j:J v<small)(s:St):ai Q 137 [.str v] s (.bool (!eD v)) s:=by
 have g:=xE j;refine ai.ofNZ as5 (aM ?_);simp only[go_sem,seval,d,g]
def anP(a b c d A q j g:ag):cN ae .eql 234 (.agg [.str a,.str b,.str c,.str d]) (.agg [.str A,.str q,.str j,.str g])=X (.bool ((a==A)&&((b==q)&&((c==j)&&(d==g))))):=by
 have h:cN ae .eql 234 (.agg [.str a,.str b,.str c,.str d]) (.agg [.str A,.str q,.str j,.str g])=((X (a==A)).bind λr=>bif r then(X (b==q)).bind λr=>bif r then(X (c==j)).bind λr=>bif r then(X (d==g)).bind λr=>bif r then X O else X I else X I else X I else X I).bind λr=>X (.bool r):=k_
 rw[h];cases a==A<;>cases b==q<;>cases c==j<;>cases d==g<;>rfl
def vq:Sp
 |[v]=>(fH 1 jB v).bind λl=>bif aP (J l) 1000000&&l.all (λx=>bC (J x) small)then X (.bool (l.all eD))else Z
 |_=>Z
variable{l:cf}{v:aa}
def Sr(h:aq 1 ax v l)(j:J l<=1000000)(g:∀x∈l,J x<small):vq [v]=X (.bool (l.all eD)):=by
 have q:l.all (λx=>bC (J x) small)=O:=fK.2 λx d=>bH (g x d);simp only[fb,vq,oo nY h,bH j,q]
variable{sv:aa}
section
variable{Q:ay}[Std Q]
def ayb(d:Q.spec 104=X jg)(q:No Q 86)(A:aq 1 ax sv l)(D:J l<=1000000)(g:∀v∈l,J v<small)(s:St):ai Q 86 [sv] s (.bool (l.all eD)) s:=by
 have j:=A.cs;have e:(!l.any λv=> !eD v)=l.all eD:=by rw[List.all_eq_not_any_not]
 refine ai.ofNZ avW (aM ?_);simp only[go_sem,seval,j];refine aV.of (F7 A D (nJ 137) λv B=>ax5 d (g v B) s) d_ ?_;simp only[go_sem,seval,e]
end
def UJ:de:=[(104,jg)]
def agS:eh UJ:=.cons Hk .nil
def acT:da ae 86 vq:=by
 intro args u d G h w g j q;unfold vq at d;split at d;simp only[an]at d
 let⟨l,h1,d⟩:=d
 let⟨h2,d⟩:=bf d
 simp only[bh,fK]at h2;have d:=sI d;subst d;have hi:=lX (λv a=>pS) h1
 let⟨ht,hi'⟩:=qh qC hi
 refine jd agS (W:=[]) .nil (by simp only[dW,ht,cj]) (λA=>?_) G h w g j q;exact⟨_,_,ayb (Q:=QW UJ [] A) rfl R_ hi' (im h2.1) (λv d=>im (h2.2 v d)) s0,⟨1,rfl⟩⟩;cases d
variable{lc:Ag.Loc}{e:aw}
def ld.k(h:ld Q f args s){d:Tmp}{sz:Nat}{C:ir}(j:d<sz)(g:∀b,C ⟨e.set d (X (.bool b)),sz,lc⟩ s):aV Q f args d e sz lc s C:=by
 let⟨b,h⟩:=h
 exact aV.of h j (g b)
attribute[go_sem]P9 aq7 QD aqM Zo aqg
def ad5(a b c d:ag):cN ae .neq 105 (.agg [.str a,.str b]) (.agg [.str c,.str d])=X (.bool !(bif a==c then bif b==d then O else I else I)):=by
 have h:cN ae .neq 105 (.agg [.str a,.str b]) (.agg [.str c,.str d])=((X (a==c)).bind λr=>bif r then(X (b==d)).bind λr=>bif r then X O else X I else X I).bind λr=>X (.bool !r):=k_
 rw[h];cases a==c<;>cases b==d<;>rfl
variable{u:aa}
def alT{r:cf}(hl:aq 1 ax v l)(S:aq 1 ax u r)(A:J l=J r)(F:J l<small)(V:s.gE<=s.aL)(hx:∀e,K (.exit 0) ⟨e,26,lc⟩ s)(hr:∀e,ac e 4=.bool I->K .ret ⟨e,26,lc⟩ s):
 ∀(n i:Nat)(e:aw),i+n=J l->ac e 0=v->ac e 1=u->ac e 12=ak (J l)->ac e 13=ak i->W Q 138 (.loop Qa) ⟨e,26,lc⟩ s K:=by
 have a0:=aae;have a2:=hl.gt;have a1:=S.gt;have lt:=iL V;intro n
 induction n with
 |zero=>
  intro i e h1 e0 N g d;have R:i=J l:=h1;refine aF ?_;simp only[go_sem,seval,Qa,g,d,R,bJ];exact hx _
 |succ n ih=>
  intro i e h1 e0 N g d;have j:i<J l:=w_
  obtain⟨o,ho⟩:∃o,l[i]?=X o:=⟨_,dp j⟩;obtain⟨q,hq⟩:∃q,r[i]?=X q:=⟨_,dp (A▸j)⟩;have D:=λlc k=>hl.at bL.2.2.1 ho lc k;have B:=λlc k=>S.at bL.2.2.1 hq lc k;have P:=ue (n:=i) w_;refine aF ?_;simp only[go_sem,seval,Qa,g,d,j];refine⟨V,?_⟩;cases hb:o==q with
  |false=>
   simp only[go_sem,seval,e0,N,D,B,ax,hb];exact hr _ (by simp only[sN,seval])
  |true=>
   simp only[go_sem,seval,e0,N,d,D,B,ax,hb,P];refine ih (i+1) _ w_ ?_ ?_ ?_ ?_<;>simp only[sN,seval,e0,N,g]
def alQ{l r:wf}(hl:aq 2 bZ v l)(S:aq 2 bZ u r)(A:J l=J r)(F:J l<small)(V:s.gE<=s.aL)(hx:∀e,K (.exit 0) ⟨e,26,lc⟩ s)(hr:∀e,ac e 4=.bool I->K .ret ⟨e,26,lc⟩ s):
 ∀(n i:Nat)(e:aw),i+n=J l->ac e 0=v->ac e 1=u->ac e 12=ak (J l)->ac e 13=ak i->W Q 213 (.loop QE) ⟨e,26,lc⟩ s K:=by
 have a0:=aae;have a2:=hl.gt;have a1:=S.gt;have lt:=iL V;intro n
 induction n with
 |zero=>
  intro i e h1 e0 N g d;have R:i=J l:=h1;refine aF ?_;simp only[go_sem,seval,QE,g,d,R,bJ];exact hx _
 |succ n ih=>
  intro i e h1 e0 N g d;have j:i<J l:=w_
  obtain⟨o,ho⟩:∃o,l[i]?=X o:=⟨_,dp j⟩;obtain⟨q,hq⟩:∃q,r[i]?=X q:=⟨_,dp (A▸j)⟩;have D:=λlc k=>hl.at jj.2.2.1 ho lc k;have B:=λlc k=>S.at jj.2.2.1 hq lc k;have P:=ue (n:=i) w_;refine aF ?_;simp only[go_sem,seval,QE,g,d,j];refine⟨V,?_⟩;cases hb:(bif o.1==q.1 then bif o.2==q.2 then O else I else I)with
  |false=>
   simp only[go_sem,seval,e0,N,D,B,bZ,m8,ad5,hb];exact hr _ (by simp only[sN,seval])
  |true=>
   simp only[go_sem,seval,e0,N,d,D,B,bZ,m8,ad5,hb,P];refine ih (i+1) _ w_ ?_ ?_ ?_ ?_<;>simp only[sN,seval,e0,N,g]
def WI(N:No Q 138){r:cf}(D:aq 1 ax v l)(B:aq 1 ax u r)(d:J l<small)(P:s.gE<=s.aL):ld Q 138 [v,u] s:=by
 have j:=D.lenS bL;have g:=B.lenS bL;have A:=D.gt;have q:=B.gt;have F:aj (J l:Int) (J r:Int)=(J l==J r):=zD _ _;refine ld.of Kg.1 Kg.2 Kg.3 Kg.4 (aM ?_);cases hb:J l==J r with
 |false=>
  simp only[go_sem,seval,A,q,j,g,F,hb];exact⟨_,rfl⟩
 |true=>
  simp only[go_sem,seval,A,q,j,g,F,hb];refine alT D B (by simpa using hb) d P (λe=>?_) (λe R=>?_) (J l) 0 _ (dP _) ?_ ?_ ?_ ?_;simp only[go_sem,seval];exact⟨_,rfl⟩;simp only[go_sem,seval,R];exact⟨_,rfl⟩
  all_goals first|(simp only[sN,seval];done)|(simp only[sN,seval];rfl)|rfl
def alP(F:No Q 213){l r:wf}(D:aq 2 bZ v l)(B:aq 2 bZ u r)(d:J l<small)(P:s.gE<=s.aL):ld Q 213 [v,u] s:=by
 have j:=D.lenS jj;have g:=B.lenS jj;have A:=D.gt;have q:=B.gt;have N:aj (J l:Int) (J r:Int)=(J l==J r):=zD _ _;refine ld.of Ks.1 Ks.2 Ks.3 Ks.4 (aM ?_);cases hb:J l==J r with
 |false=>
  simp only[go_sem,seval,A,q,j,g,N,hb];exact⟨_,rfl⟩
 |true=>
  simp only[go_sem,seval,A,q,j,g,N,hb];refine alQ D B (by simpa using hb) d P (λe=>?_) (λe R=>?_) (J l) 0 _ (dP _) ?_ ?_ ?_ ?_;simp only[go_sem,seval];exact⟨_,rfl⟩;simp only[go_sem,seval,R];exact⟨_,rfl⟩
  all_goals first|(simp only[sN,seval];done)|(simp only[sN,seval];rfl)|rfl
variable{o:Obj}
def aDm(j:No Q 138)(d:No Q 213){q:Obj}(g:o.rf)(A:q.rf)(B:s.gE<=s.aL):ld Q 139 [o.val,q.val] s:=by
 have c1:=g.all;have D:=A.all;have N:=WI j g.gT A.gT g.reflen B;have F:=alP d g.mt A.mt g.taglen B;refine ld.of Kh.1 Kh.2 Kh.3 Kh.4 (aM ?_);cases h1:o.id==q.id<;>cases h2:aj o.mT q.mT<;>cases h3:(bif aj o.x q.x then bif aj o.y q.y then O else I else I)<;>simp only[go_sem,seval,Obj.val,Obj.cells,c1,D,h1,h2,h3,Mg]
 all_goals first|exact⟨_,rfl⟩|skip
 refine N.k d_ λb=>?_;cases b;simp only[go_sem,seval];exact⟨_,rfl⟩;simp only[go_sem,seval,c1,D];refine F.k d_ λb=>?_;simp only[go_sem,seval];exact⟨_,rfl⟩
set_option maxRecDepth 100000 in
def aDl(d:No Q 138)(g:No Q 213){a b:aA}(j:a.rf)(q:b.rf)(B:s.gE<=s.aL):ld Q 87 [a.val,b.val] s:=by
 have D:=j.gT.cs;have rb:=q.gT.cs;have S:=j.obj.all;have R:=q.obj.all;have F:=WI d j.gT q.gT (by have:=j.reflen;have:small=9223372036854775808:=rfl;omega) B;have A:=aDm d g j.obj q.obj B;simp only[Obj.val,Obj.cells]at A;refine ld.of Ll.1 Ll.2 Ll.3 Ll.4 (aM ?_);simp only[go_sem,seval,aA.val,aA.cells,D,rb];refine F.k d_ λP=>?_;cases P;simp only[go_sem,seval];exact⟨_,rfl⟩;simp only[go_sem,seval];refine A.k d_ λN=>?_;cases N;simp only[go_sem,seval];exact⟨_,rfl⟩;cases e3:aj a.op b.op<;>cases e4:((a.id==b.id)&&((a.other==b.other)&&((a.node==b.node)&&(a.key==b.key))))<;>cases e5:a.value==b.value<;>
 (simp only[go_sem,seval,e3,e4,e5,anP,Mg,ey];exact⟨_,rfl⟩)
variable{b:Bool}{e0:aA}
def aBx(g:No Q 138)(d:No Q 213)(R:s.gE<=s.aL){a:aA}(q:a.rf)(j:e0.rf)(h1:ac e 1=.uV 1 1 0)(S:ac e 3=.uV 3 1 0)(F:ac e 4=.bool b)(g1:lc.gen 1=1)(g3:lc.gen 3=1)(B:lc.get 1 1=X e0.cells)(A:lc.get 3 1=X a.cells){N:ir}(D:∀P b,ac P 2=.bool b->N ⟨P,132,lc⟩ s):
 WV Q 47 GP ⟨e,132,lc⟩ s N:=by
 have run:=aDl g d q j R;have r1:=j.gT.cs;have V:=q.gT.cs;have o1:=j.obj.all;have o3:=q.obj.all;simp only[aA.val,aA.cells]at run B A;cases b;simp only[go_sem,seval,GP,F];refine D _ I ?_;simp only[sN,seval];simp only[go_sem,seval,GP,h1,S,F,B,A];refine run.k d_ λb=>?_;simp only[go_sem,seval];refine D _ b ?_;simp only[sN,seval]
def tK:Obj:=⟨[],0,0,0,.uP,.uP,[],[]⟩
def BF:tK.rf:=⟨⟨.inl R_,.inl R_,d_,d_,(λ_ h=>by cases h),d_,λ_ h=>by cases h⟩,rfl,rfl⟩
set_option maxRecDepth 100000 in
set_option maxHeartbeats 4000000 in
def T9(a0:Q.spec 57=X qw)(q:Q.spec 86=X vq)(V:No Q 138)(N:No Q 213)(a2:No Q 47)(j:e0.rf)(F:s.gE<=s.aL):ld Q 47 [e0.val] s:=by
 have r1:=j.gT.cs;have rl:=j.gT.lenS bL;have o1:=j.obj.all;have A:=iL F;have one:∀{b:ag},J b<small->vq [.list 1 [.str b] .Al]=X (.bool ([b].all eD)):=λhb=>Sr (.inr ⟨.Al,rfl⟩) (by simp) (λx S=>by rw[kg]at S;subst S;exact hb);have D:=one j.id;have n2:=one j.key;have n3:=one j.other;have n4:vq [.list 1 [.str e0.node,.str e0.other] .Al]=X (.bool ([e0.node,e0.other].all eD)):=Sr (.inr ⟨.Al,rfl⟩) (by simp) (λx S=>by
  simp only[dG,pF,or_false]at S;rcases S with rfl|rfl
  exact j.node;exact j.other)
 have n5:=Sr j.gT j.reflen j.ref;have P:=LK j.obj;simp only[Obj.val,Obj.cells]at P;have z:([]:ag).length<small:=d_
 have gs:∀b:ag,FY (.str b)=cx.none:=λ_=>rfl;have gr:FY e0.refsV=cx.none:=by rcases j.gT with⟨h,_⟩|⟨_,h⟩<;>rw[h]<;>rfl
 have fin:∀{a:aA}{e:aw}{lc:Ag.Loc},a.rf->(h:ac e 1=.uV 1 1 0/\ac e 3=.uV 3 1 0/\lc.gen 1=1/\lc.gen 3=1/\lc.get 1 1=X e0.cells/\lc.get 3 1=X a.cells/\∃b,ac e 4=.bool b:=by
  simp only[sG,seval,aA.cells,tK];exact⟨trivial,trivial,trivial,trivial,trivial,trivial,_,rfl⟩)->WV Q 47 GP ⟨e,132,lc⟩ s λfr s1=>WC Q 47 .ret fr s1 λx a1 s1=>(x=.normal\/x=.ret)/\∃b,ac a1.env 2=.bool b/\s1=s:=λ{a e lc} ga ⟨h1,h3,g1,g3,l1,l3,b,h4⟩=>aBx V N F ga j h1 h3 h4 g1 g3 l1 l3 λe b h=>by
  simp only[go_sem,seval,h];exact⟨_,rfl⟩
 have G:∀{o:Obj}{op x y:Int}{id B node R value:ag},o.rf->J id<small->J B<small->J node<small->J R<small->J value<small->aA.rf ⟨op,id,B,node,x,y,R,value,.uP,[],o⟩:=λb c d e f g=>⟨.inl R_,rfl,b,c,d,e,f,g,fN _,λ_ h=>by cases h⟩;refine ld.of KV.1 KV.2 KV.3 KV.4 (aM ?_);cases e1:aj e0.op 1 with
 |true=>
  simp only[go_sem,seval,aA.val,aA.cells,q,D,e1,sB,A,a0,P,F];exact fin (a:=⟨e0.op,[],[],[],0,0,[],[],.uP,[],e0.obj⟩) (G j.obj z z z z z)
 |false=>
 cases e2:aj e0.op 2 with
 |true=>
  cases b1:[e0.id].all eD<;>cases c1:bV 0 (min e0.x e0.y)<;>
  (simp only[go_sem,seval,aA.val,aA.cells,q,D,e1,e2,b1,sB,A,c1,uM,wP,F];exact fin (a:=⟨e0.op,e0.id,[],[],e0.x,e0.y,[],[],.uP,[],tK⟩) (G BF j.id z z z z))
 |false=>
 cases e3:aj e0.op 3 with
 |true=>
  cases b1:[e0.id].all eD<;>cases c1:[e0.key].all eD<;>
  (simp only[go_sem,seval,aA.val,aA.cells,q,D,e1,e2,e3,b1,sB,A,gs,c1,n2,F];exact fin (a:=⟨e0.op,e0.id,[],[],0,0,e0.key,e0.value,.uP,[],tK⟩) (G BF j.id z z j.key j.value))
 |false=>
 cases e4:aj e0.op 4 with
 |true=>
  cases b1:[e0.id].all eD<;>cases c1:aQ 0 (J e0.gT:Nat)<;>cases c2:bV (J e0.gT:Nat) 2000<;>
  (simp only[go_sem,seval,aA.val,aA.cells,r1,q,D,e1,e2,e3,e4,b1,sB,rl,A,gr,c1,c2,n5,F];exact fin (a:=⟨e0.op,e0.id,[],[],0,0,[],[],e0.refsV,e0.gT,tK⟩) ⟨j.gT,j.pr,BF,j.id,z,z,z,z,j.reflen,j.ref⟩)
 |false=>
 cases e5:aj e0.op 5 with
 |true=>
  simp only[go_sem,seval,aA.val,aA.cells,q,D,e1,e2,e3,e4,e5,sB];exact fin (a:=⟨e0.op,e0.id,[],[],0,0,[],[],.uP,[],tK⟩) (G BF j.id z z z z)
 |false=>
 cases e6:aj e0.op 6 with
 |true=>
  cases b1:[e0.id].all eD<;>
  (simp only[go_sem,seval,aA.val,aA.cells,q,D,e1,e2,e3,e4,e5,e6,b1,sB,A,n4,F];exact fin (a:=⟨e0.op,e0.id,e0.other,e0.node,0,0,[],[],.uP,[],tK⟩) (G BF j.id j.other j.node z z))
 |false=>
 cases e7:aj e0.op 7 with
 |true=>
  cases b1:[e0.id].all eD<;>
  (simp only[go_sem,seval,aA.val,aA.cells,q,D,e1,e2,e3,e4,e5,e6,e7,b1,sB,A,n3,F];exact fin (a:=⟨e0.op,e0.id,e0.other,[],0,0,[],[],.uP,[],tK⟩) (G BF j.id j.other z z z))
 |false=>
 simp only[go_sem,seval,aA.val,aA.cells,q,D,e1,e2,e3,e4,e5,e6,e7,sB];exact⟨_,rfl⟩
structure NV (Q:ay):Prop where
 h75:Q.spec 57=some qw
 h269:Q.spec 86=some vq
 w70:No Q 138
 w373:No Q 213
variable{e:aA}
def ayE(H:NV Q)(d:No Q 47)(g:e.rf)(j:s.gE<=s.aL):ld Q 46 [e.val] s:=by
 have q:=g.gT.cs;have A:=g.obj.all;have run:=T9 H.h75 H.h269 H.w70 H.w373 d g j;simp only[aA.val,aA.cells]at run;refine ld.of KU.1 KU.2 KU.3 KU.4 (aM ?_);simp only[go_sem,seval,aA.val,aA.cells];refine run.k d_ λb=>?_;simp only[go_sem,seval];exact⟨_,rfl⟩
variable{lv:aa}
abbrev vy:=List aA
def aGx(H:NV Q)(j:No Q 47){l:vy}(A:aq 15 aA.val lv l)(F:∀e∈l,e.rf)(B:s.gE<=s.aL):ld Q 22 [lv] s:=by
 have g:=A.cs;have d:=A.lenS kx;have N:J l<=1000000->ld Q 45 [lv,.func (.func 46) [] []] s:=λq=>by
  let⟨v,s',h1,h⟩:=XI (Q:=Q) ajE arO kx A (ED q) (λx _=>⟨(aex _ 0).trans rfl,rfl⟩) (nJ 46) (cap:=[]) (s:=s) (P:=λ_ s'=>s'=s) (D:=λs'=>s'=s) (λi x s' hi h=>by
   subst h
   let⟨b,hr⟩:=ayE H j (F x (co hi)) B
   exact⟨b,_,hr,λ_=>rfl,λ_=>rfl⟩) rfl
  rcases h with⟨rfl,rfl⟩|⟨rfl,rfl⟩<;>exact⟨_,h1⟩
 refine ld.of GF.1 GF.2 GF.3 GF.4 (aM ?_);cases c1:aQ 0 (J l:Nat);simp only[go_sem,seval,g,d,c1];exact⟨_,rfl⟩;cases c2:bV (J l:Nat) 200;simp only[go_sem,seval,g,d,c1,c2];exact⟨_,rfl⟩;simp only[go_sem,seval,g,d,c1,c2];refine(N (by have:=of_decide_eq_true c2;omega)).k d_ λb=>?_;simp only[go_sem,seval];exact⟨_,rfl⟩
def aHa(d:e.rf)(s:St):∃ws:cf,ai Q 23 [e.val] s (.list 1 (ws.map ax) .Al) s/\J ws<=2:=by
 have j:=d.gT.cs;have q:=d.obj.all
 suffices h:∃v s',ai Q 23 [e.val] s v s'/\∃ws:cf,v=.list 1 (ws.map ax) .Al/\s'=s/\J ws<=2 by
  obtain⟨_,_,h,ws,rfl,rfl,g⟩:=h;exact⟨ws,h,g⟩
 refine ai.ofNRZ at6 (aM ?_);cases e1:aj e.op 1<;>cases e6:aj e.op 6<;>cases e7:aj e.op 7<;>
 (simp only[go_sem,seval,aA.val,aA.cells,e1,e6,e7,sB];first|exact⟨_,rfl,[_],rfl,by simp⟩|exact⟨_,rfl,[_,_],rfl,by simp⟩)
variable{c i m:Nat}
def Ft{t b:Nat}{g:Bool}{z:aa}(F:ep ae t 1 b g z){l:Nat}(hi:i<l)(lc:Ag.Loc):fR ae lc t (.arr 1 m 0 l c) (ak i)=X (.ptr m i):=by
 have h:=F.2.2.2.1 lc 1 m 0 l c (ak i);have d:bC i l=O:=bH hi;rw[h,mV,aH,d];simp
structure uE (s:St) (bx r m c:Nat) (up:be):Prop where
 box:s.get [] bx=some (.cells [.arr 1 r 0 up.length c,.map m])
 row:s.get [] r=some (.cells (up.map λi=>ak i))
 le:∀(i v:Nat),up[i]?=some v->v<=i
def aeP{up:be}{v:Nat}(h:up[i]?=X v):((up.map λi=>ak i).drop i).head?=X (ak v):=by
 rw[Cr,gZ,h];rfl
variable{bx:Nat}
def TY{r:Nat}{up:be}(S:uE s bx r m c up)(hi:i<J up):∃t,t<=i/\up[t]?=X t/\(up[i]?=X i->t=i)/\ai Q 26 [.ptr bx 0,ak i] s (ak t) s:=by
 have hb:=S.box;have R:=S.row;have A:∀(d i:Nat),i<=d->i<J up->∃t,t<=i/\up[t]?=X t/\(up[i]?=X i->t=i)/\∀(e:aw)(K:gk),ac e 0=.ptr bx 0->ac e 1=ak i->(∀e',ac e' 1=ak t->K (.exit 0) ⟨e',22,[]⟩ s)->W Q 26 (.loop Kx) ⟨e,22,[]⟩ s K:=by
  intro d
  induction d with
  |zero=>
   intro i hd hi;obtain⟨v,j⟩:∃v,up[i]?=X v:=⟨_,dp hi⟩;have P:v=i:=by have:=S.le i v j;omega
   have F:=λlc=>Ft ff hi (m:=r) (c:=c) lc;have D:=aeP j;subst P;refine⟨v,aD _,j,λ_=>rfl,λe K q g B=>?_⟩;refine aF ?_;simp only[go_sem,seval,Kx,q,g,hb,R,F,D,ve];exact B _ (by simp only[sN,seval,g])
  |succ d ih=>
   intro i hd hi;obtain⟨v,j⟩:∃v,up[i]?=X v:=⟨_,dp hi⟩;have a0:=S.le i v j;have F:=λlc=>Ft ff hi (m:=r) (c:=c) lc;have D:=aeP j;cases hq:aj v i;have V:v≠i:=λh=>by rw[h,ve]at hq;cases hq
   let⟨t,ht,hr0,_,hk⟩:=ih v w_ w_
   refine⟨t,w_,hr0,λh=>absurd (sI (j.symm.trans h)) V,λe K q g B=>?_⟩;refine aF ?_;simp only[go_sem,seval,Kx,q,g,hb,R,F,D,hq];exact hk _ _ (by simp only[sN,seval,q]) (by simp only[sN,seval]) B;have N:v=i:=by
    have h:(v:Int)=i:=by simpa[aj]using hq
    omega
   refine⟨i,aD _,by rw[j,N],λ_=>rfl,λe K q g B=>?_⟩;refine aF ?_;simp only[go_sem,seval,Kx,q,g,hb,R,F,D,hq];exact B _ (by simp only[sN,seval,g])
 let⟨t,ht,hr0,hr1,hk⟩:=A i i (aD _) hi
 refine⟨t,ht,hr0,hr1,?_⟩;obtain⟨v,s',g,rfl,rfl⟩:∃v s',ai Q 26 [.ptr bx 0,ak i] s v s'/\v=ak t/\s'=s:=by
  refine ai.ofNRZ auh (aM ?_);simp only[go_sem,seval];refine hk _ _ (by simp only[sN,seval]) (by simp only[sN,seval]) λe' g=>?_;simp only[go_sem,seval,g];exact⟨_,rfl,rfl⟩
 exact g
def aCQ{up:be}(h:i<J up)(v:Nat):decide (i+1<=(up.map λi=>ak i).length)=O/\(up.map λi=>ak i).take i++aa.int .i64 v::(up.map λi=>ak i).drop (i+1)=(up.set i v).map λi=>ak i:=by
 rw[AJ,Nx];simp[h];omega
def uE.ne{r:Nat}{up:be}(S:uE s bx r m c up):bx≠r:=λh=>by
 have d:=S.box;rw[h,S.row]at d;cases up<;>simp[ak]at d
theorem uE.put{r:Nat}{up:be}(S:uE s bx r m c up){v:Nat}(d:v<=i):uE (s.put r (X (.cells ((up.set i v).map λi=>ak i)))) bx r m c (up.set i v) where
 box:=by
  rw[ol,nN,S.box];have:(bx==r)=I:=by simpa using S.ne
  rw[this];rfl
 row:=by rw[ol];simp
 le:=λj w h=>by
  rw[E6]at h;split at h
  ·next h1=>
   subst h1;split at h;cases h;exact d;cases h
  exact S.le j w h
variable{a:Nat}
def asn{r:Nat}{up:be}(S:uE s bx r m c up){b:Nat}(D:a<J up)(B:b<J up):∃d:be,J d=J up/\uE (s.put r (X (.cells (d.map λi=>ak i)))) bx r m c d/\ai Q 24 [.ptr bx 0,ak a,ak b] s (.tup []) (s.put r (X (.cells (d.map λi=>ak i)))):=by
 let⟨x,hx,_,_,rx⟩:=TY (Q:=Q) S D
 let⟨y,hy,_,_,ry⟩:=TY (Q:=Q) S B
 have N:=S.box;have F:=S.row;have q:max x y<J up:=w_
 have hi:=λlc=>Ft ff q (m:=r) (c:=c) lc;have A:=aCQ q (min x y);have V:max (x:Int) (y:Int)=((max x y:Nat):Int):=w_
 have R:min (x:Int) (y:Int)=((min x y:Nat):Int):=w_
 refine⟨up.set (max x y) (min x y),by simp,S.put w_,?_⟩;obtain⟨v,s',P,rfl,rfl⟩:∃v s',ai Q 24 [.ptr bx 0,ak a,ak b] s v s'/\v=.tup []/\s'=s.put r (X (.cells ((up.set (max x y) (min x y)).map λi=>ak i))):=by
  refine ai.ofNRZ aua (aM ?_);simp only[go_sem,seval];refine aV.of rx d_ ?_;simp only[go_sem,seval];refine aV.of ry d_ ?_;simp only[go_sem,seval,N,F,wP,uM,V,R,hi,dl,du,A];exact⟨_,rfl,rfl⟩
 exact P
structure aZ.OkS (x:aZ):Prop where
 vals:aq 1 ax x.valuesV x.values
 pv:br x.valuesV=true
 area:x.area.length<small
 key:x.key.length<small
 ifK:x.ifK.length<small
 len:x.values.length<small
def aC0{l:vx}(h:aq 8 aZ.val v l)(g:∀x∈l,x.OkS):Ag.d8 v=O/\aq 8 aZ.val (dh v) l:=by
 have d:pures (l.map aZ.val)=O:=by
  rw[pures_all];intro v q;obtain⟨x,j,rfl⟩:=cC.1 q;simp only[aZ.val,aZ.cells,br,pures,(g x j).pv,cj]
 rcases h with⟨rfl,rfl⟩|⟨r,rfl⟩
 exact⟨rfl,.inl R_⟩;exact⟨by simpa[Ag.d8]using d,.inr (by
  simp only[dh,ky d];exact⟨_,rfl⟩)⟩
abbrev p_:=List VE
def ET(l:ba)(rl:vx)(name:ag):p_:=(ze (iR l name) rl).flatMap λL=>L.map λq=>(name,q)
theorem af6(l:ba)(rl:vx)(name:ag):m7 l rl name=(ET l rl name).map jG:=by
 unfold m7 ET;rw[List.map_flatMap];congr 1;funext L;rw[kW];rfl
def sZ(l:ba)(views:cf)(rl:vx):p_:=bif bw l then([]::views).flatMap (ET l rl)else []
theorem ajX(l:ba)(views:cf)(rl:vx):ta l views rl=(sZ l views rl).map jG:=by
 unfold ta sZ;cases bw l;rfl;show([]::views).flatMap (m7 l rl)=(([]::views).flatMap (ET l rl)).map jG;rw[List.map_flatMap];congr 1
 grind [af6]
variable{l:ba}
def ajW(h:bw l=O->J l<=900)(views:cf)(rl:vx):(sZ l views rl).length<=(J views+1)*3000000:=by
 unfold sZ;cases hv:bw l;exact fN _;have d:=Ua (rl:=rl) (h hv) ([]::views)
 simp_all [ET,af6]
def uY:aa->Bool
 |.agg _=>I
 |.tup _=>I
 |.list _ xs _=>pures xs
 |v=>br v
def JL(h:uY v=O):Ag.d8 v=O:=by
 cases v<;>first|exact h|(cases h;done)
def JM(h:uY v=O):uY (dh v)=O:=by
 cases v with
 |list n d r=>
  have h:pures d=O:=h;simp only[dh,ky h];cases r<;>exact h
 |agg cs=>cases h
 |tup cs=>cases h
 |_=>rw[x8 h];exact h
def wZ(a b c d:aa):Bool:=uY a&&(uY b&&(uY c&&uY d))
def Ph{a b c d:aa}(h:wZ a b c d=O):dW [a,b,c,d]=O:=by
 simp only[wZ,bh]at h;simp only[dW,JL h.1,JL h.2.1,JL h.2.2.1,JL h.2.2.2,cj]
def anz{a b c d:aa}(h:wZ a b c d=O):wZ (dh a) (dh b) (dh c) (dh d)=O:=by
 simp only[wZ,bh]at h⊢;exact⟨JM h.1,JM h.2.1,JM h.2.2.1,JM h.2.2.2⟩
variable{rl:vx}
def aj2{L:b_}(g:L∈ze l rl){q:VQ}(d:q∈L):J q.2.1<=2:=by
 simp only[ze,dG,pF,or_false]at g;rcases g with rfl|rfl|rfl|rfl|rfl
 obtain⟨o,_,rfl⟩:=cC.1 d;exact io 1;obtain⟨k,_,rfl⟩:=cC.1 d;show(iM k).length<=2;unfold iM;cases k.1==k.2;exact aD 2;exact io 1;rcases fA.1 d with d|d
 obtain⟨o,_,rfl⟩:=cC.1 d;exact io 1;obtain⟨o,_,rfl⟩:=cC.1 d;exact aD 2;rcases fA.1 d with d|d
 obtain⟨o,_,rfl⟩:=cC.1 d;exact io 1;obtain⟨o,_,rfl⟩:=cC.1 d;exact io 1;obtain⟨o,_,rfl⟩:=cC.1 d;exact io 1
variable{p:VE}
def aGz{name:ag}(h:p∈ET l rl name):J p.2.2.1<=2:=by
 let⟨L,hL,hp⟩:=sD.1 h
 obtain⟨q,d,rfl⟩:=cC.1 hp;exact aj2 hL d
def ajV(h:p∈sZ l views rl):J p.2.2.1<=2:=by
 unfold sZ at h;cases hv:bw l;rw[hv]at h;cases h;rw[hv]at h
 let⟨n,_,hp⟩:=sD.1 h
 exact aGz hp
structure AZ (C l:ba):Prop where
 sub:C.Sublist l
 val:bw l=true
 at_:∀o∈C,∀r∈o.gT,ct r C=ct r l
def BG(d:bw l=O)(h:o∈l):ct o.id l=X o:=D3 (rz d) h
namespace AZ
variable{C l:ba}
def mem(P:AZ C l)(h:o∈C):o∈l:=P.sub.subset h
def up(P:AZ C l){r:ag}(h:ct r C=X o):ct r l=X o:=by
 obtain⟨d,rfl⟩:=oA h;exact BG P.val (P.mem d)
def mT(P:AZ C l)(g:o∈C){r:ag}(d:r∈o.gT):mS C r=mS l r:=by
 unfold mS;rw[P.at_ o g r d]
def node(P:AZ C l)(g:o∈C){r:ag}(d:r∈o.gT):dI C r=dI l r:=by
 unfold dI;rw[P.mT g d]
def pt(P:AZ C l)(g:o∈C){r:ag}(d:r∈o.gT):eM C r=eM l r:=by
 unfold eM;rw[P.at_ o g r d]
end AZ
theorem aEa{K:pX}{k:CK}:k∈qB K↔k∈K:=by
 grind [qB,vS]
variable{Q:ay}[Std Q]
def rG(B:dd)(l:cf):dd:=l.foldl (λB k=>dt k (.bool O) B) B
def abU(l:cf):∀B,(rG B l).length<=J B+J l:=by
 induction l with
 |nil=>exact λB=>aD _
 |cons x l d=>
  intro B;have g:=d (dt x (.bool O) B);have j:(dt x (.bool O) B).length<=J B+1:=by
   rcases h:bX x B with _|u
   rw[rE h];simp;rw[Gc h];omega
  simp only[rG,List.foldl_cons,bT]at g⊢;omega
variable{l:cf}
def aBi(hs:aq 1 ax sv l)(hl:J l<=1000000){p:Nat}{s0:St}(hp:s0.get [] p=X (.cells [.map a]))(N:p≠a):
 ∀(rest d:cf)(e:aw)(B:dd)(s:St),l=d++rest->bg aa.str s a B->dz a s0 s->(∀e s',bg aa.str s' a (rG B rest)->dz a s0 s'->K (.exit 0) ⟨e,14,lc⟩ s')->ac e 1=.ptr p 0->ac e 5=sv->ac e 6=ak (J l)->ac e 7=ak (J d)->W Q 48 (.loop Rf) ⟨e,14,lc⟩ s K:=by
 intro rest;have a0:=hs.cs
 induction rest with
 |nil=>
  intro d e B s j S g V e1 e5 q e7;have P:=cz j;refine aF ?_;simp only[go_sem,seval,Rf,q,e7,P,bJ];exact V _ _ S g
 |cons x rest ih=>
  intro d e B s j S g V e1 e5 q e7
  let⟨hlt,hat⟩:=cH j
  have R:=λlc k=>hs.at bL.2.2.1 hat lc k;have A:=cm (n:=J d) w_;have D:=lN fY DW S x (.bool O);have F:=(g.1 p N).trans hp;refine aF ?_;simp only[go_sem,seval,Rf,e1,e5,q,e7,hlt,R,F,D,ax,A];refine ih (d++[x]) _ _ _ (cP j) qM (g.put _) V ?_ ?_ ?_ ?_<;>simp only[sN,seval,e1,e5,q,sA]
def S4(d:aq 1 ax sv l)(F:J l<=1000000){p:Nat}(A:s.get [] p=X (.cells [.map a]))(g:p≠a){B:dd}(N:bg aa.str s a B)(D:s.gE<=s.aL):∃v s',ai Q 48 [sv,.ptr p 0] s v s'/\(v=.tup []/\bg aa.str s' a (rG B l)/\dz a s s'):=by
 have q:=d.cs;have j:=d.lenS bL;refine ai.ofNRZ auF (aM ?_);simp only[go_sem,seval,q,j];refine aBi d F A g l [] _ B s rfl N (dz.refl D) (λe s' R P=>?_) ?_ ?_ ?_ ?_;simp only[go_sem,seval];exact⟨_,rfl,rfl,R,P⟩
 all_goals simp only[sN,seval,bn]
 all_goals rfl
def aA.ids(e:aA):cf:=[e.id,e.other,e.node,e.obj.id]++(e.gT++e.obj.gT)
def aFV:ae.underlying 101=X (.map 9 4):=k_
def ax9(hK:∀i,1000000<=Q.kmax i){it lo:Nat}{L:dd}(a9:J L<1000000)(a8:∀p∈L,p.2=.bool O)(c1:it<lo)(c2:a<lo)(d1:a≠it){s0:St}{C:gk}(hx:∀e lc s ov (d:cf),d.Perm ((L.map (·.1)).filter λx=> !(x== []))->gI 1 s ov (d.map ax)->(∀k,k<lo->k≠it->s.get [] k=s0.get [] k)->lo<=s.aL->s.gE<=s.aL->(∀r,gl ov=X r->lo<=r)->ac e 5=ov->C (.exit 0) ⟨e,48,lc⟩ s):
 ∀(cc:Nat)(seen:be)(e:aw)(lc:Ag.Loc)(s:St)(ov:aa)(d:cf),cc+J seen=J L->hJ aa.str s it a L seen->d=(seen.map (λb=>(L.getD b ([],.uP)).1)).filter (λx=> !(x== []))->gI 1 s ov (d.map ax)->(∀k,k<lo->k≠it->s.get [] k=s0.get [] k)->lo<=s.aL->s.gE<=s.aL->(∀r,gl ov=X r->lo<=r)->ac e 5=ov->ac e 34=.ptr it 0->W Q 25 (.loop Kw) ⟨e,48,lc⟩ s C:=by
 intro cc
 induction cc with
 |zero=>
  intro seen e lc s ov d hc a0 A hO B P F g h5 q;rcases a0.aL Q.ch Q.kmax (λi=>by have:=hK i;omega)with⟨hp,hn⟩|⟨b,p,s1,hb,hnm,hlt,_⟩
  refine aF ?_;simp only[go_sem,seval,Kw,q,tm,hn,sB];refine hx _ _ s ov d ?_ hO B P F g (by simp only[sN,seval,h5]);rw[A];refine((hp.map _).filter _).trans ?_;have:(List.range (J L)).map (λb=>(L.getD b ([],.uP)).1)=L.map (·.1):=by
   refine List.ext_getElem (by simp) λi h1 h2=>?_;have h2:i<J L:=by simpa using h2
   simp[lQ,h2]
  rw[this];omega
 |succ cc ih=>
  intro seen e lc s ov d hc a0 A hO B P F g h5 q;rcases a0.aL Q.ch Q.kmax (λi=>by have:=hK i;omega)with⟨hp,hn⟩|⟨b,p,s1,hb,hnm,hlt,hn,ho,hi,hn1,hm1⟩
  have:=hp.length_eq;rw[List.length_range]at this;omega
  ·have I1:=a0.go d1 hb hnm ho hi
   have S:=hJ.entry hi I1.hm hb;have D:s1.gE<=s1.aL:=by rw[hm1,hn1];exact cG s it Z F
   have a7:=hO.gt;have pc:p.2.gt=O:=by rw[a8 p (co hb)];rfl
   have V:gI 1 s1 ov (d.map ax):=hO.mono (λr hr=>ho r (by have:=g r hr;omega)) w_;have R:J d<1000000:=by
    have:=jv (λx:ag=> !(x== [])) (seen.map (λb=>(L.getD b ([],.uP)).1));rw[bj]at this;rw[A];exact Nat.lt_of_le_of_lt this w_
   refine aF ?_;cases he:p.1== []with
   |true=>
    simp only[go_sem,seval,Kw,q,tm,hn,Dk,S,sB,he];refine ih (seen++[b]) _ _ s1 ov d (by rw[bK];simp only[bT,bn];omega) I1 ?_ V (λk hk j=>by rw[ho k j];exact B k hk j) w_ D g ?_ ?_;rw[db,Ir,<-A];have N:p.1=[]:=by simpa using he
    simp[lQ,hb,N]
    all_goals simp only[sN,seval,h5,q]
   |false=>
    let⟨s3,a1,a2,a3,a4,a5,a6⟩:=CJ (t:=25) bL.1 rfl d_ (ax p.1) (λy hy=>by
     obtain⟨x,_,rfl⟩:=cC.1 hy;rfl) (by rw[bj];exact R) D V
    simp only[ax]at a1;simp only[go_sem,seval,Kw,h5,q,tm,hn,Dk,S,a7,a1,sB,he];refine ih (seen++[b]) _ _ s3 (.arr 1 s1.aL 0 ((d.map ax).length+1) ((d.map ax).length+1)) (d++[p.1]) (by rw[bK];simp only[bT,bn];omega) ⟨?_,?_,I1.nd,I1.lt⟩ ?_ ?_ (λk hk j=>?_) w_ a5 (λr hr=>?_) ?_ ?_;rw[a6 it w_ (λe=>by have:=g it e;omega)];exact I1.hi;exact(a6 a w_ (λe=>by have:=g a e;omega)).trans I1.hm;have j:p.1≠[]:=λe=>by rw[e]at he;cases he
    rw[db,Ir,<-A];simp[lQ,hb,j];rw[db];exact a2;rw[a6 k w_ (λe=>by have:=g k e;omega),ho k j];exact B k hk j;injection hr with hr
    omega
    all_goals simp only[sN,seval,q,bj]
theorem Ys{k:ag}:∀{B:dd}{p:ag×aa},p∈dt k v B->p.2=v\/p∈B:=by
 intro B
 induction B with
 |nil=>intro p h;simp[dt]at h;rw[h];exact .inl rfl
 |cons x B d=>
  intro p h;unfold dt at h
  grind
def awb(l:cf):∀{B:dd},(∀p∈B,p.2=.bool O)->∀p∈rG B l,p.2=.bool O:=by
 induction l with
 |nil=>exact λh=>h
 |cons x l d=>exact λh=>d λp g=>(Ys g).elim id (h p)
def BE(e:aA):cf:=iQ (((rG [] e.ids).map (·.1)).filter λx=> !(x== []))
structure NmP (s s':St) (v:aa) (ws:cf):Prop where
 row:gI 1 s' v (ws.map ax)
 old:∀k,k<s.aL->s'.get [] k=s.get [] k
 nx:s.aL<=s'.aL
 mw:s'.gE<=s'.aL
 rl:∀r,gl v=some r->s.aL<=r
theorem acS(hK:∀i,1000000<=Q.kmax i)(b5:No Q 47)(q:Q.spec 49=Z)(A:Q.specW 49=X Ca)(b6:No Q 25)(ge:e.rf)(b7:J e.ids<1000000)(hm:s.gE<=s.aL)(run:ai Q 47 [e.val] s (.bool b) s):
 ∃v s',ai Q 25 [e.val] s v s'/\NmP s s' v (bif b then BE e else []):=by
 have r1:=ge.gT.cs;have o1:=ge.obj.all;simp only[aA.val,aA.cells]at run;have cn:aa.nilm.cells=[aa.nilm]:=rfl;have c4:J e.ids=4+(J e.gT+J e.obj.gT):=by simp[aA.ids];omega
 have a8:((s.new (.map [] 0)).new (.cells [.nilm])).get [] (s.aL+1)=X (.cells [.nilm]):=cu;obtain⟨z,V⟩:=cw (((s.new (.map [] 0)).new (.cells [.nilm])).put (s.aL+1) (X (.cells [.map s.aL])));have zn:z.aL=s.aL+2:=by rw[<-V];rfl
 have zp:z.get [] (s.aL+1)=X (.cells [.map s.aL]):=by rw[<-V,aN,bS];rfl
 have zm:bg aa.str z s.aL []:=by
  show z.get [] s.aL=_;rw[<-V,aN,bN.2 (by omega:s.aL≠s.aL+1),cF,cV (by show s.aL<s.aL+1;omega),cu];rfl
 have zo:∀k,k<s.aL->z.get [] k=s.get [] k:=λk P=>by
  rw[<-V,aN,bN.2 (by omega:k≠s.aL+1),cF,cV (by show k<s.aL+1;omega),cV P]
 have zw:z.gE<=z.aL:=by rw[<-V];exact cG _ _ _ (by show s.gE<=s.aL+1+1;omega)
 have c1:=S4 (Q:=Q) (sv:=.list 1 [.str e.id,.str e.other,.str e.node,.str e.obj.id] .Al) (l:=[e.id,e.other,e.node,e.obj.id]) (.inr ⟨.Al,rfl⟩) (by simp) zp w_ zm zw;refine ai.ofNRZ aue (aM ?_);simp only[go_sem,seval,aA.val,aA.cells];refine aV.of run d_ ?_;cases b with
 |false=>
  simp only[go_sem,seval];exact⟨_,rfl,.inl R_,λ_ _=>rfl,aD _,hm,λr hr=>by cases hr⟩
 |true=>
  simp only[go_sem,seval,jq,cn,dl,a8,du,V,sB];refine aV.ex c1 d_ ?_;rintro _ s2 ⟨rfl,m2,b2⟩;have p2:=(b2.old (s.aL+1) w_).trans zp;have c2:=S4 (Q:=Q) ge.gT ge.reflen p2 w_ m2 b2.mw;simp only[go_sem,seval,r1];refine aV.ex c2 d_ ?_;rintro _ s3 ⟨rfl,m3,b3⟩;have p3:=(b3.old (s.aL+1) w_).trans p2;have c3:=S4 (Q:=Q) ge.obj.gT w_ p3 w_ m3 b3.mw;simp only[go_sem,seval,o1];refine aV.ex c3 d_ ?_;rintro _ F ⟨rfl,m4,b4⟩;have p4:=(b4.old (s.aL+1) w_).trans p3;have n4:F.aL=s.aL+2:=by rw[b4.aL,b3.aL,b2.aL,zn]
  have o4:∀k,k<s.aL->F.get [] k=s.get [] k:=λk P=>by rw[b4.old k w_,b3.old k w_,b2.old k w_,zo k P]
  obtain⟨L,hL⟩:=cw (rG (rG (rG [] [e.id,e.other,e.node,e.obj.id]) e.gT) e.obj.gT);have R:L=rG [] e.ids:=by
   rw[<-hL];simp only[rG,aA.ids,List.foldl_append]
  rw[hL]at m4;have a5:J L<1000000:=by
   have:=abU e.ids [];rw[R];simp only[bn]at this;omega
  have b0:∀p∈L,p.2=.bool O:=by rw[R];exact awb _ λ_ h=>by cases h
  have a2:=hJ.new aFV m4;have hI:=hJ.begin m4 w_;obtain⟨u,hu⟩:=cw (F.new (.iter (X s.aL) (J L) [] (J L)));rw[hu]at a2 hI;have un:u.aL=s.aL+3:=by rw[<-hu];show F.aL+1=_;omega
  have uo:∀k,k<F.aL->u.get [] k=F.get [] k:=λk P=>by rw[<-hu,cV P]
  have um:u.gE<=u.aL:=by rw[<-hu];exact cr b4.mw
  simp only[go_sem,seval,p4,FW,a2];refine ax9 hK (it:=F.aL) (a:=s.aL) (lo:=s.aL+3) a5 b0 w_ w_ w_ (s0:=u) ?_ (J L) [] _ _ u .uP [] (by simp) hI rfl (.inl R_) (λ_ _ _=>rfl) w_ um (λr hr=>by cases hr) ?_ ?_;intro e1 lc S ov d g hO a9 b8 B a1 h5;have a0:=hO.gt;have old:∀k,k<s.aL->S.get [] k=s.get [] k:=λk P=>(a9 k w_ w_).trans ((uo k w_).trans (o4 k P));have c6:J d<1000000:=by
   have:=jv (λx:ag=> !(x== [])) (L.map (·.1));rw[bj]at this;rw[g.length_eq];exact Nat.lt_of_le_of_lt this a5
  have hS:iQ d=BE e:=by rw[BE,<-R];exact aD6 g
  have N:∃w D,ai Q 49 [ov] S w D/\(w=.tup []/\gI 1 D ov ((BE e).map ax)/\(∀k,k<s.aL->D.get [] k=s.get [] k)/\s.aL<=D.aL/\D.gE<=D.aL):=by
   rcases hO with⟨rfl,h0⟩|⟨h0,k,rfl,a3,a7⟩
   have h0:=pE.1 h0;subst h0;exact⟨_,S,ai.specW0 q (Std.H _) A rfl,rfl,.inl ⟨rfl,by rw[<-hS];rfl⟩,old,w_,B⟩;have c5:=a1 k rfl;have c0:(iQ d).length=J d:=(B9 d).length_eq;have a4:bC (d.map ax).length 1000001=O:=bH (by rw[bj];omega);rw[rp]at a3;have a6:em (S.get []) (rX (bif aB (d.map ax).length (d.map ax).length&&bC (d.map ax).length 1000001 then(rd (d.map ax)).bind λl=>X ((iQ l).map ax)else Z))=X (.agg ((iQ d).map ax)):=by
    rw[a4,Nat.beq_refl,cj,cT,Fx];rfl
   refine⟨_,_,ai.specW (n:=k) (cs':=(iQ d).map ax) q (Std.H _) A rfl a3 a6,rfl,.inr ⟨λe=>?_,k,?_,?_,a7⟩,λj hj=>?_,?_,cG S k _ B⟩
   grind [bj]
   grind
   rw[aN,bS,hS,rp];rfl
   grind [aN]
   show s.aL<=S.aL;omega
  simp only[go_sem,seval,h5,a0,q];refine aV.ex N d_ ?_;rintro w D ⟨rfl,b1,b2,b3,b4⟩;simp only[go_sem,seval,h5,a0];exact⟨_,rfl,b1,b2,b3,b4,λr hr=>by have:=a1 r hr;omega⟩
  all_goals simp only[sN,seval]
def JJ:∀l:be,au (l.map λi=>ak i)=l.map λi=>ak i
 |[]=>rfl
 |_::l=>congrArg _ (JJ l)
structure Fp (s0 s:St) (bx m hi n:Nat) (v:aa) (up:be) (L:dd):Prop where
 box:s.get [] bx=some (.cells [v,.map m])
 row:gI 1 s v (up.map λi=>ak i)
 len:up.length=n
 le:∀(i u:Nat),up[i]?=some u->u<=i
 map:bg aa.str s m L
 val:∀p∈L,∃j:Nat,p.2=ak j/\j<n
 rl:∀r,gl v=some r->s0.aL<=r/\r<hi
 old:∀k,k<s0.aL->s.get [] k=s0.get [] k
 hn:hi<=s.aL
 mw:s.gE<=s.aL
 b0:s0.aL<=bx/\bx<hi
 m0:s0.aL<=m/\m<hi
def UI(s0 s:St)(bx m hi n:Nat):Prop:=∃v up L,Fp s0 s bx m hi n v up L
variable{hi:Nat}
def Fp.sets{s0:St}{up:be}{L:dd}(h:Fp s0 s bx m hi n v up L)(q:0<n):∃r,v=.arr 1 r 0 (J up) (J up)/\uE s bx r m (J up) up:=by
 rcases h.row with⟨_,j⟩|⟨_,k,d,g,_⟩
 have:=h.len;rw[pE.1 j]at this;simp at this;omega;rw[bj]at d;rw[JJ]at g;exact⟨k,d,by rw[h.box,d],g,h.le⟩
def UI.join{s0:St}(h:UI s0 s bx m hi n){b:Nat}(D:a<n)(B:b<n):∃s',ai Q 24 [.ptr bx 0,ak a,ak b] s (.tup []) s'/\UI s0 s' bx m hi n/\(∀k,hi<=k->s'.get [] k=s.get [] k)/\s'.aL=s.aL:=by
 let⟨v,up,L,h⟩:=h
 let⟨r,hv,S⟩:=h.sets w_
 let⟨r0,r1⟩:=h.rl r (by rw[hv];rfl)
 let⟨up',h1,S',run⟩:=asn (Q:=Q) S (a:=a) (b:=b) (by rw[h.len];exact D) (by rw[h.len];exact B)
 have A:=h.b0;have q:=h.m0;have g:m≠r:=λe=>by
  have d:s.get [] m=_:=h.map;rw[e,S.row]at d;cases d
 refine⟨_,run,⟨v,up',L,?_,.inr ⟨?_,r,?_,?_,by have:=h.hn;show r<s.aL;omega⟩,by rw[h1,h.len],S'.le,?_,h.val,h.rl,λk j=>?_,h.hn,cG _ _ _ h.mw,h.b0,h.m0⟩,λk j=>?_,rfl⟩;rw[S'.box,hv,h1];intro e;have d:=congrArg nM e;rw[bj,h1,h.len]at d;simp at d;omega;rw[hv,bj,h1];rw[JJ];exact S'.row;show kZ _ [] m=_;rw[aN,bN.2 g];exact h.map;rw[aN,bN.2 (by omega:k≠r)];exact h.old k j;rw[aN,bN.2 (by omega:k≠r)];rfl
theorem UI.put{s0:St}(h:UI s0 s bx m hi n):∃L,bg aa.str s m L/\(∀p∈L,∃j:Nat,p.2=ak j/\j<n)/\∀(x:ag)(i:Nat),i<n->UI s0 (s.put m (X (.map (cY aa.str 0 (dt x (ak i) L)) (dt x (ak i) L).length))) bx m hi n:=by
 let⟨v,up,L,h⟩:=h
 refine⟨L,h.map,h.val,λx i hi=>?_⟩;have q:s.get [] m=_:=h.map;have N:=h.b0;have D:=h.m0;have A:bx≠m:=λe=>by
  rw[<-e,h.box]at q;cases q
 refine⟨v,up,_,?_,h.row.mono (λr g=>?_) (aD _),h.len,h.le,qM,λp B=>?_,h.rl,λk F=>?_,h.hn,cG _ _ _ h.mw,h.b0,h.m0⟩;rw[aN,bN.2 A];exact h.box;have:r≠m:=λe=>by
  rcases h.row with⟨d,_⟩|⟨_,k,d,P,_⟩
  rw[d]at g;cases g;rw[d]at g;injection g with g
  rw[<-e,<-g,P]at q;cases q
 rw[aN,bN.2 this];rfl;rcases Ys B with d|d
 exact⟨i,d,hi⟩;exact h.val p d;rw[aN,bN.2 (by omega:k≠m)];exact h.old k F
theorem acs{x:ag}:∀{L:dd},bX x L=X v->(x,v)∈L:=by
 intro L
 induction L with
 |nil=>intro h;cases h
 |cons p L d=>
  intro h;unfold bX at h
  grind
structure yT (e:aw) (lv:aa) (l:vy) (bx:Nat):Prop where
 h0:ac e 0=lv
 h3:ac e 3=.ptr bx 0
variable{l:vy}{ws:cf}
def aGi(a4:J ws<=2){s0:St}(V:i<n)(hx:∀e s,UI s0 s bx m hi n->yT e lv l bx->ac e 26=lv->ac e 27=ak (J l)->ac e 28=ak i->K (.exit 2) ⟨e,137,lc⟩ s):
 ∀(rest d:cf)(e:aw)(s:St),ws=d++rest->UI s0 s bx m hi n->yT e lv l bx->ac e 26=lv->ac e 27=ak (J l)->ac e 28=ak i->ac e 4=ak i->ac e 44=.list 1 (ws.map ax) .Al->ac e 45=ak (J ws)->ac e 46=ak (J d)->W Q 7 (.loop Lj) ⟨e,137,lc⟩ s K:=by
 intro rest;have hs:aq 1 ax (.list 1 (ws.map ax) .Al) ws:=.inr ⟨.Al,rfl⟩;have a5:=hs.cs
 induction rest with
 |nil=>
  intro d e s h1 R E N F D e4 B q A;have a3:=cz h1;refine aF ?_;simp only[go_sem,seval,Lj,q,A,a3,bJ];refine hx _ _ R ⟨?_,?_⟩ ?_ ?_ ?_<;>simp only[sN,seval,E.h0,E.h3,N,F,D]
 |cons x rest ih=>
  intro d e s h1 R E N F D e4 B q A
  let⟨hlt,hat⟩:=cH h1
  have a0:=λlc k=>hs.at bL.2.2.1 hat lc k;have P:=cm (n:=J d) w_;have e3:=E.h3
  let⟨L,hM,hval,hput⟩:=R.put
  have g:=nG fY rJ uf hM x
  let⟨v,up,L2,U⟩:=id R
  have a1:=U.box;refine aF ?_;cases hq:bX x L with
  |none=>
   have a2:=lN fY rJ hM x (ak i);have S:=hput x i V;rw[hq]at g;simp only[ii]at g;simp only[go_sem,seval,Lj,e3,e4,B,q,A,hlt,a0,ax,a1,g,a2,P];refine ih (d++[x]) _ _ (cP h1) S ⟨?_,?_⟩ ?_ ?_ ?_ ?_ ?_ ?_ ?_<;>simp only[sN,seval,E.h0,E.h3,N,F,D,e4,B,q,sA]
  |some w=>
   let⟨j,hj,hjn⟩:=hval _ (acs hq)
   simp only at hj;subst hj
   let⟨s1,run,hu1,_⟩:=R.join (Q:=Q) V hjn
   rw[hq]at g;simp only[ii]at g;simp only[go_sem,seval,Lj,e3,e4,B,q,A,hlt,a0,ax,a1,g];refine aV.of run d_ ?_;simp only[go_sem,seval,A,P];refine ih (d++[x]) _ _ (cP h1) hu1 ⟨?_,?_⟩ ?_ ?_ ?_ ?_ ?_ ?_ ?_<;>simp only[sN,seval,E.h0,E.h3,N,F,D,e4,B,q,sA]
def Fp.nrow{s0:St}{up:be}{L:dd}(h:Fp s0 s bx m hi n v up L):gl v≠X m/\gl v≠X bx:=by
 have g:s.get [] m=_:=h.map;have j:=h.box;rcases h.row with⟨d,_⟩|⟨_,k,d,q,_⟩
 rw[d];exact⟨λe=>(by cases e),λe=>by cases e⟩;rw[d];refine⟨λe=>?_,λe=>?_⟩;injection e with e
 rw[<-e,q]at g;cases g;injection e with e
 rw[<-e,q,JJ]at j;cases up<;>simp[ak]at j
def UI.app{s0:St}(h:UI s0 s bx m hi n)(hn:n<1000000):∃v q g,s.get [] bx=X (.cells [v,.map m])/\v.gt=O/\v.cells=[v]/\cL ae [] 26 v (.list 1 [ak n] .Al) O s=X (q,g)/\q.gt=O/\q.cells=[q]/\g.get [] bx=X (.cells [v,.map m])/\UI s0 (g.put bx (X (.cells [q,.map m]))) bx m g.aL (n+1):=by
 let⟨v,up,L,h⟩:=h
 have S:=h.len;have a7:=h.b0;have R:=h.m0;have a0:=h.hn
 let⟨n1,n2⟩:=h.nrow
 let⟨g,a1,a2,a3,a4,a5,a6⟩:=CJ (t:=26) ff.1 rfl d_ (ak n) (λy N=>by
  obtain⟨x,_,rfl⟩:=cC.1 N;rfl) (by rw[bj];omega) h.mw h.row
 have g1:g.get [] bx=X (.cells [v,.map m]):=(a6 bx w_ n2).trans h.box;have D:m≠bx:=λe=>by
  have F:s.get [] m=_:=h.map;rw[e,h.box]at F;cases F
 rw[bj]at a1 a2;refine⟨v,.arr 1 s.aL 0 (J up+1) (J up+1),g,h.box,h.row.gt,h.row.cells,a1,rfl,rfl,g1,.arr 1 s.aL 0 (J up+1) (J up+1),up++[n],L,?_,?_,by simp[S],λi u d=>?_,?_,λp P=>?_,λr A=>?_,λk V=>?_,aD _,cG _ _ _ a5,w_,w_⟩;rw[aN,bS];rfl;rw[db];refine gI.mono a2 (λr A=>?_) (aD _);have A:s.aL=r:=sI A;rw[aN,bN.2 (by omega:r≠bx)];rfl;rw[List.getElem?_append]at d;split at d;exact h.le i u d;rw[List.getElem?_singleton]at d;split at d;injection d with d
 omega;cases d;show kZ _ [] m=_;rw[aN,bN.2 D,cF,a6 m w_ n1];exact h.map
 let⟨j,h1,h2⟩:=h.val p P
 exact⟨j,h1,w_⟩;have A:s.aL=r:=sI A;omega;have B:gl v≠X k:=λe=>by have:=h.rl k e;omega
 rw[aN,bN.2 (by omega:k≠bx),cF,a6 k w_ B];exact h.old k V
def aGj(S:aq 15 aA.val lv l)(hg:∀e∈l,e.rf)(R:J l<=1000000){s0:St}(hx:∀e lc s hi,UI s0 s bx m hi (J l)->yT e lv l bx->K (.exit 0) ⟨e,137,lc⟩ s):
 ∀(rest d:vy)(e:aw)(lc:Ag.Loc)(s:St)(hi:Nat),l=d++rest->UI s0 s bx m hi (J d)->yT e lv l bx->ac e 26=lv->ac e 27=ak (J l)->ac e 28=ak (J d)->W Q 7 (.loop RK) ⟨e,137,lc⟩ s K:=by
 intro rest;have a0:=S.cs
 induction rest with
 |nil=>
  intro d e lc s hi D A E q j g;have B:=cz D;rw[B]at A;refine aF ?_;simp only[go_sem,seval,RK,j,g,B,bJ];refine hx _ _ _ _ A ⟨?_,?_⟩<;>simp only[sN,seval,E.h0,E.h3]
 |cons x rest V=>
  intro d e lc s hi D A E q j g
  let⟨hlt,hat⟩:=cH D
  have N:=λlc k=>S.at kx.2.2.1 hat lc k;have F:=cm (n:=J d) w_;have P:=hg x (co hat);have x1:=P.gT.cs;have x2:=P.obj.all;have e3:=E.h3
  let⟨v,v',s1,b1,b2,b3,b4,b5,b6,b7,hu1⟩:=A.app w_
  let⟨ws,hw,hwl⟩:=aHa (Q:=Q) P (s1.put bx (X (.cells [v',.map m])))
  simp only[aA.val,aA.cells]at hw;refine aF ?_;simp only[go_sem,seval,RK,e3,q,j,g,hlt,N,aA.val,aA.cells,b1,b2,b4,b5,b6,b7,dl,du,sB];refine aV.of hw d_ ?_;simp only[go_sem,seval];refine aGi (hi:=s1.aL) (n:=J d+1) (i:=J d) (l:=l) (lv:=lv) hwl (gN _) (λe s A E q j g=>?_) ws [] _ _ rfl hu1 ⟨?_,?_⟩ ?_ ?_ ?_ ?_ ?_ ?_ ?_
  ·simp only[go_sem,seval,g,F]
   refine V (d++[x]) _ _ _ s1.aL (by rw[D];simp) (by simpa using A) ⟨?_,?_⟩ ?_ ?_ ?_
   all_goals simp only[sN,seval,E.h0,E.h3,q,j,sA]
  all_goals simp only[sN,seval,E.h0,E.h3,q,j,g,bj,bn]
  all_goals rfl
def aGk(hO:aq 1 ax v ws)(a2:J ws<=1000000){s0:St}(a1:i<n)(hx:∀e s,UI s0 s bx m hi n->yT e lv l bx->ac e 72=lv->ac e 73=ak (J l)->ac e 74=ak i->K (.exit 6) ⟨e,137,lc⟩ s):
 ∀(rest d:cf)(e:aw)(s:St),ws=d++rest->UI s0 s bx m hi n->yT e lv l bx->ac e 72=lv->ac e 73=ak (J l)->ac e 74=ak i->ac e 10=ak i->ac e 80=v->ac e 81=ak (J ws)->ac e 82=ak (J d)->W Q 7 (.loop Lk) ⟨e,137,lc⟩ s K:=by
 intro rest
 induction rest with
 |nil=>
  intro d e s h1 P E N F D e4 B q A;have a0:=cz h1;refine aF ?_;simp only[go_sem,seval,Lk,q,A,a0,bJ];refine hx _ _ P ⟨?_,?_⟩ ?_ ?_ ?_<;>simp only[sN,seval,E.h0,E.h3,N,F,D]
 |cons x rest ih=>
  intro d e s h1 P E N F D e4 B q A
  let⟨hlt,hat⟩:=cH h1
  have hc:=hO.cs;have S:=λlc k=>hO.at bL.2.2.1 hat lc k;have R:=cm (n:=J d) w_;have e3:=E.h3
  let⟨L,hM,hval,_⟩:=P.put
  have g:=nG fY rJ uf hM x
  let⟨v0,up,L2,U⟩:=id P
  have V:=U.box;refine aF ?_;cases hq:bX x L with
  |none=>
   rw[hq]at g;simp only[ii]at g;simp only[go_sem,seval,Lk,e3,B,q,A,hlt,S,ax,V,g,R];refine ih (d++[x]) _ _ (cP h1) P ⟨?_,?_⟩ ?_ ?_ ?_ ?_ ?_ ?_ ?_<;>simp only[sN,seval,E.h0,E.h3,N,F,D,e4,B,q,sA]
  |some w=>
   let⟨j,hj,hjn⟩:=hval _ (acs hq)
   simp only at hj;subst hj
   let⟨s1,run,hu1,hfr,hnx⟩:=P.join (Q:=Q) a1 hjn
   rw[hq]at g;simp only[ii]at g;simp only[go_sem,seval,Lk,e3,e4,B,q,A,hlt,S,ax,V,g];refine aV.of run d_ ?_;simp only[go_sem,seval,A,R];refine ih (d++[x]) _ _ (cP h1) hu1 ⟨?_,?_⟩ ?_ ?_ ?_ ?_ ?_ ?_ ?_<;>simp only[sN,seval,E.h0,E.h3,N,F,D,e4,B,q,sA]
def IU(f:FuncId)(args:az)(u:aa):Prop:=∀(G:Gh)(h:aC aI)(w:World)(g:er),WR G h w->bO G args g->kh ae f ⟨g⟩ w λy j=>∃d,WR d h j/\ck G h w d h j 0 0/\VR d u y
noncomputable def A7(f:FuncId)(P:az->aa->Prop):Sp:=λargs=>by
 classical exact if h:∃u,IU f args u/\P args u then X (Classical.choose h)else Z
def Ji(f:FuncId)(P:az->aa->Prop):da ae f (A7 f P):=by
 intro args u d;unfold A7 at d;split at d
 ·next h=>
  cases d;exact(Classical.choose_spec h).1
 cases d
def Jh{P:az->aa->Prop}(h:IU f args u)(g:P args u):∃v,A7 f P args=X v/\P args v:=by
 have d:∃u,IU f args u/\P args u:=⟨u,h,g⟩;exact⟨_,dif_pos d,(Classical.choose_spec d).2⟩
noncomputable def Q1(t:de):ay:= {QT t with kmax:=λ_=>1 }
instance(T:de):Std (Q1 T):=⟨rfl,rfl,λ_=>rfl,λ_ h=>⟨H8 h T,rfl⟩⟩
variable{t:de}
def ao8(h:eh t):Ag.rf (Q1 t) where
 mixed:=Ly
 spec f sp hsp args v hv G hp w xs wr hx:=h _ (H7 hsp) args v hv G hp w xs wr hx
 specH f sp h:=by cases h
 names:=(JZ h).names
def TP(D:eh t)(F:dW args=O){s':St}(d:ai (Q1 t) f (di args) s0 v s')(A:eY s'.heap v u):IU f args u:=λG h w j q B=>by
 obtain⟨n,d⟩:=d;refine MU (Q:=Q1 t) (ao8 D) (n:=n) (λ_=>Nat.zero_lt_succ 0) F (λg hi=>⟨v,s',?_,A⟩) G h w j q B;have N:g=λ_=>0:=funext λi=>by have:g i<1:=hi i;omega
 rw[N];exact d
end Go.Proofs.YtnhmcokmdhgpbaaGreat
set_option linter.unusedVariables false
set_option linter.unusedSimpArgs false
namespace Go.Proofs.YtnhmcokmdhgpbaaGreat
open Tryz
open Go Go.Proofs Go.Lib Go.RowKit Go.Shelf
def NG(fi tS fo sz:Nat):Prop:=∀(w:World)(b d n c i q g j:Nat),i<n->n+1<=c->n+1<=9223372036854775807->∀(F D:World)(P N:Value),
 (∀V cb,(callFunc fo #[.slice (X ⟨q,g,Z⟩) 1 j,.slice (X ⟨b,d+(i+1)*sz,Z⟩) V cb]).run ae w=.ok (.value (.bool I)) w)->
 (∀A B S,(ss #[tS,tS] A #[.slice (X ⟨b,d+(i+1)*sz,Z⟩) (n-i) B,.slice (X ⟨b,d+i*sz,Z⟩) (n+1-i) S]).run ae w.drew=.ok P F)->
 (∀A B,(ss #[tS,tS] A #[.slice (X ⟨b,d+i*sz,Z⟩) (n+1-i) B,.slice (X ⟨q,g,Z⟩) 1 j]).run ae F=.ok N D)->
 Calls ae fi #[.slice (X ⟨b,d,Z⟩) n c,.int .i64 i,.slice (X ⟨q,g,Z⟩) 1 j] w λe R=>e=.returned (.slice (X ⟨b,d,Z⟩) (n+1) c)/\R=D
def ND(fi tS sz:Nat):Prop:=∀(w:World)(b g n c i B d A N G:Nat),i<n->c=n->n+1<=9223372036854775807->n+1<=G->∀(F W1 D:World)(R P:Value),
 (∀j,(qF #[tS,3] j #[.slice (X ⟨b,g,Z⟩) i c,.int .i64 ((n:Int)+1-(i:Int))]).run ae w=.ok (.slice (X ⟨N,0,Z⟩) (n+1) G) F)->
 (∀j q,(ss #[tS,tS] j #[.slice (X ⟨N,i*sz,Z⟩) (n+1-i) q,.slice (X ⟨B,d,Z⟩) 1 A]).run ae F=.ok R W1)->
 (∀j q V,(ss #[tS,tS] j #[.slice (X ⟨N,(i+1)*sz,Z⟩) (n-i) q,.slice (X ⟨b,g+i*sz,Z⟩) (n-i) V]).run ae W1.drew=.ok P D)->
 Calls ae fi #[.slice (X ⟨b,g,Z⟩) n c,.int .i64 i,.slice (X ⟨B,d,Z⟩) 1 A] w λe S=>e=.returned (.slice (X ⟨N,0,Z⟩) (n+1) G)/\S=D
def NC(fi tS:Nat):Prop:=∀(w:World)(a:Option Addr)(n c j d g q:Nat)(A:Addr),(a=Z->n=0/\c=0)->n<=c->n+1<=9223372036854775807->∀(B:World),
 (qF #[tS,tS] tS #[.slice a n c,.slice (X ⟨j,d,Z⟩) 1 g]).run ae w=.ok (.slice (X A) (n+1) q) B->
 Calls ae fi #[.slice a n c,.int .i64 n,.slice (X ⟨j,d,Z⟩) 1 g] w λe D=>e=.returned (.slice (X A) (n+1) q)/\D=B
set_option maxHeartbeats 4000000 in
set_option maxRecDepth 100000 in
def YA:NG 100 22 169 6/\NG 158 51 222 2:=by
 constructor
 all_goals
  intro w b D n c i vb A vc hi j B W1 W2 x1 x2 q g d;have F:¬((i:Int)=(n:Int)):=w_
  have N:IntKind.i64.wrap ((i:Int)+1)=(i:Int)+1:=by rw[nf];omega
  have a1:(0:Int)<=(i:Int)+1:=w_
  have R:i<=n:=w_
  have P:((i:Int)+1).toNat=i+1:=w_
  have V:(i:Int)<=(n:Int)+1:=w_
  have a0:¬(c=i+1):=w_
  have S:¬(c=i):=w_
  first|go_enter func100,Tryz.ntmps100|go_enter func158,Tryz.ntmps158
  go_wp2_with (simp only[q])
  go_region_law (refine step_copy_runI rfl _ _ _ _ rfl _ _ (by simp[Act.eval,Act.put]) (by simp[Act.eval,Act.put]) (g _ _ _) ?_)
  go_wp2_with (at_builtin;refine wpList_copy_runI _ rfl _ _ _ _ rfl _ _ rfl rfl (d _ _) ?_)
  go_ret
  exact⟨rfl,rfl⟩
set_option maxHeartbeats 4000000 in
set_option maxRecDepth 100000 in
def Yv:ND 100 22 6/\ND 158 51 2:=by
 constructor
 all_goals
  intro w b F n c i vb A vc N G hi d B a5 W0 W1 W2 x1 x2 q j g;subst d;have R:¬((i:Int)=(c:Int)):=w_
  have P:(c:Int)<(c:Int)+1:=w_
  have S:IntKind.i64.wrap ((i:Int)+1)=(i:Int)+1:=by rw[nf];omega
  have a3:(0:Int)<=(i:Int)+1:=w_
  have a0:i<=c:=w_
  have V:((i:Int)+1).toNat=i+1:=w_
  have a2:(i:Int)<=(c:Int):=w_
  have a4:¬(G=i):=w_
  have D:¬(G=i+1):=w_
  have a1:¬(c=i):=w_
  first|go_enter func100,Tryz.ntmps100|go_enter func158,Tryz.ntmps158
  go_wp2_with (first
   |(at_builtin;refine Lib.wpList_append_run _ rfl _ _ _ _ rfl _ _ rfl rfl _ _ (q _) ?_)
   |(at_builtin;refine wpList_copy_runI _ rfl _ _ _ _ rfl _ _ rfl rfl (j _ _) ?_))
  go_region_law (refine step_copy_runI rfl _ _ _ _ rfl _ _ (by simp[Act.eval,Act.put]) (by simp[Act.eval,Act.put]) (g _ _ _) ?_)
  go_wp2
  go_ret
  exact⟨rfl,rfl⟩
set_option maxHeartbeats 4000000 in
set_option maxRecDepth 100000 in
def Yu:NC 100 22/\NC 158 51:=by
 constructor
 all_goals
  intro w a n c B g A F N q D j P d;cases a
  all_goals
   try obtain⟨rfl,rfl⟩:=q rfl
   first|go_enter func100,Tryz.ntmps100|go_enter func158,Tryz.ntmps158
   go_wp2_with (at_builtin;refine Lib.wpList_append_run _ rfl _ _ _ _ rfl _ _ rfl rfl _ _ d ?_)
   all_goals (go_wp2;go_ret;exact⟨rfl,rfl⟩)
open Go.Ag
variable{C:gy}{et:TypeId}{w:World}
def Mx{P:Program}{k:Nat}{dT R ty g:TypeId}{b o q D d A:Nat}{a:Addr}{cs:er}(S:P.underlying dT=X (.slice g))(N:(P.info? g).map (·.size)=X k)(V:J cs=Nat.min d q*k)(B:∀j v,cs[j]?=X v->w.cell? (a.add j)=X v)(hb:w.heap[b]?=X (.cells C et (0,0)))(hf:o+J cs<=C.size)(h1:∀v∈cs,v.oneCell'=O):
 (ss #[dT,R] ty #[.slice (X ⟨b,o,Z⟩) q D,.slice (X a) d A]).run P w=.ok (goInt (Nat.min d q)) (cX w b (.cells (eN C o cs) et (0,0))):=by
 have hl:=run_loadCells_list (P:=P) w a cs B;have F:=HZ (P:=P) b o et cs 0 w C hb (by simpa using hf) h1;rcases hq:P.info? g with _|i
 simp[hq]at N;have hi:i.size=k:=by simpa[hq]using N
 simp[ss,run_underlying S,Builtin.lenOf,Builtin.firstCells,sizeOf,typeInfo,hq,hi,<-V,hl,F]
def aeQ{G:Gh}{b off:Nat}{cs:az}(F:w.heap[b]?=X (.cells C et (0,0)))(A:∀(i:Nat) v,cs[i]?=X v->v.scal=O/\∃x,C[off+i]?=X x/\VR G v x):
 ∃L:er,J L=J cs/\(∀j,j<J cs->L[j]?=C[off+j]?)/\(∀v∈L,v.oneCell'=O)/\∀j v,L[j]?=X v->w.cell? ⟨b,off+j,Z⟩=X v:=by
 have D:J cs<=C.size-off\/cs=[]:=by
  rcases hz:J cs with _|n
  exact .inr (List.length_eq_zero_iff.1 hz)
  let⟨_,x,hx,_⟩:=A n _ (dp w_)
  have:=(Array.getElem?_eq_some_iff.1 hx).1;exact .inl w_
 have q:∀j,((C.toList.drop off).take (J cs))[j]?=if j<J cs then C[off+j]? else Z:=λj=>by
  rw[we];split;rw[qH,Array.getElem?_toList];rfl
 refine⟨(C.toList.drop off).take (J cs),?_,λj d=>by rw[q,iP d],λv B=>?_,λj v d=>?_⟩;have e:J C.toList=C.size:=rfl;rw[jw,kd,e];rcases D with h|h
 omega;subst h;simp
 let⟨j,d⟩:=qI.1 B
 rw[q]at d;split at d;rename_i g
 let⟨q1,x,q2,q3⟩:=A j _ (dp g)
 rw[q2]at d
 have:=sI d;subst this;exact q3.one q1;cases d;rw[q]at d;split at d;rw[kj F];exact d;cases d
def jo(sz i:Nat)(vs cs:az):az:=cs.take (i*sz)++(vs++cs.drop (i*sz))
def ajv{sz i n:Nat}{vs cs:az}(hi:i<=n)(q:J cs=n*sz)(d:J vs=sz)(j:Nat):(jo sz i vs cs)[j]?=if j<i*sz then cs[j]? else if j<i*sz+sz then vs[j-i*sz]? else cs[j-sz]? :=by
 have A:i*sz<=n*sz:=kX _ hi;have g:(cs.take (i*sz)).length=i*sz:=by rw[jw];omega
 unfold jo;split;rename_i h;rw[AG w_,we,iP h];rename_i h;rw[sw w_,g];split;rw[AG w_];rw[sw w_,qH,d];congr 1;omega
theorem aBn(w:World)(x y:Go.Obj):cX (w.alloc x) w.heap.size y=w.alloc y:=by
 have e:(w.heap.push x).setIfInBounds w.heap.size y=w.heap.push y:=by
  apply Array.ext_getElem?;intro j;rw[Array.getElem?_setIfInBounds,Nk,Nk]
  grind
 unfold cX World.alloc;rw[e]
def afe{tE k:Nat}(d:(ae.info? tE).map (·.size)=X k)(w:World):(sizeOf tE).run ae w=.ok k w:=by
 rcases hq:ae.info? tE with _|i
 rw[hq]at d;cases d;have hi:i.size=k:=by simpa[hq]using d
 simp[sizeOf,typeInfo,hq,hi]
def NF(fo sz:Nat):Prop:=∀(w:World){g d b o j A B:Nat}{D C:gy}{tA q:TypeId},g≠b->w.heap[g]?=X (.cells D tA (0,0))->w.heap[b]?=X (.cells C q (0,0))->C.size≠0->
 (callFunc fo #[.slice (X ⟨g,d,Z⟩) 1 j,.slice (X ⟨b,o,Z⟩) A B]).run ae w=.ok (.value (.bool I)) w
def ar7:NF 169 6:=λw {A d b o q D P CV C tA B} g j F N=>by
 rw[run_callFunc_extern func169 k_ k_ k_ (e:=Extern.SlicesOverlaps.overlaps #[22,22] #[4]) k_,
  Lib.run_overlaps_apart w 22 4 53 Tryz.underlying22 6 (afe k_) ⟨A,d,Z⟩ ⟨b,o,Z⟩ 1 q D P g tA B CV.size C.size (by simp[World.shape?,j]) (by simp[World.shape?,F]) N (by simp[World.frozen?,j]) (by simp[World.frozen?,j])]
 rfl
def ar5:NF 222 2:=λw {A d b o q D P CV C tA B} g j F N=>by
 rw[run_callFunc_extern func222 k_ k_ k_ (e:=Extern.SlicesOverlaps.overlaps #[51,51] #[4]) k_,
  Lib.run_overlaps_apart w 51 4 105 Tryz.underlying51 2 (afe k_) ⟨A,d,Z⟩ ⟨b,o,Z⟩ 1 q D P g tA B CV.size C.size (by simp[World.shape?,j]) (by simp[World.shape?,F]) N (by simp[World.frozen?,j]) (by simp[World.frozen?,j])]
 rfl
structure IM (fi tS tE fo sz bt:Nat) (z:aa):Prop where
 ent:Enters ae fi
 hu:ae.underlying tS=some (.slice tE)
 hs:(ae.info? tE).map (·.size)=some sz
 he:wT ae tE=some ⟨sz,bt,true,z⟩
 sl:jk ae tS=some ⟨sz,bt,true,z⟩
 sT:lB ae tS=true
 hb:bt<=88
 h0:0<sz
 over:NF fo sz
 shift:NG fi tS fo sz
 grow:ND fi tS sz
 last:NC fi tS
def ar2:IM 100 22 53 169 6 88 (.agg [.str [],.int .i64 0,.int .i64 0,.int .i64 0,.uP,.uP]):=
 ⟨Go.Proofs.enters_of func100 k_ rfl,Tryz.underlying22,k_,k_,k_,k_,d_,d_,ar7,YA.1,Yv.1,Yu.1⟩
def ar4:IM 158 51 105 222 2 32 (.agg [.str [],.str []]):=
 ⟨Go.Proofs.enters_of func158 k_ rfl,Tryz.underlying51,k_,k_,k_,k_,d_,d_,ar5,YA.2,Yv.2,Yu.2⟩
variable{c1:Nat}{Y:Value}{x:aa}
section
variable{fi tS tE fo sz bt:Nat}{z:aa}(H:IM fi tS tE fo sz bt z)
include H
variable{G:Gh}{h:aC aI}{w:World}
theorem ar6{m k i len lcap q:Nat}{X_:Value}{cs vs:az}(wr:WR G h w)(hX:VR G (.arr sz m 0 len lcap) X_)(hY:VR G (.arr sz k 0 1 c1) Y)(hm:h.get m=X (.cells cs))(hk:h.get k=X (.cells vs))(e3:m≠k)(hi:i<len)(hl:len<=1000000)(b3:J cs=len*sz)(D:J vs=sz)(hq:G.at_ q=Z):
 Calls ae fi #[X_,.int .i64 i,Y] w λe w'=>∃y,e=.returned y/\∃G',WR G' ((h.set m Z).set q (X (.cells (jo sz i vs cs)))) w'/\ck G h w G' ((h.set m Z).set q (X (.cells (jo sz i vs cs)))) w' q (q+1)/\VR G' (.arr sz q 0 (len+1) (len+1)) y:=by
 cases hX with
 |arr b6 c6 hp f0 f2 d5 a6 d2=>
 rename_i a d cap dm
 let⟨ab,ao,asp⟩:=a
 simp only at c6;subst c6;rcases d5 with h0|⟨e1,e2⟩
 omega;simp only[oL]at e1 e2;subst e1;subst e2;cases hY with
 |arr c4 c0 yp e7 e9 c5 e8 f3=>
 rename_i a2 S B dv
 let⟨vb,vo,vsp⟩:=a2
 simp only at c0;subst c0;rcases c5 with h0|⟨e1,e2⟩
 omega;simp only[oL]at e1 e2;subst e1;subst e2
 let⟨bd',hat',hsp',C,et,hC,hdC,hcs⟩:=wr.obj m _ hm
 rw[b6]at hat';cases hat'
 let⟨vd',yat',ysp',CV,ev,hV,hdV,hvs⟩:=wr.obj k _ hk
 rw[c4]at yat';cases yat';have e4:dm=C.size:=by rw[a6]at hdC;injection hdC
 subst e4;have c8:S.block≠d.block:=λe=>e3 (wr.sep m k d S (by rw[hm];simp) (by rw[hk];simp) b6 c4 e.symm)
 let⟨L,hLl,hLg,hL1,hLc⟩:=aeQ hC hcs
 let⟨V,hVl,hVg,hV1,hVc⟩:=aeQ hV hvs
 have x1:(i+1)*sz=i*sz+sz:=jR i sz;have x2:(len+1)*sz=len*sz+sz:=jR len sz;have x3:(len-i)*sz=len*sz-i*sz:=Nat.sub_mul len i sz;have x4:i*sz+sz<=len*sz:=by rw[<-x1];exact kX _ hi
 have x5:=H.h0;have a3:(L.drop (i*sz)).length=(len-i)*sz:=by rw[kd,hLl,b3];omega
 simp only[oL]at d2;have a7:=ajv (i:=i) (n:=len) (vs:=vs) (cs:=cs) w_ b3 D;by_cases hfit:len+1<=cap
 ·
  have N:d.off+(i+1)*sz+(L.drop (i*sz)).length<=C.size:=by
   have:(len+1)*sz<=cap*sz:=kX _ hfit;omega
  have F:d.off+i*sz+J V<=(eN C (d.off+(i+1)*sz) (L.drop (i*sz))).size:=by
   have:(len+1)*sz<=cap*sz:=kX _ hfit;rw[agh];omega
  have d1:=ig hC;have b5:(cX w.drew d.block (.cells (eN C (d.off+(i+1)*sz) (L.drop (i*sz))) et (0,0))).heap[d.block]?=X (.cells (eN C (d.off+(i+1)*sz) (L.drop (i*sz))) et (0,0)):=by
   rw[iC _ _ _ _ (by simpa using d1),iP rfl]
  have b4:(cX w.drew d.block (.cells (eN C (d.off+(i+1)*sz) (L.drop (i*sz))) et (0,0))).heap[S.block]?=X (.cells CV ev (0,0)):=by
   rw[iC _ _ _ _ (by simpa using d1),iN c8];exact hV
  refine(H.shift w d.block d.off len cap i S.block S.off B hi hfit w_ _ _ _ _ (λlb cb=>H.over w c8 hV hC w_)
   (λty dc sc=>Mx (k:=sz) (w:=w.drew) (cs:=L.drop (i*sz)) H.hu H.hs (by rw[a3];simp only[Nat.min_def];split<;>omega) (λj v A=>?_) hC N λv hv=>hL1 v (oK hv))
   λty dc=>Mx (k:=sz) (cs:=V) H.hu H.hs (by rw[hVl,D];simp only[Nat.min_def];split<;>omega) (λj v A=>?_) b5 F hV1).mono ?_
  rw[qH]at A
  have:=hLc _ _ A;rw[Addr.add_lit,sE];exact this;rw[Addr.add_lit,kj b4,<-kj hV];exact hVc j v A;rintro e w' ⟨rfl,rfl⟩;rw[S5]
  let⟨c1,B⟩:=(wr.of_heap (w':=w.drew) rfl).rehome (n:=q) (ad:=⟨d.block,d.off,Z⟩) (C':=eN (eN C (d.off+(i+1)*sz) (L.drop (i*sz))) (d.off+i*sz) V) (cs:=jo sz i vs cs) hm b6 hq hC (by simp) hdC rfl rfl (λj u g=>by
   show _/\∃y,(eN (eN C (d.off+(i+1)*sz) (L.drop (i*sz))) (d.off+i*sz) V)[d.off+j]?=X y/\_;rw[Aw _ _ _ _ F,Aw _ _ _ _ N,hVl,D,a3];rw[a7]at g;by_cases j1:j<i*sz;rw[iP j1]at g;rw[iN w_,iN w_];exact hcs j u g;rw[iN j1]at g;by_cases j2:j<i*sz+sz;rw[iP j2]at g;rw[iP w_,show d.off+j-(d.off+i*sz)=j-i*sz from w_,hVg _ w_];exact hvs _ u g;rw[iN j2]at g;have j3:j-sz<J cs:=by
    rcases ip (j-sz) (J cs)with h|h
    exact h;rw[sC h]at g;cases g
   rw[iN w_,iP w_,qH,show i*sz+(d.off+j-(d.off+(i+1)*sz))=j-sz from w_,hLg _ j3];exact hcs _ u g)
  refine⟨_,rfl,_,c1,⟨B.le,B.size,B.keepW,B.owns,B.names,B.cells,li.trans (⟨rfl,rfl,aD _,λ_ _=>rfl,rfl,io _⟩:li w w.drew) B.quiet,B.ownsW⟩,?_⟩;exact .arr (b:=⟨d.block,d.off,Z⟩) (by simp[Gh.name]) rfl hp (aD _) hfit (.inr ⟨rfl,by simp⟩) (show G.dim d.block=X C.size from a6) (by simpa using d2)
 ·
  have e5:cap=len:=w_
  let⟨_,_,_,_,_,ti,zv,_,hi5,hz5,_,a8,a1⟩:=uT H.he
  have a1:ti.bytes=bt:=a1;have a8:zv.cells.size=sz:=a8;have b0:ti.size=sz:=by have:=H.hs;rw[hi5]at this;simpa using this
  obtain⟨K,hK⟩:∃K,K=len+1-i:=⟨_,rfl⟩;have b8:i+K=len+1:=w_
  have f5:((i+K)*2+1024)*bt<=2001026*88:=nP w_ H.hb;have f6:K*bt<=((i+K)*2+1024)*bt:=kX _ w_;have a0:eE (i+K) bt=O:=by unfold eE;exact bH w_
  have a9:(L.take (i*sz)).length=i*ti.size:=by rw[jw,hLl,b3,b0];omega
  have c7:=run_firstCells_some (P:=ae) w.drew ti.size i ⟨d.block,d.off,Z⟩ i cap (L.take (i*sz)) a9 (λj v A=>by
   rw[we]at A;split at A;rw[Addr.add_lit];exact hLc j v A;cases A)
  have b7:=λty=>run_append_grow_zeros w tS 3 ty tE ti zv .i64 .i64 H.hu Tryz.underlying3 hi5 hz5 (X ⟨d.block,d.off,Z⟩) i cap (L.take (i*sz)) c7 K w_ w_ w_ w_ (by rw[a1];omega) (by
   have:=Tk a0 (cap:=cap) w_;rw[a1];simpa using this)
  obtain⟨R,b2⟩:∃R,R=grownCap w (i+K) cap tE:=⟨_,rfl⟩;have b1:len+1<=R:=by rw[b2,<-b8];simp only[grownCap,Question.cut];omega
  obtain⟨R0,a4⟩:∃R0,R0=(L.take (i*sz)).toArray++AE zv.cells K++AE zv.cells (R-(i+K)):=⟨_,rfl⟩;have d6:R0.size=R*sz:=by
   have f1:i+K<=R:=w_
   rw[a4,Ip,Ip,size_zeroCells,size_zeroCells,a8,IA,a9,b0,<-Nat.add_mul,<-Nat.add_mul,show i+K+(R-(i+K))=R from w_]
  have d7:∀j,j<i*sz->R0[j]?=L[j]? :=λj A=>by
   have h1:j<(L.take (i*sz)).toArray.size:=by rw[IA,a9,b0];exact A
   rw[a4,Array.append_assoc,Array.getElem?_append_left h1,List.getElem?_toArray,we,iP A]
  rw[b8]at b2 a4;simp only[b8,<-b2,<-a4]at b7;have eK:((K:Nat):Int)=(len:Int)+1-(i:Int):=w_
  rw[eK]at b7;have f4:(len+1)*sz<=R*sz:=kX _ b1;have d4:(w.drew.alloc (.cells R0 tE)).heap[w.heap.size]?=X (.cells R0 tE (0,0)):=by rw[mM];exact iP rfl
  have N:i*sz+J V<=R0.size:=w_
  have F:(i+1)*sz+(L.drop (i*sz)).length<=(eN R0 (i*sz) V).size:=by rw[agh];omega
  have d0:=ig hC;have c9:=ig hV;have b4:(w.drew.alloc (.cells R0 tE)).heap[S.block]?=X (.cells CV ev (0,0)):=by
   rw[mM,iN (show S.block≠w.drew.heap.size from Nat.ne_of_lt c9)];exact hV
  have a5:w.heap.size<(w.drew.alloc (.cells R0 tE)).heap.size:=ig d4;have b5:(cX (w.drew.alloc (.cells R0 tE)) w.heap.size (.cells (eN R0 (i*sz) V) tE (0,0))).drew.heap[w.heap.size]?=X (.cells (eN R0 (i*sz) V) tE (0,0)):=by
   show(cX (w.drew.alloc (.cells R0 tE)) w.heap.size _).heap[w.heap.size]?=_;rw[iC _ _ _ _ a5,iP rfl]
  have e6:(cX (w.drew.alloc (.cells R0 tE)) w.heap.size (.cells (eN R0 (i*sz) V) tE (0,0))).drew.heap[d.block]?=X (.cells C et (0,0)):=by
   show(cX (w.drew.alloc (.cells R0 tE)) w.heap.size _).heap[d.block]?=_;rw[iC _ _ _ _ a5,iN w_];rw[mM,iN (show d.block≠w.drew.heap.size from Nat.ne_of_lt d0)];exact hC
  refine(H.grow w d.block d.off len cap i S.block S.off B w.heap.size R hi e5 w_ b1 _ _ _ _ _ b7
   (λty dc=>Mx (k:=sz) (cs:=V) H.hu H.hs (by rw[hVl,D];simp only[Nat.min_def];split<;>omega) (λj v A=>?_) d4 N hV1)
   λty dc sc=>Mx (k:=sz) (cs:=L.drop (i*sz)) H.hu H.hs (by rw[a3];simp only[Nat.min_def];split<;>omega) (λj v A=>?_) b5 F λv hv=>hL1 v (oK hv)).mono ?_
  rw[Addr.add_lit,kj b4,<-kj hV];exact hVc j v A;rw[qH]at A
  have:=hLc _ _ A;rw[Addr.add_lit,sE,kj e6,<-kj hC];exact this;rintro e w' ⟨rfl,rfl⟩;have ew:cX (cX (w.drew.alloc (.cells R0 tE)) w.heap.size (.cells (eN R0 (i*sz) V) tE (0,0))).drew w.heap.size (.cells (eN (eN R0 (i*sz) V) ((i+1)*sz) (L.drop (i*sz))) tE (0,0))=w.drew.drew.alloc (.cells (eN (eN R0 (i*sz) V) ((i+1)*sz) (L.drop (i*sz))) tE (0,0)):=by
   show cX (cX (w.drew.drew.alloc _) w.drew.drew.heap.size _) w.drew.drew.heap.size _=_;rw[S5,aBn]
  rw[ew]
  let⟨c1,B⟩:=((wr.killed m).of_heap (w':=w.drew.drew) rfl).boxed hq (eN (eN R0 (i*sz) V) ((i+1)*sz) (L.drop (i*sz))) tE (jo sz i vs cs) (λj u g=>by
   rw[Aw _ _ _ _ F,Aw _ _ _ _ N,hVl,D,a3];rw[a7]at g;by_cases j1:j<i*sz;rw[iP j1]at g;rw[iN w_,iN w_,d7 j j1,hLg _ w_];exact hcs j u g;rw[iN j1]at g;by_cases j2:j<i*sz+sz;rw[iP j2]at g;rw[iN w_,iP w_,hVg _ w_];exact hvs _ u g;rw[iN j2]at g;have j3:j-sz<J cs:=by
    rcases ip (j-sz) (J cs)with h|h
    exact h;rw[sC h]at g;cases g
   rw[iP w_,qH,show i*sz+(j-(i+1)*sz)=j-sz from w_,hLg _ j3];exact hcs _ u g)
  have c3:=ck.after_kill (w:=w.drew.drew) B;refine⟨_,rfl,_,c1,⟨c3.le,c3.size,c3.keepW,c3.owns,c3.names,c3.cells,li.trans (⟨rfl,rfl,aD _,λ_ _=>rfl,rfl,by show w.drawn<=w.drawn+1+1;omega⟩:li w w.drew.drew) c3.quiet,c3.ownsW⟩,?_⟩;exact .arr (Gh.boxed_at G w.drew.drew q _) rfl hp (aD _) b1 (.inr R_) (Gh.boxed_dim G w.drew.drew q _) (by simp[d6])
theorem Wy{k:Nat}{s:St}{vs:az}(j:s.heap.get k=X (.cells vs))(d:J vs=sz):cR [] O sz (.arr sz k 0 1 c1) s=X [.agg vs]:=by
 have g:vs.take sz=vs:=nh w_;have q:vs.drop sz=[]:=yj w_;simp[cR,kZ,dH,j,cut,chunk,g,q,d]
theorem Yw{k q n:Nat}{X_:Value}{s':St}(wr:WR G h w)(hX:VR G x X_)(a1:X_=.slice Z 0 0/\n=0\/∃a d,X_=.slice (X a) n d/\n<=d)(hY:VR G (.arr sz k 0 1 c1) Y)(hn:n<=1000000)(he:cL ae [] tS x (.arr sz k 0 1 c1) O ⟨h,q,0,0⟩=X (.arr sz q 0 (n+1) (n+1),s'))(V:s'.aL=q+1)(hq:G.at_ q=Z):
 Calls ae fi #[X_,.int .i64 n,Y] w λe A=>∃y,e=.returned y/\∃g,WR g s'.heap A/\ck G h w g s'.heap A q (q+1)/\VR g (.arr sz q 0 (n+1) (n+1)) y:=by
 obtain⟨b0,A,g,hr,R,N,c3⟩:=aeS (P:=ae) (t2:=tS) (ty:=tS) (G:=G) (w:=w) he H.sT hX hY wr (λj h1 h2=>by
  have h1:q<=j:=h1;have:j=q:=w_
  subst this;exact hq)
 have hZ:∃a c,b0=.slice (X a) (n+1) c:=by cases c3;exact⟨_,_,rfl⟩
 obtain⟨a',c',rfl⟩:=hZ;have N:ck G h w g s'.heap A q (q+1):=by rw[<-V];exact N
 have a0:∃D B S,Y=.slice (X ⟨D,B,Z⟩) 1 S:=by
  cases hY with
  |arr a8 F yp a3 a5 a6 a4 a7=>
   rename_i a2 vd N dv;obtain⟨D,B,a9⟩:=a2;simp only at F;subst F;exact⟨D,B,_,rfl⟩
 obtain⟨D,B,S,rfl⟩:=a0;rcases a1 with⟨rfl,rfl⟩|⟨a,d,rfl,hc⟩
 refine(H.last w Z 0 0 D B S c' a' (λ_=>R_) (aD _) w_ A hr).mono ?_;rintro e w2 ⟨rfl,rfl⟩;exact⟨_,rfl,g,R,N,c3⟩;refine(H.last w (X a) n d D B S c' a' (λh=>by cases h) hc w_ A hr).mono ?_;rintro e w2 ⟨rfl,rfl⟩;exact⟨_,rfl,g,R,N,c3⟩
omit H in
theorem WR.ext'{d:aC aI}(x:WR G h w)(e:∀n o,d.get n=X o->h.get n=X o):WR G d w where
 obj n o ho:=x.obj n o (e n o ho)
 sep n m a b hn hm:=by
  let⟨o,ho⟩:=Uq.1 hn
  let⟨p,hp⟩:=Uq.1 hm
  exact x.sep n m a b (by rw[e n o ho];simp) (by rw[e m p hp];simp)
 ro:=x.ro
 apart n ob a i v ho:=x.apart n ob a i v (e n ob ho)
 dim:=x.dim
 below:=x.below
omit H in
theorem ck.ext'{B:Gh}{h1 d:aC aI}{w':World}{lo hi:Nat}(x:ck G h w B h1 w' lo hi)(e:∀n o,d.get n=X o->h1.get n=X o):ck G h w B d w' lo hi:=
 ⟨x.le,x.size,x.keepW,λb j ⟨n,a,D,A,q⟩=>by
  let⟨o,g⟩:=Uq.1 D
  exact x.owns b j ⟨n,a,by rw[e n o g];simp,A,q⟩,x.names,x.cells,x.quiet,λb j ⟨n,a,o,g,d,A,q⟩=>x.ownsW b j ⟨n,a,o,e n o g,d,A,q⟩⟩
end
def xg(sz i len:Nat)(cs:az):aI->Rd
 |.cells vs=>.ret (bif aB (J cs) (len*sz)&&aB (J vs) sz then X (.tup [.arr sz 0 0 (len+1) 0,.agg (jo sz i vs cs)])else Z)
 |_=>.ret Z
def nD(sz:Nat):az->Nw
 |[.arr s1 m 0 len _,.int .i64 (.ofNat i),.arr s2 k 0 1 _]=>bif(aB s1 sz&&aB s2 sz)&&(!(aB m k)&&(aP i len&&aP len 1000000))then X (X (m,λcs=>.ask k (xg sz i len cs)))else Z
 |[.uP,.int .i64 (.ofNat 0),.arr s2 k 0 1 _]=>bif aB s2 sz then X (X (k,λvs=>xg sz 0 0 [] (.cells vs)))else Z
 |[.list s1 [] .Al,.int .i64 (.ofNat 0),.arr s2 k 0 1 _]=>bif aB s1 sz&&aB s2 sz then X (X (k,λvs=>xg sz 0 0 [] (.cells vs)))else Z
 |_=>Z
def J4{sz i len:Nat}{cs:az}{o:aI}{g:M_}{v:aa}(e:em g (xg sz i len cs o)=X v):∃vs,o=.cells vs/\J cs=len*sz/\J vs=sz/\v=.tup [.arr sz 0 0 (len+1) 0,.agg (jo sz i vs cs)]:=by
 cases o<;>first|(cases e;done)|skip
 rename_i vs
 let⟨h1,e⟩:=bf e
 simp only[bh]at h1;exact⟨vs,rfl,fL h1.1,fL h1.2,(sI e).symm⟩
variable{y:Value}
section
variable{fi tS tE fo sz bt:Nat}{z:aa}(H:IM fi tS tE fo sz bt z)
include H
variable{G:Gh}{h:aC aI}{w:World}
theorem Yx{X_:Value}{k q:Nat}{vs:az}(wr:WR G h w)(N:VR G x X_)(B:X_=.slice Z 0 0/\0=0\/∃a d,X_=.slice (X a) 0 d/\0<=d)(S:VR G (.arr sz k 0 1 c1) Y)(F:h.get k=X (.cells vs))(A:J vs=sz)(D:G.at_ q=Z)(R:∀s,fk [] ⟨sz,bt,O,z⟩ x [.agg vs] O s=X (.arr sz s.aL 0 1 1,s.new (.cells vs))):
 Calls ae fi #[X_,.int .i64 (0:Nat),Y] w λe j=>∃y,e=.returned y/\∃g,WR g ((h.set k Z).set q (X (.cells (jo sz 0 vs [])))) j/\ck G h w g ((h.set k Z).set q (X (.cells (jo sz 0 vs [])))) j q (q+1)/\VR g (.arr sz q 0 1 1) y:=by
 have ec:jo sz 0 vs []=vs:=by simp[jo]
 have P:k≠q:=λe=>by
  let⟨a,ha,_⟩:=wr.obj k _ F
  rw[e,D]at ha;cases ha
 have e:∀n o,((h.set k Z).set q (X (.cells vs))).get n=X o->(h.set q (X (.cells vs))).get n=X o:=λn o ho=>by grind [aC.get_set]
 rw[ec];refine(Yw H (n:=0) (s':=(⟨h,q,0,0⟩:St).new (.cells vs)) wr N B S w_ (by simp only[cL,H.sl,aH,Wy H (s:=⟨h,q,0,0⟩) F A,R]) rfl D).mono ?_;rintro r j ⟨y,rfl,g,h1,h2,V⟩;exact⟨y,rfl,g,WR.ext' (h:=h.set q (X (.cells vs))) h1 e,ck.ext' (h1:=h.set q (X (.cells vs))) h2 e,V⟩
omit H in
theorem ahO{m off n lc:Nat}(p:VR G (.arr sz m off n lc) y):∃a d,y=.slice (X a) n d/\n<=d:=by
 cases p;exact⟨_,_,rfl,w_⟩
omit H in
theorem awO{l:az}{r:gS}(p:VR G (.list sz l r) y):∃a d,y=.slice (X a) (J l) d/\J l<=d:=by
 cases p;exact⟨_,_,rfl,w_⟩
theorem Yt(args:az)(xs:er)(wr:WR G h w)(j:bO G args xs)(n:Nat)(g:az->Rd)(cs cs':az)(s3 a b len c q:Nat)(d:nD sz args=X (X (n,g)))(hn:h.get n=X (.cells cs))(hg:em h.get (g cs)=X (.tup [.arr s3 a b len c,.agg cs']))(hq:G.at_ q=Z):
 kh ae fi ⟨xs⟩ w λy w'=>∃G',WR G' ((h.set n Z).set q (X (.cells cs'))) w'/\ck G h w G' ((h.set n Z).set q (X (.cells cs'))) w' q (q+1)/\VR G' (.arr s3 q 0 len len) y:=by
 refine .inr ⟨H.ent _ _,?_⟩;have S:∀{n:Nat},n<=1000001->eE n bt=O:=λ{n} hn=>by
  have:(n*2+1024)*bt<=2001026*88:=nP w_ H.hb;unfold eE;exact bH w_
 unfold nD at d;split at d
 ·rename_i s1 m l lc i s2 k c1
  let⟨h1,d⟩:=bf d
  simp only[bh,m9]at h1
  let⟨⟨ha,D⟩,h1,h2,h3⟩:=h1
  have ha:=fL ha;have D:=fL D;subst ha;subst D;have h2:=im h2;have h3:=im h3;have a0:m≠k:=λe=>by rw[e]at h1;simp at h1
  injection d with d;injection d with d;injection d with F P
  subst F;subst P;simp only[em,an]at hg
  let⟨o,hk,hg⟩:=hg
  obtain⟨vs,rfl,R,B,e⟩:=J4 hg;injection e with e;injection e with e A;injection A with A;injection A with A;injection e with F P e3 e4 e5
  subst F;subst e4;subst A;cases j with
  |cons N j=>
  cases j with
  |cons pI j=>
  cases j with
  |cons pY j=>
  cases j;cases pI;rcases ip i l with hi|hi
  exact ar6 H wr N pY hn hk a0 hi h3 R B hq;have a1:i=l:=w_
  subst a1;have ec:∀z,J cs=i*z->jo z i vs cs=cs++vs:=λz hz=>by
   unfold jo;rw[nh w_,yj w_,iw]
  have V:=ahO N;rw[ec _ R];exact Yw H (s':=((⟨h,q,0,0⟩:St).put m Z).new (.cells (cs++vs))) wr N (.inr V) pY h3 (by
   have hr:eE (i+1) bt=O:=S w_;simp[cL,H.sl,Wy H (s:=⟨h,q,0,0⟩) hk B,fk,kZ,dH,hn,hr,R,au,m8,St.put]) rfl hq
 ·rename_i s2 k c1
  let⟨D,d⟩:=bf d
  have D:=fL D;subst D;injection d with d;injection d with d;injection d with F P
  subst F;subst P
  let⟨vs,e0,_,B,e⟩:=J4 hg
  cases e0;injection e with e;injection e with e A;injection A with A;injection A with A;injection e with F P e3 e4 e5
  subst F;subst e4;subst A;cases j with
  |cons N j=>
  cases j with
  |cons pI j=>
  cases j with
  |cons pY j=>
  cases j;cases pI;cases N;exact Yx H wr .uP (.inl R_) pY hn B hq λs=>by simp[fk,iq,S,au,m8]
 ·rename_i s1 s2 k c1
  let⟨D,d⟩:=bf d
  simp only[bh]at D;have ha:=fL D.1;have D:=fL D.2;subst ha;subst D;injection d with d;injection d with d;injection d with F P
  subst F;subst P
  let⟨vs,e0,_,B,e⟩:=J4 hg
  cases e0;injection e with e;injection e with e A;injection A with A;injection A with A;injection e with F P e3 e4 e5
  subst F;subst e4;subst A;cases j with
  |cons N j=>
  cases j with
  |cons pI j=>
  cases j with
  |cons pY j=>
  cases j;cases pI;have V:=awO N;exact Yx H wr N (.inr V) pY hn B hq λs=>by simp[fk,iq,S,au,m8]
 cases d
end
def MM:jk ae 22=X ⟨6,88,O,.agg [.str [],.int .i64 0,.int .i64 0,.int .i64 0,.uP,.uP]⟩:=k_
def MN:jk ae 51=X ⟨2,32,O,.agg [.str [],.str []]⟩:=k_
end Go.Proofs.YtnhmcokmdhgpbaaGreat
namespace Go.Proofs.YtnhmcokmdhgpbaaGreat
open Tryz
open Go.Ag
variable{Q:ay}[Std Q]
variable{n:Nat}
def Wq(h:n<9223372036854775808):n9 ae 3 181 (ak n)=X (.int .u64 (n:Nat)):=by
 have e:IntKind.u64.wrap (n:Int)=(n:Int):=by unfold IntKind.wrap;simp[IntKind.bits,IntKind.signed];omega
 have d:n9 ae 3 181 (ak n)=X (.int .u64 (IntKind.u64.wrap (n:Int))):=k_
 rw[d,e]
def Wp(h:n<9223372036854775808):n9 ae 181 3 (.int .u64 (n:Nat))=X (ak n):=by
 have d:n9 ae 181 3 (.int .u64 (n:Nat))=X (.int .i64 (IntKind.i64.wrap (n:Int))):=k_
 have e:IntKind.i64.wrap (n:Int)=(n:Int):=by rw[nf];omega
 rw[d,e]
def XH:cN ae .shr 181 (.int .u64 (n:Nat)) (.int .u64 1)=X (.int .u64 ((n / 2:Nat):Int)):=by
 have d:cN ae .shr 181 (.int .u64 (n:Nat)) (.int .u64 1)=X (.int .u64 ((n:Int).fdiv (2 ^ 1))):=by rfl
 rw[d];have e:(n:Int).fdiv (2 ^ 1)=((n / 2:Nat):Int):=by rw[Int.fdiv_eq_ediv_of_nonneg _ d_];omega
 rw[e]
variable{s:St}
def Vs(d:Q.spec 155=X kD){o:Obj}(go:o.rf)(id:ag):ai Q 168 [o.val,.str id] s (bD (cM o.id id)) s:=by
 have g:=go.all;refine ai.ofNZ atm (aM ?_);simp only[go_sem,seval,Obj.val,Obj.cells,d,kD];rfl
structure Fh (ov:aa) (id:ag) (n lo hi:Nat) (e:aw):Prop where
 h0:ac e 0=ov
 h1:ac e 1=.str id
 h2:ac e 2=.func (.func 168) [] []
 h8:ac e 8=ak n
 h9:ac e 9=ak lo
 h10:ac e 10=ak hi
variable{lo:Nat}{ov:aa}
def Fh.mv{id:ag}{hi lo' hi':Nat}{e d:aw}(F:Fh ov id n lo hi e)(h:ac d 0=ac e 0/\ac d 1=ac e 1/\ac d 2=ac e 2/\ac d 8=ac e 8/\ac d 9=ak lo'/\ac d 10=ak hi'):Fh ov id n lo' hi' d:=
 ⟨h.1.trans F.h0,h.2.1.trans F.h1,h.2.2.1.trans F.h2,h.2.2.2.1.trans F.h8,h.2.2.2.2.1,h.2.2.2.2.2⟩
def jX(id:ag)(o:Obj):Bool:=aQ (cM o.id id) 0
variable{lc:Ag.Loc}{K:gk}
def ai1(N:Q.spec 155=X kD){l:ba}(ho:aq 6 Obj.val ov l)(hg:∀o∈l,o.rf)(a7:J l<=1000000){id:ag}(g:∀(a b:Nat)(o p:Obj),a<=b->l[a]?=X o->l[b]?=X p->jX id p=O->jX id o=O)(hx:∀p e,p<=J l->(∀(a:Nat) o,a<p->l[a]?=X o->jX id o=O)->(∀(a:Nat) o,p<=a->l[a]?=X o->jX id o=I)->Fh ov id (J l) p p e->K (.exit 0) ⟨e,49,lc⟩ s):
 ∀(d lo hi:Nat)(e:aw),hi-lo<=d->lo<=hi->hi<=J l->(∀(a:Nat) o,a<lo->l[a]?=X o->jX id o=O)->(∀(a:Nat) o,hi<=a->l[a]?=X o->jX id o=I)->Fh ov id (J l) lo hi e->W Q 167 (.loop Qf) ⟨e,49,lc⟩ s K:=by
 intro d
 induction d with
 |zero=>
  intro lo hi e h1 h2 V S R F;have D:lo=hi:=w_
  subst D;have e9:=F.h9;have q:=F.h10;refine aF ?_;simp only[go_sem,seval,Qf,e9,q,bJ];exact hx _ _ V S R (F.mv (by simp only[sN,seval,F.h9,F.h10,and_self]))
 |succ d ih=>
  intro lo hi e h1 h2 V S R F;have e0:=F.h0;have e1:=F.h1;have e2:=F.h2;have e9:=F.h9;have q:=F.h10;rcases ip lo hi with a3|a8
  obtain⟨m,hm⟩:=cw ((lo+hi) / 2);have a2:m<J l:=w_
  obtain⟨o,j⟩:∃o,l[m]?=X o:=⟨_,dp a2⟩;have go:=hg o (co j);have a0:IntKind.i64.wrap ((lo:Int)+(hi:Int))=((lo+hi:Nat):Int):=by rw[nf];omega
  have a6:=Wq (n:=lo+hi) w_;have hh:=XH (n:=lo+hi);rw[hm]at hh;have a5:=Wp (n:=m) w_;have a4:=λlc k=>ho.at dY.2.2.1 j lc k;have A:=Vs N go id (s:=s);simp only[Obj.val,Obj.cells]at A;have a1:IntKind.i64.wrap ((m:Int)+1)=((m+1:Nat):Int):=by rw[nf];omega
  refine aF ?_;simp only[go_sem,seval,Qf,e0,e1,e2,e9,q,a3,a0,ad1,a6,hh,a5,a4,Obj.val,Obj.cells,(nJ 168)];refine aV.of A d_ ?_;cases hd:jX id o;have B:aQ (cM o.id id) 0=I:=hd;simp only[go_sem,seval,bD,B];refine ih lo m _ w_ w_ w_ S (λa P h4 h5=>by
   cases hq:jX id P;rfl;rw[g m a o P h4 j h5 hq]at hd;cases hd) ?_
  exact F.mv (by simp only[sN,seval,e0,e1,e2,F.h8,e9,and_self]);have B:aQ (cM o.id id) 0=O:=hd;simp only[go_sem,seval,bD,B,a1];refine ih (m+1) hi _ w_ w_ V (λa P h4 h5=>g a m P o w_ h5 j hd) R ?_;exact F.mv (by simp only[sN,seval,e0,e1,e2,F.h8,q,and_self]);have D:lo=hi:=w_
  exact ih lo hi e w_ h2 V S R F
structure yQ (l:ba) (id:ag) (p:Nat):Prop where
 le:p<=l.length
 lo:∀(a:Nat) o,a<p->l[a]?=some o->jX id o=true
 hi:∀(a:Nat) o,p<=a->l[a]?=some o->jX id o=false
def aGu(d:Q.spec 36=X gV){l:ba}(g:aq 6 Obj.val ov l)(A:∀o∈l,o.rf)(j:J l<small):ai Q 166 [.agg [ov]] s (.bool (!bw l)) s:=by
 have B:=g.cs;have q:=zP g A j;refine ai.ofNZ atk (aM ?_);simp only[go_sem,seval,d,q]
def aGt(d:Q.spec 36=X gV){l:ba}(q:aq 6 Obj.val ov l)(A:∀o∈l,o.rf)(j:J l<small):ai Q 165 [.list 1 [.agg [ov]] .Al,.func (.func 166) [] []] s (.bool (!bw l)) s:=by
 have h:=F5 (Q:=Q) ajD arN (enc:=λx:aa=>.agg [x]) (l:=[ov]) (cap:=[]) afg (.inr ⟨.Al,rfl⟩) (show 1<small from d_) (λx _=>⟨(Mi _ 0).trans rfl,rfl⟩) (nJ 166) (p:=λ_=> !bw l) (s:=s) λx g=>by
  rw[kg.1 g];exact aGu d q A j
 cases hv:bw l<;>rw[hv]at h<;>exact h
def afY(d:Q.spec 36=X gV){l:ba}(g:aq 6 Obj.val ov l)(q:∀o∈l,o.rf)(j:J l<small):ai Q 97 [.list 1 [.agg [ov]] .Al] s (.bool (bw l)) s:=by
 have A:=g.cs;refine ai.ofNZ av6 (aM ?_);simp only[go_sem,seval];refine aV.of (aGt d g q j) d_ ?_;cases hv:bw l<;>simp only[go_sem,seval]<;>rfl
def akl:ai Q 99 [.uP] s .uP s:=by
 have d:cN ae .eql 22 .uP .uP=X (.bool O):=k_
 refine ai.ofNZ RN (aM ?_);simp only[go_sem,seval,d]
def akj{r:gS}:ai Q 99 [.list 6 [] r] s (.list 6 [] .Al) s:=by
 have d:cN ae .eql 22 (.list 6 [] r) .uP=X (.bool I):=k_
 have g:cL ae [] 22 (.list 6 [] .Al) (.list 6 [] r) O s=X (.list 6 [] .Al,s):=by
  simp only[ce,cL,MM,aH,cR,rF]
 refine ai.ofNZ RN (aM ?_);simp only[go_sem,seval,d,g,sB]
def OC{o:Obj}{l:ba}{r:gS}(g:(o::l).length<=1000):ai Q 99 [.list 6 ((o::l).map Obj.val) r] s (.arr 6 s.aL 0 (o::l).length (o::l).length) (s.new (.cells (au ((o::l).map Obj.val)))):=by
 have j:cN ae .eql 22 (.list 6 ((o::l).map Obj.val) r) .uP=X (.bool I):=k_
 have q:cL ae [] 22 (.list 6 [] .Al) (.list 6 ((o::l).map Obj.val) r) O s=X (.arr 6 s.aL 0 (o::l).length (o::l).length,s.new (.cells (au ((o::l).map Obj.val)))):=by
  have d:eE ([]++(o::l).map Obj.val).length 88=O:=xT (by simp only[ng,bj,bT]at g⊢;omega) d_;rw[cU]at d⊢;simp only[ce,cL,MM,aH,cR,fk,iq,ng];simp only[ng]at d;rw[d];simp
 refine ai.ofNZ RN (aM ?_);simp only[go_sem,seval,j,q,sB]
noncomputable def QN(T:de)(ch:cE):ay:= {P:=ae,hint:=Ds,spec:=λf=>Ap f T,ch:=ch,kmax:=λ_=>1000000,specW:=λf=>bif aB f 100 then X (nD 6)else bif aB f 158 then X (nD 2)else Z,anew:=λf=>aB f 100||aB f 158 }
instance(T:de)(ch:cE):Std (QN T ch):=⟨rfl,rfl,λ_=>rfl,λf h=>⟨H8 h T,by
 show(bif aB f 100 then X (nD 6)else bif aB f 158 then X (nD 2)else Z)=Z;cases h1:aB f 100<;>cases h2:aB f 158<;>first|rfl|(rw[fL h1]at h;cases h)|(rw[fL h2]at h;cases h)⟩⟩
variable{T:de}
def Uw{ch:cE}{f:Nat}{sp:V_}(h:(QN T ch).specW f=X sp):(f=100/\sp=nD 6)\/(f=158/\sp=nD 2):=by
 have h:(bif aB f 100 then X (nD 6)else bif aB f 158 then X (nD 2)else Z)=X sp:=h;rcases fP h with⟨d,h⟩|⟨_,h⟩
 exact .inl ⟨fL d,(sI h).symm⟩
 let⟨d,h⟩:=bf h
 exact .inr ⟨fL d,(sI h).symm⟩
variable{args:az}{sz:Nat}
def ar3{w:lk}(h:nD sz args=X w):∃n g,w=X (n,g)/\∀(f:M_) cs l,em f (g cs)≠X (.agg l):=by
 have d:∀{i len:Nat}{cs:az}{o:aI}{f:M_}{l:az},em f (xg sz i len cs o)≠X (.agg l):=λe=>by
  let⟨_,_,_,_,e⟩:=J4 e
  cases e
 unfold nD at h;split at h
 let⟨_,h⟩:=bf h
 cases h;refine⟨_,_,rfl,λf cs l e=>?_⟩;simp only[em,an]at e
 let⟨o,_,e⟩:=e
 exact d e
 let⟨_,h⟩:=bf h
 cases h;exact⟨_,_,rfl,λf cs l e=>d e⟩
 let⟨_,h⟩:=bf h
 cases h;exact⟨_,_,rfl,λf cs l e=>d e⟩;cases h
theorem ao7(B:eh T):Ag.rf (QN T λ_=>0) where
 mixed:=Ly
 spec f sp hsp args v hv G hp w xs wr hx:=B _ (H7 hsp) args v hv G hp w xs wr hx
 specH f sp h args v G hp w xs wr hx hv:=by cases h
 specW f sp h args G hp w xs wr hx:=by
  have key:∀{sz:Nat}{u:lk},nD sz args=X u->(u≠Z)/\∀n g,u=X (n,g)->∀(f:M_) cs l,em f (g cs)≠X (.agg l):=λ{sz u} h1=>by
   let⟨n,g,e,h4⟩:=ar3 h1
   refine⟨λj=>(by rw[j]at e;cases e),λF N j=>?_⟩;rw[j]at e;injection e with e;injection e with D j
   subst D;subst j;exact h4
  rcases Uw h with⟨rfl,rfl⟩|⟨rfl,rfl⟩<;>exact⟨λh1=>absurd rfl (key h1).1,λn g cs d h1 h2 h3=>absurd h3 ((key h1).2 n g rfl _ _ _)⟩
 specN f sp h _ args G hp w xs wr hx n g cs d sz a b len c q h1 h2 h3 h4:=by
  rcases Uw h with⟨rfl,rfl⟩|⟨rfl,rfl⟩
  exact Yt ar2 args xs wr hx n g cs d sz a b len c q h1 h2 h3 h4;exact Yt ar4 args xs wr hx n g cs d sz a b len c q h1 h2 h3 h4
 names f fn A:=by
  have A:ae.funcs[f]?=X fn:=A
  grind [Ss]
variable{f:FuncId}
def TQ(hT:eh T){u:aa}(S:dW args=O)(R:∀d,∃v s',ai (QN T d) f (di args) s0 v s'/\eY s'.heap v u)(G:Gh)(h:aC aI)(w:World)(xs:er)(wr:WR G h w)(P:bO G args xs):
 kh ae f ⟨xs⟩ w λy F=>∃D,WR D h F/\ck G h w D h F 0 0/\VR D u y:=by
 let⟨N,hN⟩:=W4 (B:=1000000) w_ (λd n=>∃v s',(b9 (QN T d) n).call f (di args) [] s0=X (v,s')/\eY s'.heap v u)
  (λd n m q ⟨v,s',j,g⟩=>⟨v,s',(mn (QN T d) q).call _ _ _ _ _ j,g⟩)
  (λd n ⟨v,s',j,g⟩=>⟨s'.ci,λA V=>⟨v,s',(qt (QN T λ_=>0) n).call f _ [] d s0 v s' j A V,g⟩⟩)
  (λd _=>let⟨v,s',⟨n,j⟩,g⟩:=R d;⟨n,v,s',j,g⟩)
 exact MU (Q:=QN T λ_=>0) (n:=N) (ao7 hT) (λ_=>(by decide:0<1000000)) S (λd hi=>hN d hi) G h w xs wr P
def VU:∀(l:ba)(p:Nat),(au (l.map Obj.val)).take (p*6)=au ((l.take p).map Obj.val)
 |[],p=>by simp[au]
 |o::l,0=>by simp[au]
 |o::l,p+1=>by
  have h:(au (l.map Obj.val)).take (p*6)=au ((l.take p).map Obj.val):=VU l p;have e:J o.val.cells=6:=rfl;rw[wt,cU,cU,au,au,<-h,List.take_append,e,nh w_,show(p+1)*6-6=p*6 from w_]
def VT:∀(l:ba)(p:Nat),(au (l.map Obj.val)).drop (p*6)=au ((l.drop p).map Obj.val)
 |[],p=>by simp[au]
 |o::l,0=>by simp
 |o::l,p+1=>by
  have h:(au (l.map Obj.val)).drop (p*6)=au ((l.drop p).map Obj.val):=VT l p;have e:J o.val.cells=6:=rfl;rw[uq,cU,au,<-h,Iq,e,yj w_,ng,show(p+1)*6-6=p*6 from w_]
def ajy(x:Obj)(l:ba)(p:Nat):jo 6 p x.val.cells (au (l.map Obj.val))=au ((l.take p++x::l.drop p).map Obj.val):=by
 unfold jo;rw[VU,VT,db,cU,mQ,au]
def Nd{q:Obj}(h:dC q=O):q.id≠[]:=by
 unfold dC at h;cases hb:lz q;simp only[lz,v6,decide_eq_false_iff_not,Bool.not_eq_false']at hb;have d:=hb.1.1.1.2;intro e;rw[e]at d;cases d;rw[hb]at h;cases h
def Sc{id:ag}{o:Obj}:jX id o=O↔gQ o.id id=O:=by
 rw[<-n8];exact decide_eq_true_iff
def aoc{id:ag}{o:Obj}(h:jX id o=I)(d:o.id≠id):gQ id o.id=O:=by
 rw[<-n8];have q:¬cM o.id id<0:=of_decide_eq_false h;have j:cM o.id id≠0:=λe=>d (rj e);have g:=A9 o.id id;omega
def Hg{l:ba}(q:bw l=O)(id:ag)(a b:Nat)(o p:Obj)(D:a<=b)(j:l[a]?=X o)(d:l[b]?=X p)(h:jX id p=O):jX id o=O:=by
 simp only[bw,bh]at q;have F:=(xe l [] q.1).2;rcases ip a b with g|B
 have A:=Iz.1 (ux.1 F) a b (gn.1 j).1 (gn.1 d).1 g;rw[(gn.1 j).2,(gn.1 d).2]at A;rw[Sc,<-n8]at h⊢;exact Ba ((n8 _ _).2 A) h;have:a=b:=w_
 subst this;rw[j]at d
 have:=sI d;subst this;exact h
variable{p:Nat}
def ar8{l:ba}{x:Obj}(B:bw l=O)(R:dC x=O)(F:∀o∈l,o.id≠x.id)(P:yQ l x.id p)(hl:J l<1000000):bw (l.take p++x::l.drop p)=O:=by
 simp only[bw,bh,dE]at B⊢
 let⟨h1,h2⟩:=xe l [] B.1
 have g:=rR l [] B.1;have A:gQ [] x.id=O:=by
  rcases e:x.id with _|⟨c,r⟩
  exact absurd e (Nd R);rw[<-n8];simp[cM]
 have S:∀o∈l.take p,gQ o.id x.id=O:=λo j=>by
  let⟨a,d⟩:=qI.1 j
  rw[we]at d;split at d;exact Sc.1 (P.lo a o w_ d);cases d
 have hd:∀o∈l.drop p,gQ x.id o.id=O:=λo j=>by
  let⟨a,d⟩:=qI.1 j
  rw[qH]at d;exact aoc (P.hi (p+a) o w_ d) (F o (oK j))
 have V:=ux.1 h2;refine⟨LM _ [] (λq D=>?_) (λk hk=>?_) (ux.2 (Iy.2 ⟨V.sublist (List.take_sublist p l),List.pairwise_cons.2 ⟨hd,V.sublist (List.drop_sublist p l)⟩,λa d b N=>?_⟩)),?_⟩;rcases fA.1 D with h|h
 exact g q (wh h);rcases dG.1 h with rfl|h
 exact R;exact g q (oK h);obtain⟨q,D,rfl⟩:=cC.1 hk;rcases fA.1 D with h|h
 exact h1 _ (E8 (wh h));rcases dG.1 h with rfl|h
 exact A;exact h1 _ (E8 (oK h));rcases dG.1 N with rfl|N
 exact S a d;rw[<-n8];exact Ba ((n8 _ _).2 (S a d)) ((n8 _ _).2 (hd b N));rw[bK,bT,jw,kd]
 have:=P.le;omega
def dM(id:ag)(l:ba):Nat:=l.findIdx λo=> !jX id o
def xR(l:ba)(x:Obj):ba:=l.take (dM x.id l)++x::l.drop (dM x.id l)
def yQ.eq{l:ba}{id:ag}{q:Nat}(a:yQ l id p)(b:yQ l id q):p=q:=by
 have d:∀{p q:Nat},yQ l id p->yQ l id q->¬p<q:=λ{p q} a b h=>by
  have g:p<J l:=by have:=b.le;omega
  have e:=dp g;have j:=a.hi p _ (aD _) e;rw[b.lo p _ h e]at j;cases j
 have j:=d a b;have A:=d b a;omega
def MW{l:ba}{id:ag}(hm:∀(a b:Nat)(o p:Obj),a<=b->l[a]?=X o->l[b]?=X p->jX id p=O->jX id o=O):yQ l id (dM id l) where
 le:=List.findIdx_le_length
 lo a o ha hat:=by
  obtain⟨h1,rfl⟩:=gn.1 hat;have h2:=List.not_of_lt_findIdx ha;simpa using h2
 hi a o ha hat:=by
  cases e:jX id o;rfl;have g:=(gn.1 hat).1;have d:dM id l<J l:=w_
  have h1:=hm _ a _ o ha (dp d) hat e;have h2:(!jX id l[dM id l])=O:=List.findIdx_getElem (w:=d);rw[h1]at h2;cases h2
def V4:∀l:ba,chunk (!aB 6 1) 6 (J l) (au (l.map Obj.val))=X (l.map Obj.val)
 |[]=>rfl
 |o::l=>by
  have d:=V4 l;have j:au ((o::l).map Obj.val)=.str o.id:: .int .i64 o.mT:: .int .i64 o.x:: .int .i64 o.y::o.refsV::o.tagsV::au (l.map Obj.val):=rfl;rw[j];simp only[bT,cU];show(bif(!aB 6 1)then _ else _)=_;have g:cut (.str o.id:: .int .i64 o.mT:: .int .i64 o.x:: .int .i64 o.y::o.refsV::o.tagsV::au (l.map Obj.val)) 0 6=X o.cells:=rfl;rw[g];simp only[aH,uq,kz,d];rfl
def JK:∀l:ba,(au (l.map Obj.val)).length=J l*6
 |[]=>rfl
 |o::l=>by
  have d:=JK l;show(o.cells++au (l.map Obj.val)).length=_;rw[bK,d,bT];show 6+_=_;omega
def akk(j:Q.spec 100=Z)(q:Q.specW 100=X (nD 6))(A:Q.anew 100=O){l:ba}(V:aq 6 Obj.val ov l)(hl:J l<=1000)(x:Obj)(D:p<=J l)(s:St):
 ∃c B m N,ai Q 99 [ov] s c B/\c.cells=[c]/\c.gt=O/\ai Q 100 [c,ak p,.arr 6 B.aL 0 1 1] (B.new (.cells x.cells)) (.arr 6 m 0 (J l+1) (J l+1)) N/\N.get [] m=X (.cells (au ((l.take p++x::l.drop p).map Obj.val))):=by
 have F:jo 6 p x.cells (au (l.map Obj.val))=_:=ajy x l p;rcases V with⟨rfl,rfl⟩|⟨r,rfl⟩
 have d:p=0:=by simpa using D
 subst d;refine⟨.uP,s,_,_,akl,rfl,rfl,ai.specN A j (Std.H _) q (n:=s.aL) (cs:=x.cells) (cs':=jo 6 0 x.cells []) rfl cu rfl,?_⟩;rw[<-F];exact cu;cases l with
 |nil=>
  have d:p=0:=by simpa using D
  subst d;refine⟨.list 6 [] .Al,s,_,_,akj,rfl,rfl,ai.specN A j (Std.H _) q (n:=s.aL) (cs:=x.cells) (cs':=jo 6 0 x.cells []) rfl cu rfl,?_⟩;rw[<-F];exact cu
 |cons o l=>
  refine⟨.arr 6 s.aL 0 (o::l).length (o::l).length,s.new (.cells (au ((o::l).map Obj.val))),_,_,OC hl,rfl,rfl,ai.specN A j (Std.H _) q (n:=s.aL) (g:=λcs=>.ask (s.aL+1) (xg 6 p (o::l).length cs)) (cs:=au ((o::l).map Obj.val)) (cs':=jo 6 p x.cells (au ((o::l).map Obj.val))) (sz:=6) (a:=0) (b:=0) (len:=(o::l).length+1) (c:=0) ?_ ?_ ?_,?_⟩;have S:aB s.aL (s.aL+1)=I:=by rw[fa];exact bN.2 w_
  have R:aP p (o::l).length=O:=bH D;have P:aP (o::l).length 1000000=O:=bH w_;show(bif(aB 6 6&&aB 6 6)&&(!(aB s.aL (s.aL+1))&&(aP p (o::l).length&&aP (o::l).length 1000000))then _ else _)=_;rw[S,R,P];rfl;rw[eA,bN.2 (by show s.aL≠s.aL+1;omega)];exact cu;show(((s.new (.cells (au ((o::l).map Obj.val)))).new (.cells x.cells)).get [] (s.new (.cells (au ((o::l).map Obj.val)))).aL).bind (λv=>em _ (xg 6 p (o::l).length (au ((o::l).map Obj.val)) v))=_;rw[cu,aH];show(bif aB (au ((o::l).map Obj.val)).length ((o::l).length*6)&&aB 6 6 then _ else _)=_;rw[JK,fa,bS];rfl;rw[<-F];exact cu
def Wf:da ae 155 kD:=by
 refine mD ahp λargs u h=>?_;unfold kD at h;split at h;cases h;exact⟨rfl,_,s0,akC R_ rfl _ _ s0,rfl,1,rfl⟩;cases h
def NT:de:=[(36,gV),(57,qw),(155,kD)]
def UN:eh NT:=.cons xC (.cons LL (.cons Wf .nil))
def aem(l:ba)(x:Obj):(xR l x).length=J l+1:=by
 unfold xR;rw[bK,bT,jw,kd];omega
def aen{l:ba}{x o:Obj}(h:o∈xR l x):o=x\/o∈l:=by
 rcases fA.1 h with h|h
 exact .inr (wh h);rcases dG.1 h with h|h
 exact .inl h;exact .inr (oK h)
def rH(l:ba):dd:=l.map λo=>(o.id,ah o.mT)
def DL(k:ag):∀l:ba,bX k (rH l)=(ct k l).map λq=>ah q.mT
 |[]=>rfl
 |o::l=>by
  have d:=DL k l;simp only[rH]at d;simp only[rH,cU,bX,ct,d];by_cases h:k=o.id;subst h;simp;have g:(k==o.id)=I:=bN.2 h;simp[h,g]
def sm(mT:Int)(i:Nat):Int:=bif aj mT 4 then 2 else bif aj mT 5 then bif aj (i:Int) 1 then 1 else 2 else 1
def zZ(l:ba)(mT:Int)(i:Nat)(r:ag):Bool:=
 match ct r l with
 |some q=>aj q.mT (sm mT i)
 |none=>I
def uC(l:ba)(mT:Int)(gT:cf):Prop:=∀(i:Nat)(r:ag),gT[i]?=X r->zZ l mT i r=O
def Ff(l:ba):Prop:=∀o∈l,uC l o.mT o.gT
structure Up (s s':St):Prop where
 old:∀k,k<s.aL->s'.get [] k=s.get [] k
 nx:s.aL<=s'.aL
 mw:s'.gE<=s'.aL
def Up.refl(h:s.gE<=s.aL):Up s s:=⟨λ_ _=>rfl,aD _,h⟩
variable{t:St}
def Up.trans{u:St}(a:Up s t)(b:Up t u):Up s u:=⟨λk d=>(b.old k (fE d a.nx)).trans (a.old k d),dj a.nx b.nx,b.mw⟩
theorem Up.new(a:Up s t)(o:aI):Up s (t.new o):=⟨λk d=>by rw[cV (fE d a.nx)];exact a.old k d,cr a.nx,cr a.mw⟩
variable{m:Nat}
theorem Up.put(a:Up s t)(h:s.aL<=m)(o:ra):Up s (t.put m o):=⟨λk d=>by rw[aN,bN.2 (by omega:k≠m)];exact a.old k d,a.nx,cG _ _ _ a.mw⟩
structure sF (s:St) (bx m:Nat) (ov:aa) (l:ba):Prop where
 box:s.get [] bx=some (.cells [ov,.map m])
 kin:bg aa.str s m (rH l)
 b0:bx<s.aL
 m0:m<s.aL
variable{bx:Nat}{s':St}
def sF.up{l:ba}(C:sF s bx m ov l)(u:Up s s'):sF s' bx m ov l:=⟨(u.old bx C.b0).trans C.box,(u.old m C.m0).trans C.kin,fE C.b0 u.nx,fE C.m0 u.nx⟩
def aGS(k:Int)(i:Nat)(s:St):ai Q 90 [ah k,ak i] s (ah (sm k i)) s:=by
 refine ai.ofNZ avY (aM ?_);cases e1:aj k 4<;>cases e2:aj k 5<;>cases e3:aj (i:Int) 1<;>simp only[go_sem,seval,sm,e1,e2,e3]
def aCm{l:ba}(C:sF s bx m ov l){o:Obj}(go:o.rf)(hl:J o.gT<=1000000)(g3:lc.gen 3=1)(l3:lc.get 3 1=X o.cells)(hx:∀e,uC l o.mT o.gT->K (.exit 0) ⟨e,37,lc⟩ s)(hr:∀e P,P≠0->¬uC l o.mT o.gT->ac e 4=ah P->K .ret ⟨e,37,lc⟩ s):
 ∀(rest d:cf)(e:aw),o.gT=d++rest->(∀(i:Nat) r,i<J d->o.gT[i]?=X r->zZ l o.mT i r=O)->ac e 0=.ptr bx 0->ac e 3=.uV 3 1 0->ac e 10=o.refsV->ac e 11=ak (J o.gT)->ac e 12=ak (J d)->W Q 50 (.loop KW) ⟨e,37,lc⟩ s K:=by
 intro rest;have a1:=go.gT.cs;have hb:=C.box;simp only[Obj.cells]at l3
 induction rest with
 |nil=>
  intro d e S hp e0 e3 D B A;have a0:=cz S;refine aF ?_;simp only[go_sem,seval,KW,B,A,a0,bJ];exact hx _ λi r hi=>hp i r (by have:=(gn.1 hi).1;omega) hi
 |cons x rest ih=>
  intro d e S hp e0 e3 D B A
  let⟨hlt,hat⟩:=cH S
  have N:=λlc k=>go.gT.at bL.2.2.1 hat lc k;have V:=cm (n:=J d) w_;have j:=nG fY rJ uf C.kin x;rw[DL]at j;have run:=aGS (Q:=Q) o.mT (J d) s;have R:zZ l o.mT (J d) x=I->¬uC l o.mT o.gT:=λh g=>by rw[g _ _ hat]at h;cases h
  refine aF ?_;cases hq:ct x l with
  |none=>
   rw[hq]at j;simp only[nQ,ii]at j;simp only[go_sem,seval,KW,e0,D,B,A,hlt,N,ax,hb,j];exact hr _ 14 d_ (R (by simp[zZ,hq])) (by simp only[sN,seval])
  |some q=>
   rw[hq]at j;simp only[kL,ii]at j;simp only[go_sem,seval,KW,e0,e3,D,B,A,hlt,N,ax,hb,j,g3,l3];refine aV.of run d_ ?_;cases hk:aj q.mT (sm o.mT (J d))with
   |false=>
    simp only[go_sem,seval,hk];exact hr _ 13 d_ (R (by simp[zZ,hq,hk])) (by simp only[sN,seval])
   |true=>
    simp only[go_sem,seval,hk,A,V];refine ih (d++[x]) _ (cP S) (λi r hi F=>?_) ?_ ?_ ?_ ?_ ?_;by_cases hip:i<J d;exact hp i r hip F;have:i=J d:=by simp at hi;omega
    subst this;rw[hat]at F;obtain rfl:=sI F;simp[zZ,hq,hk]
    all_goals simp only[sN,seval,e0,e3,D,B,sA]
def Tb{l:ba}(C:sF s bx m ov l){o:Obj}(go:o.rf)(B:J o.gT<=1000000):∃d,ai Q 50 [.ptr bx 0,o.val] s (ah d) s/\(d=0↔uC l o.mT o.gT):=by
 have A:=go.all;have g:=go.gT.lenS bL;obtain⟨v,s',q,d,rfl,rfl,j⟩:∃v s',ai Q 50 [.ptr bx 0,o.val] s v s'/\∃d,v=ah d/\s'=s/\(d=0↔uC l o.mT o.gT):=by
  refine ai.ofNRZ auG (aM ?_);simp only[go_sem,seval,Obj.val,Obj.cells,A,g];refine aCm C go B ?_ ?_ (λe h=>?_) (λe d q j D=>?_) o.gT [] _ rfl (λi r hi=>absurd hi (wB _)) ?_ ?_ ?_ ?_ ?_;rfl;rfl;simp only[go_sem,seval];exact⟨_,rfl,0,rfl,λ_=>h,λ_=>rfl⟩;simp only[go_sem,seval,D];exact⟨_,rfl,d,rfl,λh=>absurd h q,λh=>absurd h j⟩
  all_goals simp only[sN,seval,bn]
  all_goals rfl
 exact⟨d,q,j⟩
theorem ay4{l:ba}(ho:aq 6 Obj.val ov l)(hg:∀o∈l,o.rf)(hl:J l<=1000000)(S:(l.map Obj.id).Nodup){s0:St}(hb:s0.get [] bx=X (.cells [ov,.map m]))(a4:bx≠m)(hx:∀e lc s,ac e 3=.ptr bx 0->ac e 1=.uV 1 1 0->lc.gen 1=1->lc.get 1 1=X [ov]->dz m s0 s->bg aa.str s m (rH l)->K (.exit 0) ⟨e,44,lc⟩ s):
 ∀(rest d:ba)(e:aw)(lc:Ag.Loc)(s:St),l=d++rest->dz m s0 s->bg aa.str s m (rH d)->
  ac e 3=.ptr bx 0->ac e 1=.uV 1 1 0->lc.gen 1=1->lc.get 1 1=X [ov]->ac e 16=ov->ac e 17=ak (J l)->ac e 18=ak (J d)->W Q 29 (.loop QM) ⟨e,44,lc⟩ s K:=by
 intro rest;have a5:=ho.cs
 induction rest with
 |nil=>
  intro d e lc s A g hm h3 r1 g1 l1 F q j;have a1:=cz A;have P:d=l:=by rw[A];simp
  refine aF ?_;simp only[go_sem,seval,QM,q,j,a1,bJ];exact hx _ _ _ (by simp only[sN,seval,h3]) (by simp only[sN,seval,r1]) g1 l1 g (by rw[<-P];exact hm)
 |cons o rest ih=>
  intro d e lc s A g hm h3 r1 g1 l1 F q j
  let⟨hlt,hat⟩:=cH A
  have rc:=(hg o (co hat)).all;have a2:=λlc k=>ho.at dY.2.2.1 hat lc k;have N:=cm (n:=J d) w_;have R:bX o.id (rH d)=Z:=by
   rw[A,db]at S;rw[DL,BH];rfl
   grind
  have a3:s.get [] bx=X (.cells [ov,.map m]):=(g.old bx a4).trans hb;have a0:bg aa.str s.top m (rH d):=hm;have B:=lN fY rJ a0 o.id (ah o.mT);have D:dt o.id (ah o.mT) (rH d)=rH (d++[o]):=by
   rw[rE R];unfold rH;rw[db];rfl
  rw[D]at B;have V:=g.mw;refine aF ?_;simp only[go_sem,seval,QM,h3,F,q,j,hlt,a2,Obj.val,Obj.cells,N,a3,B,V];refine ih (d++[o]) _ _ _ (cP A) (g.putT _) ?_ ?_ ?_ ?_ ?_ ?_ ?_ ?_;show kZ _ [] m=_;rw[jH,aN,bS];rfl
  all_goals simp_all [sL]
def ay5{l:ba}(C:sF s bx m ov l)(ho:aq 6 Obj.val ov l)(hg:∀o∈l,o.rf)(hl:J l<=1000000)(hr:∀o∈l,J o.gT<=1000000)(hx:∀e lc,Ff l->ac e 3=.ptr bx 0->K (.exit 2) ⟨e,44,lc⟩ s)(hn:∀e lc,¬Ff l->ac e 2=.nilp->K .ret ⟨e,44,lc⟩ s):
 ∀(rest d:ba)(e:aw)(lc:Ag.Loc),l=d++rest->(∀o∈d,uC l o.mT o.gT)->ac e 3=.ptr bx 0->ac e 32=ov->ac e 33=ak (J l)->ac e 34=ak (J d)->W Q 29 (.loop QO) ⟨e,44,lc⟩ s K:=by
 intro rest;have a1:=ho.cs
 induction rest with
 |nil=>
  intro d e lc F N P D B A;have V:=cz F;have S:d=l:=by rw[F];simp
  refine aF ?_;simp only[go_sem,seval,QO,B,A,V,bJ];exact hx _ _ (by rw[S]at N;exact N) (by simp only[sN,seval,P])
 |cons o rest ih=>
  intro d e lc F N P D B A
  let⟨hlt,hat⟩:=cH F
  have j:=co hat;have rc:=(hg o j).all;have a0:=λlc k=>ho.at dY.2.2.1 hat lc k;have R:=cm (n:=J d) w_
  let⟨err,run,hif⟩:=Tb (Q:=Q) C (hg o j) (hr o j)
  simp only[Obj.val,Obj.cells]at run;refine aF ?_;simp only[go_sem,seval,QO,P,D,B,A,hlt,a0,Obj.val,Obj.cells];refine aV.of run d_ ?_;cases he:aj err 0 with
  |false=>
   simp only[go_sem,seval,he];refine hn _ _ (λg=>?_) (by simp only[sN,seval])
   have:=hif.2 (g o j);rw[this]at he;cases he
  |true=>
   simp only[go_sem,seval,he,A,R];refine ih (d++[o]) _ _ (cP F) (λq hq=>?_) ?_ ?_ ?_ ?_;rcases fA.1 hq with h|h
   exact N q h;rw[kg]at h;subst h;exact hif.1 (of_decide_eq_true he)
   all_goals simp only[sN,seval,P,D,B,sA]
def adm(B:Q.spec 36=X gV){l:ba}(j:aq 6 Obj.val ov l)(F:∀o∈l,o.rf)(R:J l<=1000000)(hr:∀o∈l,J o.gT<=1000000)(P:s.gE<=s.aL):
 ∃v s',ai Q 29 [.agg [ov]] s v s'/\(Up s s'/\((v=.nilp/\¬(bw l=O/\Ff l))\/∃bx m,v=.ptr bx 0/\sF s' bx m ov l/\bw l=O/\Ff l)):=by
 have a0:=aae;have A:=j.cs;have q:=j.lenS dY;have d:=zP j F w_;refine ai.ofNRZ aup (aM ?_);cases hv:bw l with
 |false=>
  rw[hv]at d;simp only[go_sem,seval,B,d];exact⟨_,rfl,Up.refl P,.inl ⟨rfl,λh=>by cases h.1⟩⟩
 |true=>
  rw[hv]at d
  let⟨u,hu,un,uw,uo,_,ub⟩:=vt (.map [] 0) (.cells [ov,.map s.aL]) P
  have S:bg aa.str u s.aL (rH []):=by
   show u.get [] s.aL=_;rw[<-hu,cV (by show s.aL<s.aL+1;omega),cu];rfl
  simp only[go_sem,seval,A,q,B,d,jq,OB,ey,evc,hu];refine ay4 j F R (rz hv) ub w_ (λe lc D N V g1 l1 g hM=>?_) l [] _ _ u rfl (dz.refl uw) S ?_ ?_ ?_ ?_ ?_ ?_ ?_
  ·have sn:D.aL=s.aL+2:=g.aL.trans un
   have C:sF D (s.aL+1) s.aL ov l:=⟨(g.old _ w_).trans ub,hM,w_,w_⟩;have U:Up s D:=⟨λk hk=>(g.old k w_).trans (uo k hk),w_,g.mw⟩;simp only[go_sem,seval,V,g1,l1,A,q];refine ay5 C j F R hr (λe lc h N=>?_) (λe lc h h2=>?_) l [] _ _ rfl (λo h=>by cases h) ?_ ?_ ?_ ?_;simp only[go_sem,seval,N];exact⟨_,rfl,U,.inr ⟨_,_,rfl,C,h⟩⟩;simp only[go_sem,seval,h2];exact⟨_,rfl,U,.inl ⟨rfl,h⟩⟩
   all_goals simp only[sN,seval,N,bn]
   all_goals rfl
  all_goals first|rfl|(simp only[sN,seval,bn]<;>rfl)
def Mp{k:Nat}:∀{l:ba},(∀o∈l,J o.gT<=k)->dB l<=J l*k
 |[],_=>fN _
 |a::l,h=>by
  have j:=h a gG;have g:=Mp (k:=k) (l:=l) λo d=>h o (iE _ d);unfold dB at g⊢;simp only[cU,qK,bT,jR];omega
def azj{l:ba}(h1:J l<=40)(g:∀o∈l,J o.gT<=12):xI l=O:=by
 unfold xI;cases hv:bw l;rfl;have j:=Mp g;have d:JG l=O:=Pe.2 ⟨hv,w_,w_⟩;rw[d];rfl
def afl:pX->pX
 |[]=>[]
 |[k]=>[k]
 |K=>qB K
def aD9:∀K,afl K=qB K
 |[]=>(List.eq_nil_of_length_eq_zero (afm [])).symm
 |[k]=>by
   show [k]=qB [k];have d:(qB [k]).Perm [k]:=by
    unfold qB;exact(vS _ _ _).map _
   exact(List.perm_singleton.1 d).symm
 |_::_::_=>rfl
def Ol(l:ba):b_:=(afl (uL l)).map λk=>(2,iM k,O)
def aiN(l:ba):Ol l=yY l:=by unfold Ol yY;rw[aD9]
def Nf(l:ba)(rl:vx)(name:ag):az:=[BX (iR l name),Ol (iR l name),DZ (iR l name),D1 (iR l name),En (iR l name) rl].flatMap λL=>L.map (je name)
def aGA(l:ba)(rl:vx)(name:ag):Nf l rl name=m7 l rl name:=by unfold Nf m7 ze;rw[aiN]
def Ox(l:ba)(views:cf)(rl:vx):az:=bif bw l then([]::views).flatMap (Nf l rl)else []
def ajZ(l:ba)(views:cf)(rl:vx):Ox l views rl=ta l views rl:=by
 have:Nf l rl=m7 l rl:=funext λn=>aGA l rl n;unfold Ox ta;rw[this]
def Oy:Sp
 |[m,.agg [a,b,c,d,vv,rv]]=>(lY m).bind λl=>(fH 1 jB vv).bind λviews=>(uJ rv).bind λrl=>bif xI l&&(decide (J views<=200)&&dW [a,b,c,d])then X (dS 3 (Ox l views rl))else Z
 |_=>Z
def aj0:Oy=oW:=by
 funext l;unfold Oy oW;split;simp only[ajZ];rename_i h
 first|rfl|(split;rename_i m a b c d vv rv;exact absurd rfl (h m a b c d vv rv);rfl)
variable{c:Nat}
def alU{id:ag}(d:s.get [] c=X (.cells [.str id])){o:Obj}(go:o.rf):ai Q 220 [o.val,.ptr c 0] s (.bool (o.id==id)) s:=by
 have g:=go.all;refine ai.ofNZ atY (aM ?_);simp only[go_sem,seval,d,Obj.val,Obj.cells]
def anq(B:No Q 151){l:ba}(g:aq 6 Obj.val ov l)(N:∀o∈l,o.rf)(d:J l<=1000000)(id:ag):
 ∃v s',ai Q 151 [.agg [ov],.str id] s v s'/\v=bD (fX (λo:Obj=>o.id==id) l 0):=by
 have j:=g.cs;have F:=g.lenS dY;obtain⟨z,q⟩:=cw (s.new (.cells [.str id]));have A:z.get [] s.aL=X (.cells [.str id]):=by rw[<-q];exact cu
 have h:ai Q 219 [ov,.func (.func 220) [] [.ptr s.aL 0]] z (bD (fX (λo:Obj=>o.id==id) l 0)) z:=Yf (Q:=Q) Ym dY g (ED d) (λx _=>⟨(S8 _ 0).trans rfl,rfl⟩) (nJ 220) λx D=>alU A (N x D);refine ai.ofNRZ as6 (aM ?_);simp only[go_sem,seval,j,q];refine aV.of h d_ ?_;simp only[go_sem,seval,bD];exact⟨_,rfl,rfl⟩
def Bh:Sp
 |[m,.str id]=>(lY m).bind λl=>bif decide (J l<=1000000)then X (bD (fX (λo:Obj=>o.id==id) l 0))else Z
 |_=>Z
def ano{l:ba}(g:aq 6 Obj.val ov l)(q:∀o∈l,o.rf)(j:J l<=1000000)(id:ag):Bh [.agg [ov],.str id]=X (bD (fX (λo:Obj=>o.id==id) l 0)):=by
 have d:=aae;simp only[fq,Bh,sS g q w_,dQ j]
def anp:da ae 151 Bh:=by
 intro args x d G h w A B D;unfold Bh at d;split at d;rename_i m id;simp only[an]at d
 let⟨l,j,d⟩:=d
 let⟨h3,d⟩:=bf d
 simp only[dE]at h3;have d:=sI d;subst d;obtain⟨v,rfl,j,q,P⟩:=qX j
 let⟨ht,v',g,hl'⟩:=pg j q
 have g:di [.agg [v],.str id]=[.agg [v'],.str id]:=by simp only[di,g];rfl
 refine jd (T:=[]) (W:=[]) .nil .nil (args:=[.agg [v],.str id]) (by show(Ag.d8 (.agg [v])&&(Ag.d8 (.str id)&&O))=O;rw[ht];rfl) (λN=>?_) G h w A B D;rw[g];obtain⟨y,s',F,rfl⟩:=anq (Q:=QW [] [] N) R_ hl' q h3 id (s:=s0);exact⟨_,_,F,⟨1,rfl⟩⟩;cases d
def an2{k:ag}:∀{l:ba}{o:Obj}{i:Nat},ct k l=X o->∃p:Nat,fX (λo:Obj=>o.id==k) l i=((i+p:Nat):Int)/\l[p]?=X o:=by
 intro l
 induction l with
 |nil=>intro o i h;cases h
 |cons q l d=>
  intro o i h;by_cases hk:q.id=k;subst hk;simp only[ct,bS,cT,Option.some.injEq]at h;subst h;exact⟨0,by simp[fX],rfl⟩;have j:(q.id==k)=I:=bN.2 hk;have g:(k==q.id)=I:=bN.2 λe=>hk e.symm;simp only[ct,g,cF]at h
  let⟨p,h3,h4⟩:=d (i:=i+1) h
  refine⟨p+1,?_,h4⟩;simp only[fX,j,cF,h3];omega
def Xy(B:Q.spec 151=X Bh){l:ba}(C:sF s bx m ov l)(q:s.gE<=s.aL)(j:aq 6 Obj.val ov l)(D:∀o∈l,o.rf)(F:J l<=1000000){id:ag}{o:Obj}(h:ct id l=X o):∃s',ai Q 91 [.ptr bx 0,.str id] s o.val s'/\Up s s':=by
 have N:=j.cs;have P:=C.box;have d:=ano j D F id
 let⟨p,hp,hat⟩:=an2 (i:=0) h
 rw[dP]at hp;rw[hp]at d;have A:=λlc k=>j.at dY.2.2.1 hat lc k;have V:=(D o (co hat)).all
 suffices g:∃v s',ai Q 91 [.ptr bx 0,.str id] s v s'/\(v=o.val/\Up s s') by
  obtain⟨_,s',S,rfl,R⟩:=g;exact⟨s',S,R⟩
 refine ai.ofNRZ avZ (aM ?_);simp only[go_sem,seval];refine⟨q,?_⟩;simp only[go_sem,seval,P,B,d,bD,A,Obj.val,Obj.cells];exact⟨_,rfl,rfl,by rw[iL q];exact Up.refl q⟩
variable{b:cf}{ys:aa}
def aCh(d:Q.spec 65=X kQ)(A:aq 1 ax ys b)(j:J b<=1000000)(B:s.get [] c=X (.cells [ys]))(x:ag):ai Q 161 [.str x,.ptr c 0] s (.bool (b.contains x)) s:=by
 have g:=A.cs;have q:=FF A j x;refine ai.ofNZ ate (aM ?_);simp only[go_sem,seval,B,g,d,q]
def qA(d:Bool)(ids:cf)(o:Obj):Bool:=(!d||bV 4 o.mT)&&o.gT.any λx=>ids.contains x
def aCg(q:Q.spec 65=X kQ)(P:aq 1 ax ys b)(B:J b<=1000000){d:Nat}{g:Bool}(A:s.get [] d=X (.cells [.bool g]))(N:s.get [] c=X (.cells [ys])){o:Obj}(go:o.rf)(F:J o.gT<=1000000):
 ai Q 160 [o.val,.ptr d 0,.ptr c 0] s (.bool (qA g b o)) s:=by
 have D:=go.all;have j:=F7 (Q:=Q) go.gT F (nJ 161) (s:=s) (cap:=[.ptr c 0]) (p:=λx=>b.contains x) λx _=>aCh q P B N x;refine ai.ofNZ atd (aM ?_);unfold qA;cases g;simp only[go_sem,seval,Obj.val,Obj.cells,D,A];refine aV.of j d_ ?_;simp only[go_sem,seval];cases e1:bV 4 o.mT;simp only[go_sem,seval,Obj.val,Obj.cells,A,e1];simp only[go_sem,seval,Obj.val,Obj.cells,D,A,e1];refine aV.of j d_ ?_;simp only[go_sem,seval]
def S9(j:Q.spec 65=X kQ){l:ba}(C:sF s bx m ov l)(hm:s.gE<=s.aL)(B:aq 6 Obj.val ov l)(hg:∀o∈l,o.rf)(hl:J l<=1000000)(V:∀o∈l,J o.gT<=1000000)(P:aq 1 ax ys b)(F:J b<=1000000)(d:Bool):
 ∃v s',ai Q 94 [.ptr bx 0,.bool d,ys] s v s'/\(v=.bool (l.any (qA d b))/\Up s s'):=by
 have D:=B.cs;have A:=P.cs;have a0:=B.lenS dY;obtain⟨z,q⟩:=cw ((s.new (.cells [.bool d])).new (.cells [ys]));have U:Up s z:=by rw[<-q];exact((Up.refl hm).new _).new _
 have Cz:=(C.up U).box;have R:z.get [] s.aL=X (.cells [.bool d]):=by rw[<-q,cV (by show s.aL<s.aL+1;omega)];exact cu
 have S:z.get [] (s.aL+1)=X (.cells [ys]):=by rw[<-q];exact cu
 have g:ai Q 159 [ov,.func (.func 160) [] [.ptr s.aL 0,.ptr (s.aL+1) 0]] z (.bool (l.any (qA d b))) z:=F5 (Q:=Q) ajG Ym dY B (ED hl) (λx _=>⟨(S8 _ 0).trans rfl,rfl⟩) (nJ 160) (p:=qA d b) λx N=>aCg j P F R S (hg x N) (V x N);refine ai.ofNRZ av2 (aM ?_);simp only[go_sem,seval,A,q,Cz,D];refine aV.of g d_ ?_;simp only[go_sem,seval];exact⟨_,rfl,rfl,U⟩
def alZ(xs:az)(r:gS):cN ae .eql 25 (.list 1 xs r) .uP=X (.bool I):=k_
def akh(j:No Q 163){r:gS}{ids:cf}(d:ids≠[])(A:J ids<=1000000)(B:(aa.list 1 (ids.map ax) r).gt=O)(q:s.gE<=s.aL):
 ∃v s',ai Q 163 [.list 1 (ids.map ax) r] s v s'/\(bR 1 s.aL s' v (ids.map ax)/\s.aL<=s'.aL/\s'.gE<=s'.aL):=by
 have F:cL ae [] 25 (.list 1 [] .Al) (.list 1 (ids.map ax) r) I s=X (.list 1 (ids.map ax) (.own s.aL),s.new .tok):=by
  obtain⟨x,ids,rfl⟩:=List.exists_cons_of_ne_nil d;have g:eE ([]++(x::ids).map ax).length 16=O:=xT (by simp only[ng,bj,bT]at A⊢;omega) d_;rw[cU]at g⊢;simp only[ce,cL,bL,aH,cR,cF,fk,iq,ng];simp only[ng]at g;rw[g];rfl
 have D:=alZ (ids.map ax) r;refine ai.ofNRZ atf (aM ?_);simp only[go_sem,seval,B,D,F,sB];refine⟨_,rfl,.inr ⟨by simpa using d,s.aL,rfl,by rw[eA,bS];rfl,aD _,gN _⟩,cr q⟩
variable{h:aC aI}{v:aa}
def anT{xs:cf}(g:bR 1 lo s v (xs.map ax)):eY h v (dS 1 (xs.map ax)):=
 ⟨4,Bk g λv d=>by
   obtain⟨x,_,rfl⟩:=cC.1 d;rfl⟩
def Ps{α:Type}(p:α->Bool):∀(l:List α)(i:Nat),fX p l i= -1\/∃k:Nat,fX p l i=((i+k:Nat):Int)/\k<J l
 |[],_=>.inl rfl
 |x::l,i=>by
  simp only[fX];cases p x;rcases Ps p l (i+1)with h|⟨k,h,d⟩
  exact .inl h;exact .inr ⟨k+1,by rw[cF,h];congr 1;omega,Nat.succ_lt_succ d⟩;exact .inr ⟨0,rfl,Nat.succ_pos _⟩
variable{l:cf}{sv:aa}
def arH(d:aq 1 ax sv l)(B:J l<=1000000)(x:ag)(s:St):ai Q 117 [sv,.str x] s (bD (fX (λy=>x==y) l 0)) s:=by
 have j:=d.cs;have g:=d.lenS bL;refine ai.ofNZ Y0 (aM ?_);simp only[go_sem,seval,g,j];refine Ye B (λi y q=>⟨_,λlc=>d.at bL.2.2.1 q lc _,λlc=>by simp only[go_sem,Nat.reduceMod,Nat.reduceShiftRight,ax,m8]⟩) (x:=x) (r:=fX (λy=>x==y) l 0) ?_ ?_ l [] _ rfl rfl (by simp only[sG,seval]) (by simp only[sG,seval]) (by simp only[sG,seval]) (by simp only[sN,seval];rfl);intro e A;simp only[go_sem,seval,A];rfl;intro e D;simp only[go_sem,seval,D];rfl
def vg(l:cf)(x:ag):Int:=
 bif bV (fX (λy=>x==y) l 0) 0||(aj (fX (λy=>x==y) l 0) ((J l:Int)-1)||((l.take (J l)).drop ((fX (λy=>x==y) l 0).toNat+1)).contains x)then-1 else fX (λy=>x==y) l 0
def arZ(l:cf)(x:ag):vg l x= -1\/∃p:Nat,vg l x=(p:Int)/\0<p/\p+1<J l:=by
 unfold vg;rcases Ps (λy=>x==y) l 0 with h|⟨p,h,d⟩
 rw[h];exact .inl rfl
 ·rw[h,dP]
  cases e1:bV (p:Int) 0;cases e2:aj (p:Int) ((J l:Int)-1);cases ((l.take (J l)).drop ((p:Int).toNat+1)).contains x;have j:¬(p:Int)<=0:=of_decide_eq_false e1;have g:¬(p:Int)=(J l:Int)-1:=of_decide_eq_false e2;exact .inr ⟨p,rfl,w_,w_⟩
  all_goals exact .inl rfl
def ar0(B:Q.spec 65=X kQ)(F:aq 1 ax sv l)(S:J l<=1000000)(x:ag)(s:St):ai Q 162 [sv,.str x] s (ah (vg l x)) s:=by
 have d:=F.cs;have A:=F.lenS bL;have run:=arH (Q:=Q) F S x s;unfold vg;rcases Ps (λy=>x==y) l 0 with h|⟨p,h,hp⟩
 rw[h]at run⊢;have D:bV (-1) 0=O:=rfl;refine ai.ofNZ Zy (aM ?_);simp only[go_sem,seval,d];refine aV.of run d_ ?_;simp only[go_sem,seval,bD,D]
 ·rw[h,dP]at run⊢
  have j:IntKind.i64.wrap ((J l:Int)-1)=(J l:Int)-1:=by rw[nf];omega
  have P:=cm (n:=p) w_;refine ai.ofNZ Zy (aM ?_);simp only[go_sem,seval,d];refine aV.of run d_ ?_;cases D:bV (p:Int) 0;cases e2:aj (p:Int) ((J l:Int)-1)
  let⟨V,sa,hV,_⟩:=MO Nc (by kernel_rfl:cW ae 9=X 1) F (lo:=p+1) (hi:=J l) w_ (aD _)
  have N:∀env s,ac env 21=ak (p+1)->eH ae [] 25 sv (X (.tmp 21)) Z Z env s=X V:=λenv s q=>sa env s _ _ rfl (kI (by rw[eC,q]));have R:=hV.cs;have g:=FF hV (by rw[kd,jw];omega) x;simp only[go_sem,seval,bD,D,e2,d,A,j,P,N,R,B,g,Int.toNat_natCast];cases ((l.take (J l)).drop (p+1)).contains x
  all_goals first|simp only[go_sem,seval,bD,D,e2,d,A,j]|simp only[go_sem,seval,bD,D]
def C0:Sp
 |[v]=>(fH 1 jB v).bind λl=>bif !l.isEmpty&&decide (J l<=1000000)then X (dS 1 (l.map ax))else Z
 |_=>Z
def Wb(h:aq 1 ax v l)(d:l≠[])(g:J l<=1000000):C0 [v]=X (dS 1 (l.map ax)):=by
 have q:l.isEmpty=I:=by cases l with|nil=>exact absurd rfl d|cons=>rfl
 simp only[fb,C0,oo nY h,q,Bool.not_false,dQ g]
def aki:da ae 163 C0:=by
 intro args u d G h w j q A;unfold C0 at d;split at d;simp only[an]at d
 let⟨l,h1,d⟩:=d
 let⟨h2,d⟩:=bf d
 simp only[bh,dE,m9]at h2;have d:=sI d;subst d;have g:l≠[]:=λe=>by rw[e]at h2;cases h2.1
 have hi:=lX (λv a=>pS) h1
 let⟨ht,hi'⟩:=qh qC hi
 refine jd (T:=[]) .nil (W:=[]) .nil (by simp only[dW,ht,cj]) (λD=>?_) G h w j q A;rcases hi' with⟨_,e⟩|⟨r,e⟩
 exact absurd e g
 let⟨y,s',hr,hq,_⟩:=akh (Q:=QW [] [] D) R_ (r:=r) g h2.2 rfl (s:=s0) (aD _)
 refine⟨y,s',by rw[di,di,e];exact hr,?_⟩;rcases hq with⟨_,B⟩|⟨_,k,rfl,_⟩
 exact absurd (pE.1 B) g;exact anT (h:=s'.heap) (lo:=0) (s:=s') (.inr ⟨by simpa using g,k,rfl, ‹_›⟩);cases d
def ao9{K:Nat}(g:0<K)(d:K<=1000000)(mu:Bool)(s:St):fQ ae [] .append [25,3] mu [.uP,ak K] s=X (.arr 1 s.aL 0 K K,s.new (.cells (eZ [.str []] K))):=by
 have D:lB ae 3=I:=k_
 have B:Gf ae 3=O:=k_
 have A:bC 0 K=O:=bH g;have q:aP K 1000000=O:=bH d;have j:eE K 16=O:=xT w_ d_;simp only[fb,fQ,D,B,cF,Bm,ak,bL.1,A,q,j,m8]
def ajr(mu:Bool)(s:St):fQ ae [] .cap [25] mu [.uP] s=X (.int .i64 0,s):=k_
def aDU{x:Operand}(mk:aK){e:aw}(h:ev e x=X (ak 0))(s:St):eH ae mk 25 .uP Z (X x) Z e s=X .uP:=by
 have d:eH ae mk 25 .uP Z (X x) Z e s=(dK e (X x) 0).bind λh=>(X 0).bind λl=>(X 0).bind λm=>bif aB h 0&&aB l 0&&aB m 0&&(O||O)then X .uP else Z:=k_
 rw[d,kI h];rfl
def awP(mk:aK)(s:St):fZ ae mk 25 .uP s=X (ak 0):=k_
def apa{K:Nat}(B:0<K)(A:K<=1000000)(s:St):ai Q 224 [.uP,ak K] s (.arr 1 s.aL 0 0 K) (s.new (.cells (eZ [.str []] K))):=by
 have F:aQ (K:Int) 0=I:=dN w_;have D:aQ 0 (K:Int)=O:=dQ w_;have g:IntKind.i64.wrap 0=0:=rfl;have d:IntKind.i64.wrap (K:Int)=(K:Int):=by rw[nf];omega
 have q:∀env s,ac env 19=.int .i64 0->eH ae [] 25 .uP Z (X (.tmp 19)) Z env s=X .uP:=λenv s h=>aDU [] (by rw[eC,h];rfl) s;have j:∀env s m,(ac env 24=.int .i64 0\/ac env 24=ak 0)->eH ae [] 25 (.arr 1 m 0 K K) Z (X (.tmp 24)) Z env s=X (.arr 1 m 0 0 K):=λenv s m h=>by
  rw[MI,kI (n:=0) (by rw[eC];rcases h with h|h<;>rw[h]<;>rfl)];rfl
 refine ai.ofNZ at0 (aM ?_);simp only[go_sem,seval,F,D,g,d,Int.sub_zero,Int.sub_self,ajr,awP,ao9 B A,q,j]
def vJ(cs:az)(p:Nat)(l:az):az:=cs.take p++(l++cs.drop (p+J l))
def Vf{K:Nat}{cs:az}(g:s.get [] m=X (.cells cs))(P:J cs=K)(q:aq 1 ax v l)(j:p+J l<=K)(R:K<=1000000)(mu:Bool):
 ∃s',cL ae [] 25 (.arr 1 m 0 p K) v mu s=X (.arr 1 m 0 (p+J l) K,s')/\s'.get [] m=X (.cells (vJ cs p (l.map ax)))/\s'.aL=s.aL:=by
 rcases q with⟨rfl,rfl⟩|⟨r,rfl⟩
 refine⟨s,?_,?_,rfl⟩;simp only[fq,cL,bL.1,cR,rF,bn,oL];rw[g,vJ];simp;rcases l with _|⟨x,l⟩
 refine⟨s,?_,?_,rfl⟩;simp only[ce,cL,bL.1,aH,cR,rF,bn,oL,List.map_nil];rw[g,vJ];simp;have d:((x::l).map ax).length=(x::l).length:=bj ..;have A:eE (p+((x::l).map ax).length) 16=O:=xT (by rw[d];omega) d_;have F:aB (0+p*1) (J cs)=I:=by rw[fa];simp only[bT]at j;exact bN.2 w_
 have D:aP (p+((x::l).map ax).length) K=O:=bH (by rw[d];exact j);have B:aP (0+p*1+(au ((x::l).map ax)).length) (J cs)=O:=bH (by rw[rp,d];omega);refine⟨s.put m (X (.cells (vJ cs p ((x::l).map ax)))),?_,by rw[aN,bS];rfl,rfl⟩;have e:cL ae [] 25 (.arr 1 m 0 p K) (.list 1 ((x::l).map ax) r) mu s=fk [] ⟨1,16,I,.str []⟩ (.arr 1 m 0 p K) ((x::l).map ax) mu s:=by
  simp only[ce,cL,bL.1,aH,cR,cU]
 rw[e];have N:aB 1 1=O:=rfl;simp only[fb,fk,g,A,F,D,cF,gL,B,N];simp only[vJ,rp,d,dP,Nat.mul_one]
def YI(g d:aa)(lc:Ag.Loc):fR ae lc 314 (.list 1 [g,d] .Al) (.int .i64 0)=X (.ro g.cells)/\fR ae lc 314 (.list 1 [g,d] .Al) (.int .i64 1)=X (.ro d.cells):=⟨k_,k_⟩
def ach(g d:aa)(mk:aK)(s:St):fZ ae mk 314 (.list 1 [g,d] .Al) s=X (.int .i64 2):=k_
def akV(N:No Q 164){g d:aa}{a:cf}(D:aq 1 ax g a)(B:aq 1 ax d b)(h0:0<J a+J b)(F:J a+J b<=1000000)(s:St):
 ∃v s',ai Q 164 [.list 1 [g,d] .Al] s v s'/\∃m,v=.arr 1 m 0 (J a+J b) (J a+J b)/\s'.get [] m=X (.cells ((a++b).map ax)):=by
 let⟨ac1,ac2⟩:=D.cs
 let⟨bc1,bc2⟩:=B.cs
 have al:=D.lenS bL;have bl:=B.lenS bL;have q:=λlc=>(YI g d lc).1;have j:=λlc=>(YI g d lc).2;rw[ac2]at q;rw[bc2]at j;have q1:aQ 0 2=O:=rfl;have V:aQ 1 2=O:=rfl;have S:aQ 2 2=I:=rfl;have R:IntKind.i64.wrap 1=1:=rfl;have P:IntKind.i64.wrap 2=2:=rfl;have i2:(1:Int)+1=2:=rfl;have wa:IntKind.i64.wrap ((J a:Int))=(J a:Int):=by rw[nf];omega
 have wb:IntKind.i64.wrap ((J a:Int)+(J b:Int))=((J a+J b:Nat):Int):=by rw[nf];omega
 have n1:aQ (J a:Int) 0=I:=dN w_;have n2:aQ ((J a+J b:Nat):Int) 0=I:=dN w_;have cl:(aa.list 1 [g,d] .Al).gt=O:=rfl;have hg:=apa h0 F s (Q:=Q);obtain⟨z,hz⟩:=cw (s.new (.cells (eZ [.str []] (J a+J b))));have zg:z.get [] s.aL=X (.cells (eZ [.str []] (J a+J b))):=by rw[<-hz];exact cu
 have rl:∀n:Nat,(eZ [.str []] n:az).length=n:=λn=>by
  induction n with
  |zero=>rfl
  |succ n ih=>simp only[jW,eZ,ih];omega
 rw[hz]at hg
 let⟨s1,a1,g1,_⟩:=Vf (mu:=I) zg (rl _) D (p:=0) w_ F
 have l1:(vJ (eZ [.str []] (J a+J b)) 0 (a.map ax)).length=J a+J b:=by
  simp only[vJ,bK,jw,kd,bj,rl];omega
 rw[dP]at a1
 let⟨s2,a2,g2,_⟩:=Vf (mu:=I) g1 l1 B (p:=J a) (aD _) F
 have A:vJ (vJ (eZ [.str []] (J a+J b)) 0 (a.map ax)) (J a) (b.map ax)=(a++b).map ax:=by
  have e1:(eZ [.str []] (J a+J b):az).drop (J a+J b)=[]:=yj (by rw[rl];omega);simp only[vJ,wu,ng,dP,bj];rw[IB (by simp),Iq,bj,List.drop_drop,yj (by simp),db];rw[show J a+(J a+J b-J a)=J a+J b from w_,e1];simp
 rw[A]at g2;refine ai.ofNRZ atg (aM ?_);simp only[go_sem,seval,cl,ach];refine aF ?_;simp only[go_sem,seval,ath,q1,q,ac1,al,Int.zero_add,wa,n1,R];refine aF ?_;simp only[go_sem,seval,V,j,bc1,bl,wb,n2,i2,P];refine aF ?_;simp only[go_sem,seval,S];refine aV.of hg d_ ?_;simp only[go_sem,seval,cl,ach];refine aF ?_;simp only[go_sem,seval,ati,q1,q,ac1,a1,R];refine aF ?_;simp only[go_sem,seval,V,j,bc1,a2,i2,P];refine aF ?_;simp only[go_sem,seval,S];exact⟨_,rfl,s.aL,rfl,g2⟩
def V5{sz:Nat}:∀cs:az,chunk I sz (J cs) cs=X cs
 |[]=>rfl
 |c::cs=>by
  show(chunk I sz (J cs) cs).bind (λr=>X (c::r))=_;rw[V5 cs];rfl
def ak8(cs:az)(h:n=J cs):cut cs 0 n=X cs:=by
 subst h;unfold cut;simp only[kz,IC,Hl,cT]
def Pp{H:aC aI}{w k:Nat}{cs cs':az}(A:H.get n=X (.cells cs))(q:J cs=w)(g:cK (bW H k) cs=X cs'):bW H (k+1) (.arr 1 n 0 w w)=X (.list 1 cs' .no):=by
 have d:=JQ g;show(match H.get n with
  |some (.cells cs)=>(cut cs 0 (w*1)).bind λc=>(cK (bW H k) c).bind λB=>(chunk (!aB 1 1) 1 w B).bind λj=>X (aa.list 1 j .no)
  |_=>Z)=_
 rw[A];simp only;rw[ak8 cs w_,aH,g,aH,<-q,<-d];show(chunk I 1 (J cs') cs').bind _=_;rw[V5];rfl
def C5:Sp
 |[.list 1 [va,vb] .Al]=>(uK va).bind λa=>(uK vb).bind λb=>bif decide (0<J a+J b)&&decide (J a+J b<=1000000)then X (dS 1 ((a++b).map ax))else Z
 |_=>Z
def akW{g d:aa}{a:cf}(A:aq 1 ax g a)(q:aq 1 ax d b)(pa:br g=O)(j:br d=O)(D:0<J a+J b)(B:J a+J b<=1000000):C5 [.list 1 [g,d] .Al]=X (dS 1 ((a++b).map ax)):=by
 simp only[fb,C5,Jc A pa,Jc q j,dQ D,dQ B]
def akX:da ae 164 C5:=by
 intro args u d G h w g j q;unfold C5 at d;split at d;simp only[an]at d
 let⟨a,h1,b,h2,d⟩:=d
 let⟨h3,d⟩:=bf d
 simp only[bh,dE]at h3;have d:=sI d;subst d
 let⟨hi1,hp1⟩:=Ja h1
 let⟨hi2,hp2⟩:=Ja h2
 refine jd (T:=[]) .nil (W:=[]) .nil (by simp only[dW,Ag.d8,pures,hp1,hp2,cj]) (λD=>?_) G h w g j q;obtain⟨v,s',A,m,rfl,B⟩:=akV (Q:=QW [] [] D) R_ hi1 hi2 h3.1 h3.2 s0;refine⟨_,s',by simpa only[di,dh,x8 hp1,x8 hp2]using A,2,?_⟩;have e:=Pp (k:=1) (w:=J a+J b) B (by simp) (o8 λv d=>by
  obtain⟨p,_,rfl⟩:=cC.1 d;rfl)
 rw[e];rcases hab:(a++b)with _|⟨x,l⟩
 have:=congrArg nM hab;rw[bK,bn]at this;omega;rfl;cases d
def A1:de:=[(57,qw),(86,vq)]
def IX:eh A1:=.cons LL (.cons acT .nil)
noncomputable def Fq:nX:=[(49,Ca)]
def U0:qV Fq:=.cons afr .nil
def Xq{L:cf}(h:gI 1 s v (L.map ax)):eY s.heap v (dS 1 (L.map ax)):=by
 rcases h with⟨rfl,q⟩|⟨d,n,rfl,g,_⟩
 rw[q];exact⟨1,rfl⟩;rw[rp]at g;have e:=Pp (k:=1) (H:=s.heap) g rfl (o8 λv j=>by
  obtain⟨p,_,rfl⟩:=cC.1 j;rfl)
 refine⟨2,e.trans ?_⟩;rcases h:L.map ax with _|⟨x,l⟩
 exact absurd h d;rfl
variable{e:aA}
def JA(d:e.rf):br e.val=O:=by
 have q:=d.pr;have j:=d.obj.pr;have g:=d.obj.pt;simp only[aA.val,aA.cells,br,pures,q,j,g,cj]
def Wv(d:e.rf):dW [e.val]=O/\di [e.val]=[e.val]:=⟨by simp only[dW,TZ (JA d),cj],by simp only[di,x8 (JA d)]⟩
noncomputable def Ih:Sp:=A7 47 λ_ v=>∃b:Bool,v=.bool b
def aGH(d:e.rf):∃b:Bool,Ih [e.val]=X (.bool b):=by
 obtain⟨b,h⟩:=T9 (Q:=Q1 A1) rfl rfl R_ R_ R_ d (s:=s0) (aD _)
 let⟨t1,t2⟩:=Wv d
 obtain⟨_,g,b,rfl⟩:=Jh (P:=λ_ v=>∃b:Bool,v=.bool b) (TP IX t1 (t2▸h) ⟨1,rfl⟩) ⟨b,rfl⟩;exact⟨b,g⟩
noncomputable def Ud(e:aA):Bool:=by classical exact decide (Ih [e.val]=X (.bool O))
def aGI{b:Bool}(h:Ih [e.val]=X (.bool b)):Ud e=b:=by
 unfold Ud;rw[h];cases b<;>simp
noncomputable def LF:Sp:=A7 25 λ_ v=>∃L:cf,v=dS 1 (L.map ax)/\J L<=1000000
def ai.anyCh{W:nX}{a b:cE}(h:ai (QW T W a) f args s0 v s0):ai (QW T W b) f args s0 v s0:=by
 obtain⟨n,h⟩:=h;exact⟨n,(qt (QW T W λ_=>0) n).call f args [] a s0 v s0 h b λi hi=>absurd hi (wB _)⟩
def ayy(j:e.rf)(hi:J e.ids<1000000):∃L:cf,LF [e.val]=X (dS 1 (L.map ax))/\J L<=1000000:=by
 obtain⟨b,q⟩:=T9 (Q:=QW A1 Fq λ_=>0) rfl rfl R_ R_ R_ j (s:=s0) (aD _)
 let⟨t1,t2⟩:=Wv j
 obtain⟨_,g,L,rfl,d⟩:=Jh (f:=25) (P:=λ_ v=>∃L:cf,v=dS 1 (L.map ax)/\J L<=1000000) (args:=[e.val]) (u:=dS 1 ((bif b then BE e else []).map ax)) (jd IX U0 t1 λA=>by
  let⟨v,s',hr,hN⟩:=acS (Q:=QW A1 Fq A) (λ_=>aD _) R_ rfl rfl R_ j hi (aD _) (ai.anyCh q)
  exact⟨v,s',t2.symm▸hr,Xq hN.row⟩) ⟨_,rfl,by
  cases b;exact fN _;have g:=abU e.ids [];have d:=jv (λx:ag=> !(x== [])) ((rG [] e.ids).map (·.1));rw[cT,BE,(B9 _).length_eq];rw[bj]at d;simp only[bn]at g;exact dj d w_⟩
 exact⟨L,g,d⟩
variable{l:vy}{lv:aa}
def aGm(a0:Q.spec 25=X LF)(hl:aq 15 aA.val lv l)(hg:∀e∈l,e.rf)(hid:∀e∈l,J e.ids<1000000)(a1:J l<=1000000){s0:St}(hn:J l<=n)(hx:∀e lc s hi,UI s0 s bx m hi n->yT e lv l bx->K (.exit 4) ⟨e,137,lc⟩ s):
 ∀(rest d:vy)(e:aw)(lc:Ag.Loc)(s:St)(hi:Nat),l=d++rest->UI s0 s bx m hi n->yT e lv l bx->ac e 72=lv->ac e 73=ak (J l)->ac e 74=ak (J d)->W Q 7 (.loop RL) ⟨e,137,lc⟩ s K:=by
 intro rest;have a2:=hl.cs
 induction rest with
 |nil=>
  intro d e lc s hi D B E q j g;have R:=cz D;refine aF ?_;simp only[go_sem,seval,RL,j,g,R,bJ];refine hx _ _ _ _ B ⟨?_,?_⟩<;>simp only[sN,seval,E.h0,E.h3]
 |cons x rest ih=>
  intro d e lc s hi D B E q j g
  let⟨hlt,hat⟩:=cH D
  have S:=λlc k=>hl.at kx.2.2.1 hat lc k;have F:=cm (n:=J d) w_;have A:=co hat;have gx:=hg x A;have x1:=gx.gT.cs;have x2:=gx.obj.all
  let⟨ws,q93,hwl⟩:=ayy gx (hid x A)
  have V:aq 1 ax (dS 1 (ws.map ax)) ws:=xG 1 ax ws;have P:=V.cs;have N:=V.lenS bL;simp only[aA.val,aA.cells]at q93;refine aF ?_;simp only[go_sem,seval,RL,q,j,g,hlt,S,aA.val,aA.cells,a0,q93,N,P];refine aGk (ws:=ws) (hi:=hi) (n:=n) (i:=J d) (l:=l) (lv:=lv) V hwl w_ (λe s B E q j g=>?_) ws [] _ _ rfl B ⟨?_,?_⟩ ?_ ?_ ?_ ?_ ?_ ?_ ?_;simp only[go_sem,seval,g,F];refine ih (d++[x]) _ _ _ hi (cP D) B ⟨?_,?_⟩ ?_ ?_ ?_<;>simp only[sN,seval,E.h0,E.h3,q,j,sA]
  all_goals simp only[sN,seval,E.h0,E.h3,q,j,g,bn]
  all_goals rfl
def WJ(x y:Int):i9 ae 8 3 (.int .i64 x) (.int .i64 y)=X (aj x y):=k_
def abV:wF ae 3 (λn:Nat=>ak n) where
 eq a b:=by
  rw[WJ];by_cases h:a=b;simp[aj,h];simp[aj,h];omega
 same a:=by simp[pd,se,aj]
 gt _:=rfl
def abZ(k:Nat):jV ae 78 (ak k)=X (3,3):=k_
def tot(us:H_):Nat:=(us.map nM).sum
abbrev L_:=List (be×Nat)
abbrev U_:=be×Nat
def afO:∀{U:L_}{p:Nat}{u:U_}(_:U[p]?=X u)(i k:Nat),tot ((U.set p (u.1++[i],k)).map Prod.fst)=tot (U.map Prod.fst)+1
 |[],p,u,h,i,k=>by simp at h
 |w::U,0,u,h,i,k=>by
  have h:w=u:=by simpa using h
  subst h;simp only[tot,List.set_cons_zero,cU,qK,bK,yy];omega
 |w::U,p+1,u,h,i,k=>by
  have h:U[p]?=X u:=by simpa using h
  have d:=afO h i k;simp only[tot]at d;simp only[tot,List.set_cons_succ,cU,qK,d];omega
def aFA(U:L_):tot ((U++[([],0)]).map Prod.fst)=tot (U.map Prod.fst):=by simp[tot]
def eL(u:U_):aa:=if u.1=[]then .uP else .list 1 (u.1.map λi=>ak i) (.own u.2)
def Jm(u:U_):(eL u).cells=[eL u]/\(eL u).gt=O:=by
 unfold eL;split<;>exact R_
def FR:∀U:L_,au (U.map eL)=U.map eL
 |[]=>rfl
 |u::U=>by
  have h:=FR U;show(eL u).cells++au (U.map eL)=_;rw[(Jm u).1,h];rfl
structure nW (s:St) (v:aa) (U:L_) (lo:Nat):Prop where
 row:gI 1 s v (U.map eL)
 tok:∀u∈U,u.1≠[]->s.get [] u.2=some .tok/\lo<=u.2/\u.2<s.aL
 inj:∀(i j:Nat)(a b:U_),U[i]?=some a->U[j]?=some b->a.1≠[]->b.1≠[]->a.2=b.2->i=j
 rl:∀r,gl v=some r->lo<=r
variable{U:L_}
def nW.mono(h:nW s v U lo)(q:∀n,gl v=X n->s'.get [] n=s.get [] n)(j:∀u∈U,u.1≠[]->s'.get [] u.2=s.get [] u.2)(A:s.aL<=s'.aL):nW s' v U lo:=
 ⟨h.row.mono q A,λu d g=>by let⟨a,b,c⟩:=h.tok u d g;exact⟨(j u d g).trans a,b,w_⟩,h.inj,h.rl⟩
def nW.nil(h:nW s v U lo)(hn:J U<1000000)(a0:lo<=s.aL)(N:s.gE<=s.aL):∃D d,cL ae [] 33 v (.list 1 [.uP] .Al) O s=X (D,d)/\D=.arr 1 s.aL 0 (J U+1) (J U+1)/\nW d D (U++[([],0)]) lo/\d.aL=s.aL+1/\d.gE<=d.aL/\(∀k,k<lo->d.get [] k=s.get [] k):=by
 let⟨d,a1,a2,a3,a4,a5,a6⟩:=CJ (t:=33) oG.1 rfl d_ .uP (λy V=>by
  obtain⟨x,_,rfl⟩:=cC.1 V;rw[(Jm x).1];rfl) (by rw[bj];exact hn) N h.row
 rw[bj]at a1 a2;refine⟨_,d,a1,rfl,⟨?_,λu q S=>?_,λi j a b hi hj B R e=>?_,λr P=>?_⟩,a3,a5,λk hk=>a6 k w_ λe=>by have:=h.rl k e;omega⟩;rw[db];exact a2;rcases fA.1 q with q|q
 let⟨t1,t2,t3⟩:=h.tok u q S
 have F:gl v≠X u.2:=λe=>by
  rcases h.row with⟨g,_⟩|⟨_,k,g,h2,_⟩
  rw[g]at e;cases e;rw[g]at e;injection e with e
  rw[<-e,h2]at t1;cases t1
 exact⟨(a6 _ t3 F).trans t1,t2,w_⟩;rw[kg]at q;subst q;exact absurd rfl S;have A:∀{i:Nat}{a:U_},(U++[([],0)])[i]?=X a->a.1≠[]->U[i]?=X a:=λ{i a} hi B=>by
  rcases ip i (J U)with g|g
  rwa [AG g]at hi;rw[sw g]at hi
  have:=kg.1 (co hi);rw[this]at B;exact absurd rfl B
 exact h.inj i j a b (A hi B) (A hj R) B R e;injection P with P
 omega
def aog(s:St)(t k:Nat):((s.put t Z).new .tok).get [] k=bif k==s.aL then X .tok else bif k==t then Z else s.get [] k:=by
 rw[JW,ol];rfl
variable{u:U_}
def nW.app(h:nW s v U lo)(hp:U[p]?=X u)(x:Nat)(a8:J u.1<1000000)(a6:lo<=s.aL)(V:s.gE<=s.aL):
 ∃g R,v=.arr 1 R 0 (J U) (J U)/\cL ae [] 26 (eL u) (.list 1 [ak x] .Al) I s=X (eL (u.1++[x],s.aL),g)/\g.get [] R=X (.cells (U.map eL))/\g.aL=s.aL+1/\(g.gE<=g.aL/\g.ci=s.ci)/\(∀k,k<lo->g.get [] k=s.get [] k)/\
  nW (g.put R (X (.cells ((U.set p (u.1++[x],s.aL)).map eL)))) v (U.set p (u.1++[x],s.aL)) lo:=by
 have B:=co hp;have A:p<J U:=by
  rcases ip p (J U)with F|F
  exact F;rw[sC F]at hp;cases hp
 obtain⟨R,hv,hg,hR⟩:∃R,v=.arr 1 R 0 (J U) (J U)/\s.get [] R=X (.cells (U.map eL))/\R<s.aL:=by
  rcases h.row with⟨_,d⟩|⟨_,k,h2,h3,h4⟩
  rw[pE.1 d]at A;simp at A;rw[bj]at h2;rw[FR]at h3;exact⟨k,h2,h3,h4⟩
 have hr:eE (J u.1+1) 8=O:=tY w_ d_;obtain⟨g,ha,D,a4,a5⟩:∃g,cL ae [] 26 (eL u) (.list 1 [ak x] .Al) I s=X (eL (u.1++[x],s.aL),g)/\(∀k,g.get [] k=bif k==s.aL then X .tok else bif !(u.1.isEmpty)&&k==u.2 then Z else s.get [] k)/\g.aL=s.aL+1/\(g.gE<=g.aL/\g.ci=s.ci):=by
  by_cases d:u.1=[];refine⟨s.new .tok,?_,λk=>?_,rfl,cr V,rfl⟩;have hc:eL u=.uP:=by rw[eL,iP d]
  have S:eL (u.1++[x],s.aL)=.list 1 [ak x] (.own s.aL):=by rw[eL,d];rfl
  rw[d]at hr;rw[hc,S];simp only[ce,cL,ff.1,aH,cR,fk,iq,yy];rw[show eE 1 8=O from hr];rfl;rw[JW,d];rfl
  let⟨t1,t2,t3⟩:=h.tok u B d
  refine⟨(s.put u.2 Z).new .tok,?_,λk=>?_,rfl,?_,rfl⟩;have hc:eL u=.list 1 (u.1.map λi=>ak i) (.own u.2):=by rw[eL,iN d]
  have S:eL (u.1++[x],s.aL)=.list 1 (u.1.map (λi=>ak i)++[ak x]) (.own s.aL):=by
   rw[eL,iN (by simp),db];rfl
  rw[hc,S];have a2:eE ((u.1.map λi=>ak i).length+1) 8=O:=by rw[bj];exact hr
  simp only[ce,cL,ff.1,aH,cR,fk,t1,yy,a2,cj];rw[aog];have:u.1.isEmpty=I:=by cases hu:u.1 with|nil=>exact absurd hu d|cons _ _=>rfl
  rw[this];rfl
  have:=cG s u.2 Z V;exact cr this
 have a1:∀w∈U,w.1≠[]->R≠w.2:=λw hw d e=>by
  let⟨t1,_⟩:=h.tok w hw d
  rw[<-e,hg]at t1;cases t1
 have a7:g.get [] R=X (.cells (U.map eL)):=by
  rw[D,bN.2 (by omega:R≠s.aL),cF];by_cases d:u.1=[];rw[d];exact hg;rw[bN.2 (a1 u B d),jQ];exact hg
 have N:∀(i:Nat)(w:U_),U[i]?=X w->w.1≠[]->i≠p->g.get [] w.2=X .tok:=λi w hi d a3=>by
  let⟨t1,t2,t3⟩:=h.tok w (co hi) d
  rw[D,bN.2 (by omega:w.2≠s.aL),cF];by_cases F:u.1=[];rw[F];exact t1;rw[bN.2 (λe=>a3 (h.inj i p w u hi hp d F e)),jQ];exact t1
 refine⟨g,R,hv,ha,a7,a4,a5,λk hk=>?_,⟨.inr ⟨?_,R,?_,?_,by show R<g.aL;omega⟩,λw hw d=>?_,λi j a b hi P ha hb e=>?_,h.rl⟩⟩;rw[D,bN.2 (by omega:k≠s.aL),cF];by_cases F:u.1=[];rw[F];rfl
 have:=h.tok u B F;rw[bN.2 (by omega:k≠u.2),jQ];rfl;intro e
 have:=congrArg nM e;simp at this;rw[this]at A;simp at A;rw[hv,bj,nN];rw[aN,bS,FR];rfl
 let⟨i,hi,hi2⟩:=List.getElem_of_mem hw
 have q:(U.set p (u.1++[x],s.aL))[i]?=X w:=by rw[dp hi,hi2]
 rw[E6]at q;by_cases hip:p=i;rw[iP hip,iP A]at q;injection q with q
 rw[<-q];refine⟨?_,a6,by show s.aL<g.aL;omega⟩;rw[aN,bN.2 (by show s.aL≠R;omega),cF,D,bS];rfl;rw[iN hip]at q
 let⟨t1,t2,t3⟩:=h.tok w (co q) d
 refine⟨?_,t2,by show w.2<g.aL;omega⟩;rw[aN,bN.2 (a1 w (co q) d).symm,cF];exact N i w q d (λe=>hip e.symm);have a0:∀(i:Nat)(w:U_),U[i]?=X w->w.1≠[]->w.2<s.aL:=λi w hi d=>(h.tok w (co hi) d).2.2;rw[E6]at hi P;by_cases hip:p=i<;>by_cases hjp:p=j;omega;rw[iP hip,iP A]at hi;rw[iN hjp]at P;rw[<-sI hi]at e
 have:=a0 j b P hb;have e:s.aL=b.2:=e;exact absurd this (by rw[<-e];exact bJ _);rw[iN hip]at hi;rw[iP hjp,iP A]at P;rw[<-sI P]at e
 have:=a0 i a hi ha;have e:a.2=s.aL:=e;exact absurd this (by rw[e];exact bJ _);rw[iN hip]at hi;rw[iN hjp]at P;exact h.inj i j a b hi P ha hb e
abbrev G_:=List (Nat×aa)
structure lV (s0 s:St) (bx r m M lo:Nat) (up:be) (v:aa) (U:L_) (T:G_) (i j:Nat):Prop where
 sets:uE s bx r m up.length up
 mp:bg (λn:Nat=>ak n) s M T
 rows:nW s v U lo
 rt:∀t,t<j->up[t]?=some t->∃p:Nat,bX t T=some (ak p)/\p<U.length
 bd:∀u∈U,u.1.length<=i/\∀x∈u.1,x<up.length
 ul:U.length<=j
 old:∀k,k<s0.aL->s.get [] k=s0.get [] k
 lo0:s0.aL<=lo/\lo<=s.aL
 lts:bx<lo/\r<lo/\M<lo/\s0.aL<=M
 mw:s.gE<=s.aL
 tt:tot (U.map Prod.fst)=i
variable{T:G_}{M i:Nat}
def lV.ne{s0:St}{r:Nat}{up:be}{j:Nat}(h:lV s0 s bx r m M lo up v U T i j):bx≠M/\r≠M:=by
 have q:=h.sets.box;have g:=h.sets.row;have d:s.get [] M=_:=h.mp;exact⟨λe=>(by rw[e,d]at q;cases q),λe=>(by rw[e,d]at g;cases g)⟩
def lV.entry{s0:St}{r:Nat}{up:be}(h:lV s0 s bx r m M lo up v U T i i)(hi:i<1000000):∃d B j,d=s.put M (X (.map (cY (λn:Nat=>ak n) 0 (dt i (ak (J U)) T)) (dt i (ak (J U)) T).length))/\cL ae [] 33 v (.list 1 [.uP] .Al) O d=X (j,B)/\j.gt=O/\j.cells=[j]/\lV s0 B bx r m M lo up j (U++[([],0)]) (dt i (ak (J U)) T) i (i+1):=by
 let⟨n1,n2⟩:=h.ne
 let⟨l1,l2⟩:=h.lo0
 let⟨l3,l4,l5,l6⟩:=h.lts
 have R:=h.ul;obtain⟨d,g⟩:∃d,d=s.put M (X (.map (cY (λn:Nat=>ak n) 0 (dt i (ak (J U)) T)) (dt i (ak (J U)) T).length)):=⟨_,rfl⟩;have P:bg (λn:Nat=>ak n) d M (dt i (ak (J U)) T):=by rw[g];exact qM
 have A:∀k,k≠M->d.get [] k=s.get [] k:=λk D=>by rw[g,aN,bN.2 D];rfl
 have e1:d.aL=s.aL:=by rw[g];rfl
 have F:d.gE<=d.aL:=by rw[g];exact cG _ _ _ h.mw
 have N:nW d v U lo:=h.rows.mono (λn V=>A n (by have:=h.rows.rl n V;omega)) (λu q h0=>A _ (by have:=(h.rows.tok u q h0).2.1;omega)) w_
 let⟨j,B,a1,a2,a3,a4,a5,a6⟩:=N.nil w_ w_ F
 refine⟨d,B,j,g,a1,by rw[a2];rfl,by rw[a2];rfl,⟨(a6 bx l3).trans ((A bx n1).trans h.sets.box),(a6 r l4).trans ((A r n2).trans h.sets.row),h.sets.le⟩,(a6 M l5).trans P,a3,λt ht S=>?_,λu q=>?_,?_,λk D=>?_,w_,h.lts,a5,by rw[aFA];exact h.tt⟩;rw[G8,bK,yy];by_cases e:t=i;rw[iP e];exact⟨_,rfl,w_⟩;rw[iN e]
 let⟨p,h1,h2⟩:=h.rt t w_ S
 exact⟨p,h1,w_⟩;rcases fA.1 q with q|q
 exact h.bd u q;rw[kg.1 q];exact⟨fN _,λ_ h=>by cases h⟩;rw[bK,yy];omega;rw[a6 k w_,A k w_];exact h.old k D
def lV.push{s0:St}{r:Nat}{up:be}(h:lV s0 s bx r m M lo up v U T i (i+1))(hi:i<J up)(hl:J up<=1000000)(B:U[p]?=X u):
 ∃d R,v=.arr 1 R 0 (J U) (J U)/\s.get [] R=X (.cells (U.map eL))/\cL ae [] 26 (eL u) (.list 1 [ak i] .Al) I s=X (eL (u.1++[i],s.aL),d)/\d.get [] R=X (.cells (U.map eL))/\(d.ci=s.ci/\s.aL<=d.aL/\d.gE<=d.aL)/\lV s0 (d.put R (X (.cells ((U.set p (u.1++[i],s.aL)).map eL)))) bx r m M lo up v (U.set p (u.1++[i],s.aL)) T (i+1) (i+1):=by
 let⟨l1,l2⟩:=h.lo0
 let⟨l3,l4,l5,l6⟩:=h.lts
 have hb:=h.bd u (co B)
 let⟨d,R,a1,a2,a3,a4,a5,a6,a7⟩:=h.rows.app B i w_ w_ h.mw
 have hR:lo<=R:=h.rows.rl R (by rw[a1];rfl);have g:∀k,k<lo->(d.put R (X (.cells ((U.set p (u.1++[i],s.aL)).map eL)))).get [] k=s.get [] k:=λk D=>by
  rw[aN,bN.2 (by omega:k≠R)];exact a6 k D
 have A:s.get [] R=X (.cells (U.map eL)):=by
  rcases h.rows.row with⟨q,_⟩|⟨_,k,N,F,_⟩
  rw[q]at a1;cases a1;rw[a1]at N;rw[FR,<-(aa.arr.inj N).2.1]at F;exact F
 refine⟨d,R,a1,A,a2,a3,⟨a5.2,w_,a5.1⟩,⟨(g bx l3).trans h.sets.box,(g r l4).trans h.sets.row,h.sets.le⟩,(g M l5).trans h.mp,a7,λt S V=>?_,λw P=>?_,by rw[nN];exact h.ul,λk D=>(g k w_).trans (h.old k D),⟨l1,by show lo<=d.aL;omega⟩,h.lts,cG _ _ _ a5.1,by rw[afO B,h.tt]⟩;rw[nN];exact h.rt t S V;rcases Nt P with q|q
 have:=h.bd w q;exact⟨w_,this.2⟩;rw[q];refine⟨by simp;omega,λx j=>?_⟩;rcases fA.1 j with j|j
 exact hb.2 x j;rw[kg.1 j];exact hi
def awQ(mk:aK)(n m o l c:Nat)(s:St):fZ ae mk 33 (.arr n m o l c) s=X (ak l):=k_
def awR(mk:aK)(s:St):fZ ae mk 33 .uP s=X (ak 0):=k_
def nW.len(h:nW s v U lo)(mk:aK)(s':St):fZ ae mk 33 v s'=X (ak (J U)):=by
 rcases h.row with⟨rfl,d⟩|⟨_,k,rfl,_⟩
 rw[pE.1 d];exact awR ..;rw[awQ,bj]
def lV.same{s0:St}{r:Nat}{up:be}{j:Nat}(h:lV s0 s bx r m M lo up v U T i j)(d:∀k,s'.get [] k=s.get [] k)(q:s'.aL=s.aL)(g:s'.gE<=s'.aL):lV s0 s' bx r m M lo up v U T i j:=
 ⟨⟨(d _).trans h.sets.box,(d _).trans h.sets.row,h.sets.le⟩,(d _).trans h.mp,h.rows.mono (λn _=>d n) (λu _ _=>d _) w_,h.rt,h.bd,h.ul,λk A=>(d k).trans (h.old k A),by rw[q];exact h.lo0,h.lts,g,h.tt⟩
def wE(U:L_)(i:Nat):Prop:=∃d:be,U.map (λu=>u.1.head?)=d.map X/\d.Pairwise (· < ·)/\∀x∈d,x<i
def wE.push{B:L_}(h:wE U i)(N:∃n u,U[p]?=X u/\B=U.set p (u.1++[i],n)):wE B (i+1):=by
 obtain⟨D,A,R,P⟩:=h;obtain⟨n,u,F,rfl⟩:=N;refine⟨D,?_,R,λx d=>IG (P x d)⟩;have g:(U.map λu=>u.1.head?)[p]?=X u.1.head?:=by rw[gZ,F];rfl
 have q:(u.1++[i]).head?=u.1.head?:=by
  rw[A,gZ,Option.map_eq_some_iff]at g;obtain⟨x,_,d⟩:=g;cases hu:u.1 with
  |nil=>rw[hu]at d;cases d
  |cons a b=>rfl
 rw[AJ,<-A];show(U.map λu=>u.1.head?).set p ((u.1++[i]).head?)=_;rw[q];refine List.ext_getElem? λj=>?_;rw[E6];split
 ·next e=>
  subst e;rw[g,iP (gn.1 g).1]
 rfl
def wE.entry{g:L_}(h:wE U i)(N:∃n u,(U++[([],0)])[U.length]?=X u/\g=(U++[([],0)]).set (J U) (u.1++[i],n)):wE g (i+1):=by
 obtain⟨A,R,P,d⟩:=h;obtain⟨n,u,B,rfl⟩:=N;have q:u=([],0):=by simpa using B.symm
 subst q;refine⟨A++[i],?_,Iy.2 ⟨P,List.pairwise_singleton ..,λa F b D=>by rw[kg.1 D];exact d a F⟩,λx j=>?_⟩;rw[List.set_append_right _ _ (aD _),Nat.sub_self,db,db,R];rfl;rcases fA.1 j with h|h
 exact IG (d x h);rw[kg.1 h];exact gN _
def aek{s0:St}{r:Nat}{up:be}{N:ir}{e:aw}{t:Nat}(h:lV s0 s bx r m M lo up v U T i (i+1))(hi:i<J up)(hl:J up<=1000000)(S:bX t T=X (ak p))(d:p<J U)(a9:ac e 16=v)(a8:ac e 17=.map M)(a7:ac e 18=ak i)(a6:ac e 19=ak t)(hK:∀j s' U',ac j 3=ac e 3->ac j 16=ac e 16->ac j 17=ac e 17->ac j 104=ac e 104->ac j 105=ac e 105->lV s0 s' bx r m M lo up v U' T (i+1) (i+1)->(∃n u,U[p]?=X u/\U'=U.set p (u.1++[i],n))->N ⟨j,137,lc⟩ s'):
 s.gE<=s.aL/\Ag.WX Q 7 0 [] RJ avT ⟨e,137,lc⟩ s N:=by
 obtain⟨u,B⟩:∃u,U[p]?=X u:=⟨_,dp d⟩;have A:lV s0 s.top bx r m M lo up v U T i (i+1):=h.same (λ_=>rfl) rfl (aD _)
 let⟨s1,R,a1,a2,a3,a4,⟨a5,a5n,a5m⟩,h3⟩:=A.push hi hl B
 have q:=iL h.mw;have a2:s.get [] R=X (.cells (U.map eL)):=a2;have g:=rM abV abZ uf A.mp t;rw[S]at g;simp only[Option.getD_some]at g;have V:=λlc=>Ft oG d (m:=R) (c:=J U) lc;have D:=(Jm u).2;have a0:((U.map eL).drop p).head?=X (eL u):=by rw[Cr,gZ,B];rfl
 let⟨q1,q2⟩:=Jm (u.1++[i],s.aL)
 have b1:s1.ci=s.ci:=a5;have b2:s.aL<=s1.aL:=a5n;have fp:(w8 (eL u) (.list 1 [ak i] .Al)).meets (.obj M)=I:=by
  unfold eL;split;rfl
  ·next h0=>
   let⟨t1,_⟩:=h.rows.tok u (co B) h0
   have hM:s.get [] M=_:=h.mp;show aB u.2 M=I;rw[fa];exact bN.2 λe=>by rw[e,hM]at t1;cases t1
 have F:(U.map eL).take p++(eL (u.1++[i],s.aL)::(U.map eL).drop (p+1))=(U.set p (u.1++[i],s.aL)).map eL:=by
  rw[AJ,Nx,iP (by rw[bj];exact d)]
 have P:p+1<=(U.map eL).length:=by rw[bj];exact d
 refine⟨h.mw,?_⟩;simp only[go_sem,RJ,seval,a9,a8,a7,a6,a1,g,V,a2,a0,D,q,a3,a4,q1,q2,b1,b2,fp,F,P,dP,List.cons_append,ng,dl,du,sB];refine hK _ _ (U.set p (u.1++[i],s.aL)) ?_ ?_ ?_ ?_ ?_ (h3.same (λk=>?_) rfl (mU (mU h.mw b2) (aD _))) ⟨s.aL,u,B,rfl⟩<;>first|(simp only[sN,seval];done)|skip
 rw[jH,aN,aN];rfl
def aGn(hn:n<=1000000){s0:St}{r:Nat}{up:be}(a7:J up=n)(hx:∀e lc s v U T,lV s0 s bx r m M lo up v U T n n->wE U n->ac e 16=v->K (.exit 8) ⟨e,137,lc⟩ s):
 ∀(d i:Nat)(e:aw)(lc:Ag.Loc)(s:St)(v:aa)(U:L_)(T:G_),i+d=n->lV s0 s bx r m M lo up v U T i i->wE U i->ac e 3=.ptr bx 0->ac e 16=v->ac e 17=.map M->ac e 104=ak n->ac e 105=ak i->W Q 7 (.loop RM) ⟨e,137,lc⟩ s K:=by
 intro d
 induction d with
 |zero=>
  intro i e lc s v U T h1 h P e3 N B A q;have a6:i=n:=w_
  subst a6;refine aF ?_;simp only[go_sem,seval,RM,A,q,bJ];exact hx _ _ _ _ _ _ h P (by simp only[sN,seval,N])
 |succ d ih=>
  intro i e lc s v U T h1 h P e3 N B A q;have a5:i<n:=w_
  have S:=cm (n:=i) w_;have a2:=h.rows.row.gt;have a1:=h.rows.len
  let⟨t,ht,hr0,hr1,run⟩:=TY (Q:=Q) h.sets (i:=i) w_
  refine aF ?_;simp only[go_sem,seval,RM,e3,A,q,a5];refine aV.of run d_ ?_;cases hq:aj t i with
  |true=>
   have a3:t=i:=by have:=of_decide_eq_true hq;omega
   subst a3
   let⟨s1,s2,v',hs1,c1,c2,c3,h2⟩:=h.entry w_
   have V:=lN abV abZ h.mp t (ak (J U));rw[<-hs1]at V;simp only[go_sem,seval,hq,N,B,a1,a2,V,c1,sB];refine aek h2 w_ w_ (p:=J U) (by rw[G8,iP rfl]) (by simp) ?_ ?_ ?_ ?_ (λe' s' U' f3 F D j g h3 R=>?_)<;>first|(simp only[sN,seval,B];done)|skip
   simp only[sN,seval]at f3 F D j g;simp only[go_sem,seval,g,q,S];refine ih (t+1) _ _ _ _ _ _ w_ h3 (P.entry R) ?_ ?_ ?_ ?_ ?_<;>simp only[sN,seval,f3,F,D,j,e3,B,A]
  |false=>
   have a4:t≠i:=λe=>by rw[e,ve]at hq;cases hq
   have h2:lV s0 s bx r m M lo up v U T i (i+1):=⟨h.sets,h.mp,h.rows,λt' a8 a0=>by
    by_cases e:t'=i;subst e;exact absurd (hr1 a0) a4;exact h.rt t' w_ a0,h.bd,by have:=h.ul;omega,h.old,h.lo0,h.lts,h.mw,h.tt⟩
   let⟨p,hp1,hp2⟩:=h2.rt t w_ hr0
   simp only[go_sem,seval,hq];refine aek h2 w_ w_ hp1 hp2 ?_ ?_ ?_ ?_ (λe' s' U' f3 F D j g h3 R=>?_)<;>first|(simp only[sN,seval,N,B];done)|skip
   simp only[sN,seval]at f3 F D j g;simp only[go_sem,seval,g,q,S];refine ih (i+1) _ _ _ _ _ _ w_ h3 (P.push R) ?_ ?_ ?_ ?_ ?_<;>simp only[sN,seval,f3,F,D,j,e3,N,B,A]
def aGw(j:aq 15 aA.val lv [])(s:St):ai Q 22 [lv] s (.bool I) s:=by
 have g:=j.cs;have d:=j.lenS kx;have e0:aQ 0 0=I:=rfl;refine ai.ofNZ GF (aM ?_);simp only[go_sem,seval,g,d,Int.ofNat_zero,e0]
def aGl(a4:Q.spec 25=X LF)(H:NV Q)(F:No Q 47)(a6:No Q 7)(D:aq 15 aA.val lv l)(hg:∀e∈l,e.rf)(hid:∀e∈l,J e.ids<1000000)(d:J l<=1000000)(A:s.gE<=s.aL):
 ∃v s',ai Q 7 [lv] s v s'/\(Up s s'/\∃U lo,nW s' v U lo/\s.aL<=lo/\(∀u∈U,J u.1<=J l/\∀x∈u.1,x<J l)/\J U<=J l/\tot (U.map Prod.fst)<=J l/\wE U (J l)):=by
 have g:=D.cs;have B:=D.lenS kx;obtain⟨b,a0,hb⟩:∃b:Bool,ai Q 22 [lv] s (.bool b) s/\(b=O->0<J l):=by
  rcases l with _|⟨e,l⟩
  exact⟨I,aGw D s,λh=>by cases h⟩
  let⟨b,h⟩:=aGx H F D hg A
  exact⟨b,h,λ_=>Nat.succ_pos _⟩
 refine ai.ofNRZ avS (aM ?_);simp only[go_sem,seval,k7,g];refine aV.of a0 d_ ?_;cases b with
 |false=>
  simp only[go_sem,seval];exact⟨_,rfl,Up.refl A,[],s.aL,⟨.inl R_,λu h=>(by cases h),λi j a b h=>(by simp at h),λr h=>(by cases h)⟩,aD _,λu h=>(by cases h),fN _,fN _,[],rfl,.nil,λx h=>(by cases h)⟩
 |true=>
  have S:=hb rfl
  let⟨u,R,un,uw,uo,_,ub⟩:=vt (.map [] 0) (.cells [.uP,.map s.aL]) A
  have um:bg aa.str u s.aL []:=by
   show u.get [] s.aL=_;rw[<-R,cV (by show s.aL<s.aL+1;omega),cu];rfl
  have hI:UI s u (s.aL+1) s.aL (s.aL+2) 0:=⟨.uP,[],[],ub,.inl R_,rfl,λi v h=>(by simp at h),um,λp h=>(by cases h),λr h=>(by cases h),uo,w_,uw,w_,w_⟩;simp only[go_sem,seval,g,B,jq,OB,ey,evc,R];refine aGj D hg d (s0:=s) (bx:=s.aL+1) (m:=s.aL) (λe lc s1 hi a3 E=>?_) l [] _ _ u _ rfl hI ⟨?_,?_⟩ ?_ ?_ ?_
  ·have V:=E.h0
   simp only[go_sem,seval,V,g,B];refine aGm a4 D hg hid d (s0:=s) (n:=J l) (aD _) (λe lc q a7 a2 E2=>?_) l [] _ _ s1 hi rfl a3 ⟨?_,?_⟩ ?_ ?_ ?_
   ·have V:=E2.h0
    have E3:=E2.h3
    let⟨v,up,L,J_⟩:=a2
    let⟨r,hv,hS⟩:=J_.sets S
    have hr:=J_.rl r (by rw[hv];rfl);have hn:=J_.hn;have b0:=J_.b0;have m0:=J_.m0;have P:=J_.len;obtain⟨z,N⟩:=cw (q.new (.map [] 0));have zg:∀k,k<q.aL->z.get [] k=q.get [] k:=λk hk=>by rw[<-N];exact cV hk
    have zn:z.aL=q.aL+1:=by rw[<-N];rfl
    have hM:lV s z (s.aL+1) r s.aL q.aL (q.aL+1) up .uP [] [] 0 0:=
     ⟨⟨(zg _ w_).trans hS.box,(zg _ w_).trans hS.row,hS.le⟩,by show z.get [] q.aL=_;rw[<-N];exact cu,
       ⟨.inl R_,λu h=>(by cases h),λi j a b h=>(by simp at h),λr h=>(by cases h)⟩,λt ht=>absurd ht (wB _),λu h=>(by cases h),fN _,λk hk=>(zg k w_).trans (J_.old k hk),⟨w_,w_⟩,⟨w_,w_,w_,w_⟩,by rw[<-N];exact cr J_.mw,rfl⟩
    simp only[go_sem,seval,V,g,B,jq,N];refine aGn (n:=J l) d P (λe lc s3 w U T h a1 a5=>?_) (J l) 0 _ _ z .uP [] [] w_ hM ⟨[],rfl,.nil,λx h=>(by cases h)⟩ ?_ ?_ ?_ ?_ ?_;have wc:=h.rows.row.gt;simp only[go_sem,seval,a5,wc];have l0:=h.lo0;exact⟨_,rfl,⟨h.old,w_,h.mw⟩,U,_,h.rows,l0.1,λu R=>⟨(h.bd u R).1,λx hx=>by rw[<-P];exact(h.bd u R).2 x hx⟩,h.ul,by rw[h.tt];exact aD _,a1⟩
    all_goals simp only[sN,seval,E3]
    all_goals rfl
   all_goals simp only[sN,seval,V,E.h3,bn]
   all_goals rfl
  all_goals simp only[sN,seval,bn]
  all_goals rfl
def ek(u:be):aa:=.list 1 (u.map λi=>ak i) .no
def RZ:az->Nat
 |[.list _ xs _]=>J xs
 |_=>0
variable{α:Type}
def aca{enc:α->aa}{l:List α}(h:aq n enc v l):RZ [v]=J l:=by
 rcases h with⟨rfl,rfl⟩|⟨_,rfl⟩
 rfl;exact bj ..
structure uF (us:H_) (n:Nat):Prop where
 hd:∃hs:be,us.map List.head?=hs.map some/\hs.Pairwise (· < ·)
 lt:∀u∈us,∀x∈u,x<n
 tt:tot us<=n
 ln:us.length<=n
def uF.ne{us:H_}(h:uF us n):∀u∈us,u≠[]:=λu g e=>by
 obtain⟨q,j,_⟩:=h.hd
 have:=E8 (f:=List.head?) g;rw[j,e]at this;obtain⟨x,_,d⟩:=cC.1 this;cases d
noncomputable def EO:Sp:=A7 7 λargs v=>∃d,v=dS 1 (d.map ek)/\uF d (RZ args)
noncomputable def UZ:de:=(25,LF)::A1
def ag9:eh UZ:=.cons (Ji _ _) IX
def OX(h:aq 15 aA.val v l)(g:∀e∈l,br e.val=O):Ag.d8 v=O/\aq 15 aA.val (dh v) l:=by
 have d:pures (l.map aA.val)=O:=by
  rw[pures_all];intro v q;obtain⟨x,j,rfl⟩:=cC.1 q;exact g x j
 rcases h with⟨rfl,rfl⟩|⟨r,rfl⟩
 exact⟨rfl,.inl R_⟩;exact⟨by simpa[Ag.d8]using d,.inr (by
  simp only[dh,ky d];exact⟨_,rfl⟩)⟩
def anX(h:nW s v U lo)(j:∀u∈U,u.1≠[]):eY s.heap v (dS 1 ((U.map Prod.fst).map ek)):=by
 rcases h.row with⟨rfl,N⟩|⟨d,n,rfl,g,_⟩
 rw[pE.1 N];exact⟨1,rfl⟩;rw[FR]at g;have A:cK (bW s.heap 2) (U.map eL)=X ((U.map Prod.fst).map ek):=by
  clear g d h
  induction U with
  |nil=>rfl
  |cons u U q=>
   have F:bW s.heap 2 (eL u)=X (ek u.1):=by
    rw[eL,iN (j u gG)];show(cK (bW s.heap 1) (u.1.map λi=>ak i)).bind _=_;rw[o8 λv B=>by
     obtain⟨p,_,rfl⟩:=cC.1 B;rfl]
    rfl
   simp only[cU,cK,F,q λu D=>j u (iE _ D),aH]
 have e:=Pp (k:=2) (H:=s.heap) g rfl A;refine⟨3,e.trans ?_⟩;rcases U with _|⟨u,U⟩
 exact absurd rfl d;rfl
def aGd{ev:aa}{le:vy}(h:aq 15 aA.val ev le)(j:∀e∈le,e.rf)(hi:∀e∈le,J e.ids<1000000)(D:J le<=1000000):∃d,EO [ev]=X (dS 1 (d.map ek))/\uF d (J le):=by
 let⟨t1,t2⟩:=OX h λe h=>JA (j e h)
 obtain⟨v,s',B,_,U,lo,F,_,h1,V,S,A,R,N,_⟩:=aGl (Q:=Q1 UZ) rfl ⟨rfl,rfl,R_,R_⟩ R_ R_ t2 j hi D (s:=s0) (aD _);have p:uF (U.map Prod.fst) (J le):=⟨⟨A,by rw[kW];exact R,N⟩,λu g=>by
  obtain⟨w,q,rfl⟩:=cC.1 g;exact(h1 w q).2,S,by rw[bj];exact V⟩
 obtain⟨_,g1,d,rfl,g2⟩:=Jh (f:=7) (P:=λargs v=>∃d,v=dS 1 (d.map ek)/\uF d (RZ args)) (TP (args:=[ev]) ag9 (by simp only[dW,t1,cj]) B (anX F λu g=>p.ne _ (E8 g))) ⟨_,rfl,by rw[aca h];exact p⟩;exact⟨d,g1,by rw[<-aca h];exact g2⟩
structure pL {α:Type} (sz:Nat) (enc:α->aa):Prop where
 agg:∀x,enc x=.agg (enc x).cells
 len:∀x,(enc x).cells.length=sz
 pos:0<sz
section
variable{α:Type}{sz:Nat}{enc:α->aa}(E:pL sz enc)
include E
theorem pL.take:∀(l:List α)(p:Nat),(au (l.map enc)).take (p*sz)=au ((l.take p).map enc)
 |[],p=>by simp[au]
 |x::l,0=>by simp[au]
 |x::l,p+1=>by
  have d:=pL.take l p;have e:=E.len x;rw[wt,cU,cU,au,au,<-d,jR,List.take_append,e,nh w_,Nat.add_sub_cancel]
theorem pL.drop:∀(l:List α)(p:Nat),(au (l.map enc)).drop (p*sz)=au ((l.drop p).map enc)
 |[],p=>by simp[au]
 |x::l,0=>by simp
 |x::l,p+1=>by
  have d:=pL.drop l p;have e:=E.len x;rw[uq,cU,au,<-d,jR,Iq,e,yj w_,ng,Nat.add_sub_cancel]
theorem pL.size:∀l:List α,(au (l.map enc)).length=J l*sz
 |[]=>by simp[au]
 |x::l=>by rw[cU,au,bK,E.len,pL.size l,bT,jR];omega
theorem pL.chunk:∀l:List α,chunk O sz (J l) (au (l.map enc))=X (l.map enc)
 |[]=>rfl
 |x::l=>by
  have d:=pL.chunk l;have e:=E.len x;have j:cut (au ((x::l).map enc)) 0 sz=X (enc x).cells:=by
   simp only[cut,kz,cU,au];rw[List.take_append,e,Nat.sub_self,wu,iw,nh w_,e,fa,bS];rfl
  have g:(au ((x::l).map enc)).drop sz=au (l.map enc):=by
   rw[cU,au,Iq,e,yj w_,Nat.sub_self,kz,ng]
  show(bif O then _ else _)=_;rw[cT,j,aH,g,d,aH,cU,<-E.agg x]
end
def Ak{t e sz:TypeId}(g:ae.underlying t=X (.slice e))(j:cW ae e=X sz)(mk:aK)(m off len lcap:Nat)(lo hi d:sh)(env:aw)(s:St):eH ae mk t (.arr sz m off len lcap) lo hi d env s=(dK env hi len).bind λh=>(dK env lo 0).bind λl=>(dK env d lcap).bind λc=>bif aP l h&&aP h c&&aP c lcap&&(d.isNone||hi.isSome)then X (.arr sz m (off+l*sz) (h-l) (c-l))else Z:=by
 simp only[eH,g,aH,j,fa,bS,Bool.true_and]
def alC{enc:α->aa}(E:pL sz enc){l:List α}(g:s.get [] m=X (.cells (au (l.map enc))))(q:p<=J l):cR [] O sz (.arr sz m (0+p*sz) (J l-p) (J l-p)) s=X ((l.drop p).map enc):=by
 have h:=E.chunk (l.drop p);rw[kd]at h;have j:cut (au (l.map enc)) (0+p*sz) ((J l-p)*sz)=X (au ((l.drop p).map enc)):=by
  have d:=E.size (l.drop p);rw[kd]at d;rw[dP,cut,E.drop,nh w_,d,fa,bS];rfl
 simp only[ce,cR,g,aH,j,h]
def Ws{b t:Nat}{enc:α->aa}{z:aa}(E:pL sz enc)(S:jk ae t=X ⟨sz,b,O,z⟩)(hb:b<=88){l:List α}(V:s.get [] m=X (.cells (au (l.map enc))))(hi:i<J l)(hl:J l<=1000000)(mu:Bool):
 ∃o B,cL ae [] t (.arr sz m 0 i (J l)) (.arr sz m (0+(i+1)*sz) (J l-(i+1)) (J l-(i+1))) mu s=X (.arr sz m 0 (J l-1) (J l),bif o then s.put m (X (.cells (au ((l.eraseIdx i).map enc)++B)))else s)/\(o=I->au (l.map enc)=au ((l.eraseIdx i).map enc)++B)/\J B=sz:=by
 have j:=alC E V (p:=i+1) w_;have hx:l.drop i=l[i]::l.drop (i+1):=by rw[yi hi]
 have q:l.eraseIdx i=l.take i++l.drop (i+1):=List.eraseIdx_eq_take_drop_succ ..;have g:au (l.map enc)=au ((l.take i).map enc)++((enc l[i]).cells++au ((l.drop (i+1)).map enc)):=by
  have h:=wq (i*sz) (au (l.map enc));rw[E.take,E.drop,hx,cU,au]at h;exact h.symm
 have D:=E.size (l.take i);have P:=E.size (l.drop (i+1));have R:=E.size l;have N:(l.take i).length=i:=by rw[jw];omega
 rw[N]at D;rcases hd:l.drop (i+1)with _|⟨y,r⟩
 have d:J l=i+1:=by have:=congrArg nM hd;rw[kd]at this;simp at this;omega
 refine⟨I,(enc l[i]).cells,?_,λ_=>?_,E.len _⟩;rw[hd]at j;simp only[fq,cL,S,j,List.map_nil,rF,cF];rw[d];rfl;rw[g,q,hd];simp[au];have d:(y::r).length=J l-(i+1):=by rw[<-hd,kd]
 have F:((y::r).map enc).length=J l-(i+1):=by rw[bj,d]
 rw[hd]at j P g q;have hr:eE (i+(J l-(i+1))) b=O:=xT w_ hb;simp only[bT]at d;have h1:aB (0+i*sz) (au (l.map enc)).length=I:=by
  rw[fa,R];refine bN.2 λe=>?_;have A:=congrArg nM g;rw[R,bK,bK,D,E.len,P]at A;simp only[bT,jR]at A;have h3:=E.pos;omega
 have A:aP (i+(J l-(i+1))) (J l)=O:=bH w_;have hf:i*sz+(au ((y::r).map enc)).length+sz=(au (l.map enc)).length:=by
  have A:=congrArg nM g;rw[bK,bK,D,E.len]at A;omega
 have h3:aP (0+i*sz+(au ((y::r).map enc)).length) (au (l.map enc)).length=O:=bH w_;refine⟨O,(au (l.map enc)).drop (i*sz+(au ((y::r).map enc)).length),?_,(λh=>by cases h),by rw[kd];omega⟩;simp only[cL,S,aH,j];rw[cU];simp only[fk,V,aH];rw[<-cU,F,hr,fa,bS];simp only[fb,h1,cF,A,gL,h3];rw[dP,E.take,q,db,mQ,List.append_assoc,show i+(J l-(i+1))=J l-1 from w_]
def OY:pL 6 Obj.val:=⟨λ_=>rfl,λ_=>rfl,d_⟩
def qa:pL 2 bZ:=⟨λ_=>rfl,λ_=>rfl,d_⟩
def gz(l:ba)(id:ag)(p:Nat):Bool:=
 match l[p]? with
 |some o=>o.id==id
 |none=>I
def Yk(a b:ag):aj (cM a b) 0=(a==b):=by
 by_cases h:a=b;subst h;rw[C4,bS];rfl;rw[bN.2 h];exact dN λe=>h (rj e)
def aiV(g:Q.spec 155=X kD){l:ba}(D:aq 6 Obj.val ov l)(hg:∀o∈l,o.rf)(B:J l<=1000000){id:ag}(j:∀(a b:Nat)(o p:Obj),a<=b->l[a]?=X o->l[b]?=X p->jX id p=O->jX id o=O):
 ∃v s',ai Q 167 [ov,.str id,.func (.func 168) [] []] s v s'/\∃p,yQ l id p/\s'=s/\v=.tup [ak p,.bool (gz l id p)]:=by
 have S:=D.cs;have N:=D.lenS dY;refine ai.ofNRZ atl (aM ?_);simp only[go_sem,seval,N,S];refine ai1 g D hg B j (λp e h1 h2 h3 F=>?_) (J l) 0 (J l) _ w_ w_ (aD _) (λa o h=>absurd h (wB _)) (λa o h V=>by rw[sC h]at V;cases V) ⟨by simp only[sN,seval],by simp only[sN,seval],by simp only[sN,seval],by simp only[sN,seval],by simp only[sN,seval];rfl,by simp only[sN,seval]⟩;have e0:=F.h0;have e1:=F.h1;have e2:=F.h2;have e8:=F.h8;have e9:=F.h9;rcases ip p (J l)with A|a0
 obtain⟨o,q⟩:∃o,l[p]?=X o:=⟨_,dp A⟩;have go:=hg o (co q);have P:=λlc k=>D.at dY.2.2.1 q lc k;have d:=Vs g go id (s:=s);have R:gz l id p=(o.id==id):=by unfold gz;rw[q]
 simp only[Obj.val,Obj.cells]at d;simp only[go_sem,seval,e0,e1,e2,e8,e9,A,P,Obj.val,Obj.cells,(nJ 168)];refine aV.of d d_ ?_;simp only[go_sem,seval,bD,Yk];exact⟨_,rfl,p,⟨h1,h2,h3⟩,by rw[R]⟩;have hp:p=J l:=w_
 subst hp;have R:gz l id (J l)=I:=by unfold gz;rw[sC (aD _)]
 simp only[go_sem,seval,e8,e9,bJ];exact⟨_,rfl,_,⟨h1,h2,h3⟩,by rw[R]⟩
def Vt(g:Q.spec 155=X kD){l:ba}(F:aq 6 Obj.val ov l)(P:∀o∈l,o.rf)(d:J l<=1000000)(B:bw l=O)(id:ag)(s:St):
 ai Q 98 [.agg [ov],.str id] s (.tup [ak (dM id l),.bool (gz l id (dM id l))]) s:=by
 have q:=F.cs;obtain⟨v,s',D,p,N,rfl,rfl⟩:=aiV g F P d (Hg B id) (s:=s);rw[N.eq (MW (Hg B id))]at D;have j:∃v A,ai Q 98 [.agg [ov],.str id] s' v A/\(v=.tup [ak (dM id l),.bool (gz l id (dM id l))]/\A=s'):=by
  refine ai.ofNRZ av7 (aM ?_);simp only[go_sem,seval,q];refine aV.of D d_ ?_;simp only[go_sem,seval];exact⟨_,rfl,rfl⟩
 obtain⟨_,_,h,rfl,rfl⟩:=j;exact h
def fy(l:ba)(x:Obj):ba:=bif gz l x.id (dM x.id l)then l.set (dM x.id l) x else xR l x
def ayY{R:ba}:∀v∈R.map Obj.val,J v.cells=6:=λv d=>by
 obtain⟨x,_,rfl⟩:=cC.1 d;rfl
def ayT{R:ba}(h:s.get [] m=X (.cells (au (R.map Obj.val))))(hi:i<J R)(x:Obj)(lc:Ag.Loc):EL lc s m (i*6) x.val (s.get [] m)=X (lc,s.put m (X (.cells (au ((R.set i x).map Obj.val))))):=by
 rw[h,du,xV ayY (by simpa using hi) rfl];simp only[aH,AJ]
def arx{l:Nat}(hi:i<l)(lc:Ag.Loc):fR ae lc 22 (.arr 6 m 0 l c) (ak i)=X (.ptr m (i*6)):=by
 have h:=dY.2.2.2.1 lc 6 m 0 l c (ak i);have d:bC i l=O:=bH hi;rw[h,mV,aH,d];simp
def aBj(a4:Q.spec 36=X gV)(N:Q.spec 57=X qw)(a1:Q.spec 155=X kD)(a0:Q.spec 100=Z)(a6:Q.specW 100=X (nD 6))(a7:Q.anew 100=O)(a8:No Q 52){l:ba}(P:aq 6 Obj.val ov l)(hg:∀q∈l,q.rf)(hl:J l<=1000){x:Obj}(gx:x.rf):
 ∃v s',ai Q 52 [.agg [ov],x.val] s v s'/\(((bw l&&dC x)=I/\v=.tup [.agg [.uP],ah 1])\/((bw l&&dC x)=O/\∃m,v=.tup [.agg [.arr 6 m 0 (fy l x).length (fy l x).length],ah 0]/\s'.get [] m=X (.cells (au ((fy l x).map Obj.val))))):=by
 have a9:=aae;have F:=P.cs;have a2:=P.lenS dY;have rc:=gx.all;have d:=LK gx;have a5:=λs=>afY a4 P hg (by omega:J l<small) (s:=s);simp only[Obj.val,Obj.cells]at d;have V:aj ((J l:Nat):Int) 1000000=I:=dN w_;refine ai.ofNRZ avj (aM ?_);simp only[go_sem,seval,Obj.val,Obj.cells,sB];refine aV.of (a5 _) d_ ?_;cases hv:bw l with
 |false=>
  simp only[go_sem,seval,ey];exact⟨_,rfl,.inl rfl⟩
 |true=>
  cases hx:dC x with
  |false=>
   rw[hx]at d;simp only[go_sem,seval,N,d,ey];exact⟨_,rfl,.inl rfl⟩
  |true=>
   rw[hx]at d;have B:=Vt a1 P hg w_ hv x.id s;cases hf:gz l x.id (dM x.id l)with
   |false=>
    have j:fy l x=xR l x:=by unfold fy;rw[hf];rfl
    rw[hf]at B;simp only[go_sem,seval,N,d];refine aV.of B d_ ?_;simp only[go_sem,seval,F]
    let⟨c,sc,m,s2,g,cc1,cc2,r81,hrow⟩:=akk a0 a6 a7 P hl x (MW (Hg hv x.id)).le s
    refine aV.of g d_ ?_;simp only[Obj.cells]at r81;simp only[go_sem,seval,F,a2,V,cc1,cc2,a0,sB];refine aV.of r81 d_ ?_;have A:(aa.arr 6 m 0 (J l+1) (J l+1)).cells=[.arr 6 m 0 (J l+1) (J l+1)]:=rfl;simp only[go_sem,seval,A];exact⟨_,rfl,.inr ⟨m,by rw[j,aem],by rw[hrow,j];rfl⟩⟩
   |true=>
    have D:dM x.id l<J l:=by
     rcases ip (dM x.id l) (J l)with h|h
     exact h;unfold gz at hf;rw[sC h]at hf;cases hf
    have j:fy l x=l.set (dM x.id l) x:=by unfold fy;rw[hf];rfl
    obtain⟨r,o,R,e1,e2⟩:∃r o R,ov=.list 6 ((o::R).map Obj.val) r/\l=o::R:=by
     rcases l with _|⟨o,R⟩
     simp at D;rcases P with⟨_,h⟩|⟨r,h⟩
     cases h;exact⟨r,o,R,h,rfl⟩
    have g:=OC (r:=r) (by rw[<-e2];exact hl) (s:=s) (Q:=Q);rw[<-e1,<-e2]at g;obtain⟨z,hz⟩:=cw (s.new (.cells (au (l.map Obj.val))));have zg:z.get [] s.aL=X (.cells (au (l.map Obj.val))):=by rw[<-hz];exact cu
    rw[hz]at g;have S:=λlc=>ayT zg D x lc;have a3:=λlc=>arx D (m:=s.aL) (c:=J l) lc;simp only[Obj.val,Obj.cells]at S;rw[hf]at B;have A:(aa.arr 6 s.aL 0 (J l) (J l)).cells=[.arr 6 s.aL 0 (J l) (J l)]:=rfl;simp only[go_sem,seval,N,d];refine aV.of B d_ ?_;simp only[go_sem,seval,F];refine aV.of g d_ ?_;simp only[go_sem,seval,A,a3,dl,S,sB];refine⟨_,rfl,.inr ⟨s.aL,by rw[j,nN],?_⟩⟩;rw[j,aN,bS];rfl
def M5:cW ae 53=X 6:=k_
def akm(mu:Bool)(s:St)(m n c:Nat)(cs:az)(h:s.get [] m=X (.cells cs))(q:J cs=n*6+6):fQ ae [] .clear [22] mu [.arr 6 m (0+n*6) 1 c] s=X (.tup [],s.put m (X (.cells (cs.take (n*6)++[.str [],ah 0,ah 0,ah 0,.uP,.uP])))):=by
 have j:aP (n*6+6) (J cs)=O:=bH w_;have g:cs.drop (n*6+6)=[]:=yj w_;have d:aB 1 0=I:=rfl;have A:((1:Nat)==0)=I:=rfl;simp only[ce,fQ,Ia,aH,ri,d,A,cF,MM,h,eZ,m8,iw,gL,bT,bn,dP,Nat.reduceAdd,j,g]
def alb{l:ba}(V:s.gE<=s.aL)(hm:s.get [] m=X (.cells (au (l.map Obj.val))))(hi:i<J l)(hl:J l<=1000):
 ∃v s',ai Q 101 [.arr 6 m 0 (J l) (J l),ak i,ak (i+1)] s v s'/\∃g,v=.arr 6 m 0 (J l-1) (J l)/\s'.get [] m=X (.cells (au ((l.eraseIdx i).map Obj.val)++g)):=by
 have q1:∀env s,ac env 9=ak i->ac env 10=ak (i+1)->ac env 12=ak (J l)->eH ae [] 22 (.arr 6 m 0 (J l) (J l)) (X (.tmp 9)) (X (.tmp 10)) (X (.tmp 12)) env s=X (.arr 6 m (0+i*6) (i+1-i) (J l-i)):=λenv s a b c=>by
  have D:aP i (i+1)=O:=bH (io i);have B:aP (i+1) (J l)=O:=bH hi;have d:aP (J l) (J l)=O:=bH (aD _);rw[Ak Ia M5,kI (x:=.tmp 9) (by rw[eC,a]),kI (x:=.tmp 10) (by rw[eC,b]),kI (x:=.tmp 12) (by rw[eC,c])];simp only[fb,D,B,d,Option.isSome_some,Bool.or_true]
 have q3:∀env s,ac env 21=ak i->eH ae [] 22 (.arr 6 m 0 (J l) (J l)) Z (X (.tmp 21)) Z env s=X (.arr 6 m 0 i (J l)):=λenv s a=>by
  have D:aP 0 i=O:=bH (fN i);have B:aP i (J l)=O:=bH (Nat.le_of_lt hi);have d:aP (J l) (J l)=O:=bH (aD _);rw[Ak Ia M5,kI (by rw[eC,a])];simp only[fb,dK,D,B,d,Fb,AC,Nat.zero_mul,oL,Nat.sub_zero]
 have q4:∀env s,ac env 24=ak (i+1)->eH ae [] 22 (.arr 6 m 0 (J l) (J l)) (X (.tmp 24)) Z Z env s=X (.arr 6 m (0+(i+1)*6) (J l-(i+1)) (J l-(i+1))):=λenv s a=>by
  have B:aP (i+1) (J l)=O:=bH hi;have d:aP (J l) (J l)=O:=bH (aD _);rw[Ak Ia M5,kI (x:=.tmp 24) (by rw[eC,a])];simp only[fb,dK,B,d,Fb,AC]
 have q5:∀env s,ac env 29=ak (J l-1)->ac env 30=ak (J l)->eH ae [] 22 (.arr 6 m 0 (J l-1) (J l)) (X (.tmp 29)) (X (.tmp 30)) Z env s=X (.arr 6 m (0+(J l-1)*6) 1 1):=λenv s a b=>by
  have D:aP (J l-1) (J l)=O:=bH (Nat.sub_le _ _);have d:aP (J l) (J l)=O:=bH (aD _);have e4:J l-(J l-1)=1:=w_
  rw[Ak Ia M5,kI (x:=.tmp 29) (by rw[eC,a]),kI (x:=.tmp 30) (by rw[eC,b])];simp only[fb,dK,D,d,Fb,AC,e4]
 have ln:∀mk s n c,fZ ae mk 22 (.arr 6 m 0 n c) s=X (ak n):=λmk s n c=>k_
 have S:aj (i:Int) ((i+1:Nat):Int)=I:=dN w_;have j:s.top.get [] m=X (.cells (au (l.map Obj.val))):=hm
 let⟨o,g,ha,ho,hz⟩:=Ws OY MM d_ j hi w_ I
 obtain⟨u,F⟩:=cw ((bif o then s.top.put m (X (.cells (au ((l.eraseIdx i).map Obj.val)++g)))else s.top));have ug:(s.xW u).get [] m=X (.cells (au ((l.eraseIdx i).map Obj.val)++g)):=by
  rw[jH,<-F];cases o;rw[cF,j,ho rfl];rw[cT,aN,bS];rfl
 rw[F,dP]at ha;have N:s.aL<=u.aL:=by rw[<-F];cases o<;>exact aD _
 have P:u.ci=s.ci:=by rw[<-F];cases o<;>rfl
 have q:(au ((l.eraseIdx i).map Obj.val)++g).length=(J l-1)*6+6:=by
  rw[bK,OY.size,E7 hi,hz]
 have A:=λmu=>akm mu (s.xW u) m (J l-1) 1 _ ug q;have R:(au ((l.eraseIdx i).map Obj.val)++g).take ((J l-1)*6)=au ((l.eraseIdx i).map Obj.val):=by
  rw[IB (by rw[OY.size,E7 hi])]
 simp only[R,dP]at A;refine ai.ofNRZ asq (aM ?_);simp only[go_sem,seval,ln,q1,S,q3,q4,ha,N,P,q5,A,V];refine⟨_,rfl,[.str [],ah 0,ah 0,ah 0,.uP,.uP],rfl,?_⟩;rw[aN,bS];rfl
def kE(l:ba)(id:ag):ba:=l.eraseIdx (dM id l)
def FS{l:ba}{id:ag}(h:gz l id p=O):p<J l:=by
 rcases ip p (J l)with d|d
 exact d;unfold gz at h;rw[sC d]at h;cases h
def alt(a2:Q.spec 36=X gV)(D:Q.spec 155=X kD)(a4:No Q 53){l:ba}(N:aq 6 Obj.val ov l)(hg:∀q∈l,q.rf)(hl:J l<=1000)(id:ag)(V:s.gE<=s.aL):
 ∃v s',ai Q 53 [.agg [ov],.str id] s v s'/\(((bw l&&gz l id (dM id l))=I/\v=.tup [.agg [.uP],ah (bif bw l then 11 else 1)])\/((bw l&&gz l id (dM id l))=O/\∃m P,v=.tup [.agg [.arr 6 m 0 (J l-1) (J l)],ah 0]/\s'.get [] m=X (.cells (au ((kE l id).map Obj.val)++P)))):=by
 have a5:=aae;have a1:=N.cs;have a3:=λs=>afY a2 N hg (by omega:J l<small) (s:=s);refine ai.ofNRZ avk (aM ?_);simp only[go_sem,seval,sB];refine aV.of (a3 _) d_ ?_;cases hv:bw l with
 |false=>
  simp only[go_sem,seval,ey];exact⟨_,rfl,.inl rfl⟩
 |true=>
  have d:=Vt D N hg w_ hv id s;cases hf:gz l id (dM id l)with
  |false=>
   rw[hf]at d;simp only[go_sem,seval];refine aV.of d d_ ?_;simp only[go_sem,seval,ey];exact⟨_,rfl,.inl rfl⟩
  |true=>
   have B:=FS hf;obtain⟨r,o,A,e1,e2⟩:∃r o A,ov=.list 6 ((o::A).map Obj.val) r/\l=o::A:=by
    rcases l with _|⟨o,A⟩
    simp at B;rcases N with⟨_,h⟩|⟨r,h⟩
    cases h;exact⟨r,o,A,h,rfl⟩
   have g:=OC (r:=r) (by rw[<-e2];exact hl) (s:=s) (Q:=Q);rw[<-e1,<-e2]at g;obtain⟨z,R⟩:=cw (s.new (.cells (au (l.map Obj.val))));have zg:z.get [] s.aL=X (.cells (au (l.map Obj.val))):=by rw[<-R];exact cu
   have zw:z.gE<=z.aL:=by rw[<-R];exact cr V
   rw[R]at g;obtain⟨v,s2,j,P,rfl,a0⟩:=alb (Q:=Q) zw zg B hl;have S:=cm (n:=dM id l) w_;have F:∀n c,(aa.arr 6 s.aL 0 n c).cells=[.arr 6 s.aL 0 n c]:=λ_ _=>rfl;rw[hf]at d;simp only[go_sem,seval];refine aV.of d d_ ?_;simp only[go_sem,seval,a1];refine aV.of g d_ ?_;simp only[go_sem,seval,S];refine aV.of j d_ ?_;simp only[go_sem,seval,F,ey];exact⟨_,rfl,.inr ⟨s.aL,P,rfl,a0⟩⟩
def Xn{l:ba}{zs:az}(q:∀o∈l,o.rf)(j:h.get m=X (.cells (au (l.map Obj.val)++zs))):eY h (.tup [.agg [.arr 6 m 0 (J l) c],ah 0]) (.tup [.agg [.list 6 (l.map Obj.val) .no],ah 0]):=by
 let⟨k,e⟩:=JO (h:=h) (k:=4) (xs:=l.map Obj.val) (ys:=l.map Obj.val) (o8 λv d=>by
  obtain⟨o,g,rfl⟩:=cC.1 d;exact Pr h (q o g) 0)
 have D:bW h (k+1) (.arr 6 m 0 (J l) c)=X (.list 6 (l.map Obj.val) .no):=by
  show(match h.get m with
   |some (.cells cs)=>(cut cs 0 (J l*6)).bind λc=>(cK (bW h k) c).bind λF=>(chunk (!aB 6 1) 6 (J l) F).bind λxs=>X (aa.list 6 xs .no)
   |_=>Z)=_
  rw[j];have A:cut (au (l.map Obj.val)++zs) 0 (J l*6)=X (au (l.map Obj.val)):=by
   simp only[ce,cut,kz,IB (JK l),JK]
  simp only[A,aH,e,V4]
 have B:bW h (k+2) (.agg [.arr 6 m 0 (J l) c])=X (.agg [.list 6 (l.map Obj.val) .no]):=by
  show(cK (bW h (k+1)) [_]).bind _=_;simp only[cK,D,aH]
 refine⟨k+3,?_⟩;show(cK (bW h (k+2)) [_,_]).bind _=_;simp only[cK,B,aH];rfl
noncomputable def D4(l:ba):aa:=.tup [.agg [.list 6 (l.map Obj.val) .no],ah 0]
noncomputable def Db(e:Int):aa:=.tup [.agg [.uP],ah e]
noncomputable def BV:Sp
 |[m,u]=>(lY m).bind λl=>(uI u).bind λx=>bif decide (J l<=1000)then X (bif bw l&&dC x then D4 (fy l x)else Db 1)else Z
 |_=>Z
noncomputable def C9:Sp
 |[m,.str id]=>(lY m).bind λl=>bif decide (J l<=1000)then X (bif bw l&&gz l id (dM id l)then D4 (kE l id)else Db (bif bw l then 11 else 1))else Z
 |_=>Z
def aeo{l:ba}{x o:Obj}(h:o∈fy l x):o=x\/o∈l:=by
 unfold fy at h;cases hf:gz l x.id (dM x.id l);rw[hf]at h;exact aen h;rw[hf]at h;exact(Nt h).symm
def aBm:da ae 52 BV:=by
 intro args u d G h w A B D;unfold BV at d;split at d;rename_i a b;simp only[an]at d
 let⟨l,h1,x,h2,d⟩:=d
 let⟨h3,d⟩:=bf d
 simp only[dE]at h3;have d:=sI d;subst d;obtain⟨v,rfl,N,q,R⟩:=qX h1;obtain⟨rfl,g⟩:=I7 h2
 let⟨ht,v',j,hl'⟩:=pg N q
 have j:di [.agg [v],x.val]=[.agg [v'],x.val]:=by simp only[di,j,x8 g.pure]
 refine TQ UN (args:=[.agg [v],x.val]) (by simp only[dW,ht,TZ g.pure,cj]) (λP=>?_) G h w A B D;rw[j]
 let⟨y,s',hr,hq⟩:=aBj (Q:=QN NT P) rfl rfl rfl rfl rfl rfl R_ hl' q h3 g (s:=s0)
 refine⟨_,_,hr,?_⟩;rcases hq with⟨e,rfl⟩|⟨e,m,rfl,hrow⟩
 rw[e];exact⟨3,rfl⟩;rw[e,cT];exact Xn (zs:=[]) (λo F=>by
  rcases aeo F with rfl|h
  exact g;exact q o h) (by rw[iw];exact hrow)
 cases d
def alv:da ae 53 C9:=by
 intro args u d G h w A B D;unfold C9 at d;split at d;rename_i a id;simp only[an]at d
 let⟨l,h1,d⟩:=d
 let⟨h3,d⟩:=bf d
 simp only[dE]at h3;have d:=sI d;subst d;obtain⟨v,rfl,N,q,R⟩:=qX h1
 let⟨ht,v',g,hl'⟩:=pg N q
 have g:di [.agg [v],.str id]=[.agg [v'],.str id]:=by rw[di,g];rfl
 refine TQ UN (args:=[.agg [v],.str id]) (by rw[dW,ht];rfl) (λP=>?_) G h w A B D;rw[g]
 let⟨y,s',hr,hq⟩:=alt (Q:=QN NT P) rfl rfl R_ hl' q h3 id (s:=s0) (aD _)
 refine⟨_,_,hr,?_⟩;rcases hq with⟨e,rfl⟩|⟨e,m,zs,rfl,hrow⟩
 rw[e];exact⟨3,rfl⟩;rw[e,cT];have j:(kE l id).length=J l-1:=E7 (FS (by simp only[bh]at e;exact e.2))
 have:=Xn (h:=s'.heap) (c:=J l) (zs:=zs) (λo F=>q o (List.mem_of_mem_eraseIdx F)) hrow;rw[show(l.eraseIdx (dM id l)).length=J l-1 from j]at this;exact this;cases d
def Dg{l:ba}{id:ag}(h:gz l id p=O):∃o,l[p]?=X o/\o.id=id:=by
 unfold gz at h;split at h
 ·next o ho=>exact⟨o,ho,by simpa using h⟩
 cases h
def Pj{l:ba}(A:bw l=O){id:ag}(h:gz l id (dM id l)=I):∀o∈l,o.id≠id:=by
 intro o F e;have S:=MW (Hg A id)
 let⟨a,ha⟩:=qI.1 F
 have q:jX id o=I:=by unfold jX;rw[e,C4];rfl
 have j:dM id l<=a:=by
  rcases ip a (dM id l)with d|d
  rw[S.lo a o d ha]at q;cases q;exact d
 rcases ip (dM id l) a with d|d
 simp only[bw,bh]at A;have N:=(xe l [] A.1).2;have B:=(gn.1 ha).1;have g:dM id l<J l:=w_
 have D:=Iz.1 (ux.1 N) _ a g B d;rw[(gn.1 ha).2,e]at D
 have:=Sc.2 D;rw[S.hi _ _ (aD _) (dp g)]at this;cases this;have j:dM id l=a:=w_
 rw[j]at h;unfold gz at h;rw[ha]at h;simp[e]at h
def ac8{l:ba}(g:(l.map Obj.id).Nodup){a b:Nat}{o:Obj}(q:l[a]?=X o)(j:l[b]?=X o):a=b:=by
 let⟨h1,h2⟩:=gn.1 q
 let⟨h3,h4⟩:=gn.1 j
 have d:=Iz.1 (ux.1 g);rcases Nat.lt_trichotomy a b with h|h|h
 exact absurd (by rw[h2,h4]) (d a b h1 h3 h);exact h;exact absurd (by rw[h2,h4]) (d b a h3 h1 h)
def xd{l:ba}(d:bw l=O){o q:Obj}(A:o∈l)(j:q∈l)(h:o.id=q.id):o=q:=by
 have g:=BG d A;rw[h,BG d j]at g;exact(sI g).symm
def zQ{l:ba}(A:bw l=O)(x y:Obj):y∈fy l x↔y=x\/(y∈l/\y.id≠x.id):=by
 unfold fy;cases hf:gz l x.id (dM x.id l)with
 |false=>
  have h:=Pj A hf;have e:y∈xR l x↔y=x\/y∈l:=by
   refine⟨aen,λh=>?_⟩;unfold xR;rcases h with h|h
   exact fA.2 (.inr (dG.2 (.inl h)));rw[<-wq (dM x.id l) l]at h;rcases fA.1 h with h|h
   exact fA.2 (.inl h);exact fA.2 (.inr (dG.2 (.inr h)))
  rw[cF,e];exact⟨λg=>g.imp id λg=>⟨g,h y g⟩,λg=>g.imp id And.left⟩
 |true=>
  let⟨o,ho,hid⟩:=Dg hf
  have D:=FS hf;have B:=co ho;rw[cT,qI];constructor
  ·rintro⟨a,j⟩
   rw[E6]at j;split at j;exact .inl (sI j).symm
   ·next d=>
    have q:=co j;refine .inr ⟨q,λe=>d ?_⟩;have F:=xd A q B (e.trans hid.symm);subst F;exact ac8 (rz A) ho j
  rintro(rfl|⟨q,d⟩);exact⟨_,by rw[List.getElem?_set_self D]⟩
  let⟨a,j⟩:=qI.1 q
  refine⟨a,?_⟩;rw[List.getElem?_set_ne,j];intro e;rw[<-e,ho]at j;rw[<-sI j]at d;exact d hid
def Lw{l:ba}(A:bw l=O){id:ag}(B:gz l id (dM id l)=O)(y:Obj):y∈kE l id↔y∈l/\y.id≠id:=by
 let⟨o,ho,hid⟩:=Dg B
 have q:=co ho;unfold kE;rw[List.mem_eraseIdx_iff_getElem?];constructor;rintro⟨a,d,g⟩;have j:=co g;refine⟨j,λe=>d ?_⟩;have D:=xd A j q (e.trans hid.symm);subst D;exact ac8 (rz A) g ho;rintro⟨j,d⟩
 let⟨a,g⟩:=qI.1 j
 refine⟨a,λe=>d ?_,g⟩;rw[e,ho]at g;rw[<-sI g];exact hid
def Mq{l:ba}{o:Obj}(h:l[p]?=X o):dB l=dB (l.take p)+J o.gT+dB (l.drop (p+1)):=by
 let⟨h1,h2⟩:=gn.1 h
 have e:=wq p l;rw[yi h1,h2]at e
 conv=>lhs;rw[<-e]
 simp only[dB,db,cU,List.sum_append,qK];omega
def Tc(a b:ba):dB (a++b)=dB a+dB b:=by simp only[dB,db,List.sum_append]
def Ej{l:ba}(j:bw l=O)(x:Obj):(fy l x).length<=J l+1/\dB (fy l x)<=dB l+J x.gT/\∀o∈l,o.id=x.id->dB (fy l x)+J o.gT=dB l+J x.gT:=by
 unfold fy;cases hf:gz l x.id (dM x.id l);have h:=Pj j hf;have e:dB (xR l x)=dB l+J x.gT:=by
  have P:dB l=dB (l.take (dM x.id l))+dB (l.drop (dM x.id l)):=by rw[<-Tc,wq]
  have N:dB (x::l.drop (dM x.id l))=J x.gT+dB (l.drop (dM x.id l)):=by simp only[dB,cU,qK]
  unfold xR;rw[Tc,N,P];omega
 rw[cF,aem,e];exact⟨aD _,aD _,λo d e=>absurd e (h o d)⟩
 let⟨o,d,hid⟩:=Dg hf
 have g:=FS hf;have R:=Mq d;have F:=Mq (l:=l.set (dM x.id l) x) (p:=dM x.id l) (by rw[List.getElem?_set_self g]);have D:(l.set (dM x.id l) x).take (dM x.id l)=l.take (dM x.id l):=List.take_set_of_le (aD _);have B:(l.set (dM x.id l) x).drop (dM x.id l+1)=l.drop (dM x.id l+1):=List.drop_set_of_lt (gN _);rw[D,B]at F;rw[cT,nN];refine⟨io _,w_,λq A e=>?_⟩
 have:=xd j A (co d) (e.trans hid.symm);subst this;omega
def aeA{l:ba}{id:ag}(d:bw l=O)(j:gz l id (dM id l)=O):(kE l id).length<=J l/\∀o∈l,o.id=id->dB (kE l id)+J o.gT=dB l:=by
 let⟨o,ho,hid⟩:=Dg j
 have A:=Mq ho;refine⟨List.length_eraseIdx_le ..,λq g e=>?_⟩
 have:=xd d g (co ho) (e.trans hid.symm);subst this;unfold kE;rw[List.eraseIdx_eq_take_drop_succ,Tc];omega
def af3{l:ba}(h1:∀q∈l,dC q=O)(A:(l.map (·.id)).Pairwise (λa b=>gQ a b=O))(g:J l<=1000000):bw l=O:=by
 simp only[bw,bh,dE];refine⟨LM _ [] h1 (λk j=>?_) A,g⟩;obtain⟨q,d,rfl⟩:=cC.1 j;rcases e:q.id with _|⟨c,r⟩
 exact absurd e (Nd (h1 q d));rw[<-n8];simp[cM]
def EP{l:ba}{x:Obj}(g:bw l=O)(j:dC x=O)(B:J l<=1000):bw (fy l x)=O:=by
 unfold fy;cases hf:gz l x.id (dM x.id l)with
 |false=>exact ar8 g j (Pj g hf) (MW (Hg g x.id)) w_
 |true=>
  let⟨o,ho,hid⟩:=Dg hf
  have d:=g;simp only[bw,bh]at d;rw[cT];refine af3 (λq A=>?_) ?_ (by rw[nN];omega);rcases Nt A with h|rfl
  exact rR l [] d.1 q h;exact j
  ·have e:(l.set (dM x.id l) x).map (·.id)=l.map (·.id):=by
    rw[AJ];refine List.ext_getElem? λi=>?_;rw[E6];split
    ·next h=>
     subst h;rw[gZ,ho];simp[FS hf,hid]
    rfl
   rw[e];exact(xe l [] d.1).2
def af0{l:ba}(j:bw l=O)(id:ag):bw (kE l id)=O:=by
 have d:=j;simp only[bw,bh,dE]at d;have g:(kE l id).Sublist l:=List.eraseIdx_sublist ..;exact af3 (λq A=>rR l [] d.1 q (g.subset A)) ((xe l [] d.1).2.sublist (g.map _)) (dj g.length_le d.2)
def ni(l:ba):Prop:=∀o∈l,∀(i:Nat)(r:ag),o.gT[i]?=X r->∃q∈l,q.id=r/\q.mT=sm o.mT i
def Mm{l:ba}(g:bw l=O){k:Int}{r:ag}:zZ l k i r=O↔∃q∈l,q.id=r/\q.mT=sm k i:=by
 unfold zZ;rcases e:ct r l with _|q
 refine⟨λh=>(by cases h),λ⟨q,j,d,_⟩=>?_⟩;rw[<-d,BG g j]at e;cases e
 let⟨d,h2⟩:=oA e
 refine⟨λh=>⟨q,d,h2,of_decide_eq_true h⟩,λ⟨p,A,D,B⟩=>?_⟩;rw[<-D,BG g A]at e;rw[<-sI e];exact dQ B
def OD{l:ba}(g:bw l=O):Ff l↔ni l:=
 ⟨λh o d i r hi=>(Mm g).1 (h o d i r hi),λh o d i r hi=>(Mm g).2 (h o d i r hi)⟩
def Jp{l:ba}(B:bw l=O)(h:ni l){x:Obj}(F:∀o∈l,o.id=x.id->o.mT=x.mT)(D:∀(i:Nat)(r:ag),x.gT[i]?=X r->∃q∈l,q.id=r/\q.mT=sm x.mT i):ni (fy l x):=by
 intro y A i r hi;have j:∀q∈l,∃d∈fy l x,d.id=q.id/\d.mT=q.mT:=λq g=>by
  by_cases e:q.id=x.id;exact⟨x,(zQ B x x).2 (.inl rfl),e.symm,(F q g e).symm⟩;exact⟨q,(zQ B x q).2 (.inr ⟨g,e⟩),rfl,rfl⟩
 have N:∃q∈l,q.id=r/\q.mT=sm y.mT i:=by
  rcases(zQ B x y).1 A with rfl|⟨A,_⟩
  exact D i r hi;exact h y A i r hi
 let⟨q,g,h2,h3⟩:=N
 let⟨d,hq',h4,h5⟩:=j q g
 exact⟨d,hq',h4.trans h2,h5.trans h3⟩
def Wa{l:ba}(g:bw l=O)(h:ni l){id:ag}(j:gz l id (dM id l)=O)(A:∀o∈l,o.id≠id->∀r∈o.gT,r≠id):ni (kE l id):=by
 intro y d i r hi
 let⟨d,hne⟩:=(Lw g j y).1 d
 let⟨q,hq,h2,h3⟩:=h y d i r hi
 exact⟨q,(Lw g j q).2 ⟨hq,by rw[h2];exact A y d hne r (co hi)⟩,h2,h3⟩
structure yL (l:ba) (x:Obj):Prop where
 good:x.rf
 mT:∀o∈l,o.id=x.id->o.mT=x.mT
 ref:∀(i:Nat)(r:ag),x.gT[i]?=some r->∃q∈l,q.id=r/\q.mT=sm x.mT i
inductive wC (l:ba):ba->ag->Prop where
 |one {x:Obj}:yL l x->(x.gT.length<=20\/∃o∈l,o.id=x.id/\x.gT.length<=o.gT.length)->wC l [x] []
 |two {x y o:Obj}:yL l x->yL l y->x.mT=y.mT->o∈l->o.id=x.id->x.gT.length+y.gT.length<=o.gT.length+1->wC l [x,y] []
 |drop {d:ag}:d≠[]->(∀y∈l,∀r∈y.gT,r≠d)->wC l [] d
 |join {x o p:Obj}:yL l x->o∈l->p∈l->o.id=x.id->o.id≠p.id->p.id≠[]->x.gT.length<=o.gT.length+p.gT.length->(∀y,y=x\/y∈l->y.id≠p.id->∀r∈y.gT,r≠p.id)->wC l [x] p.id
abbrev N_:=Option (ba×ag)
def CF(l:ba)(r:N_)(put:ba)(d:ag)(g:Int):Prop:=(g≠0/\r=Z)\/(g=0/\r=X (put,d)/\wC l put d)
def Fc(Q:ay)(f:FuncId)(args:az)(s:St)(l:ba)(r:N_):Prop:=
 ∃v s',ai Q f args s v s'/\(Up s s'/\∃j put d g,v=.agg [j,.str d,ah g]/\aq 6 Obj.val j put/\CF l r put d g)
def Fc.k{Q:ay}{l:ba}{r:N_}(h:Fc Q f args s l r){d:Tmp}{e:aw}{C:ir}(B:d<sz)(A:∀s' j put q g,Up s s'->aq 6 Obj.val j put->CF l r put q g->C ⟨e.set d (X (.agg [j,.str q,ah g])),sz,lc⟩ s'):aV Q f args d e sz lc s C:=by
 obtain⟨v,s',N,u,j,put,q,g,rfl,F,D⟩:=h;exact aV.of N B (A s' j put q g u F D)
def PM(l:cf):aq 1 ax (dS 1 (l.map ax)) l:=by
 rcases l with _|⟨x,l⟩
 exact .inl R_;exact .inr ⟨.no,rfl⟩
def SY(l:cf):br (dS 1 (l.map ax))=O:=by
 rcases l with _|⟨x,l⟩
 rfl;simp only[cU,dS,br,Bool.and_true];exact Go.Ag.pures_all.2 λv d=>by
  rcases dG.1 d with rfl|d
  rfl;obtain⟨y,_,rfl⟩:=cC.1 d;rfl
def Obj.withR(o:Obj)(rv:aa)(rs:cf):Obj:= {o with refsV:=rv,gT:=rs }
variable{o:Obj}
def Obj.rf.withR(g:o.rf){rv:aa}{rs:cf}(h:aq 1 ax rv rs)(j:br rv=O)(q:J rs<small)(d:∀r∈rs,J r<small):(o.withR rv rs).rf:=
 ⟨⟨h,g.mt,g.id,q,d,g.taglen,g.key⟩,j,g.pt⟩
structure NR (Q:ay):Prop where
 h32:Q.spec 151=some Bh
 h75:Q.spec 57=some qw
 h130:Q.spec 65=some kQ
 h154:Q.spec 163=some C0
 h372:Q.spec 164=some C5
structure qS (s:St) (bx m:Nat) (ov:aa) (l:ba):Prop where
 at_:sF s bx m ov l
 mw:s.gE<=s.aL
 isL:aq 6 Obj.val ov l
 good:∀o∈l,o.rf
 valid:bw l=true
 clo:ni l
 len:l.length<=900
 gT:dB l<=900
variable{l:ba}
def z7(h:o∈l):J o.gT<=dB l:=by
 let⟨i,hi⟩:=qI.1 h
 have:=Mq hi;omega
def qS.up(M:qS s bx m ov l)(u:Up s s'):qS s' bx m ov l:=⟨M.at_.up u,u.mw,M.isL,M.good,M.valid,M.clo,M.len,M.gT⟩
def YC{enc:α->aa}{l:List α}(h:aq n enc v l):Pw v=.none:=by
 rcases h with⟨rfl,_⟩|⟨_,rfl⟩<;>rfl
def TS(l:ba)(e:aA)(o:Obj):N_:=
 bif(ct e.other l).isSome||(aQ (vg o.gT e.node) 0||l.any (qA O [e.id]))then Z
 else X ([o.withR (dS 1 ((o.gT.take ((vg o.gT e.node).toNat+1)).map ax)) (o.gT.take ((vg o.gT e.node).toNat+1)),⟨e.other,2,0,0,dS 1 ((o.gT.drop (vg o.gT e.node).toNat).map ax),o.tagsV,o.gT.drop (vg o.gT e.node).toNat,o.mt⟩],[])
def aEn(T:NR Q)(M:qS s bx m ov l)(ge:e.rf)(A:o∈l)(hk:o.mT=2):Fc Q 95 [.ptr bx 0,e.val,o.val] s l (TS l e o):=by
 have a2:=aae;have go:=M.good o A;have rc:=go.all;have ec:=ge.gT.cs;have oc:=ge.obj.all;have hb:=M.at_.box;have a3:=z7 A;have a4:=M.gT;have g:=M.mw;have d:=nG fY rJ uf (s:=s.top) M.at_.kin e.other;rw[DL]at d;have gs:∀b:ag,FY (.str b)=cx.none:=λ_=>rfl;refine ai.ofNRZ av3 (aM ?_);simp only[go_sem,seval,aA.val,aA.cells,Obj.val,Obj.cells];refine⟨g,?_⟩;unfold TS;cases F:ct e.other l with
 |some q=>
  rw[F]at d;simp only[kL,ii]at d;simp only[go_sem,seval,hb,d,ey];exact⟨_,rfl,Up.refl g,_,[],_,_,rfl,.inl R_,.inl (by simp)⟩
 |none=>
  rw[F]at d;simp only[nQ,ii]at d;have B:=ar0 T.h130 go.gT w_ e.node s;simp only[go_sem,seval,hb,d,rc];refine aV.of B d_ ?_;rcases arZ o.gT e.node with hI|⟨p,hI,a6,a5⟩<;>rw[hI]
  have e1:aQ (-1) 0=O:=rfl;simp only[go_sem,seval,e1,ey];exact⟨_,rfl,Up.refl g,_,[],_,_,rfl,.inl R_,.inl (by simp)⟩;rw[Int.toNat_natCast];have e1:aQ (p:Int) 0=I:=dN w_;obtain⟨_,S,D,rfl,u⟩:=S9 T.h130 M.at_ g M.isL M.good (by have:=M.len;omega) (λq F=>by have:=z7 F;omega) (ys:=.list 1 [.str e.id] .Al) (b:=[e.id]) (.inr ⟨.Al,rfl⟩) (by simp) O;have M2:=M.up u;simp only[go_sem,seval,e1,sB];refine aV.of D d_ ?_;cases hrf:l.any (qA O [e.id])
  let⟨V1,sa,hV1,_⟩:=MO Nc (by kernel_rfl:cW ae 9=X 1) go.gT (lo:=p) (hi:=J o.gT) w_ (aD _)
  let⟨V2,sb,hV2,_⟩:=MO Nc (by kernel_rfl:cW ae 9=X 1) go.gT (lo:=0) (hi:=p+1) w_ w_
  have R:∀env s,ac env 43=ak p->eH ae [] 25 o.refsV (X (.tmp 43)) Z Z env s=X V1:=λenv s q=>sa env s _ _ rfl (kI (by rw[eC,q]));have P:∀env s,ac env 52=ak (p+1)->eH ae [] 25 o.refsV Z (X (.tmp 52)) Z env s=X V2:=λenv s q=>sb env s _ _ (kI (by rw[eC,q])) rfl;rw[IC]at hV1;rw[kz]at hV2;have c1:=Wb hV1 (by intro h;have:=congrArg nM h;rw[kd,bn]at this;omega) (by rw[kd];omega);have c2:=Wb hV2 (by intro h;have:=congrArg nM h;rw[jw,bn]at this;omega) (by rw[jw];omega);have v1:=hV1.cs;have v2:=hV2.cs;have i1:=PM (o.gT.drop p);have i2:=PM (o.gT.take (p+1));have n1:=i1.cs;have n2:=i2.cs;have a0:=cm (n:=p) w_;have a1:=YC go.gT;have V:S.xW S.top=S:=iL u.mw;have fm:(cx.loc 10).meets .none=I:=rfl;have N:=T.h154;simp only[go_sem,seval,rc,R,v1,N,c1,n1,a1,fm,V,a0,P,v2,c2,n2,u.mw,sB];refine⟨_,rfl,u,_,[o.withR (dS 1 ((o.gT.take (p+1)).map ax)) (o.gT.take (p+1)),⟨e.other,2,0,0,dS 1 ((o.gT.drop p).map ax),o.tagsV,o.gT.drop p,o.mt⟩],_,_,rfl,.inr ⟨.Al,rfl⟩,.inr ⟨rfl,rfl,.two (o:=o) ⟨?_,?_,?_⟩ ⟨?_,?_,?_⟩ hk A rfl ?_⟩⟩;exact go.withR i2 (SY _) (by rw[jw];omega) λr hr=>go.ref r (wh hr);exact λq' j e'=>by rw[xd M.valid j A e'];rfl
  intro i r hi;have hi:(o.gT.take (p+1))[i]?=X r:=hi;rw[we]at hi;split at hi;exact M.clo o A i r hi;cases hi;exact⟨⟨i1,go.mt,ge.other,by rw[kd];omega,λr hr=>go.ref r (oK hr),go.taglen,go.key⟩,SY _,go.pt⟩;intro q' j e';have h:=BG M.valid j;rw[show q'.id=e.other from e',F]at h;cases h;intro i r hi;have hi:(o.gT.drop p)[i]?=X r:=hi;rw[qH]at hi
  let⟨q,h1,h2,h3⟩:=M.clo o A _ r hi
  rw[hk]at h3;exact⟨q,h1,h2,h3⟩;show(o.gT.take (p+1)).length+(o.gT.drop p).length<=_;rw[jw,kd];omega;simp only[go_sem,seval,ey];exact⟨_,rfl,u,_,[],_,_,rfl,.inl R_,.inl (by simp)⟩
def ab6(d:dC o=O)(g:o.mT=2):2<=J o.gT:=by
 unfold dC at d;cases hb:lz o;simp only[lz,v6,decide_eq_false_iff_not]at hb;have h:=hb.1.2;rw[g]at h;have e:xu 2=2:=d_
 omega;rw[hb]at d;cases d
def PO(l:ba)(e:aA)(o p:Obj):N_:=
 bif !aj p.mT 2||(e.id==e.other||(!(o.gT[J o.gT-1]?==p.gT[0]?)||l.any (qA O [e.id,e.other])))then Z
 else X ([o.withR (dS 1 ((o.gT++p.gT.drop 1).map ax)) (o.gT++p.gT.drop 1)],e.other)
def asm(T:NR Q)(M:qS s bx m ov l)(ge:e.rf){p:Obj}(N:o∈l)(hk:o.mT=2)(hid:o.id=e.id)(hp:ct e.other l=X p):Fc Q 96 [.ptr bx 0,e.val,o.val] s l (PO l e o p):=by
 have b0:=aae;have go:=M.good o N
 let⟨hpl,hpi⟩:=oA hp
 have P:=M.good p hpl;have rc:=go.all;have pc:=P.all;have ec:=ge.gT.cs;have oc:=ge.obj.all;have b2:=z7 N;have b1:=z7 hpl;have b3:=M.gT;have a8:=M.mw;have g:=M.valid;simp only[bw,bh]at g;have b5:=ab6 (rR l [] g.1 o N) hk
 let⟨s1,r272,u1⟩:=Xy T.h32 M.at_ a8 M.isL M.good (by have:=M.len;omega) hp
 have M1:=M.up u1;have D:=go.gT.lenS bL;have a3:=P.gT.lenS bL;simp only[Obj.val,Obj.cells]at r272;refine ai.ofNRZ av5 (aM ?_);simp only[go_sem,seval,aA.val,aA.cells,Obj.val,Obj.cells];refine aV.of r272 d_ ?_;unfold PO;cases c1:aj p.mT 2;simp only[go_sem,seval,c1,ey];exact⟨_,rfl,u1,_,[],_,_,rfl,.inl R_,.inl (by simp)⟩;have A:p.mT=2:=of_decide_eq_true c1;have b4:=ab6 (rR l [] g.1 p hpl) A;have V:IntKind.i64.wrap ((J o.gT:Int)-1)=((J o.gT-1:Nat):Int):=by rw[nf];omega
 obtain⟨a,ha⟩:∃a,o.gT[J o.gT-1]?=X a:=⟨_,dp w_⟩;obtain⟨b,hb⟩:∃b,p.gT[0]?=X b:=⟨_,dp w_⟩;have h3:(o.gT[J o.gT-1]?==p.gT[0]?)=(a==b):=by rw[ha,hb];rfl
 rw[h3];have ia:=λlc k=>go.gT.at bL.2.2.1 ha lc k;have ib:∀lc,fR ae lc 25 p.refsV (.int .i64 0)=X (.ro [.str b]):=λlc=>P.gT.at bL.2.2.1 hb lc .i64;cases c2:e.id==e.other;cases c3:a==b;simp only[go_sem,seval,rc,c1,c2,D,V,ia,ib,ax,c3,ey,u1.mw];exact⟨_,rfl,u1,_,[],_,_,rfl,.inl R_,.inl (by simp)⟩;obtain⟨_,s2,S,rfl,u2⟩:=S9 T.h130 M1.at_ M1.mw M.isL M.good (by have:=M.len;omega) (λq hq=>by have:=z7 hq;omega) (ys:=.list 1 [.str e.id,.str e.other] .Al) (b:=[e.id,e.other]) (.inr ⟨.Al,rfl⟩) (by simp) O;have u:=u1.trans u2;simp only[go_sem,seval,rc,c1,c2,D,V,ia,ib,ax,c3,u1.mw,sB];refine aV.of S d_ ?_;cases hrf:l.any (qA O [e.id,e.other]);have a5:IntKind.i64.wrap ((J o.gT:Int)+(J p.gT:Int))=(J o.gT:Int)+(J p.gT:Int):=by rw[nf];omega
 have a4:IntKind.i64.wrap ((J o.gT:Int)+(J p.gT:Int)-1)=(J o.gT:Int)+(J p.gT:Int)-1:=by rw[nf];omega
 have c4:aQ 2000 ((J o.gT:Int)+(J p.gT:Int)-1)=I:=dN w_
 let⟨V1,sa,hV1,hp1⟩:=MO Nc (by kernel_rfl:cW ae 9=X 1) P.gT (lo:=1) (hi:=J p.gT) w_ (aD _)
 have a1:∀env s,eH ae [] 25 p.refsV (X (.const (.int .i64 1))) Z Z env s=X V1:=λenv s=>sa env s _ _ rfl rfl;rw[IC]at hV1;have cc:=akW go.gT hV1 go.pr (hp1 P.pr) w_ (by rw[kd];omega);have v1:=hV1.cs;have i1:=PM (o.gT++p.gT.drop 1);have n1:=i1.cs;have a0:=T.h372;have gs:∀b:ag,FY (.str b)=cx.none:=λ_=>rfl;have a9:=YC P.gT;have a2:s2.xW s2.top=s2:=iL u.mw;have fm:∀t,(cx.loc t).meets .none=I:=λ_=>rfl;simp only[go_sem,seval,rc,pc,D,a3,a5,a4,c4,a1,v1,a0,cc,n1,a9,fm,a2,sB,u.mw];rw[<-hpi];have a7:o.id≠p.id:=by
  rw[hid,hpi];intro h;rw[h,bS]at c2;cases c2
 refine⟨_,rfl,u,_,[o.withR (dS 1 ((o.gT++p.gT.drop 1).map ax)) (o.gT++p.gT.drop 1)],_,_,rfl,.inr ⟨.Al,rfl⟩,.inr ⟨rfl,rfl,.join (o:=o) ⟨?_,?_,?_⟩ N hpl rfl a7 (Nd (rR l [] g.1 p hpl)) ?_ ?_⟩⟩;refine go.withR i1 (SY _) (by rw[bK,kd];omega) λr d=>?_;rcases fA.1 d with d|d
 exact go.ref r d;exact P.ref r (oK d);exact λq' a6 B=>by rw[xd M.valid a6 N B];rfl
 intro i r hi;have d:r∈o.gT++p.gT.drop 1:=co hi;show∃q∈l,q.id=r/\q.mT=sm o.mT i;rw[hk];rcases fA.1 d with d|d
 let⟨j,hj⟩:=qI.1 d
 have:=M.clo o N j r hj;rw[hk]at this;exact this
 let⟨j,hj⟩:=qI.1 (oK d)
 have:=M.clo p hpl j r hj;rw[A]at this;exact this;show(o.gT++p.gT.drop 1).length<=_;rw[bK,kd];omega
 ·
  have F:∀y∈l,y.mT≠4->y.mT≠5->∀r∈y.gT,r≠p.id:=λy R h4 h5 r d B=>by
   let⟨j,hj⟩:=qI.1 d
   let⟨q,hq,h6,h7⟩:=M.clo y R j r hj
   have:=xd M.valid hq hpl (h6.trans B);subst this;have w:sm y.mT j=1:=by
    unfold sm;rw[show aj y.mT 4=I from dN h4,show aj y.mT 5=I from dN h5];rfl
   rw[w,A]at h7;cases h7
  intro y R _ r d B;rcases R with rfl|R
  have d:r∈o.gT++p.gT.drop 1:=d;rcases fA.1 d with d|d
  exact F o N (by rw[hk];decide) (by rw[hk];decide) r d B;exact F p hpl (by rw[A];decide) (by rw[A];decide) r (oK d) B;by_cases h4:y.mT<4;exact F y R w_ w_ r d B;have h:=List.any_eq_false.1 hrf y R;refine h ?_;simp only[qA,Bool.not_true,Bool.false_or,bh,List.any_eq_true];refine⟨dQ w_,r,d,?_⟩;rw[B,hpi];simp
 simp only[go_sem,seval,ey];exact⟨_,rfl,u,_,[],_,_,rfl,.inl R_,.inl (by simp)⟩;simp only[go_sem,seval,c1,c2,ey,u1.mw];exact⟨_,rfl,u1,_,[],_,_,rfl,.inl R_,.inl (by simp)⟩
def G3:wF ae 3 ah where
 eq a b:=by
  rw[WJ];rfl
 same a:=by simp[pd,se,aj]
 gt _:=rfl
def G4(k:Int):jV ae 184 (ah k)=X (3,26):=k_
variable{l:e_}
def arI(R:aq 1 ah v l)(P:J l<=1000000){k r:Int}(V:∀e,r= -1->K (.exit 0) ⟨e,19,lc⟩ s)(hr:∀e,ac e 4=ah r->K .ret ⟨e,19,lc⟩ s):
 ∀(rest d:e_)(e:aw),l=d++rest->r=fX (λx=>aj k x) rest (J d)->ac e 0=v->ac e 1=ah k->ac e 7=ak (J l)->ac e 8=ak (J d)->W Q 152 (.loop Ki) ⟨e,19,lc⟩ s K:=by
 intro rest;have a0:=R.cs
 induction rest with
 |nil=>
  intro d e A g e0 D q B;have N:=cz A;refine aF ?_;simp only[go_sem,seval,Ki,q,B,N,bJ];exact V _ g
 |cons x rest S=>
  intro d e A g e0 D q B
  let⟨hlt,hat⟩:=cH A
  have j:=λlc k=>R.at ff.2.2.1 hat lc k;have F:=cm (n:=J d) w_;refine aF ?_;cases hd:aj k x with
  |true=>
   simp only[fX,hd,cT]at g;subst g;simp only[go_sem,seval,Ki,e0,D,q,B,hlt,j,hd];exact hr _ (by simp only[sN,seval])
  |false=>
   simp only[fX,hd,cF]at g;simp only[go_sem,seval,Ki,e0,D,q,B,hlt,j,hd,F];refine S (d++[x]) _ (cP A) (by rw[g];simp) ?_ ?_ ?_ ?_
   all_goals simp only[sN,seval,e0,D,q,sA]
def akU(q:aq 1 ah v l)(d:J l<=1000000)(k:Int)(s:St):ai Q 92 [v,ah k] s (.bool (l.any λx=>aj k x)) s:=by
 have g:=q.cs;have j:=q.lenS ff;have D:ai Q 152 [v,ah k] s (ah (fX (λx=>aj k x) l 0)) s:=by
  refine ai.ofNZ as7 (aM ?_);simp only[go_sem,seval,j,g];refine arI q d (k:=k) (r:=fX (λx=>aj k x) l 0) ?_ ?_ l [] _ rfl rfl ?_ ?_ ?_ ?_;intro e A;simp only[go_sem,seval,A];intro e B;simp only[go_sem,seval,B]
  all_goals simp only[sN,seval,bn]
  all_goals rfl
 refine ai.ofNZ av0 (aM ?_);simp only[go_sem,seval,g];refine aV.of D d_ ?_;simp only[go_sem,seval,JT]
def wX(l:e_):aa:=.list 1 (l.map ah) .Al
def JH:List (Int×aa):=[(2,wX [1]),(4,wX [2,3,4]),(6,wX [2]),(7,wX [2])]
def rm(op mT:Int):Bool:=bif aj op 2 then aj mT 1 else bif aj op 4 then aj mT 2||(aj mT 3||aj mT 4)else bif aj op 6 then aj mT 2 else bif aj op 7 then aj mT 2 else O
def ant(op:Int):(∃l,bX op JH=X (wX l)/\J l<=3/\∀k,(l.any λx=>aj k x)=rm op k)\/(bX op JH=Z/\∀k,rm op k=O):=by
 by_cases h2:op=2;subst h2;exact .inl ⟨[1],rfl,d_,λk=>by simp[rm,aj]⟩;by_cases h4:op=4;subst h4;exact .inl ⟨[2,3,4],rfl,d_,λk=>by simp[rm,aj]⟩;by_cases h6:op=6;subst h6;exact .inl ⟨[2],rfl,d_,λk=>by simp[rm,aj]⟩;by_cases h7:op=7;subst h7;exact .inl ⟨[2],rfl,d_,λk=>by simp[rm,aj]⟩;refine .inr ⟨by simp[JH,bX,h2,h4,h6,h7],λk=>by simp[rm,aj,h2,h4,h6,h7]⟩
def afD(d:Q.spec 155=X kD)(t:dw)(k:ag)(s:St):ai Q 154 [bZ t,.str k] s (bD (cM t.1 k)) s:=by
 refine ai.ofNZ as9 (aM ?_);simp only[go_sem,seval,bZ,d,kD];rfl
structure Fi (tv:aa) (k:ag) (n lo hi:Nat) (e:aw):Prop where
 h0:ac e 0=tv
 h1:ac e 1=.str k
 h2:ac e 2=.func (.func 154) [] []
 h8:ac e 8=ak n
 h9:ac e 9=ak lo
 h10:ac e 10=ak hi
variable{tv:aa}
def Fi.mv{k:ag}{hi lo' hi':Nat}{e d:aw}(F:Fi tv k n lo hi e)(h:ac d 0=ac e 0/\ac d 1=ac e 1/\ac d 2=ac e 2/\ac d 8=ac e 8/\ac d 9=ak lo'/\ac d 10=ak hi'):Fi tv k n lo' hi' d:=
 ⟨h.1.trans F.h0,h.2.1.trans F.h1,h.2.2.1.trans F.h2,h.2.2.2.1.trans F.h8,h.2.2.2.2.1,h.2.2.2.2.2⟩
def A6(l:wf)(k:ag):Nat->Nat->Nat->Nat
 |0,lo,_=>lo
 |d+1,lo,hi=>if lo<hi then
   match l[(lo+hi) / 2]? with
   |some t=>bif aQ (cM t.1 k) 0 then A6 l k d ((lo+hi) / 2+1) hi else A6 l k d lo ((lo+hi) / 2)
   |none=>lo
  else lo
def Jg(l:wf)(k:ag):∀(d lo hi:Nat),lo<=hi->A6 l k d lo hi<=hi
 |0,lo,hi,h=>h
 |d+1,lo,hi,h=>by
  unfold A6;split
  ·split
   ·next t _=>
    cases aQ (cM t.1 k) 0;exact dj (Jg l k d _ _ w_) w_;exact Jg l k d _ _ w_
   exact h
  exact h
variable{l:wf}
def aiX(N:Q.spec 155=X kD)(ho:aq 2 bZ tv l)(a2:J l<=1000000){k:ag}{r:Nat}(hx:∀e hi,Fi tv k (J l) r hi e->K (.exit 0) ⟨e,49,lc⟩ s):
 ∀(d lo hi:Nat)(e:aw),hi-lo<=d->lo<=hi->hi<=J l->r=A6 l k d lo hi->Fi tv k (J l) lo hi e->W Q 153 (.loop Kj) ⟨e,49,lc⟩ s K:=by
 intro d
 induction d with
 |zero=>
  intro lo hi e h1 h2 h3 g F;have A:lo=hi:=w_
  subst A;have g:r=lo:=g;subst g;have P:=F.h9;have j:=F.h10;refine aF ?_;simp only[go_sem,seval,Kj,P,j,bJ];exact hx _ r (F.mv (by simp only[sN,seval,F.h9,F.h10,and_self]))
 |succ d ih=>
  intro lo hi e h1 h2 h3 g F;have e0:=F.h0;have e1:=F.h1;have e2:=F.h2;have P:=F.h9;have j:=F.h10;unfold A6 at g;rcases ip lo hi with B|a3
  obtain⟨m,hm⟩:=cw ((lo+hi) / 2);obtain⟨t,D⟩:∃t,l[m]?=X t:=⟨_,dp w_⟩;have R:IntKind.i64.wrap ((lo:Int)+(hi:Int))=((lo+hi:Nat):Int):=by rw[nf];omega
  have a1:=Wq (n:=lo+hi) w_;have hh:=XH (n:=lo+hi);rw[iP B,hm,D]at g;rw[hm]at hh;have a0:=Wp (n:=m) w_;have V:=λlc k=>ho.at jj.2.2.1 D lc k;have q:=afD N t k s;have S:IntKind.i64.wrap ((m:Int)+1)=((m+1:Nat):Int):=by rw[nf];omega
  simp only[bZ]at q;refine aF ?_;simp only[go_sem,seval,Kj,e0,e1,e2,P,j,B,R,ad1,a1,hh,a0,V,bZ,(nJ 154)];refine aV.of q d_ ?_;cases hd:aQ (cM t.1 k) 0;simp only[hd,cF]at g;simp only[go_sem,seval,bD,hd];exact ih lo m _ w_ w_ w_ g (F.mv (by simp only[sN,seval,e0,e1,e2,F.h8,P,and_self]));simp only[hd,cT]at g;simp only[go_sem,seval,bD,hd,S];exact ih (m+1) hi _ w_ w_ h3 g (F.mv (by simp only[sN,seval,e0,e1,e2,F.h8,j,and_self]));have A:lo=hi:=w_
  subst A;rw[iN (bJ _)]at g;subst g;refine aF ?_;simp only[go_sem,seval,Kj,P,j,bJ];exact hx _ r (F.mv (by simp only[sN,seval,F.h9,F.h10,and_self]))
def eR(l:wf)(k:ag):Nat:=A6 l k (J l) 0 (J l)
def tg(l:wf)(k:ag):Bool:=
 match l[eR l k]? with
 |some t=>t.1==k
 |none=>I
def aiW(q:Q.spec 155=X kD)(D:aq 2 bZ tv l)(A:J l<=1000000)(k:ag)(s:St):ai Q 153 [tv,.str k,.func (.func 154) [] []] s (.tup [ak (eR l k),.bool (tg l k)]) s:=by
 have S:=D.cs;have N:=D.lenS jj
 suffices g:∃v s',ai Q 153 [tv,.str k,.func (.func 154) [] []] s v s'/\(v=.tup [ak (eR l k),.bool (tg l k)]/\s'=s) by
  obtain⟨_,_,h,rfl,rfl⟩:=g;exact h
 refine ai.ofNRZ as8 (aM ?_);simp only[go_sem,seval,N,S];refine aiX q D A (r:=eR l k) (λe hi F=>?_) (J l) 0 (J l) _ w_ w_ (aD _) rfl ⟨by simp only[sN,seval],by simp only[sN,seval],by simp only[sN,seval],by simp only[sN,seval],by simp only[sN,seval];rfl,by simp only[sN,seval]⟩;have e0:=F.h0;have e1:=F.h1;have e2:=F.h2;have e8:=F.h8;have V:=F.h9;rcases ip (eR l k) (J l)with d|a0
 obtain⟨t,B⟩:∃t,l[eR l k]?=X t:=⟨_,dp d⟩;have P:=λlc k=>D.at jj.2.2.1 B lc k;have j:=afD q t k s;have R:tg l k=(t.1==k):=by unfold tg;rw[B]
 simp only[bZ]at j;simp only[go_sem,seval,e0,e1,e2,e8,V,d,P,bZ,(nJ 154)];refine aV.of j d_ ?_;simp only[go_sem,seval,bD,Yk];exact⟨_,by rw[R],rfl⟩;have hp:eR l k=J l:=by have:=Jg l k (J l) 0 (J l) (fN _);unfold eR at*;omega
 have R:tg l k=I:=by unfold tg;rw[hp,sC (aD _)]
 have d:¬eR l k<J l:=w_
 simp only[go_sem,seval,e8,V,d];exact⟨_,by rw[R],rfl⟩
def aja:ai Q 156 [.uP] s .uP s:=by
 have d:cN ae .eql 51 .uP .uP=X (.bool O):=k_
 refine ai.ofNZ Qd (aM ?_);simp only[go_sem,seval,d]
def ai9{r:gS}:ai Q 156 [.list 2 [] r] s (.list 2 [] .Al) s:=by
 have d:cN ae .eql 51 (.list 2 [] r) .uP=X (.bool I):=k_
 have g:cL ae [] 51 (.list 2 [] .Al) (.list 2 [] r) O s=X (.list 2 [] .Al,s):=by
  simp only[ce,cL,MN,aH,cR,rF]
 refine ai.ofNZ Qd (aM ?_);simp only[go_sem,seval,d,g,sB]
def ajb{o:dw}{r:gS}(g:(o::l).length<=1000):ai Q 156 [.list 2 ((o::l).map bZ) r] s (.arr 2 s.aL 0 (o::l).length (o::l).length) (s.new (.cells (au ((o::l).map bZ)))):=by
 have j:cN ae .eql 51 (.list 2 ((o::l).map bZ) r) .uP=X (.bool I):=k_
 have q:cL ae [] 51 (.list 2 [] .Al) (.list 2 ((o::l).map bZ) r) O s=X (.arr 2 s.aL 0 (o::l).length (o::l).length,s.new (.cells (au ((o::l).map bZ)))):=by
  have d:eE ([]++(o::l).map bZ).length 32=O:=xT (by simp only[ng,bj,bT]at g⊢;omega) d_;rw[cU]at d⊢;simp only[ce,cL,MN,aH,cR,fk,iq,ng];simp only[ng]at d;rw[d];simp
 refine ai.ofNZ Qd (aM ?_);simp only[go_sem,seval,j,q,sB]
