/- Lemmas for PartKeeps. -/
import Derived.Test.YtakkigoeiahlcaaGreatB11
import Derived.Calls
import Derived.RunT
import Derived.Shelf.Strings.OnBuilder
import Derived.Test.YtakkigoeiahlcaaGreatProg
import Derived.Test.YtakkigoeiahlcaaGreatB4
import Derived.Test.YtakkigoeiahlcaaGreatB9
import Derived.Test.YtakkigoeiahlcaaGreatZ1
import Derived.ProofKit
import Derived.Carry
import Derived.Test.YtakkigoeiahlcaaGreatRows
set_option linter.all false
open Option renaming some→X,none→Z,bind_eq_some_iff→ak,bind_some→aG,isNone_none→Fh,map_eq_some_iff→o6,map_none→n8,map_some→kV
open Bool renaming true→O,false→I,and_eq_true→bg,and_self→bZ,false_eq_true→E6,false_or→AI,not_eq_false'→E7,or_eq_false_iff→wz,true_and→jo,true_or→uG
open List renaming length→J,all_cons→pZ,all_eq_true→fO,any_eq_true→E8,append_nil→jV,drop_succ_cons→uI,drop_zero→kG,eq_nil_of_length_eq_zero→qY,flatMap_cons→Cw,getElem?_cons_succ→Cx,getElem?_cons_zero→AR,getElem?_eq_getElem→dA,getElem?_eq_some_iff→ie,getElem?_map→ix,length_append→bI,length_cons→bP,length_drop→kp,length_eraseIdx_of_lt→Fc,length_map→bh,length_nil→bC,length_set→qb,length_singleton→uJ,length_take→jG,map_append→dj,map_cons→cZ,map_nil→nY,mem_append→fJ,mem_cons_of_mem→ig,mem_cons_self→gz,mem_cons→dD,mem_filter→yK,mem_flatMap→uK,mem_map→cy,mem_of_getElem?→cq,mem_singleton→kq,nil_append→nz,not_mem_nil→nZ,take_left'→It,take_succ_cons→wH,take_zero→wI
open Go.Ag.aa renaming cells→nq
open Go.Ag.cz renaming meets→qX
open Go.IntKind renaming wrap_i64→oW
open List.cons renaming injEq→mR
open Go.Ag.bf renaming put→rf
open Nat renaming add_assoc→sS,beq→aA,ble_eq_true_of_le→bG,ble→aP,eq_of_beq_eq_true→gA,eq_zero_or_pos→MR,le_of_ble_eq_true→gS,le_refl→aC,le_succ_of_le→co,le_succ→iy,le_trans→dg,lt_irrefl→bJ,lt_succ_self→iA,zero_add→dS,zero_le→fT
open Go.Operand renaming tmp→aD
open Go.Proofs.Tryz renaming prog→ag
open Go.Ag.W renaming loopC→aF
open Go.Ag.WC renaming sound→aM
namespace Go.Proofs.YtakkigoeiahlcaaGreat
open Go.Ag
def QR:SC:=
 .seq (.seq (.region auq)
 (.block 0 (.seq (.region aur)
 (.cond (aD 101) (.region aus) (.seq (.region aut)
 (.cond (aD 106) (.seq (.region auu)
 (.seq (.region auw)
 (.seq (.region aux)
 (.cond (aD 121) (.seq (.region auy)
 .ret) .skip)))) (.seq (.region auz)
 (.cond (aD 124) (.seq (.seq (.region auA)
 (.seq (.region auB)
 (.cond (aD 131) (.seq (.region auC)
 .ret) .skip)))
 (.seq (.draw auD QM)
 .ret)) (.seq (.region auE)
 (.cond (aD 139) (.seq (.seq (.region auF)
 (.cond (aD 145) (.seq (.region auH)
 .ret) .skip))
 (.seq (.region auI)
 .ret)) (.seq (.region auJ)
 (.cond (aD 150) (.seq (.region auK)
 .ret) (.seq (.region auL)
 (.cond (aD 156) (.seq (.region auM)
 .ret) .skip))))))))))))))
 (.seq (.region auN)
 .ret)
def aaV:SC:=
 (.seq (.region auj)
 (.seq (.seq (.region auk)
 (.cond (aD 19) (.seq (.seq (.draw auv QL)
 (.seq (.region auG)
 (.cond (aD 31) (.seq (.region auO)
 .ret) .skip)))
 (.seq (.draw auP QO)
 .ret)) .skip))
 (.seq (.draw auQ QP)
 (.seq (.seq (.draw auR QQ)
 (.seq (.region auS)
 (.cond (aD 71) (.seq (.region auT)
 .ret) .skip)))
 (.seq (.region aul)
 (.seq (.region aum)
 (.seq (.seq (.region aun)
 (.seq (.region auo)
 (.cond (aD 97) (.seq (.region aup)
 .ret) .skip)))
 QR)))))))
def aui:(Tryz.f74.body).map dX=X aaV:=KK.2
attribute[go_sem]aaV
variable{Q:ay}[Std Q]
structure Uo (v:aa):Prop where
 of:∃tv ts err,v=.tup [tv,ah err]/\au 2 bW tv ts/\bn tv=true/\ts.length<small/\∀t∈ts,t.1.length<small
structure Nd (Q:ay) extends toTEd:Nb Q where
 w271:No Q 117
 w182:No Q 72
 w362:No Q 189
 w273:No Q 121
 w183:No Q 74
 h274:∃sp,Q.spec 122=some sp/\∀{tv:aa}{ts:wf}(k v:ae),au 2 bW tv ts->bn tv=true->(∀t∈ts,t.1.length<small)->ts.length<small->k.length<small->v.length<small->∃u,sp [tv,.str k,.str v]=some u/\Uo u
variable{lc:Ag.Loc}{K:hP}{l:ba}{bx m:Nat}{s:St}{ov:aa}{e:ax}
def ae1(T:Nd Q)(M:rj s bx m ov l){z:aK}(ge:z.AL)(hr:J z.gT<=20){o:Obj}(ho:o∈l)(hid:o.id=z.id)(a2:tx z.op o.Al=O)(a8:z.id≠[])(hj:aj z.op 7=O->∃p,cD z.other l=X p)(h0:ac e 0=.ptr bx 0)(R:ac e 3=.Gt 3 1 0)(N:ac e 4=.Gt 4 1 0)(D:ac e 11=.Gt 11 1 0)(Y:lc.gen 3=1)(U:lc.gen 4=1)(F:lc.gen 11=1)(V:lc.get 3 1=X z.cells)(S:lc.get 4 1=X [.Ge,.str [],ah 0])(B:lc.get 11 1=X o.cells)(hK:∀x e lc s' pv put d j,(x=.normal\/x=.ret)->Up s s'->au 6 Obj.val pv put->(j=0->qh l put d)->ac e 4=.Gt 4 1 0->lc.get 4 1=X [pv,.str d,ah j]->K x ⟨e,165,lc⟩ s'):WC Q 74 QR ⟨e,165,lc⟩ s K:=by
 have b7:=aab;have go:=M.good o ho;have rc:=go.all;have ec:=ge.gT.cs;have oc:=ge.obj.all;have a1:=M.mw;have b6:=T.w182;have b2:=T.w275;have b1:=T.w276;have a9:=T.w277;have a4:=iZ a1;have uR:=Up.refl a1;have a5:J l<=1000000:=by have:=M.len;omega
 have a7:∀q∈l,J q.gT<=1000000:=λq hq=>by have:=Ai hq;have:=M.gT;omega
 simp only[aK.cells]at V;simp only[Obj.cells]at B;have G:∀{o2:Obj},o2.AL->o2.id=o.id->o2.Al=o.Al->o2.gT=o.gT->qh l [o2] []:=λ{o2} g h1 h2 R=>
  .one ⟨g,λq hq e=>by rw[xt M.valid hq ho (e.trans h1),h2],λi r hi=>by rw[R]at hi;rw[h2];exact M.clo o ho i r hi⟩ (.inr ⟨o,ho,h1.symm,by rw[R];exact aC _⟩)
 have HK:∀{e:ax}{lc:Ag.Loc}{s':St}{pv:aa}(put:ba)(d:ae)(j:Int),Up s s'->au 6 Obj.val pv put->(j=0->qh l put d)->(a:ac e 4=.Gt 4 1 0:=by simp only[sN,seval,N])->(b:lc.get 4 1=X [pv,.str d,ah j]:=by simp only[sL,seval,Obj.val,Obj.cells,Obj.withR,cZ,nY])->K .ret ⟨e,165,lc⟩ s':=λput d j u h1 h2 a b=>hK .ret _ _ _ _ put d j (.inr rfl) u h1 h2 a b;unfold QR;cases e2:aj z.op 2 with
 |true=>
  simp only[go_sem,seval,h0,R,N,D,Y,U,F,V,S,B,rc,ec,oc,e2,sB];exact HK [{o with x:=z.x,y:=z.y }] [] 0 uR (.inr ⟨.GT,rfl⟩) λ_=>G ⟨⟨go.gT,go.uP,go.id,go.reflen,go.ref,go.taglen,go.key⟩,go.pr,go.pt⟩ rfl rfl rfl
 |false=>
 cases e3:aj z.op 3 with
 |true=>
  let⟨sp,h274,hsp274⟩:=T.h274
  obtain⟨u,hu,⟨tv,ts,j,rfl,t1,t2,t3,t4⟩⟩:=hsp274 z.key z.value go.uP go.pt go.key go.taglen ge.key ge.value;have tc:=t1.cs;cases he:aj j 0;simp only[go_sem,seval,h0,R,N,D,Y,U,F,V,S,B,rc,ec,oc,e2,e3,h274,hu,tc,he,sB];exact HK [] [] j uR (.inl R_) λe=>absurd e (of_decide_eq_false he);simp only[go_sem,seval,h0,R,N,D,Y,U,F,V,S,B,rc,ec,oc,e2,e3,h274,hu,tc,he,sB];exact HK [{o with tagsV:=tv,uP:=ts }] [] 0 uR (.inr ⟨.GT,rfl⟩) λ_=>G ⟨⟨go.gT,t1,go.id,go.reflen,go.ref,t3,t4⟩,go.pr,t2⟩ rfl rfl rfl
 |false=>
 cases e4:aj z.op 4 with
 |true=>
  have g2:(o.withR z.refsV z.gT).AL:=go.withR ge.gT ge.pr w_ ge.ref;have a0:=K8 g2;have a6:=T.h75;simp only[Obj.val,Obj.cells,Obj.withR]at a0;cases hv:dY (o.withR z.refsV z.gT);simp only[Obj.withR]at hv;rw[hv]at a0;simp only[go_sem,seval,h0,R,N,D,Y,U,F,V,S,B,rc,ec,oc,e2,e3,e4,a6,a0,sB];exact HK [] [] 1 uR (.inl R_) λe=>by cases e
  simp only[Obj.withR]at hv;rw[hv]at a0
  let⟨j,r182,hif⟩:=Sz T.w271 T.w182 (s:=s.top) ⟨M.at_.box,M.at_.kin,M.at_.b0,M.at_.m0⟩ g2 (by show J z.gT<=_;omega)
  simp only[Obj.val,Obj.cells,Obj.withR]at r182;simp only[go_sem,seval,h0,R,N,D,Y,U,F,V,S,B,rc,ec,oc,e2,e3,e4,a6,a0,sB];refine⟨a1,?_⟩;refine jx.quiet r182 d_ (by simp[fB,kE,qX]) ?_;simp only[go_sem,seval,h0,R,N,D,Y,U,F,V,S,B,rc,ec,oc,a4,sB];exact HK [o.withR z.refsV z.gT] [] j uR (.inr ⟨.GT,rfl⟩) (λh=>.one ⟨g2,λq hq e=>by rw[xt M.valid hq ho e];rfl,λi r hi=>(LG M.valid).1 (hif.1 h i r hi)⟩ (.inl hr))
 |false=>
 cases e5:aj z.op 5 with
 |true=>
  obtain⟨_,s2,a3,rfl,u⟩:=Sx T.h130 T.w261 T.w167 T.w370 T.w369 T.w76 T.w368 T.w275 M.at_ a1 M.isL M.good a5 a7 (ys:=.list 1 [.str z.id] .GT) (b:=[z.id]) (.inr ⟨.GT,rfl⟩) (by simp) I;simp only[go_sem,seval,h0,R,N,D,Y,U,F,V,S,B,rc,ec,oc,e2,e3,e4,e5,sB];refine aU.of a3 d_ ?_;cases hrf:l.any (vT I [z.id]);simp only[go_sem,seval,R,N,Y,U,V,S,ec,oc,dL];refine HK [] z.id 0 u (.inl R_) λ_=>.drop a8 λy hy r hr e'=>?_;have h:=List.any_eq_false.1 hrf y hy;refine h ?_;simp only[vT,Bool.not_false,uG,jo,E8];exact⟨r,hr,by rw[e'];simp⟩;simp only[go_sem,seval,R,N,Y,U,V,S,dL];exact HK [] [] 14 u (.inl R_) λe=>by cases e
 |false=>
 cases e6:aj z.op 6 with
 |true=>
  have hk:o.Al=2:=by
   have h:=a2;unfold tx at h;rw[e2,e4,e6]at h;exact of_decide_eq_true h
  have r:=aDt T.toTEd M ge ho hk;simp only[aK.val,aK.cells,Obj.val,Obj.cells]at r;simp only[go_sem,seval,h0,R,N,D,Y,U,F,V,S,B,rc,ec,oc,e2,e3,e4,e5,e6,sB];refine r.k d_ λs' pv put dr j u h1 h2=>?_;have pc:=h1.cs;simp only[go_sem,seval,N,U,S,pc];exact HK put dr j u h1 h2
 |false=>
 cases e7:aj z.op 7;simp only[go_sem,seval,h0,R,N,D,Y,U,F,V,S,B,rc,ec,oc,e2,e3,e4,e5,e6,e7,sB];exact HK [o] [] 0 uR (.inr ⟨.GT,rfl⟩) λ_=>G go rfl rfl rfl;have hk:o.Al=2:=by
  have h:=a2;unfold tx at h;rw[e2,e4,e6,e7]at h;exact of_decide_eq_true h
 let⟨p,hp⟩:=hj e7
 have r:=arw T.toTEd M ge ho hk hid hp;simp only[aK.val,aK.cells,Obj.val,Obj.cells]at r;simp only[go_sem,seval,h0,R,N,D,Y,U,F,V,S,B,rc,ec,oc,e2,e3,e4,e5,e6,e7,sB];refine r.k d_ λs' pv put dr j u h1 h2=>?_;have pc:=h1.cs;simp only[go_sem,seval,N,U,S,pc];exact HK put dr j u h1 h2
def amH(s:St)(F:s.gE<=s.aL):∃B z j h,mN ag [] 217 (.map s.aL) (.int .i64 2) (.list 1 [.int .i64 1] .GT) (s.new (.map [] 0))=X B/\mN ag [] 217 (.map s.aL) (.int .i64 4) (.list 1 [.int .i64 2,.int .i64 3,.int .i64 4] .GT) B=X z/\mN ag [] 217 (.map s.aL) (.int .i64 6) (.list 1 [.int .i64 2] .GT) z=X j/\mN ag [] 217 (.map s.aL) (.int .i64 7) (.list 1 [.int .i64 2] .GT) j=X h/\bf ah h s.aL Jq/\Up s h:=by
 have D:bf ah (s.new (.map [] 0)) s.aL []:=cr;have U:Up s (s.new (.map [] 0)):=(Up.refl F).new _;refine⟨_,_,_,_,lY GZ G3 D 2 _,lY GZ G3 rf 4 _,lY GZ G3 rf 6 _,lY GZ G3 rf 7 _,?_,(((U.put (aC _) _).put (aC _) _).put (aC _) _).put (aC _) _⟩;exact rf
variable{Q:ay}[Std Q]{f:FuncId}
def adn{d:ir}{g:SG}{mk:aI}{sz:Nat}(t:TypeId)(m k x:Operand):dJ Q f ⟨d,.insert t m k x,g⟩ mk ⟨e,sz,lc⟩ s=(evc e m).bind λm=>(evc e k).bind λk=>(evc e x).bind λx=>mH (mN Q.P mk t m k x s) lc:=rfl
variable{e:aK}
set_option maxHeartbeats 4000000 in
set_option maxRecDepth 4000 in
def az6(T:Nd Q)(M:rj s bx m ov l)(ge:e.AL)(hr:J e.gT<=20)(a2:J e.obj.gT<=20):Fi Q 74 [.ptr bx 0,e.val] s l:=by
 have S:=ge.gT.cs;have R:=ge.obj.all;have hb:=M.at_.box;have j:=M.mw;have a7:=T.w183;have a8:=T.w182;have a6:=T.w272;have a5:=T.w273;have z:=iZ j;have a0:J l<=1000000:=by have:=M.len;omega
 refine ai.ofNR KK.1 aui KK.3 KK.4 (aM ?_);cases e1:aj e.op 1 with
 |true=>
  have F:=nM gn rZ uD (s:=s.top) M.at_.kin e.obj.id;rw[DT]at F
  let⟨D,r182,hif⟩:=Sz T.w271 T.w182 (s:=s.top) ⟨M.at_.box,M.at_.kin,M.at_.b0,M.at_.m0⟩ ge.obj w_
  simp only[Obj.val,Obj.cells]at r182;simp only[go_sem,seval,aK.val,aK.cells,S,R,e1,dL];refine⟨j,?_⟩;cases hq:cD e.obj.id l with
  |some q=>
   rw[hq]at F;simp only[kV,iu]at F;simp only[go_sem,seval,hb,F,S,R,z,dL];exact⟨_,rfl,Up.refl j,_,[],_,_,rfl,.inl R_,λh=>by cases h⟩
  |none=>
   rw[hq]at F;simp only[n8,iu]at F;simp only[go_sem,seval,hb,F,S,R,z,sB,j];refine jx.quiet r182 d_ (by simp[fB,kE,qX]) ?_;simp only[go_sem,seval,S,R,z,sB];refine⟨_,rfl,Up.refl j,_,[e.obj],[],D,rfl,.inr ⟨.GT,rfl⟩,λh=>.one ⟨ge.obj,λq a1 e'=>?_,λi r hi=>(LG M.valid).1 (hif.1 h i r hi)⟩ (.inl a2)⟩;have h:=BO M.valid a1;rw[e',hq]at h;cases h
 |false=>
  have B:=nM gn rZ uD (s:=s.top) M.at_.kin e.id;have N:=nM gn rZ uD (s:=s.top) M.at_.kin e.other;rw[DT]at B N;obtain⟨k2,b2,a3,a4⟩:∃(k2:Int)(b2:Bool),iu (ah 0) ((cD e.other l).map λq=>ah q.Al)=.tup [ah k2,.bool b2]/\(b2=O->∃p,cD e.other l=X p):=by
   rcases h:cD e.other l with _|p
   exact⟨0,I,rfl,λh=>by cases h⟩;exact⟨p.Al,O,rfl,λ_=>⟨p,rfl⟩⟩
  rw[a3]at N;cases hq:cD e.id l with
  |none=>
   rw[hq]at B;simp only[n8,iu]at B;simp only[go_sem,seval,aK.val,aK.cells,S,R,e1,dL,hb,B,z,N,j];exact⟨_,rfl,Up.refl j,_,[],_,_,rfl,.inl R_,λh=>by cases h⟩
  |some o=>
   let⟨hol,hoid⟩:=oN hq
   have go:=M.good o hol;have rc:=go.all;have V:=M.valid;simp only[bm,bg]at V;have hide:e.id≠[]:=by rw[<-hoid];exact Mv (sm l [] V.1 o hol)
   rw[hq]at B;simp only[kV,iu]at B
   let⟨s1,r272,u1⟩:=WW T.h32 T.w272 M.at_ j M.isL M.good a0 hq
   have M1:=M.up u1;simp only[Obj.val,Obj.cells]at r272
   let⟨x1,x2,x3,x4,y1,y2,y3,y4,hF,u2⟩:=amH s1 u1.mw
   have M4:=M1.up u2;have uu:=u1.trans u2;have G:=nM GZ G3 afA hF e.op;have hK:∀x e lc s' Y put d D,(x=.normal\/x=.ret)->Up x4 s'->au 6 Obj.val Y put->(D=0->qh l put d)->ac e 4=.Gt 4 1 0->lc.get 4 1=X [Y,.str d,ah D]->(x=Ex.normal\/x=Ex.ret)/\∃v,(jm Q [] (⟨e,165,lc⟩:Fr) s' [ResultVar.cell 4 156]).map nh=X v/\(Up s s'/\∃Y put d D,v=.agg [Y,.str d,ah D]/\au 6 Obj.val Y put/\(D=0->qh l put d)):=λx e lc s' Y put d D hx u h1 h2 h4 l4=>by
    have pc:=h1.cs;refine⟨hx,?_⟩;simp only[go_sem,seval,h4,l4,pc];exact⟨_,rfl,uu.trans u,_,put,_,_,rfl,h1,h2⟩
   simp only[go_sem,seval]at hK;cases e7:aj e.op 7<;>cases b2
   case true.false=>
    simp only[go_sem,seval,aK.val,aK.cells,S,R,e1,dL,hb,B,z,N,e7,j];exact⟨_,rfl,Up.refl j,_,[],_,_,rfl,.inl R_,λh=>by cases h⟩
   all_goals
    have hj:aj e.op 7=O->∃p,cD e.other l=X p:=λh=>by first|exact a4 rfl|exact absurd (e7.symm.trans h) d_
    rcases amG e.op with⟨fl,f1,f2,f3⟩|⟨f1,f3⟩
    have U:=aj8 T.w362 T.w273 (v:=xf fl) (.inr ⟨.GT,rfl⟩) w_ o.Al x4;rw[f3]at U;rw[f1]at G;simp only[iu]at G;have fc:(xf fl).gt=O/\(xf fl).cells=[xf fl]:=R_;simp only[go_sem,seval,aK.val,aK.cells,S,R,e1,dL,hb,B,z,N,e7,j];refine aU.of r272 d_ ?_;simp only[go_sem,seval,rc,S,R,jA,adn,y1,y2,y3,y4,G,fc,sB];refine aU.of U d_ ?_;cases hfit:tx e.op o.Al with
    |false=>
     simp only[go_sem,seval,dL];exact⟨_,rfl,uu,_,[],_,_,rfl,.inl R_,λh=>by cases h⟩
    |true=>
     simp only[go_sem,seval];refine ae1 T M4 ge hr hol hoid hfit hide hj ?_ ?_ ?_ ?_ ?_ ?_ ?_ ?_ ?_ ?_ hK<;>first|(simp only[sN,seval];done)|rfl
    rw[f1]at G;simp only[iu]at G;simp only[go_sem,seval,aK.val,aK.cells,S,R,e1,dL,hb,B,z,N,e7,j];refine aU.of r272 d_ ?_;simp only[go_sem,seval,rc,S,R,jA,adn,y1,y2,y3,y4,G,sB];refine ae1 T M4 ge hr hol hoid (f3 _) hide hj ?_ ?_ ?_ ?_ ?_ ?_ ?_ ?_ ?_ ?_ hK<;>first|(simp only[sN,seval];done)|rfl
structure IE (l l':ba):Prop where
 good:∀o∈l',o.AL
 valid:bm l'=true
 clo:wO l'
 len:l'.length<=l.length+2
 gT:dK l'<=dK l+20
variable{x:Obj}
def Dy(z:∀o∈l,o.AL)(B:x.AL):∀o∈fI l x,o.AL:=λo j=>by
 rcases adG j with rfl|h
 exact B;exact z o h
def jl(l:ba)(put:ba):ba:=put.foldl fI l
def yX.step{y:Obj}(z:bm l=O)(B:yX l x)(j:yX l y)(D:x.Al=y.Al):yX (fI l x) y where
 good:=j.good
 Al o ho e:=by
  rcases(z7 z x o).1 ho with rfl|⟨h,_⟩
  exact D;exact j.Al o h e
 ref i r hi:=by
  let⟨q,hq,h2,h3⟩:=j.ref i r hi
  by_cases e:q.id=x.id;exact⟨x,(z7 z x x).2 (.inl rfl),e.symm.trans h2,by rw[<-h3,B.Al q hq e]⟩;exact⟨q,(z7 z x q).2 (.inr ⟨hq,e⟩),h2,h3⟩
variable{d:ae}
def akL{put:ba}(h:qh l put d):(∀x∈put,x.AL)/\J put<=2:=by
 cases h with
 |one h _=>exact⟨λx j=>by rw[kq]at j;rw[j];exact h.good,by simp⟩
 |two h g _ _ _ _=>
  refine⟨λx j=>?_,by simp⟩;simp only[dD,nZ,or_false]at j;rcases j with rfl|rfl
  exact h.good;exact g.good
 |drop _ _=>exact⟨λx j=>(by cases j),by simp⟩
 |join h _ _ _ _ _ _ _=>exact⟨λx j=>by rw[kq]at j;rw[j];exact h.good,by simp⟩
def akM{put:ba}(j:bm l=O)(R:∀o∈l,o.AL)(S:wO l)(hl:J l<=900)(h:qh l put d)(D:∀x∈put,dY x=O):
 (d=[]->IE l (jl l put))/\(d≠[]->gY (jl l put) d (dU d (jl l put))=O->IE l (lJ (jl l put) d)):=by
 cases h with
 |one r sz=>
  rename_i x;refine⟨λ_=>?_,λh=>absurd rfl h⟩
  let⟨n1,n2,n3⟩:=Er j x
  refine⟨Dy R r.good,EX j (D x (by simp)) w_,I7 j S r.Al r.ref,co n1,?_⟩;show dK (fI l x)<=_;rcases sz with h|⟨o,z,e,h⟩
  omega
  have:=n3 o z e;omega
 |two F ry hk z hid sz=>
  rename_i x y o;refine⟨λ_=>?_,λh=>absurd rfl h⟩;have h1:bm (fI l x)=O:=EX j (D x (by simp)) w_
  let⟨n1,n2,n3⟩:=Er j x
  have h2:bm (fI (fI l x) y)=O:=EX h1 (D y (by simp)) w_
  let⟨m1,m2,m3⟩:=Er h1 y
  have c1:=I7 j S F.Al F.ref;have G:=F.step j ry hk;have e1:=n3 o z hid;refine⟨Dy (Dy R F.good) ry.good,h2,I7 h1 c1 G.Al G.ref,?_,?_⟩;show(fI (fI l x) y).length<=_;omega;show dK (fI (fI l x) y)<=_;omega
 |drop hd hn=>
  refine⟨λh=>absurd h hd,λ_ B=>?_⟩;have B:gY l d (dU d l)=O:=B
  let⟨n1,n2⟩:=adR j B
  let⟨o,z,hid⟩:=Dq B
  have:=n2 o (cq z) hid;refine⟨λo D=>R o ((KT j B o).1 D).1,afj j d,Vy j S B λo D _ r T=>hn o D r T,?_,?_⟩;exact dg n1 (Nat.le_add_right _ _);show dK (lJ l d)<=_;have:dK (lJ l d)+J o.gT=dK l:=this;omega
 |join F z V hid Y U sz hn=>
  rename_i x o p;refine⟨λh=>absurd h U,λ_ B=>?_⟩;have N:bm (fI l x)=O:=EX j (D x (by simp)) w_;have B:gY (fI l x) p.id (dU p.id (fI l x))=O:=B
  let⟨n1,n2,n3⟩:=Er j x
  have c1:=I7 j S F.Al F.ref
  let⟨m1,m2⟩:=adR N B
  have e1:=n3 o z hid;have e2:=m2 p ((z7 j x p).2 (.inr ⟨V,λe=>Y (hid.trans e.symm)⟩)) rfl;have g1:=Dy R F.good;refine⟨λo D=>g1 o ((KT N B o).1 D).1,afj N p.id,Vy N c1 B λy hy h r T=>?_,?_,?_⟩;refine hn y ?_ h r T;rcases(z7 j x y).1 hy with h|h
  exact .inl h;exact .inr h.1;show(lJ (fI l x) p.id).length<=_;omega;show dK (lJ (fI l x) p.id)<=_;omega
def aAx(j:∀o∈l,o.AL):∀{put:ba},(∀x∈put,x.AL)->∀o∈jl l put,o.AL:=λ{put}=>by
 induction put generalizing l with
 |nil=>exact λ_=>j
 |cons x r z=>exact λh=>z (Dy j (h x gz)) λy B=>h y (ig _ B)
variable{n:Nat}
def adI(h:bm l=O)(D:J l<=n):∀{put:ba},n+J put<=1000->(∀x∈put,dY x=O)->bm (jl l put)=O/\(jl l put).length<=n+J put:=λ{put}=>by
 induction put generalizing l n with
 |nil=>exact λ_ _=>⟨h,D⟩
 |cons x r z=>
  intro F j;have G:=(Er h x).1;simp only[bP]at F⊢
  let⟨a,b⟩:=z (n:=n+1) (EX h (j x gz) w_) w_ w_ λy B=>j y (ig _ B)
  exact⟨a,by show(jl (fI l x) r).length<=_;omega⟩
def aAz{put:ba}(h:bm l=O)(z:J l<=900)(B:J put<=2)(j:∀x∈put,dY x=O):bm (jl l put)=O:=(adI h z w_ j).1
def aAy{put:ba}(h:bm l=O)(z:J l<=900)(B:J put<=2)(j:∀x∈put,dY x=O):(jl l put).length<=902:=dg (adI h z w_ j).2 w_
def aAq(j:au 6 Obj.val ov l)(B:∀q∈l,q.AL)(z:J l<=1000)(D:x.AL):B7 [.agg [ov],x.val]=X (bif bm l&&dY x then Eb (fI l x)else Di 1):=by
 have h:=aab;simp only[aaf,B7,rp j B w_,Nu D,dQ z]
def akG(j:au 6 Obj.val ov l)(B:∀q∈l,q.AL)(z:J l<=1000)(id:ae):Dg [.agg [ov],.str id]=X (bif bm l&&gY l id (dU id l)then Eb (lJ l id)else Di (bif bm l then 11 else 1)):=by
 have h:=aab;simp only[aaf,Dg,rp j B w_,dQ z]
structure wV (Q:ay) extends toTPf:Nd Q where
 h34:Q.spec 75=some B7
 h184:Q.spec 76=some Dg
 h31:Q.spec 20=some gI
 h269:Q.spec 118=some tW
 w70:No Q 186
 w373:No Q 254
 w279:No Q 187
 w270:No Q 119
 w180:No Q 73
 w96:No Q 35
 w97:No Q 36
 w43:No Q 17
def aAw(a4:Q.spec 75=X B7){put:ba}(hg:∀o∈l,o.AL)(hv:bm l=O)(hl:J l<=900){pv:aa}(hp:au 6 Obj.val pv put)(gp:∀x∈put,x.AL)(a1:J put<=2){x6:az}(V:∀e lc lv,au 6 Obj.val lv (jl l put)->(∀x∈put,dY x=O)->ac e 4=.Gt 4 1 0->ac e 6=.Gt 6 1 0->ac e 7=.Gt 7 1 0->lc.gen 4=1->lc.gen 6=1->lc.gen 7=1->lc.get 4 1=X [.Ge]->lc.get 6 1=X x6->lc.get 7 1=X [lv]->K (.exit 0) ⟨e,58,lc⟩ s)(hr:∀e lc,ac e 4=.Gt 4 1 0->ac e 5=ah 1->lc.gen 4=1->lc.get 4 1=X [.Ge]->K .ret ⟨e,58,lc⟩ s):
 ∀(rest j:ba)(e:ax)(lc:Ag.Loc)(lv:aa),put=j++rest->au 6 Obj.val lv (jl l j)->(∀x∈j,dY x=O)->bm (jl l j)=O->(∀o∈jl l j,o.AL)->(jl l j).length<=J l+J j->
  ac e 4=.Gt 4 1 0->ac e 6=.Gt 6 1 0->ac e 7=.Gt 7 1 0->ac e 30=pv->ac e 31=an (J put)->ac e 32=an (J j)->lc.gen 4=1->lc.gen 6=1->lc.gen 7=1->lc.get 4 1=X [.Ge]->lc.get 6 1=X x6->lc.get 7 1=X [lv]->W Q 36 (.loop Km) ⟨e,58,lc⟩ s K:=by
 intro rest;have a3:=hp.cs
 induction rest with
 |nil=>
  intro j e lc lv h1 G T F U a9 e4 e6 e7 R D N Y g6 g7 l4 l6 l7;have b0:=cL h1;have a1:j=put:=by rw[h1];simp
  subst a1;refine aF ?_;simp only[go_sem,seval,Km,D,N,bJ];exact V _ _ lv G T (by simp only[sN,seval,e4]) (by simp only[sN,seval,e6]) (by simp only[sN,seval,e7]) Y g6 g7 l4 l6 l7
 |cons x rest ih=>
  intro j e lc lv h1 G T F U a9 e4 e6 e7 R D N Y g6 g7 l4 l6 l7
  let⟨hlt,hat⟩:=cR h1
  have gx:=gp x (cq hat);have rc:=gx.all;have a0:=G.cs;have a2:=λlc k=>hp.at ek.2.2.1 hat lc k;have a7:=cm (n:=J j) w_;have B:=aAq G U w_ gx;rw[F,jo]at B;have z:jl l (j++[x])=fI (jl l j) x:=by unfold jl;rw[List.foldl_append];rfl
  simp only[Obj.val,Obj.cells]at B;have a5:aj 1 0=I:=rfl;have a6:aj 0 0=O:=rfl;refine aF ?_;cases V:dY x with
  |false=>
   rw[V]at B;simp only[cF,Di]at B;simp only[go_sem,seval,Km,e4,e7,R,D,N,Y,g7,l4,l7,hlt,a3,a2,Obj.val,Obj.cells,rc,a0,a4,B,a5,dL];refine hr _ _ ?_ ?_ ?_ ?_<;>simp only[sN,sL,seval,e4,Y]
  |true=>
   rw[V]at B;have S:au 6 Obj.val (.list 6 ((fI (jl l j) x).map Obj.val) .no) (jl l (j++[x])):=.inr ⟨.no,by rw[z]⟩;have nc:=S.cs;have a8:bm (jl l (j++[x]))=O:=by rw[z];exact EX F V w_
   have hn:=(Er F x).1;rw[<-z]at hn;simp only[cT,Eb]at B;simp only[go_sem,seval,Km,e4,e6,e7,R,D,N,Y,g7,l4,l7,hlt,a3,a2,Obj.val,Obj.cells,rc,a0,a4,B,nc,a6,a7];refine ih (j++[x]) _ _ _ (db h1) S (λy hy=>?_) a8 (by rw[z];exact Dy U gx) (by simp only[aag];omega) ?_ ?_ ?_ ?_ ?_ ?_ ?_ ?_ ?_ ?_ ?_ ?_;rcases fJ.1 hy with h|h
   exact T y h;rw[kq]at h;rw[h];exact V
   all_goals simp only[sN,sL,seval,e4,e6,e7,R,D,Y,g6,g7,l4,l6,sA]
def agO(T:wV Q)(M:rj s bx m ov l)(ge:e.AL)(hr:J e.gT<=20)(a2:J e.obj.gT<=20):
 ∃v s',ai Q 36 [.ptr bx 0,e.val] s v s'/\(Up s s'/\∃Y z,v=.tup [.agg [Y],ah z]/\((z≠0/\Y=.Ge)\/(z=0/\∃l',au 6 Obj.val Y l'/\IE l l'))):=by
 have ec:=ge.gT.cs;have oc:=ge.obj.all;have S:=M.mw;have a6:=T.w97;have a5:=T.w180;have a4:=T.w183;have B:=M.isL.cs
 let⟨b,r180⟩:=Ts T.h75 T.h269 T.w70 T.w373 T.w279 T.w270 T.w180 ge S
 have D:=az6 T.toTPf M ge hr a2;simp only[aK.val,aK.cells]at r180 D;refine ai.ofNRZ atC (aM ?_);simp only[go_sem,seval,aK.val,aK.cells,ec,oc,dL];refine aU.of r180 d_ ?_;cases b with
 |false=>
  simp only[go_sem,seval,dL];exact⟨_,rfl,Up.refl S,_,1,rfl,.inl ⟨d_,rfl⟩⟩
 |true=>
  simp only[go_sem,seval,ec,oc];refine D.k d_ λs' pv put d z u h1 h2=>?_;have pc:=h1.cs;have M2:=M.up u;have hb:=M2.at_.box;have a0:=h1.lenS ek;cases he:aj z 0 with
  |false=>
   simp only[go_sem,seval,pc,he,iZ u.mw,dL,u.mw];exact⟨_,rfl,u,_,z,rfl,.inl ⟨of_decide_eq_false he,rfl⟩⟩
  |true=>
   have ef:=h2 (of_decide_eq_true he)
   let⟨gp,hpl⟩:=akL ef
   simp only[go_sem,seval,pc,he,hb,B,a0];refine aAw T.h34 M.good M.valid M.len h1 gp hpl (x6:=[pv,.str d,ah z]) (λe lc Y G B V e6 e7 U g6 g7 R l6 l7=>?_) (λe lc V e5 U R=>?_) put [] _ _ ov rfl M.isL (λx h=>by cases h) M.valid M.good (aC _) ?_ ?_ ?_ ?_ ?_ ?_ ?_ ?_ ?_ ?_ ?_ ?_;have vc:=G.cs
   let⟨n1,n2⟩:=akM M.valid M.good M.clo M.len ef B
   cases hd:d== [];have N:d≠[]:=λe=>by rw[e]at hd;cases hd
   have a3:∀o∈jl l put,o.AL:=aAx M.good gp;have a1:bm (jl l put)=O:=aAz M.valid M.len hpl B;have j:=akG G a3 (by have:=aAy M.valid M.len hpl B;have:=M.len;omega) d;rw[a1,jo]at j;cases hf:gY (jl l put) d (dU d (jl l put));rw[hf]at j;simp only[cF,cT,Di]at j;simp only[go_sem,seval,V,e6,e7,U,g6,g7,R,l6,l7,vc,hd,T.h184,j];exact⟨_,rfl,u,_,11,rfl,.inl ⟨d_,rfl⟩⟩;rw[hf]at j;simp only[cT,Eb]at j;have F:au 6 Obj.val (.list 6 ((lJ (jl l put) d).map Obj.val) .no) (lJ (jl l put) d):=.inr ⟨.no,rfl⟩;have nc:=F.cs;simp only[go_sem,seval,V,e6,e7,U,g6,g7,R,l6,l7,vc,hd,T.h184,j,nc];exact⟨_,rfl,u,_,0,rfl,.inr ⟨rfl,_,F,n2 N hf⟩⟩;have N:d=[]:=by simpa using hd
   simp only[go_sem,seval,V,e6,e7,U,g6,g7,R,l6,l7,vc,hd];exact⟨_,rfl,u,_,0,rfl,.inr ⟨rfl,_,G,n1 N⟩⟩;simp only[go_sem,seval,V,e5,U,R];exact⟨_,rfl,u,_,1,rfl,.inl ⟨d_,rfl⟩⟩
   all_goals first|rfl|simp only[sN,sL,seval,bC]
   all_goals rfl
structure qm (n:Nat) (l l':ba):Prop where
 good:∀o∈l',o.AL
 valid:bm l'=true
 clo:wO l'
 len:l'.length<=l.length+2*n
 gT:dK l'<=dK l+20*n
def qm.step{j h:ba}(a:qm n l j)(b:IE j h):qm (n+1) l h:=
 ⟨b.good,b.valid,b.clo,by have:=a.len;have:=b.len;omega,by have:=a.gT;have:=b.gT;omega⟩
structure od (e:aK):Prop extends toGood:e.AL where
 r20:e.gT.length<=20
 o20:e.obj.gT.length<=20
variable{es:MB}
def agR(T:wV Q)(hl:J l<=800)(a7:dK l<=700){ev:aa}(he:au 15 aK.val ev es)(hf:∀e∈es,od e)(a8:J es<=10){s0:St}(hx:∀e lc s bx m ov l',Up s0 s->rj s bx m ov l'->qm (J es) l l'->ac e 4=.Gt 4 1 0->ac e 7=.ptr bx 0->lc.gen 4=1->lc.get 4 1=X [.Ge]->K (.exit 0) ⟨e,42,lc⟩ s)(hr:∀e lc s (i B:Int),Up s0 s->B≠0->ac e 4=.Gt 4 1 0->ac e 5=ah i->ac e 6=ah B->lc.gen 4=1->lc.get 4 1=X [.Ge]->K .ret ⟨e,42,lc⟩ s):
 ∀(rest h:MB)(e:ax)(lc:Ag.Loc)(s:St)(bx m:Nat)(ov:aa)(l':ba),es=h++rest->Up s0 s->rj s bx m ov l'->qm (J h) l l'->
  ac e 4=.Gt 4 1 0->ac e 7=.ptr bx 0->ac e 17=ev->ac e 18=an (J es)->ac e 19=an (J h)->lc.gen 4=1->lc.get 4 1=X [.Ge]->W Q 17 (.loop JX) ⟨e,42,lc⟩ s K:=by
 intro rest;have a0:=he.cs;have a5:=T.w97;have a6:=T.w96
 induction rest with
 |nil=>
  intro h e lc s bx m ov l' h1 hu M N S e7 F D j g4 l4;have V:=cL h1;rw[V]at N;refine aF ?_;simp only[go_sem,seval,JX,D,j,V,bJ];exact hx _ _ _ _ _ _ _ hu M N (by simp only[sN,seval,S]) (by simp only[sN,seval,e7]) g4 l4
 |cons x rest ih=>
  intro h e lc s bx m ov l' h1 hu M N S e7 F D j g4 l4
  let⟨hlt,hat⟩:=cR h1
  have fx:=hf x (cq hat);have xc:=fx.gT.cs;have yc:=fx.obj.all;have Y:=λlc k=>he.at nk.2.2.1 hat lc k;have a2:=cm (n:=J h) w_;obtain⟨v,s1,G,u1,lv,B,rfl,z⟩:=agO T M fx.toGood fx.r20 fx.o20;simp only[aK.val,aK.cells]at G;rcases z with⟨U,rfl⟩|⟨rfl,l2,R,N2⟩
  have a3:aj B 0=I:=dN U;refine aF ?_;simp only[go_sem,seval,JX,S,e7,F,D,j,hlt,a0,Y,aK.val,aK.cells,xc,yc];refine aU.of G d_ ?_;simp only[go_sem,seval,S,g4,l4,a3,dL];refine hr _ _ s1 (J h:Nat) B (hu.trans u1) U ?_ ?_ ?_ ?_ ?_<;>simp only[sN,sL,seval,S,j,g4];have a4:aj 0 0=O:=rfl;have vc:=R.cs;have N3:=N.step N2;have b1:=N3.len;have b2:=N3.gT
  let⟨v2,s2,r96,u2,z⟩:=acG T.h31 T.w271 T.w182 T.w96 R N2.good w_ (λo ho=>by have:=Ai ho;omega) u1.mw
  rcases z with⟨_,hn⟩|⟨a1,m2,rfl,C2,v3,c3⟩
  exact absurd ⟨N2.valid,(VA N2.valid).2 N2.clo⟩ hn;have M2:rj s2 a1 m2 lv l2:=⟨C2,u2.mw,R,N2.good,N2.valid,N2.clo,w_,w_⟩;refine aF ?_;simp only[go_sem,seval,JX,S,e7,F,D,j,hlt,a0,Y,aK.val,aK.cells,xc,yc];refine aU.of G d_ ?_;simp only[go_sem,seval,a4,vc];refine aU.of r96 d_ ?_;simp only[go_sem,seval,j,a2];refine ih (h++[x]) _ _ s2 a1 m2 lv l2 (db h1) ((hu.trans u1).trans u2) M2 (by simpa using N3) ?_ ?_ ?_ ?_ ?_ ?_ ?_<;>simp only[sN,sL,seval,S,F,D,g4,l4,sA]
def agS(T:wV Q)(R:au 6 Obj.val ov l)(Y:∀o∈l,o.AL)(hl:J l<=800)(G:dK l<=700){ev:aa}(he:au 15 aK.val ev es)(hf:∀e∈es,od e)(a0:J es<=10)(U:s.gE<=s.aL):
 ∃v s',ai Q 17 [.agg [ov],ev] s v s'/\(Up s s'/\∃mv i j,v=.tup [.agg [mv],ah i,ah j]/\((j≠0/\mv=.Ge)\/(j=0/\∃l',au 6 Obj.val mv l'/\qm (J es) l l'))):=by
 have z:=R.cs;have a3:=T.w43;have a2:=T.w96;have a1:=he.cs;have V:=he.lenS nk
 let⟨v,s1,r96,u1,hres⟩:=acG T.h31 T.w271 T.w182 T.w96 R Y w_ (λo h=>by have:=Ai h;omega) U
 refine ai.ofNRZ asA (aM ?_);rcases hres with⟨rfl,_⟩|⟨bx,m,rfl,C,F,hc⟩
 have e1:cP ag .eql 79 .nilp .nilp=X (.bool O):=k_
 simp only[go_sem,seval,z];refine aU.of r96 d_ ?_;simp only[go_sem,seval,acK,u6,e1,dL];exact⟨_,rfl,u1,_, -1,1,rfl,.inl ⟨d_,rfl⟩⟩
 ·have e1:cP ag .eql 79 (.ptr bx 0) .nilp=X (.bool I):=by kernel_rfl
  have M:rj s1 bx m ov l:=⟨C,u1.mw,R,Y,F,(VA F).1 hc,w_,w_⟩;simp only[go_sem,seval,z];refine aU.of r96 d_ ?_;simp only[go_sem,seval,acK,u6,e1,a1,V];refine agR T hl G he hf a0 (s0:=s1) (λe lc s2 a5 m2 a4 l2 B M2 N e4 e7 g4 D=>?_) (λe lc s2 i j B S e4 e5 e6 g4 D=>?_) es [] _ _ s1 bx m ov l rfl (Up.refl u1.mw) M ⟨Y,F,M.clo,aC _,aC _⟩ ?_ ?_ ?_ ?_ ?_ ?_ ?_;have hb:=M2.at_.box;have vc:=M2.isL.cs;simp only[go_sem,seval,e4,e7,g4,D,hb,vc];exact⟨_,rfl,u1.trans B,_, -1,0,rfl,.inr ⟨rfl,_,M2.isL,N⟩⟩;simp only[go_sem,seval,e4,e5,e6,g4,D];exact⟨_,rfl,u1.trans B,_,i,j,rfl,.inl ⟨S,rfl⟩⟩
  all_goals first|rfl|simp only[sN,sL,seval,bC]
  all_goals rfl
end Go.Proofs.YtakkigoeiahlcaaGreat
namespace Go.Ag
open Go
variable{α:Type}
def ahc(a:Ask α):∀w:World,w.drawn<=(w.ask a).2.drawn:=by
 induction a with
 |done a=>exact λw=>aC _
 |ask j h k z=>
  intro w;simp only[World.ask];split;exact z _ _;exact Nat.le_of_succ_le (z _ {w with drawn:=w.drawn+1 })
def aDV(w:World)(c:Sys):w.drawn<=(w.sys c).2.drawn:=by
 have h:=ahc (Kernel.perform c w.os) w;unfold World.sys;split;exact aC _;rename_i e;rw[e]at h;exact h
def wR{α:Type}:Result α->World|.ok _ w=>w|.halt _ w=>w
variable{p:Program}{v:Value}{w w':World}
def aml{a:Addr}{b:Bool}{l:List Addr}(h:w.farStore p a v b=.ok (w',l)):w.drawn<=w'.drawn:=by
 unfold World.farStore at h;split at h
 ·split at h
  ·rename_i e
   cases h;simp only[World.viewStore,bind,Except.bind,pure,Except.pure]at e
   repeat' first
    |(cases e;done)
    |(injection e with e;injection e with e _;subst e;exact aC _)
    |split at e
  cases h
 cases h
def aCk(p:Program)(e:Sem α):∀w,w.drawn<=(wR (e.run p w)).drawn:=by
 induction e with
 |pure a=>exact λw=>aC _
 |halt h=>exact λw=>aC _
 |load m a k j=>intro w;simp only[Sem.run];(repeat' split)<;>first|exact j _ w|exact aC _
 |store m a v k j=>
  intro w;cases v<;>simp only[Sem.run]<;>(repeat' split)<;>first
   |exact aC _
   |exact j (w.setCell _ _)
   |exact dg (aml ‹_›) (j _)
 |new o k j=>exact λw=>j _ {w with heap:=w.heap.push o }
 |shape r k j=>exact λw=>j _ w
 |freeze a n k j=>
  intro w;refine dg ?_ (j (w.freeze a n));unfold World.freeze;split<;>exact aC _
 |frozen a k j=>exact λw=>j _ w
 |getObj r k j=>intro w;simp only[Sem.run];(repeat' split)<;>first|exact j _ w|exact aC _
 |setObj r o k j=>intro w;simp only[Sem.run];(repeat' split)<;>first|exact j {w with heap:=w.heap.setIfInBounds r o }|exact aC _
 |choose q k j=>intro w;simp only[Sem.run];split<;>first|exact j _ w|exact Nat.le_of_succ_le (j _ {w with drawn:=w.drawn+1 })
 |sys c k j=>exact λw=>dg (aDV w c) (j _ _)
 |program k j=>exact λw=>j _ w
 |mark m k j=>exact λw=>j w
def pN{e:Sem α}{r:Result α}(h:e.run p w=r):w.drawn<=(wR r).drawn:=h▸aCk p e w
def aCe{e:Sem α}{l l':Array Event}{r:Result α}(h:e.runT p w l=(r,l')):w.drawn<=(wR r).drawn:=
 pN (by rw[<-Sem.runT_fst p e w l,h])
def wG:GStep->Option World
 |.go _ w _|.comm _ _ _ _ w _|.spawn _ _ w _|.count _ w _|.timer _ _ w _|.alone _ _ w _|.newcoro _ _ _ w _|.coroswitch _ _ _ w _|.collect _ w _|.watch _ w _=>X w
 |.ended .. =>Z
structure jc (n:Nat) (s:GStep):Prop where
 le:∀w,wG s=some w->n<=w.drawn
variable{s:GStep}{n:Nat}
def jc.to{m:Nat}(h:jc m s)(h1:n<=m):jc n s:=⟨λw e=>dg h1 (h.le w e)⟩
variable{a:GStep}
def jc.ite{c:Prop}[Decidable c]{b:GStep}(h1:jc n a)(h:jc n b):jc n (if c then a else b):=by
 split<;>assumption
def jc.elim{o:Option α}{f:α->GStep}(h1:jc n a)(h:∀k,jc n (f k)):jc n (o.elim a f):=by
 cases o;exact h1;exact h _
def G4{es:Array Event}(h:jc n s):jc n (s.after es):=by
 cases s<;>exact⟨λw e=>h.le w e⟩
def zzl{p:Prop}(h:p:=by refine⟨λw0 j=>?_⟩;first|(cases j;done)|(cases j;first|exact aC _|exact pN ‹_›)):p:=h
def Ms(fr:Frame)(m:String)(w:World):jc w.drawn (endThrow fr m w):=by
 unfold endThrow dieOf;exact zzl
def adv(p:Program)(fr:Frame)(v:Value)(w:World):jc w.drawn (endPrinting p fr v w):=by
 unfold endPrinting;simp only[]
 repeat' first
  |exact Ms _ _ _
  |exact zzl
  |split
def Wo(p:Program)(fr:Frame)(cs:List Frame)(d:Option Dying)(m:String)(w:World):jc w.drawn (endFatal p fr cs d m w):=by
 unfold endFatal dieOf;simp only[]
 repeat' first
  |exact zzl
  |split
def aF7(p:Program)(fr:Frame)(d:Dying)(f:Fatal)(w:World):jc w.drawn (writeOn p fr d f w):=by
 unfold writeOn;simp only[];split;exact zzl;generalize hr:Sem.runT p _ w #[]=r;have j:=aCe (r:=r.1) (l':=r.2) hr
 repeat' first
  |(refine⟨λw0 h=>?_⟩;first|(cases h;done)|(cases h;exact j))
  |split
def akx(p:Program)(fr:Frame)(d:Dying)(w:World):jc w.drawn (die p fr d w):=by
 unfold die endWith;simp only[Sem.runT_fst]
 repeat' first
  |exact aF7 ..
  |exact zzl
  |exact(adv ..).to (pN ‹_›)
  |apply G4
  |split
def SD(p:Program)(h:Bool)(fr:Frame)(cs:List Frame)(d:Option Dying)(v:Value)(w:World):jc w.drawn (doReturn p h fr cs d v w):=by
 unfold doReturn;simp only[]
 repeat' first
  |exact zzl
  |split
def akJ(p:Program)(fr:Frame)(cs:List Frame)(d:Option Dying)(g:Nat)(w:World):jc w.drawn (early p fr cs d g w):=by
 unfold early;simp only[]
 repeat' first
  |exact zzl
  |split
def ako(p:Program)(fr:Frame)(cs:List Frame)(d:Option Dying)(h:Deferred)(w:World):jc w.drawn (callDeferred p fr cs d h w):=by
 unfold callDeferred;simp only[Sem.runT_fst];refine .ite (by exact zzl) (G4 ?_)
 repeat' first
  |exact zzl
  |exact(Wo ..).to (pN ‹_›)
  |exact(Ms ..).to (pN ‹_›)
  |split
def aFs(p:Program)(h:Bool)(fr:Frame)(cs:List Frame)(d:Option Dying)(w:World):jc w.drawn (unwind p h fr cs d w):=by
 unfold unwind;simp only[Sem.runT_fst]
 repeat' first
  |exact zzl
  |exact ako ..
  |exact adv ..
  |exact SD ..
  |exact(SD ..).to (pN ‹_›)
  |apply G4
  |split
def Nm(p:Program)(b:Bool)(fr:Frame)(cs:List Frame)(d:Option Dying)(s:Sem Next)(w:World):jc w.drawn (stepG.apply p b fr cs d s w):=by
 unfold stepG.apply;have B:∀r,(if b=O then s.runT p w #[]else(s.run p w,#[])).1=r->w.drawn<=(wR r).drawn:=λr h=>by
  cases b<;>simp only[if_true,E6,if_false,Sem.runT_fst]at h<;>exact pN h
 simp only[];apply G4;split<;>rename_i D
 all_goals have j:=B _ D
 all_goals repeat' first
  |(refine⟨λw0 z=>?_⟩;first|(cases z;done)|(cases z;exact j))
  |exact(Wo ..).to j
  |exact(Ms ..).to j
  |exact(akJ ..).to j
  |split
def azp(p:Program)(b:Bool)(fr:Frame)(cs:List Frame)(d:Option Dying)(w:World):jc w.drawn (stepG.oper p b fr cs d w):=by
 unfold stepG.oper
 repeat' first
  |exact zzl
  |exact Nm ..
  |split
def alg(p:Program)(h b:Bool)(fr:Frame)(cs:List Frame)(d:Option Dying)(w:World):jc w.drawn (stepG.exec p h b fr cs d w):=by
 unfold stepG.exec;simp only[Sem.runT_fst]
 repeat' first
  |exact zzl
  |refine jc.elim ?_ λ_=>?_
  |exact Nm ..
  |exact azp ..
  |exact(SD ..).to (pN ‹_›)
  |exact(Nm ..).to (pN ‹_›)
  |apply G4
  |split
def aDy(p:Program)(h b:Bool)(g:Goroutine)(w:World):jc w.drawn (stepG p h g w b):=by
 unfold stepG;simp only[]
 repeat' first
  |exact akx ..
  |exact alg ..
  |exact aFs ..
  |split
structure yW (n:Nat) (s:Stepped):Prop where
 le:∀m,s=.next m->n<=m.world.drawn
def yW.to{m:Nat}{s:Stepped}(h:yW m s)(h1:n<=m):yW n s:=⟨λw e=>dg h1 (h.le w e)⟩
def aFI{rest:Rest}{cs:Array CommCase}(h:waitingAt rest cs w=X w'):w.drawn<=w'.drawn:=by
 unfold waitingAt at h
 repeat' first
  |(cases h;first|done|exact aC _)
  |split at h
def zzm{p:Prop}(h:p:=by refine⟨λw0 j=>?_⟩;first|(cases j;done)|(cases j;first|exact aC _|exact pN ‹_› |(apply aFI;assumption)|exact dg (pN ‹_›) (pN ‹_›))):p:=h
def aj4(p:Program)(rest:Rest)(j:Array Goroutine)(i:Nat)(g:Goroutine)(cs:Array CommCase)(b:Bool)(h:CommShape)(w:World):yW w.drawn (communicate p rest j i g cs b h w).1:=by
 unfold communicate;simp only[]
 repeat' first
  |exact zzm
  |split
def Rs(p:Program)(h:Array Goroutine)(rest:Rest)(w:World):yW w.drawn (look p h rest w):=by
 unfold look;simp only[]
 repeat' first
  |exact zzm
  |split
def aCD(p:Program)(m:Machine)(k:Nat):yW m.world.drawn (serve p m k):=by
 unfold serve;simp only[]
 repeat' first
  |exact zzm
  |split
def akC(w:World)(c:Nat):(drain w c).2.drawn=w.drawn:=by
 unfold drain;split<;>rfl
def adZ(m:Machine)(k:Nat)(t:Timer)(a b:Nat):(retime m k t a b).2.world.drawn=m.world.drawn:=by
 unfold retime;simp only[];rcases t.chan with _|c
 rfl;exact akC _ _
variable{m m':Machine}
def azn{v:Addr}(h:timerOp.opened m v=X m'):m'.world.drawn=m.world.drawn:=by
 unfold timerOp.opened at h
 repeat' first
  |(cases h;first|done|rfl)
  |split at h
def aEA{op:TimerOp}(h:timerOp m op=.ok (v,m')):m'.world.drawn=m.world.drawn:=by
 unfold timerOp timerOp.named at h
 repeat' first
  |(cases h;done)
  |(injection h with h;injection h with _ h;subst h;first|rfl|exact adZ ..)
  |(injection h with h;have j:=congrArg (λx=>x.2.world.drawn) h;simp only[adZ]at j;first|exact j.symm|exact j.symm.trans (azn ‹_›))
  |split at h
def aCd(p:Program)(m:Machine)(i:Nat)(b:Bool):yW m.world.drawn (runT p m i b).1:=by
 simp only[runT];generalize m.gs.swapAt! _ _=gg;have j:=aDy p (i==0) b gg.1 m.world;generalize stepG p _ gg.1 m.world b=s at j;cases s<;>simp only[]
 all_goals first|have h:=j.le _ rfl|skip
 all_goals repeat' first
  |exact(aj4 ..).to h
  |exact(Rs ..).to h
  |(refine⟨λw0 z=>?_⟩;first|(cases z;done)|(cases z;first|exact h|exact dg h (Nat.le_of_eq (aEA ‹timerOp _ _=_›).symm)|exact dg h ((Ms ..).le _ (by rw[‹_›];rfl))))
  |split
def agN(m:Machine)(t:Nat):(m.advanceTo t).world.drawn=m.world.drawn:=rfl
structure A2 (n:Nat) (s:Move):Prop where
 go:∀m i,s=.goroutine m i->n<=m.world.drawn
 at_:∀m ops,s=.machine (.next m) ops->n<=m.world.drawn
def A2.to{m:Nat}{s:Move}(h:A2 m s)(h1:n<=m):A2 n s:=⟨λw i e=>dg h1 (h.go w i e),λw i e=>dg h1 (h.at_ w i e)⟩
def LQ{e:Sem α}{a:α}(h:e.run p w=.ok a w'):w.drawn<=w'.drawn:=pN h
def aea{e:Sem α}{a:α}(h:e.run p w=.ok a w')(j:n<=w.drawn):n<=w'.drawn:=dg j (pN h)
def Ny(p:Program)(m:Machine):A2 m.world.drawn (askOn p m):=by
 unfold askOn;simp only[];split;exact⟨λ_ _ h=>(nomatch h),λ_ _ h=>(nomatch h)⟩;have z:=LQ ‹Sem.run _ _ _=_›;split;refine⟨λ_ _ h=>(nomatch h),λw0 B j=>?_⟩;injection j with j _
 exact dg z ((aCD ..).le _ j)
 repeat' first
  |(refine⟨λw0 B j=>?_,λw0 B j=>?_⟩<;>first|(cases j;done)|(cases j;repeat' first|exact z|refine aea (by assumption) ?_|exact co (aea (by assumption) z)|refine co ?_|simp only[agN]))
  |split
def V0{o:Outcome}{ops:Array MemOp}:A2 n (.machine (.ended o w) ops):=⟨λ_ _ h=>(nomatch h),λ_ _ h=>(nomatch h)⟩
def UU(p:Program)(m:Machine):A2 m.world.drawn (ask p m):=by
 unfold ask
 repeat' first
  |exact Ny ..
  |exact V0
  |exact(Ny ..).to (LQ ‹_›)
  |exact(Ny ..).to (dg (LQ ‹_›) ((Rs ..).le _ ‹_›))
  |(refine⟨λ_ _ h=>(nomatch h),λw0 z j=>?_⟩;injection j with j _;exact dg (LQ ‹Sem.run _ _ _=_›) ((Rs ..).le _ j))
  |split
def aw7(p:Program)(m:Machine):A2 m.world.drawn (move p m):=by
 unfold move
 repeat' first
  |exact V0
  |exact UU p m
  |exact UU p {m with rest:= {m.rest with slice:=Z } }
  |(refine⟨λw0 j h=>?_,λw0 j h=>?_⟩<;>first|(cases h;done)|(cases h;exact aC _))
  |split
def aDG(p:Program)(m:Machine):yW m.world.drawn (step p m):=by
 have h:=aw7 p m;unfold step stepT;split;rename_i e;exact(aCd ..).to (h.go _ _ e);rename_i e;exact⟨λm' e'=>h.at_ m' _ (by rw[e];exact congrArg (λx=>Move.machine x _) e')⟩
def aeM(h:Steps p m m'):m.world.drawn<=m'.world.drawn:=by
 obtain⟨n,j⟩:=h
 induction n generalizing m with
 |zero=>cases j;exact aC _
 |succ n z=>
  simp only[runN]at j;have h:=aDG p m;split at j;rename_i e;exact dg (h.le _ e) (z j);rename_i e;rw[j]at h;exact h.le _ rfl
def NM{P:Program}{f:FuncId}{args:il}{R:Ending->World->Prop}(h:Calls P f args w R):Calls P f args w λe w'=>R e w'/\(e=.outgrown\/w.drawn<=w'.drawn):=by
 intro cs
 let⟨e,w',fr,h1,h2,h3⟩:=h cs
 refine⟨e,w',fr,⟨h1,?_⟩,h2,h3⟩;cases e with
 |outgrown=>exact .inl rfl
 |returned v=>exact .inr (aeM h2)
 |panicked c=>exact .inr (aeM h2)
end Go.Ag
namespace Go.Proofs
open Go.Shelf
def Tryz.join177_ren:Ren:=⟨λ|156=>37|165=>77|166=>78|169=>79|240=>131|241=>132|276=>208|277=>209|n=>n,λ|31=>25|72=>163|76=>167|70=>160|37=>161|75=>166|127=>229|164=>300|80=>169|n=>n,λ|n=>n⟩
def Tryz.join177:Lays.n156 ag Tryz.join177_ren:=by
 constructor<;>first|kernel_rfl|(intro _;kernel_rfl)|decide
def Tryz.join177x:Builder.Extra ag Tryz.join177_ren:=by
 constructor<;>first|kernel_rfl|(constructor<;>kernel_rfl)|(intro _;kernel_rfl)|decide
end Go.Proofs
namespace Go.Proofs.YtakkigoeiahlcaaGreat
open Go.Ag
def rU(l:cf)(sep:ae):ae:=Lib.join l sep
def qE:Sp
 |[.list sz xs _,.str sep]=>bif aA sz 1 then(rB xs).bind λl=>bif aP (rU l sep).length 140737488355328&&aP (J l) 140737488355328 then X (.str (rU l sep))else Z else Z
 |_=>Z
def ary:cW ag 37 qE:=by
 intro a2 v T G h w xs wr hx;unfold qE at T;split at T;rename_i sz ys r z
 let⟨F,hv1⟩:=aZ T
 clear T;have F:=gA F;subst F;rw[ak]at hv1
 let⟨l,hl,hv2⟩:=hv1
 let⟨B,hv3⟩:=aZ hv2
 cases hv3;simp only[bg]at B;have R:=gS B.1;have hn:=gS B.2;have Y:=IU hl;subst Y;cases hx with
 |cons p q=>
  cases q with
  |cons p2 q2=>
   cases q2;cases p2;cases p with
   |list V h2 h3 h4 h5 h6=>
    rename_i a N;have fin:∀w',RowKit.Below w.heap.size w w'->w.drawn<=w'.drawn->∃U,WR U h w'/\ce G h w U h w' 0 0/\VR U (.str (rU l z)) (.string ⟨⟨rU l z⟩⟩):=λw' B hd=>by
     let⟨U,_,_,g1,g2⟩:=Ux wr ⟨B.os,B.output,B.size,B.block,B.tape,hd⟩ (λ_ _=>Z) (λ_ _ _ e=>by cases e)
     exact⟨U,g1,g2,.str _⟩
    rw[bh]at h4⊢;refine .inr ⟨Go.Proofs.enters_of Tryz.func37 k_ rfl _ _,?_⟩;rcases V with h0|V
    have a0:l=[]:=qY w_;subst a0;refine(NM (Any.strings_Join_none Tryz.join177 Tryz.join177x (X a) N ⟨⟨z⟩⟩ w)).mono ?_;rintro e w' ⟨⟨rfl,rfl⟩,_⟩;exact⟨_,rfl,fin _ (RowKit.Below.refl _ _) (aC _)⟩
    let⟨ab,ao,asp⟩:=a
    simp only at V;subst V;have D:∀(j:Nat) s,l[j]?=X s->w.cell? ⟨ab,ao+j,Z⟩=X (.string ⟨⟨s⟩⟩):=λj s R=>by
     have hf:(aq (l.map aw))[j]?=X (aw s):=by rw[qA,ix,R];rfl
     let⟨_,x,hx1,hx2⟩:=wr.ro _ _ _ (h5 j _ hf)
     cases hx2;exact hx1
    rcases l with _|⟨s,l⟩
    refine(NM (Any.strings_Join_none Tryz.join177 Tryz.join177x (X ⟨ab,ao,Z⟩) N ⟨⟨z⟩⟩ w)).mono ?_;rintro e w' ⟨⟨rfl,rfl⟩,_⟩;exact⟨_,rfl,fin _ (RowKit.Below.refl _ _) (aC _)⟩;have a1:ab<w.heap.size:=World.block_lt_of_cell? w ⟨ab,ao+0,Z⟩ (D 0 s rfl);have e1:((s::l).map λs=>(⟨⟨s⟩⟩:ByteArray)).map (·.data.toList)=s::l:=by rw[List.map_map];exact List.map_id _
    have S:=NM (Any.strings_Join Tryz.join177 Tryz.join177x ab ao N ((s::l).map λs=>(⟨⟨s⟩⟩:ByteArray)) ⟨⟨z⟩⟩ w (λj x R=>by
     rw[ix,o6]at R;obtain⟨t,ht,rfl⟩:=R;exact D j t ht) a1 (by rw[bh];exact hn) (by rw[bh];exact h4) (by rw[e1];exact R))
    rw[e1,bh]at S;refine S.mono ?_;rintro e w' ⟨⟨rfl,B⟩,hd⟩;exact⟨_,rfl,fin _ B (hd.resolve_left (by intro e;cases e))⟩
 cases T
variable{Q:ay}[Std Q]
def jj(p:VE):ae×Int×ae:=(p.1,p.2.1,rU p.2.2.1 [32])
def mA(q:ae×Int×ae):aa:=.agg [.str q.1,ah q.2.1,.str q.2.2]
def A1(ids:cf):Prop:=J ids<=140737488355328/\(rU ids [32]).length<=140737488355328
def arA{ids:cf}(h:A1 ids)(r:gV):qE [.list 1 (ids.map aw) r,.str [32]]=X (.str (rU ids [32])):=by
 have z:=bG h.1;have j:=bG h.2;show(bif aA 1 1 then(rB (ids.map aw)).bind _ else Z)=_;rw[FB];show(bif aP _ _&&aP _ _ then X _ else Z)=_;rw[z,j];rfl
variable{s:St}{p:VE}
def abf(z:Q.spec 37=X qE)(F:No Q 18)(N:A1 p.2.2.1)(D:s.gE<=s.aL):ai Q 18 [eY p] s (mA (jj p)) s:=by
 let⟨n,k,ids,b⟩:=p
 obtain⟨r,G⟩:∃r,eY (n,k,ids,b)=.agg [.str n,ah k,.list 1 (ids.map aw) r]:=by
  cases b;exact⟨.GT,rfl⟩;exact⟨.no,rfl⟩
 rw[G];have j:=arA (ids:=ids) N r;have B:∃v s',ai Q 18 [.agg [.str n,ah k,.list 1 (ids.map aw) r]] s v s'/\(v=mA (jj (n,k,ids,b))/\s'=s):=by
  refine ai.ofNRZ asK (aM ?_);simp only[go_sem,seval,PB];refine⟨D,?_⟩;simp only[go_sem,seval,z,j,dL,evc,NP,Vw];exact⟨_,rfl,rfl,iZ D⟩
 obtain⟨_,_,h,rfl,rfl⟩:=B;exact h
abbrev VK:=ae×Int×ae
def ak6(a d:ae)(b e:Int)(c f:ae):jh ag 8 63 (.agg [.str a,ah b,.str c]) (.agg [.str d,ah e,.str f])=X ((a==d)&&(aj b e&&c==f)):=by
 have h:jh ag 8 63 (.agg [.str a,ah b,.str c]) (.agg [.str d,ah e,.str f])=(X (a==d)).bind λr=>bif r then(X (aj b e)).bind λr=>bif r then(X (c==f)).bind λr=>bif r then X O else X I else X I else X I:=k_
 rw[h];cases a==d<;>cases aj b e<;>cases c==f<;>rfl
def Rg:wQ ag 63 mA where
 eq a b:=by
  let⟨a1,a2,a3⟩:=a
  let⟨b1,b2,b3⟩:=b
  show jh ag 8 63 (.agg [.str a1,ah a2,.str a3]) (.agg [.str b1,ah b2,.str b3])=_;rw[ak6];by_cases h1:a1=b1<;>by_cases h2:a2=b2<;>by_cases h3:a3=b3<;>simp[aj,h1,h2,h3]
 same a:=by simp[mA,pG,uZ,sD,aj]
 gt _:=rfl
def Ri(k:VK):j0 ag 58 (mA k)=X (63,4):=k_
abbrev j_:=List (VK×aa)
def lN:Q3->j_->j_
 |[],L=>L
 |v::l,L=>lN l (dp (jj v) (.bool O) L)
def Rt(k:VK):∀(l:Q3)(L:j_),bR k (lN l L)=if k∈l.map jj then X (.bool O)else bR k L
 |[],L=>by simp[lN]
 |v::l,L=>by
  rw[lN,Rt k l,G7];by_cases h:k=jj v;simp[h];by_cases h2:k∈l.map jj<;>simp[h,h2]
def Oo(p:VE):∃r,eY p=.agg [.str p.1,ah p.2.1,.list 1 (p.2.2.1.map aw) r]:=by
 let⟨n,k,ids,b⟩:=p
 cases b;exact⟨.GT,rfl⟩;exact⟨.no,rfl⟩
variable{K:hP}{l:Q3}{m:Nat}{cv:aa}
def avl(R:Q.spec 37=X qE)(U:No Q 18)(hc:au 3 eY cv l)(hk:∀p∈l,A1 p.2.2.1)(hl:J l<=1000000000){s0:St}(hx:∀e lc s,ac e 5=.map m->du m s0 s->bf mA s m (lN l [])->K (.exit 0) ⟨e,22,lc⟩ s):
 ∀(rest h:Q3)(L:j_)(e:ax)(lc:Ag.Loc)(s:St),l=h++rest->lN rest L=lN l []->ac e 5=.map m->ac e 11=cv->ac e 12=an (J l)->ac e 13=an (J h)->du m s0 s->bf mA s m L->
  W Q 15 (.loop Pv) ⟨e,22,lc⟩ s K:=by
 have hs:=aab;intro rest
 induction rest with
 |nil=>
  intro h L e lc s S h2 F B z j T hM;have Y:=cL S;refine aF ?_;simp only[go_sem,seval,Pv,z,j,Y,bJ];exact hx _ _ _ (by simp only[sN,seval,F]) T (by rw[<-h2];exact hM)
 |cons v rest ih=>
  intro h L e lc s S h2 F B z j T hM
  let⟨hlt,hat⟩:=cR S
  let⟨r,hr⟩:=Oo v
  have N:=λlc k=>hc.at iC.2.2.1 hat lc k;rw[hr]at N;have V:=cm (n:=J h) w_;have a0:=hc.gt;have D:=abf R U (p:=v) (hk v (by rw[S];simp)) T.mw;rw[hr]at D;have G:=lY Rg Ri hM (jj v) (.bool O);simp only[mA]at G D;refine aF ?_;simp only[go_sem,seval,Pv,F,B,z,j,hlt,N,a0];refine aU.of D d_ ?_;simp only[go_sem,seval,F,j,G,V];refine ih (h++[v]) _ _ _ _ (db S) h2 ?_ ?_ ?_ ?_ (T.put _) rf<;>simp only[aag,sN,seval,F,B,z]
variable{ov wa wb wc wd wr wv:aa}
def avm(h:Q.spec 37=X qE)(z:No Q 18)(S:No Q 15)(N:au 3 eY cv l)(D:∀p∈l,A1 p.2.2.1)(U:J l<=1000000000)(T:s.gE<=s.aL)(R:Q.spec 7=X lI)(G:lI [.agg [ov],.agg [wa,wb,wc,wd,wv,wr]]=X cv):∃v s',ai Q 15 [.agg [ov],.agg [wa,wb,wc,wd,wv,wr]] s v s'/\(v=.map s.aL/\bf mA s' s.aL (lN l [])/\(∀k,k<s.aL->s'.get [] k=s.get [] k)/\s'.aL=s.aL+1/\s'.gE<=s'.aL/\s'.ci=s.ci):=by
 have F:=N.gt;have B:=N.lenS iC;refine ai.ofNRZ asr (aM ?_);simp only[go_sem,seval,JV,jA,R,G,F,B];refine avl h z N D U (m:=s.aL) (s0:=s.new (.map [] 0)) ?_ l [] [] _ _ _ rfl rfl ?_ ?_ ?_ ?_ (.refl (co T)) cr;intro e lc s1 Y j V;simp only[go_sem,seval,Y];exact⟨_,rfl,rfl,V,λk D=>(j.old k w_).trans (cQ D),j.aL,j.mw,j.ci⟩
 all_goals simp only[sN,seval]
 all_goals rfl
variable{b n:Nat}
def LL(j:n<=1000001)(h:b<=1000):eB n b=O:=by
 unfold eB;apply bG;have:(n*2+1024)*b<=2001026*1000:=Nat.mul_le_mul w_ h;omega
variable{E:EI}{xs:az}{lo sz:Nat}{t:TypeId}{y:aa}
def UH(S:js ag t=X E)(U:E.n=sz)(R:E.b<=1000){x:aa}(h:bU sz lo s ov xs)(F:cU [] E.g E.n y s=X [x])(N:J xs<=1000000)(z:lo<=s.aL)(G:s.gE<=s.aL):
 ∃j s',cJ ag [] t ov y I s=X (j,s')/\bU sz lo s' j (xs++[x])/\j.cells=[j]/\s'.aL=s.aL+1/\s'.gE<=s'.aL/\s'.ci=s.ci/\(∀n,n<lo->s'.get [] n=s.get [] n):=by
 subst U;rcases h with⟨rfl,rfl⟩|⟨T,k,rfl,V,h5,Y⟩
 have B:eB [x].length E.b=O:=LL (by simp) R;refine⟨.list E.n [x] (.own s.aL),s.new .tok,?_,.inr ⟨by simp,s.aL,rfl,by rw[ei,bS];rfl,z,iA _⟩,rfl,rfl,co G,rfl,λn D=>?_⟩;simp only[aaf,cJ,S,F,fy,iB,B,cF];rw[ei,bN.2 w_];rfl;have B:eB (J xs+ [x].length) E.b=O:=LL (by simp;omega) R;refine⟨.list E.n (xs++[x]) (.own s.aL),(s.put k Z).new .tok,?_,.inr ⟨by simp,s.aL,rfl,by rw[ei,kB,bS];rfl,z,iA _⟩,rfl,rfl,co (cG s k Z G),rfl,λn D=>?_⟩;simp only[aaa,cJ,S,aG,F,fy,V,B,bZ];rw[ei,kB,bN.2 w_,cF,aO,bN.2 w_];rfl
def vQ(l:MB)(us:be):MB:=us.flatMap λi=>l[i]?.toList
variable{us:be}{i:Nat}
def aAc{l:MB}{e:aK}(h:l[i]?=X e):vQ l (us++[i])=vQ l us++[e]:=by
 unfold vQ;rw[List.flatMap_append,Cw,List.flatMap_nil,h];rfl
def Sj(l:MB):∀us:be,(vQ l us).length<=J us
 |[]=>aC _
 |i::us=>by
  have h:=Sj l us;unfold vQ at h⊢;rw[Cw,bI,bP];have:l[i]?.toList.length<=1:=by cases l[i]? <;>simp
  omega
def aAa{l:MB}{e:aK}(h:e∈vQ l us):e∈l:=by
 unfold vQ at h
 let⟨i,_,hi⟩:=uK.1 h
 rcases hq:l[i]? with _|q
 rw[hq]at hi;cases hi;rw[hq]at hi;have:e=q:=by simpa using hi
 rw[this];exact cq hq
structure A0 (e:ax) (uv:aa) (b5 b3 b4 b11:Nat):Prop where
 h0:ac e 0=uv
 h1:ac e 1=.ptr b5 0
 h2:ac e 2=.ptr b3 0
 h3:ac e 3=.ptr b4 0
 h4:ac e 4=.ptr b11 0
 h6:ac e 6=.Gt 6 1 0
variable{b11 b3 b4 b5:Nat}{uv:aa}{e':ax}
def A0.mv{e:ax}(h:A0 e uv b5 b3 b4 b11)(g:ac e' 0=ac e 0/\ac e' 1=ac e 1/\ac e' 2=ac e 2/\ac e' 3=ac e 3/\ac e' 4=ac e 4/\ac e' 6=ac e 6):A0 e' uv b5 b3 b4 b11:=
 ⟨g.1.trans h.h0,g.2.1.trans h.h1,g.2.2.1.trans h.h2,g.2.2.2.1.trans h.h3,g.2.2.2.2.1.trans h.h4,g.2.2.2.2.2.trans h.h6⟩
variable{lc:Ag.Loc}
def aEG{ev:aa}{l:MB}(hu:au 1 (λi:Nat=>an i) uv us)(hl:au 15 aK.val ev l)(hi:∀x∈us,x<J l)(hg:∀e∈l,e.AL)(b6:J us<=1000)(b7:J l<=1000000){s0:St}(h5:s0.get [] b5=X (.cells [ev]))(T:b5<lo)(hx:∀e s tv,bU 15 lo s tv ((vQ l us).map aK.val)->(∀n,n<lo->s.get [] n=s0.get [] n)->lo<=s.aL->s.gE<=s.aL->ac e 7=tv->A0 e uv b5 b3 b4 b11->K (.exit 0) ⟨e,74,lc⟩ s):
 ∀(rest h:be)(e:ax)(s:St)(tv:aa),us=h++rest->bU 15 lo s tv ((vQ l h).map aK.val)->(∀n,n<lo->s.get [] n=s0.get [] n)->lo<=s.aL->s.gE<=s.aL->ac e 7=tv->ac e 17=uv->ac e 18=an (J us)->ac e 19=an (J h)->A0 e uv b5 b3 b4 b11->W Q 16 (.loop Pw) ⟨e,74,lc⟩ s K:=by
 intro rest;have U:=hu.cs;have b2:=hl.cs
 induction rest with
 |nil=>
  intro h e s tv S R j D B h7 N z G F;have a9:=cL S;have a8:h=us:=by rw[S];simp
  rw[a8]at R;refine aF ?_;simp only[go_sem,seval,Pw,z,G,a9,bJ];exact hx _ _ tv R j D B (by simp only[sN,seval,h7]) (F.mv (by simp only[sN,seval,and_self]))
 |cons x rest ih=>
  intro h e s tv S R j D B h7 N z G F
  let⟨hlt,hat⟩:=cR S
  have Y:=hi x (cq hat);obtain⟨d,hd⟩:∃d,l[x]?=X d:=⟨_,dA Y⟩;have gd:=hg d (cq hd);have dc:=gd.gT.cs;have oc:=gd.obj.all;have b1:=λlc k=>hu.at iO.2.2.1 hat lc k;have b0:=λlc k=>hl.at nk.2.2.1 hd lc k;have a0:=cm (n:=J h) w_;have F1:=F.h1;have hb:s.get [] b5=X (.cells [ev]):=(j b5 T).trans h5;have V:=R.gt
  let⟨tv',s1,a1,a2,a3,a4,a5,a6,a7⟩:=UH (t:=30) nk.1 rfl d_ (s:=s) (y:=.list 15 [d.val] .GT) (x:=d.val) R (by simp only[aaa,cU]) (by
   rw[bh]
   have:=Sj l h;omega) D B
  have a2:bU 15 lo s1 tv' ((vQ l (h++[x])).map aK.val):=by rw[aAc hd,dj];exact a2
  simp only[aK.val,aK.cells]at a1;refine aF ?_;simp only[go_sem,seval,Pw,h7,N,z,G,F1,hlt,U,b2,b1,b0,hb,aK.val,aK.cells,dc,oc,V,a1,a3,a0,sB];refine ih (h++[x]) _ s1 tv' (by rw[S];simp) a2 (λn hn=>(a7 n hn).trans (j n hn)) w_ a5 ?_ ?_ ?_ ?_ (F.mv ?_)
  all_goals simp only[aag,sN,seval,N,z,and_self]
def aGX:dC ag 4=X (.bool I):=k_
def sk(K:j_)(p:VE):Bool:=(bR (jj p) K).isNone
def aEH(c1:Q.spec 37=X qE)(c2:No Q 18){C:Q3}(hc:au 3 eY cv C)(hk:∀p∈C,A1 p.2.2.1)(hl:J C<=800000000){Mo M2:Nat}{S:j_}(hK:∀k,bR k S=Z\/bR k S=X (.bool O)){s0:St}(c8:s0.get [] b11=X (.cells [.map Mo]))(c7:bf mA s0 Mo S)(l1:b11<lo)(l2:Mo<lo)(l3:M2<lo)(n1:b11≠M2)(n2:Mo≠M2){c6 c10:az}(hx:∀e lc s tv,bU 3 lo s tv ((C.filter (sk S)).map eY)->bf mA s M2 (lN C [])->(∀n,n<lo->n≠M2->s.get [] n=s0.get [] n)->lo<=s.aL->s.gE<=s.aL->ac e 13=tv->ac e 14=.map M2->ac e 10=.Gt 10 1 0->A0 e uv b5 b3 b4 b11->lc.gen 6=1->lc.get 6 1=X c6->lc.gen 10=1->lc.get 10 1=X c10->K (.exit 2) ⟨e,74,lc⟩ s):
 ∀(rest j:Q3)(L:j_)(e:ax)(lc:Ag.Loc)(s:St)(tv:aa),C=j++rest->lN rest L=lN C []->bU 3 lo s tv ((j.filter (sk S)).map eY)->bf mA s M2 L->(∀n,n<lo->n≠M2->s.get [] n=s0.get [] n)->lo<=s.aL->s.gE<=s.aL->ac e 13=tv->ac e 14=.map M2->ac e 10=.Gt 10 1 0->ac e 46=cv->ac e 47=an (J C)->ac e 48=an (J j)->A0 e uv b5 b3 b4 b11->lc.gen 6=1->lc.get 6 1=X c6->lc.gen 10=1->lc.get 10 1=X c10->
  W Q 16 (.loop Px) ⟨e,74,lc⟩ s K:=by
 intro rest;have c9:=hc.cs
 induction rest with
 |nil=>
  intro j L e lc s tv h1 hL hO hM b1 b6 V R D a0 Y N G F g6 l6 a8 U;have c5:=cL h1;have c4:j=C:=by rw[h1];simp
  rw[c4]at hO;refine aF ?_;simp only[go_sem,seval,Px,N,G,c5,bJ];exact hx _ _ _ tv hO (by rw[<-hL];exact hM) b1 b6 V (by simp only[sN,seval,R]) (by simp only[sN,seval,D]) (by simp only[sN,seval,a0]) (F.mv (by simp only[sN,seval,and_self])) g6 l6 a8 U
 |cons v rest ih=>
  intro j L e lc s tv h1 hL hO hM b1 b6 V R D a0 Y N G F g6 l6 a8 U
  let⟨hlt,hat⟩:=cR h1
  let⟨r,hr⟩:=Oo v
  have c0:=λlc k=>hc.at iC.2.2.1 hat lc k;rw[hr]at c0;have b2:=cm (n:=J j) w_;have b0:=λ(s:St) (hm:s.gE<=s.aL)=>abf (s:=s) c1 c2 (p:=v) (hk v (cq hat)) hm;rw[hr]at b0;have a9:=lY Rg Ri hM (jj v) (.bool O);obtain⟨z,hz⟩:=cw (s.put M2 (X (.map (cX mA 0 (dp (jj v) (.bool O) L)) (dp (jj v) (.bool O) L).length)));rw[hz]at a9;have zM:bf mA z M2 (dp (jj v) (.bool O) L):=by rw[<-hz];exact rf
  have zn:z.aL=s.aL:=by rw[<-hz];rfl
  have zw:z.gE<=z.aL:=by rw[<-hz];exact cG _ _ _ V
  have zg:∀n,n≠M2->z.get [] n=s.get [] n:=λn hn=>by rw[<-hz,aO,bN.2 hn];rfl
  have T:∀n,n<lo->n≠M2->z.get [] n=s0.get [] n:=λn h1 h2=>(zg n h2).trans (b1 n h1 h2);have zO:bU 3 lo z tv ((j.filter (sk S)).map eY):=hO.keep (λn hn=>zg n w_) w_;have zb:z.get [] b11=X (.cells [.map Mo]):=(T b11 l1 n1).trans c8;have zo:bf mA z.top Mo S:=(T Mo l2 n2).trans c7;have B:=r9 Rg Ri aGX zo (jj v);have c3:=hO.gt;have zt:=iZ zw;have F4:=F.h4;have b8:=b0 s V;have b7:=b0 z.top (aC _)
  let⟨tv',s1,a1,a2,a3,a4,a5,a6,a7⟩:=UG (t:=37) iC.1 rfl d_ (s:=z) (y:=.list 3 [eY v] .GT) (x:=eY v) zO (by simp only[aaa,cU]) (by
   rw[bh]
   have:=List.length_filter_le (sk S) j;have:J j<=J C:=w_
   omega) w_ zw
  rw[hr]at a1;simp only[mA]at a9 B b8 b7;refine aF ?_;simp only[go_sem,seval,Px,R,D,Y,N,G,hlt,c0,c9];refine aU.of b8 d_ ?_;simp only[go_sem,seval,D,a9,F4,zb,zw];refine jx.quiet b7 d_ (by simp[fB,kE,qX]) ?_;rcases hK (jj v)with h|h
  ·rw[h]at B
   simp only[Option.getD_none]at B;have hn:sk S v=O:=by unfold sk;rw[h];rfl
   have a2:bU 3 lo s1 tv' (((j++[v]).filter (sk S)).map eY):=by rw[vi hn,dj];exact a2
   simp only[go_sem,seval,B,zt,R,G,c3,a1,a3,b2,sB];refine ih (j++[v]) _ _ _ s1 tv' (by rw[h1];simp) hL a2 ?_ (λn q1 q2=>(a7 n q1).trans (T n q1 q2)) w_ a5 ?_ ?_ ?_ ?_ ?_ ?_ (F.mv ?_) ?_ ?_ ?_ ?_;exact(a7 M2 l3).trans zM
   all_goals simp only[aag,sN,sL,seval,D,a0,Y,N,g6,l6,a8,U,and_self]
  ·rw[h]at B
   simp only[Option.getD_some]at B;have hn:sk S v=I:=by unfold sk;rw[h];rfl
   simp only[go_sem,seval,B,zt,G,b2];refine ih (j++[v]) _ _ _ z tv (db h1) hL (by rw[pA hn];exact zO) zM T w_ zw ?_ ?_ ?_ ?_ ?_ ?_ (F.mv ?_) ?_ ?_ ?_ ?_
   all_goals simp only[aag,sN,sL,seval,R,D,a0,Y,N,g6,l6,a8,U,and_self]
structure o9 (s:St) (b5 b3 b4 b11:Nat) (ev mv:aa) (w:az) (M:Nat) (l:ba) (K:j_):Prop where
 h5:s.get [] b5=some (.cells [ev])
 h3:s.get [] b3=some (.cells [mv])
 h4:s.get [] b4=some (.cells w)
 h11:s.get [] b11=some (.cells [.map M])
 mp:bf mA s M K
 isL:au 6 Obj.val mv l
 lt:b5<s.aL/\b3<s.aL/\b4<s.aL/\b11<s.aL/\M<s.aL
 mw:s.gE<=s.aL
variable{K:j_}{l:ba}{w:az}{M:Nat}{s':St}
def o9.up{ev mv:aa}(h:o9 s b5 b3 b4 b11 ev mv w M l K)(u:Up s s'):o9 s' b5 b3 b4 b11 ev mv w M l K:=by
 let⟨a,b,c,d,e⟩:=h.lt
 have:=u.nx;exact⟨(u.old _ a).trans h.h5,(u.old _ b).trans h.h3,(u.old _ c).trans h.h4,(u.old _ d).trans h.h11,(u.old _ e).trans h.mp,h.isL,w_,u.mw⟩
def mS(wa wb wc wd wv wr:aa)(C:ba->Q3)(l:ba):Prop:=
 (C l).length<=800000000/\(∀p∈C l,A1 p.2.2.1)/\∀mv,au 6 Obj.val mv l->∃cv,lI [.agg [mv],.agg [wa,wb,wc,wd,wv,wr]]=X cv/\au 3 eY cv (C l)
variable{C:ba->Q3}
def aEI(T:wV Q)(b6:Q.spec 37=X qE)(e1:Q.spec 7=X lI)(c7:No Q 18)(e8:No Q 16){ev mv:aa}{le:MB}(hu:au 1 (λi:Nat=>an i) uv us)(d6:au 15 aK.val ev le)(hi:∀x∈us,x<J le)(hf:∀e∈le,od e)(f5:J us<=10)(d5:J le<=1000000)(hS:o9 s b5 b3 b4 b11 ev mv [wa,wb,wc,wd,wv,wr] M l K)(ne:b3≠b5/\b3≠b4/\b3≠b11/\b11≠b5/\b11≠b4)(hg:∀o∈l,o.AL)(hl:J l<=800)(d1:dK l<=700)(hK:∀k,bR k K=Z\/bR k K=X (.bool O))(hC:∀G,qm (J us) l G->mS wa wb wc wd wv wr C G):
 ∃v s',ai Q 16 [uv,.ptr b5 0,.ptr b3 0,.ptr b4 0,.ptr b11 0] s v s'/\∃x y U,v=.agg [x,ah U,y]/\(x.gt=O/\x.cells=[x]/\y.gt=O/\y.cells=[y])/\s.aL<=s'.aL/\s'.gE<=s'.aL/\(∀n,n<s.aL->n≠b3->n≠b11->s'.get [] n=s.get [] n)/\
  ((U≠0/\o9 s' b5 b3 b4 b11 ev mv [wa,wb,wc,wd,wv,wr] M l K)\/(U=0/\∃j M2 G,o9 s' b5 b3 b4 b11 ev j [wa,wb,wc,wd,wv,wr] M2 G (lN (C G) [])/\qm (J us) l G/\∀p∈C G,bR (jj p) K=X (.bool O))):=by
 have e9:=T.w43;have D:=hu.cs;have c9:=hu.lenS iO;have h5:=hS.h5;have h3:=hS.h3;have h4:=hS.h4;have a7:=hS.isL.cs;have d2:=hS.mw
 let⟨t5,t3,t4,t11,tM⟩:=hS.lt
 let⟨n1,n2,n3,n4,n5⟩:=ne
 refine ai.ofNRZ asu (aM ?_);simp only[go_sem,seval,Gy,D,c9];refine aEG hu d6 hi (λe h=>(hf e h).toGood) w_ d5 (b3:=b3) (b4:=b4) (b11:=b11) h5 t5 (λe s1 tv hO d7 d4 a2 e7 F=>?_) us [] _ s .Ge rfl (.inl R_) (λ_ _=>rfl) (aC _) d2 ?_ ?_ ?_ ?_ ⟨?_,?_,?_,?_,?_,?_⟩
 ·have u1:Up s s1:=⟨d7,d4,a2⟩
  have S1:=hS.up u1;have c5:=S1.h3;have f0:=F.h0;have f2:=F.h2;have f3:=F.h3;have f4:=F.h4;have f6:=F.h6;have a4:=hO.isL.cs;have e5:=Sj le us;obtain⟨rv,S,a6,u2,j,i,U,rfl,a9⟩:=agS T hS.isL hg hl d1 hO.isL (λe h=>hf e (aAa h)) w_ a2;have S2:=S1.up u2;have R:=u1.trans u2;rcases a9 with⟨b0,rfl⟩|⟨rfl,G,a3,N⟩
  have he:aj U 0=I:=dN b0;simp only[go_sem,seval,f2,f6,e7,c5,a7,a4];refine aU.of a6 d_ ?_;simp only[go_sem,seval,f0,f6,he,D,dL,evc];exact⟨_,rfl,_,_,U,rfl,⟨D.1,D.2,rfl,rfl⟩,R.nx,R.mw,λn h _ _=>R.old n h,.inl ⟨b0,S2⟩⟩
  ·have N':qm (J us) l G:=⟨N.good,N.valid,N.clo,by have:=N.len;omega,by have:=N.gT;omega⟩
   let⟨c1,c2,c3⟩:=hC G N'
   let⟨cv,hck,hcv⟩:=c3 j a3
   have a1:=a3.cs;have e4:=hcv.cs;have e3:=hcv.lenS iC;obtain⟨z,hz⟩:=cw (S.new (.map [] 0));have uz:Up S z:=⟨λk hk=>by rw[<-hz];exact cQ hk,by rw[<-hz];exact iy _,by rw[<-hz];exact co u2.mw⟩;have zn:z.aL=S.aL+1:=by rw[<-hz];rfl
   have zM:bf mA z S.aL []:=by show z.get [] S.aL=_;rw[<-hz];exact cr
   have S3:=S2.up uz;have z4:=S3.h4
   let⟨x5,x3,x4,x11,xM⟩:=S2.lt
   have e2:aj 0 0=O:=rfl;have nx:=R.nx;simp only[go_sem,seval,f2,f6,e7,c5,a7,a4];refine aU.of a6 d_ ?_;simp only[go_sem,seval,f0,f3,f6,e2,a1,jA,hz,z4,e1,hck,e4,e3];refine aEH b6 c7 hcv c2 c1 (lo:=S.aL+1) (M2:=S.aL) hK (s0:=z) S3.h11 S3.mp w_ w_ w_ w_ w_ (uv:=uv) (b5:=b5) (b3:=b3) (b4:=b4) (c6:=[.Ge,ah 0,.Ge]) (c10:=[j]) (λe lc s3 f1 b2 e0 b1 e6 V c0 b8 c4 F2 g6 l6 b7 a8=>?_) (C G) [] [] _ _ z .Ge rfl rfl (.inl R_) zM (λ_ _ _=>rfl) w_ uz.mw ?_ ?_ ?_ ?_ ?_ ?_ ⟨?_,?_,?_,?_,?_,?_⟩ ?_ ?_ ?_ ?_;have k0:=F2.h0;have k2:=F2.h2;have k4:=F2.h4;have k6:=F2.h6;have a0:=b2.isL.cs;have Y:=b2.isL.lenS iC;have g:∀n,n<S.aL->s3.get [] n=S.get [] n:=λn hn=>(b1 n w_ w_).trans (uz.old n hn);cases hB:(C G).filter (sk K)with
   |nil=>
    rw[hB]at Y;have i0:aR 0 0=I:=rfl;have all:∀p∈C G,bR (jj p) K=X (.bool O):=λp hp=>by
     rcases hK (jj p)with h|h
     have:p∈(C G).filter (sk K):=yK.2 ⟨hp,by unfold sk;rw[h];rfl⟩;rw[hB]at this;cases this;exact h
    have d0:s3.get [] b3=X (.cells [mv]):=(g b3 x3).trans S2.h3;have a5:(s3.put b3 (X (.cells [j]))).get [] b11=X (.cells [.map M]):=by
     rw[aO,bN.2 (Ne.symm n3)];exact(g b11 x11).trans S2.h11
    simp only[go_sem,seval,c0,b8,c4,k0,k2,k4,k6,g6,l6,b7,a8,a0,Y,Int.ofNat_zero,i0,a1,dh,dq,d0,a5,dL,evc];obtain⟨w,hw⟩:=cw ((s3.put b3 (X (.cells [j]))).put b11 (X (.cells [.map S.aL])));have wg:∀n,n≠b3->n≠b11->w.get [] n=s3.get [] n:=λn h1 h2=>by rw[<-hw,aO,bN.2 h2,cF,aO,bN.2 h1];rfl
    have w3:w.get [] b3=X (.cells [j]):=by rw[<-hw,aO,bN.2 n3,cF,aO,bS];rfl
    have c8:w.get [] b11=X (.cells [.map S.aL]):=by rw[<-hw,aO,bS];rfl
    have wn:w.aL=s3.aL:=by rw[<-hw];rfl
    have ww:w.gE<=s3.aL:=by rw[<-hw];exact cG _ _ _ (cG _ _ _ V)
    rw[hw];refine⟨_,rfl,.Ge,.Ge,0,rfl,⟨rfl,rfl,rfl,rfl⟩,w_,ww,λn a b c=>(wg n b c).trans ((g n w_).trans (R.old n a)),.inr ⟨rfl,j,S.aL,G,⟨?_,w3,?_,c8,?_,a3,?_,by rw[wn];exact ww⟩,N',all⟩⟩;exact(wg b5 (Ne.symm n1) (Ne.symm n4)).trans ((g b5 x5).trans S2.h5);exact(wg b4 (Ne.symm n2) (Ne.symm n5)).trans ((g b4 x4).trans S2.h4);exact(wg S.aL w_ w_).trans e0;omega
   |cons p B=>
    rw[hB,bP]at Y;have i1:aR 0 ((J B+1:Nat):Int)=O:=dQ w_;simp only[go_sem,seval,c0,b8,c4,k0,k2,k4,k6,g6,l6,b7,a8,a0,Y,i1,D,dL,evc];exact⟨_,rfl,_,_,15,rfl,⟨D.1,D.2,a0.1,a0.2⟩,w_,V,λn h _ _=>(g n w_).trans (R.old n h),.inl ⟨d_,S2.up ⟨g,w_,V⟩⟩⟩
   all_goals first|(simp only[sN,sL,seval,f0,F.h1,f2,f3,f4,f6,e7,bC];done)|(simp only[sN,sL,seval,f0,F.h1,f2,f3,f4,f6,e7,bC];rfl)|rfl
 all_goals first|(simp only[sN,seval,bC];done)|rfl
def uB:aa->pX
 |.list _ _ (.own k)=>X k
 |_=>Z
def AY(a b:aa):Prop:=∀k,uB a=X k->uB b≠X k
def AY.symm{a b:aa}(h:AY a b):AY b a:=λk z j=>h k j z
def bU.tok(h:bU sz lo s ov xs){k:Nat}(z:uB ov=X k):lo<=k/\k<s.aL/\s.get [] k=X .tok:=by
 rcases h with⟨rfl,_⟩|⟨_,j,rfl,F,D,B⟩
 cases z;have:j=k:=sI z;subst this;exact⟨D,B,F⟩
def bU.keepT(h:bU sz lo s ov xs)(j:∀k,uB ov=X k->s'.get [] k=s.get [] k)(F:s.aL<=s'.aL):bU sz lo s' ov xs:=by
 rcases h with h|⟨D,k,rfl,B,z,G⟩
 exact .inl h;exact .inr ⟨D,k,rfl,(j k rfl).trans B,z,w_⟩
def Nl(U:js ag t=X E)(V:E.n=sz)(T:E.b<=1000){x:aa}(h:bU sz lo s ov xs)(N:cU [] E.g E.n y s=X [x])(S:J xs<=1000000)(B:lo<=s.aL)(R:s.gE<=s.aL):
 ∃j s',cJ ag [] t ov y I s=X (j,s')/\bU sz lo s' j (xs++[x])/\uB j=X s.aL/\(j.gt=O/\j.cells=[j])/\s'.aL=s.aL+1/\s'.gE<=s'.aL/\(∀n,n<s.aL->uB ov≠X n->s'.get [] n=s.get [] n):=by
 subst V;rcases h with⟨rfl,rfl⟩|⟨z,k,rfl,Y,h5,h6⟩
 have D:eB [x].length E.b=O:=LL (by simp) T;refine⟨.list E.n [x] (.own s.aL),s.new .tok,?_,.inr ⟨by simp,s.aL,rfl,by rw[ei,bS];rfl,B,iA _⟩,rfl,R_,rfl,co R,λn F _=>?_⟩;simp only[aaf,cJ,U,N,fy,iB,D,cF];rw[ei,bN.2 w_];rfl;have D:eB (J xs+ [x].length) E.b=O:=LL (by simp;omega) T;refine⟨.list E.n (xs++[x]) (.own s.aL),(s.put k Z).new .tok,?_,.inr ⟨by simp,s.aL,rfl,by rw[ei,kB,bS];rfl,B,iA _⟩,rfl,R_,rfl,co (cG s k Z R),λn F G=>?_⟩;simp only[aaa,cJ,U,aG,N,fy,Y,D,bZ];have z:n≠k:=λe=>G (by rw[e];rfl);rw[ei,kB,bN.2 w_,cF,aO,bN.2 z];rfl
def IA(b3 b11:Nat)(s:St)(v:aa)(us:aar):Prop:=
 v.gt=O/\(∀h s',fN ag h 33 v s'=X (an (J us)))/\∀(i:Nat)(u:be),us[i]?=X u->∃a c,(∀lc,gm ag lc 33 v (an i)=X a)/\au 1 (λi:Nat=>an i) c u/\
  ∀s',(∀n,n<s.aL->n≠b3->n≠b11->s.get [] n≠X .tok->s'.get [] n=s.get [] n)->∀lc,lh ag [] 26 a lc s'=X c
variable{rs:List (aa×be)}{v:aa}
def abv(h:bU 1 lo s v (rs.map Prod.fst))(G:∀r∈rs,au 1 (λi:Nat=>an i) r.1 r.2):IA b3 b11 s v (rs.map Prod.snd):=by
 have F:au 1 Prod.fst v rs:=h.isL;refine⟨h.gt,λN s'=>by rw[F.lenS yf,bh],λi u B=>?_⟩;rw[ix,o6]at B;obtain⟨r,j,rfl⟩:=B;have D:=G r (cq j);have z:=D.cs;refine⟨.ro [r.1],r.1,λlc=>?_,D,λs' _ lc=>?_⟩
 have:=F.at yf.2.2.1 j lc .i64;rw[this,z.2];simp only[go_sem,z]
def avL{U:V_}(h:oh s v U lo)(l3:b3<lo)(S:b11<lo):IA b3 b11 s v (U.map Prod.fst):=by
 refine⟨h.row.gt,λmk s'=>by rw[h.len,bh],λi u N=>?_⟩;rw[ix,o6]at N;obtain⟨w,G,rfl⟩:=N;have j:=(ie.1 G).1;rcases h.row with⟨_,h0⟩|⟨_,R,F,D,Y⟩
 rw[List.map_eq_nil_iff.1 h0]at j;simp at j;rw[bh]at F;rw[FV]at D;have hR:=h.rl R (by rw[F];rfl);refine⟨.ptr R i,em w,λlc=>by rw[F];exact CQ yf j lc,aiL w,λs' T lc=>?_⟩;have V:s'.get [] R=X (.cells (U.map em)):=(T R Y w_ w_ (by rw[D];exact λe=>by cases e)).trans D;have B:((U.map em).drop i).head?=X (em w):=by rw[List.head?_drop,ix,G];rfl
 have z:=FF w;simp only[V,B,z,go_sem]
def o9.app{ev mv:aa}(h:o9 s b5 b3 b4 b11 ev mv w M l K)(D:∀k,uB ov=X k->s.get [] k=X .tok)(F:∀n,n<s.aL->uB ov≠X n->s'.get [] n=s.get [] n)(S:s.aL<=s'.aL)(B:s'.gE<=s'.aL):o9 s' b5 b3 b4 b11 ev mv w M l K:=by
 let⟨a,b,c,d,e⟩:=h.lt
 have j:∀{n:Nat}{o:aH},s.get [] n=X o->n<s.aL->o≠.tok->s'.get [] n=X o:=λ{n o} z R N=>(F n R λe=>N (by rw[D n e]at z;exact(sI z).symm)).trans z;have G:s.get [] M=_:=h.mp;exact⟨j h.h5 a (λe=>by cases e),j h.h3 b (λe=>by cases e),j h.h4 c (λe=>by cases e),j h.h11 d (λe=>by cases e),j G e (λe=>by cases e),h.isL,w_,B⟩
structure Ls (lo:Nat) (s:St) (tv cv kv:aa) (rs:List (aa×be)) (cs ks:az):Prop where
 tO:bU 1 lo s tv (rs.map Prod.fst)
 tI:∀r∈rs,au 1 (λi:Nat=>an i) r.1 r.2
 cO:bU 3 lo s cv cs
 kO:bU 1 lo s kv ks
 d1:AY tv cv
 d2:AY tv kv
 d3:AY cv kv
variable{tv:aa}
def Ls.keep{D:aa}{cs F:az}(h:Ls lo s tv cv D rs cs F)(B:∀n,lo<=n->n<s.aL->s'.get [] n=s.get [] n)(z:s.aL<=s'.aL):Ls lo s' tv cv D rs cs F:=
 ⟨h.tO.keepT (λk j=>by have:=h.tO.tok j;exact B k this.1 this.2.1) z,h.tI,h.cO.keepT (λk j=>by have:=h.cO.tok j;exact B k this.1 this.2.1) z,h.kO.keepT (λk j=>by have:=h.kO.tok j;exact B k this.1 this.2.1) z,h.d1,h.d2,h.d3⟩
def FP{a b:aa}(z:uB a=X n)(j:∀k,uB b=X k->k<n):AY a b:=λk h B=>by
 rw[z]at h
 have:=j k B
 have:=sI h;omega
structure uO (C:ba->Q3) (P:ba->Prop) (l0:ba) (E:Nat) (l:ba):Prop where
 ck:P l
 va:bm l0=true->bm l=true
 good:∀o∈l,o.AL
 len:l.length<=l0.length+2*E
 gT:dK l<=dK l0+20*E
 sub:∀p∈C l,jj p∈(C l0).map jj
structure AZ (e:ax) (b5 b3 b4 b11:Nat):Prop where
 h3:ac e 3=.ptr b3 0
 h6:ac e 6=.Gt 6 1 0
 h12:ac e 12=.func (.func 16) [] [.ptr b5 0,.ptr b3 0,.ptr b4 0,.ptr b11 0]
def AZ.mv{e:ax}(h:AZ e b5 b3 b4 b11)(g:ac e' 3=ac e 3/\ac e' 6=ac e 6/\ac e' 12=ac e 12):AZ e' b5 b3 b4 b11:=
 ⟨g.1.trans h.h3,g.2.1.trans h.h6,g.2.2.trans h.h12⟩
variable{K:hP}{l0:ba}
def aeK(T:wV Q)(e0:Q.spec 37=X qE)(f6:Q.spec 7=X lI)(e4:No Q 18)(e5:No Q 16){ev:aa}{le:MB}(f4:au 15 aK.val ev le)(hf:∀e∈le,od e)(f3:J le<=1000000){N T0:Nat}(hN:N<=1000)(hT:T0<=10)(hl:J l0+2*T0<=800)(g2:dK l0+20*T0<=700)(hC:∀l2,qm T0 l0 l2->mS wa wb wc wd wv wr C l2)(ne:b3≠b5/\b3≠b4/\b3≠b11/\b11≠b5/\b11≠b4)(g7:b3<lo)(f9:b11<lo){us:aar}(g1:J us<=1000)(hi:∀u∈us,∀x∈u,x<J le){lv:aa}{z:St}(hL:IA b3 b11 z lv us)(g0:lo<=z.aL)(hx:∀e lc s E M mv l tv cv S rs cs D,o9 s b5 b3 b4 b11 ev mv [wa,wb,wc,wd,wv,wr] M l (lN (C l) [])->uO C (mS wa wb wc wd wv wr C) l0 E l->Ls lo s tv cv S rs cs D->E+tot (rs.map Prod.snd)<=T0->J cs=J rs->J D+J rs<=N->J rs<=J us->(∀u∈rs.map Prod.snd,u∈us)->lo<=s.aL->ac e 9=S->ac e 10=cv->ac e 14=tv->ac e 13=lv->AZ e b5 b3 b4 b11->lc.gen 6=1->lc.get 6 1=X [.Ge]->K (.exit 2) ⟨e,58,lc⟩ s):
 ∀(rest B:aar)(e:ax)(lc:Ag.Loc)(s:St)(E M:Nat)(mv:aa)(l:ba)(tv cv S:aa)(rs:List (aa×be))(cs D:az),us=B++rest->o9 s b5 b3 b4 b11 ev mv [wa,wb,wc,wd,wv,wr] M l (lN (C l) [])->uO C (mS wa wb wc wd wv wr C) l0 E l->Ls lo s tv cv S rs cs D->E+tot (rs.map Prod.snd)+tot rest<=T0->J cs=J rs->J D+J rs+J rest<=N->J rs<=J B->(∀u∈rs.map Prod.snd,u∈us)->
  z.aL<=s.aL->(∀n,n<z.aL->n≠b3->n≠b11->z.get [] n≠X .tok->s.get [] n=z.get [] n)->ac e 9=S->ac e 10=cv->ac e 14=tv->ac e 13=lv->ac e 24=lv->ac e 25=an (J us)->ac e 26=an (J B)->AZ e b5 b3 b4 b11->lc.gen 6=1->lc.get 6 1=X [.Ge]->W Q 6 (.loop GU) ⟨e,58,lc⟩ s K:=by
 let⟨lcl,lln,lat⟩:=hL
 intro rest
 induction rest with
 |nil=>
  intro B e lc s E M mv l tv cv S rs cs D h1 hS hR c0 hE a0 b8 f1 Y f0 b7 e9 b0 a8 a9 V R G F g6 l6;have f5:=cL h1;refine aF ?_;simp only[go_sem,seval,GU,R,G,f5,bJ];exact hx _ _ s E M mv l tv cv S rs cs D hS hR c0 (by simpa[tot]using hE) a0 (by simpa using b8) w_ Y w_ (by simp only[sN,seval,e9]) (by simp only[sN,seval,b0]) (by simp only[sN,seval,a8]) (by simp only[sN,seval,a9]) (F.mv (by simp only[sN,seval,and_self])) g6 l6
 |cons u rest ih=>
  intro B e lc s E M mv l tv cv S rs cs D h1 hS hR c0 hE a0 b8 f1 Y f0 b7 e9 b0 a8 a9 V R G F g6 l6
  let⟨hlt,hat⟩:=cR h1
  have c8:=cq hat;have c7:=cm (n:=J B) w_
  let⟨a,c,ia,hc,ld⟩:=lat _ _ hat
  have d5:=ld s b7;have b1:=hc.cs;have c9:tot (u::rest)=J u+tot rest:=by simp[tot]
  have hK:∀k,bR k (lN (C l) [])=Z\/bR k (lN (C l) [])=X (.bool O):=λk=>by
   rw[Rt];by_cases h:k∈(C l).map jj;rw[iP h];exact .inr rfl;rw[iN h];exact .inl rfl
  have g4:=hR.len;have g3:=hR.gT;rw[c9]at hE;obtain⟨rv,s1,run,x,y,U,rfl,⟨c4,c3,c2,c1⟩,nx,c6,e2,d4⟩:=aEI T e0 f6 e4 e5 hc f4 (hi u c8) hf w_ f3 hS ne hR.good w_ w_ hK (C:=C) (λl2 Nn=>hC l2 ⟨Nn.good,Nn.valid,Nn.clo,by have:=Nn.len;omega,by have:=Nn.gT;omega⟩);have L1:Ls lo s1 tv cv S rs cs D:=c0.keep (λn h1 h2=>e2 n h2 w_ w_) nx;have b2:∀n,n<z.aL->n≠b3->n≠b11->z.get [] n≠X .tok->s1.get [] n=z.get [] n:=λn a b c d=>(e2 n w_ b c).trans (b7 n a b c d);have F3:=F.h3;have F6:=F.h6;have e3:=F.h12;have e6:=L1.tO.gt;have f8:=L1.cO.gt;have e8:=L1.kO.gt;have g5:J D+J rs+(J rest+1)<=N:=b8;rcases d4 with⟨f2,S1⟩|⟨rfl,e7,M2,l2,S1,N2,d0⟩
  ·have he:aj U 0=I:=dN f2
   let⟨cv',s2,a1,a2,a3,a4,a5,a6,a7⟩:=Nl (t:=34) aey.1 rfl d_ (s:=s1) (y:=.list 3 [.agg [x,ah U,y]] .GT) (x:=.agg [x,ah U,y]) L1.cO (by simp only[aaa,cU]) w_ w_ c6
   have c5:∀k,uB tv=X k->k<s1.aL/\s2.get [] k=s1.get [] k:=λk j=>⟨(L1.tO.tok j).2.1,a7 k (L1.tO.tok j).2.1 (λe=>L1.d1 k j e)⟩;have b6:=L1.tO.keepT (λk j=>(c5 k j).2) (by omega:s1.aL<=s2.aL)
   let⟨tv',s3,p1,p2,p3,p4,p5,p6,p7⟩:=Nl (t:=33) yf.1 rfl d_ (s:=s2) (y:=.list 1 [c] .GT) (x:=c) b6 (by simp only[aaa,cU]) (by rw[bh];omega) w_ a6
   have S3:=(S1.app (λk j=>(L1.cO.tok j).2.2) a7 w_ a6).app (λk j=>(b6.tok j).2.2) p7 w_ p6;have L3:Ls lo s3 tv' cv' S (rs++[(c,u)]) (cs++[.agg [x,ah U,y]]) D:=by
    refine⟨by rw[dj];exact p2,λr hr=>?_,a2.keepT (λk j=>?_) w_,L1.kO.keepT (λk j=>?_) w_,FP p3 λk j=>?_,FP p3 λk j=>?_,FP a3 λk j=>(L1.kO.tok j).2.1⟩;rcases fJ.1 hr with h|h
    exact L1.tI r h;rw[kq.1 h];exact hc;rw[a3]at j;have j:=sI j;exact p7 k w_ λe=>by have:=(c5 k e).1;omega
    have:=(L1.kO.tok j).2.1;exact(p7 k w_ λe=>L1.d2 k e j).trans (a7 k this λe=>L1.d3 k e j);rw[a3]at j;have j:=sI j;omega
    have:=(L1.kO.tok j).2.1;omega
   have d6:∀n,n<z.aL->n≠b3->n≠b11->z.get [] n≠X .tok->s3.get [] n=z.get [] n:=λn q1 q2 q3 q4=>by
    have e1:=b2 n q1 q2 q3 q4;have h2:s2.get [] n=z.get [] n:=(a7 n w_ λe=>q4 (by rw[<-e1];exact(L1.cO.tok e).2.2)).trans e1;exact(p7 n w_ λe=>q4 (by rw[<-h2];exact(b6.tok e).2.2)).trans h2
   refine aF ?_;simp only[go_sem,seval,GU,V,R,G,hlt,lcl,ia,d5,e3,b1];refine aU.of run d_ ?_;simp only[go_sem,seval,b0,a8,G,f8,e6,b1,c4,c3,c2,c1,he,a1,a4,p1,p4,c7,sB];refine ih (B++[u]) _ _ s3 E M mv l tv' cv' S (rs++[(c,u)]) (cs++[.agg [x,ah U,y]]) D (by rw[h1];simp) S3 hR L3 ?_ ?_ ?_ ?_ (λw hw=>?_) w_ d6 ?_ ?_ ?_ ?_ ?_ ?_ ?_ (F.mv ?_) ?_ ?_;rw[dj];simp only[tot,dj,List.sum_append,cZ,nY,List.sum_cons,List.sum_nil]at hE⊢;omega;rw[bI,bI,a0];rfl;rw[bI,uJ];omega;rw[bI,bI,uJ,uJ];omega;rw[dj]at hw;rcases fJ.1 hw with h|h
   exact Y w h;rw[kq.1 h];exact c8
   all_goals simp only[aag,sN,sL,seval,e9,a9,V,R,g6,l6,and_self]
  ·have f7:aj 0 0=O:=rfl
   let⟨kv',s2,a1,a2,a3,a4,a5,a6,a7⟩:=Nl (t:=33) yf.1 rfl d_ (s:=s1) (y:=.list 1 [c] .GT) (x:=c) L1.kO (by simp only[aaa,cU]) w_ w_ c6
   have S2:=S1.app (λk j=>(L1.kO.tok j).2.2) a7 w_ a6;have L2:Ls lo s2 tv cv kv' rs cs (D++[c]):=
    ⟨L1.tO.keepT (λk j=>a7 k (L1.tO.tok j).2.1 λe=>L1.d2 k j e) w_,L1.tI,L1.cO.keepT (λk j=>a7 k (L1.cO.tok j).2.1 λe=>L1.d3 k j e) w_,a2,L1.d1,(FP a3 λk j=>(L1.tO.tok j).2.1).symm,(FP a3 λk j=>(L1.cO.tok j).2.1).symm⟩
   have d7:∀n,n<z.aL->n≠b3->n≠b11->z.get [] n≠X .tok->s2.get [] n=z.get [] n:=λn q1 q2 q3 q4=>by
    have e1:=b2 n q1 q2 q3 q4;exact(a7 n w_ λe=>q4 (by rw[<-e1];exact(L1.kO.tok e).2.2)).trans e1
   have R2:uO C (mS wa wb wc wd wv wr C) l0 (E+J u) l2:=⟨hC l2 ⟨N2.good,N2.valid,N2.clo,by have:=N2.len;omega,by have:=N2.gT;omega⟩,λ_=>N2.valid,N2.good,by have:=N2.len;omega,by have:=N2.gT;omega,λp hp=>by
    have h:=d0 p hp;rw[Rt]at h;by_cases hm:jj p∈(C l).map jj
    let⟨q,hq,e⟩:=cy.1 hm
    rw[<-e];exact hR.sub q hq;rw[iN hm]at h;cases h⟩
   refine aF ?_;simp only[go_sem,seval,GU,V,R,G,hlt,lcl,ia,d5,e3,b1];refine aU.of run d_ ?_;simp only[go_sem,seval,e9,G,e8,b1,c4,c3,c2,c1,f7,a1,a4,c7,sB];refine ih (B++[u]) _ _ s2 (E+J u) M2 e7 l2 tv cv kv' rs cs (D++[c]) (db h1) S2 R2 L2 w_ a0 ?_ ?_ Y w_ d7 ?_ ?_ ?_ ?_ ?_ ?_ ?_ (F.mv ?_) ?_ ?_;rw[bI,uJ];omega;rw[bI];omega
   all_goals simp only[aag,sN,sL,seval,b0,a8,a9,V,R,g6,l6,and_self]
def aDv(T:wV Q)(a8:Q.spec 37=X qE)(c8:Q.spec 7=X lI)(b8:No Q 18)(c0:No Q 16){ev:aa}{le:MB}(c5:au 15 aK.val ev le)(hf:∀e∈le,od e)(c4:J le<=1000000){N T0:Nat}(hN:N<=1000)(hT:T0<=10)(hl:J l0+2*T0<=800)(c3:dK l0+20*T0<=700)(hC:∀l2,qm T0 l0 l2->mS wa wb wc wd wv wr C l2)(ne:b3≠b5/\b3≠b4/\b3≠b11/\b11≠b5/\b11≠b4)(c9:b3<lo)(a9:b11<lo)(hx:∀e lc s E M mv l Y cv,o9 s b5 b3 b4 b11 ev mv [wa,wb,wc,wd,wv,wr] M l (lN (C l) [])->uO C (mS wa wb wc wd wv wr C) l0 E l->E<=T0->Y.gt=O->cv.gt=O->ac e 9=Y->ac e 10=cv->AZ e b5 b3 b4 b11->lc.gen 6=1->lc.get 6 1=X [.Ge]->K (.exit 0) ⟨e,58,lc⟩ s):
 ∀(d:Nat)(us:aar)(e:ax)(lc:Ag.Loc)(s:St)(E M:Nat)(mv:aa)(l:ba)(lv Y:aa)(ks:az),J us<=d->o9 s b5 b3 b4 b11 ev mv [wa,wb,wc,wd,wv,wr] M l (lN (C l) [])->uO C (mS wa wb wc wd wv wr C) l0 E l->bU 1 lo s Y ks->E+tot us<=T0->J ks+J us<=N->(∀u∈us,∀x∈u,x<J le)->IA b3 b11 s lv us->lo<=s.aL->ac e 9=Y->ac e 13=lv->AZ e b5 b3 b4 b11->lc.gen 6=1->lc.get 6 1=X [.Ge]->
  W Q 6 (.loop KC) ⟨e,58,lc⟩ s K:=by
 intro d
 induction d with
 |zero=>
  intro us e lc s E M mv l lv Y ks hd hS hR b6 hE b2 hi hL b1 e9 z F g6 l6;have h0:us=[]:=qY w_;subst h0;have D:=hL.1;have B:=hL.2.1;have i0:aj 0 0=O:=rfl;have i1:aR 0 0=I:=rfl;have d2:=abE;refine aF ?_;simp only[go_sem,seval,KC,z,D,B];refine aeK T a8 c8 b8 c0 c5 hf c4 hN hT hl c3 hC ne c9 a9 (us:=[]) (fT _) (by simp) hL b1 (λe lc s1 E1 M1 S l1 c1 b7 V rs d1 c2 a1 a2 j c7 c6 a7 a5 a4 a6 k9 b0 xI a0 F1 a3 U=>?_) [] [] _ _ s E M mv l .Ge .Ge Y [] [] ks rfl hS hR ⟨.inl R_,by simp,.inl R_,b6,λk h=>(by cases h),λk h=>(by cases h),λk h=>(by cases h)⟩ (by simpa[tot]using hE) rfl (by simpa using b2) (fT _) (by simp) (aC _) (λ_ _ _ _ _=>rfl) ?_ ?_ ?_ ?_ ?_ ?_ ?_ (F.mv ?_) ?_ ?_;have h0:rs=[]:=qY (by simpa using a5);subst h0;have tL:=abv (b3:=b3) (b11:=b11) j.tO j.tI;have R:=tL.1;have G:=tL.2.1;simp only[go_sem,seval,a0,xI,D,B,R,G,nY,Int.ofNat_zero,i0];exact hx _ _ s1 E1 M1 S l1 V b7 a1 a2 w_ j.kO.gt j.cO.gt (by simp only[sN,seval,k9]) (by simp only[sN,seval,b0]) (F1.mv (by simp only[sN,seval,and_self])) a3 U
  all_goals first|(simp only[sN,seval,e9,z,and_self];done)|(simp only[sN,seval,e9,z,and_self];rfl)|(first|exact g6|exact l6)
 |succ d ih=>
  intro us e lc s E M mv l lv Y ks hd hS hR b6 hE b2 hi hL b1 e9 z F g6 l6;have D:=hL.1;have B:=hL.2.1;refine aF ?_;simp only[go_sem,seval,KC,z,D,B];refine aeK T a8 c8 b8 c0 c5 hf c4 hN hT hl c3 hC ne c9 a9 (us:=us) w_ hi hL b1 (λe lc s1 E1 M1 S l1 c1 b7 V rs d1 c2 a1 a2 j c7 c6 a7 a5 a4 a6 k9 b0 xI a0 F1 a3 U=>?_) us [] _ _ s E M mv l .Ge .Ge Y [] [] ks rfl hS hR ⟨.inl R_,by simp,.inl R_,b6,λk h=>(by cases h),λk h=>(by cases h),λk h=>(by cases h)⟩ (by simpa[tot]using hE) rfl (by simpa using b2) (fT _) (by simp) (aC _) (λ_ _ _ _ _=>rfl) ?_ ?_ ?_ ?_ ?_ ?_ ?_ (F.mv ?_) ?_ ?_
  ·have tL:=abv (b3:=b3) (b11:=b11) j.tO j.tI
   have R:=tL.1;have G:=tL.2.1;cases hq:aj (((rs.map Prod.snd).length:Nat):Int) ((J us:Nat):Int)with
   |true=>
    simp only[go_sem,seval,a0,xI,D,B,R,G,hq];exact hx _ _ s1 E1 M1 S l1 V b7 a1 a2 w_ j.kO.gt j.cO.gt (by simp only[sN,seval,k9]) (by simp only[sN,seval,b0]) (F1.mv (by simp only[sN,seval,and_self])) a3 U
   |false=>
    have d0:¬((((rs.map Prod.snd).length:Nat):Int)=((J us:Nat):Int)):=of_decide_eq_false hq;rw[bh]at d0;simp only[go_sem,seval,a0,xI,D,B,R,G,hq];refine ih (rs.map Prod.snd) _ _ s1 E1 M1 S l1 c1 V c2 (by rw[bh];omega) a1 a2 j.kO c7 (by rw[bh];exact a7) (λu hu=>hi u (a4 u hu)) tL a6 ?_ ?_ (F1.mv ?_) a3 U
    all_goals simp only[sN,seval,k9,xI,and_self]
  all_goals first|(simp only[sN,seval,e9,z,and_self];done)|(simp only[sN,seval,e9,z,and_self];rfl)|(first|exact g6|exact l6)
def aDu(T:wV Q)(H:CL Q)(hK:∀i,1000000<=Q.kmax i)(B:Q.spec 37=X qE)(a5:Q.spec 7=X lI)(a8:No Q 42)(b0:No Q 40)(b1:No Q 39)(a0:No Q 82)(a2:No Q 81)(Y:No Q 133)(a3:No Q 80)(b6:No Q 38)(c0:No Q 19)(a6:Q.spec 61=Z)(a4:Q.specW 61=X uj)(a9:No Q 41)(S:No Q 18)(b7:No Q 16)(b8:No Q 15)(e1:No Q 6){ev:aa}{le:MB}(ho:au 6 Obj.val ov l0)(hg:∀o∈l0,o.AL)(G:au 15 aK.val ev le)(hf:∀e∈le,od e)(hid:∀e∈le,J e.ids<1000000)(hT:J le<=10)(hl:J l0<=780)(e2:dK l0<=500)(d7:mS wa wb wc wd wv wr C l0)(hC:∀l2,qm (J le) l0 l2->mS wa wb wc wd wv wr C l2)(hw:wa.cells=[wa]/\wb.cells=[wb]/\wc.cells=[wc]/\wd.cells=[wd]/\wv.cells=[wv]/\wr.cells=[wr])(d4:s.gE<=s.aL):
 ∃v s',ai Q 6 [.agg [ov],.agg [wa,wb,wc,wd,wv,wr],ev] s v s'/\(s'.gE<=s'.aL/\∃mv kv cv l E,v=.tup [.agg [mv],kv,cv]/\(kv.gt=O/\cv.gt=O)/\au 6 Obj.val mv l/\E<=J le/\uO C (mS wa wb wc wd wv wr C) l0 E l):=by
 have V:=T.w270;have a1:=T.w180;have c7:=ho.cs;have a7:=G.cs
 let⟨c1,c2,c3⟩:=d7
 let⟨cv,hck,hcv⟩:=c3 ov ho
 obtain⟨u,R⟩:=cw (((s.new (.cells [ov])).new (.cells [wa,wb,wc,wd,wv,wr])).new (.cells [ev]));have un:u.aL=s.aL+3:=by rw[<-R];rfl
 have uw:u.gE<=u.aL:=by rw[<-R];exact co (co (co d4))
 have u3:u.get [] s.aL=X (.cells [ov]):=by
  rw[<-R,cQ (by show s.aL<s.aL+1+1;omega),cQ (by show s.aL<s.aL+1;omega)];exact cr
 have u4:u.get [] (s.aL+1)=X (.cells [wa,wb,wc,wd,wv,wr]):=by
  rw[<-R,cQ (by show s.aL+1<s.aL+1+1;omega)];exact cr
 have u5:u.get [] (s.aL+2)=X (.cells [ev]):=by rw[<-R];exact cr
 obtain⟨_,s1,c6,rfl,hM,D,e3,d0,_⟩:=avm B S b8 hcv c2 w_ uw a5 hck
 let⟨z,hz,zn,zw,zg,z11⟩:=zr (.cells [.nilm]) (.cells [.map u.aL]) d0
 have hS:o9 z (s.aL+2) s.aL (s.aL+1) s1.aL ev ov [wa,wb,wc,wd,wv,wr] u.aL l0 (lN (C l0) []):=
  ⟨(zg _ w_).trans ((D _ w_).trans u5),(zg _ w_).trans ((D _ w_).trans u3),(zg _ w_).trans ((D _ w_).trans u4),z11,(zg _ w_).trans hM,ho,w_,zw⟩
 have z5:=hS.h5
 let⟨v,s2,r39,u2,U,lo,hU,hlo,hUi,hUl,hUt⟩:=aFo hK a8 b0 b1 H V a1 a0 a2 Y a3 b6 c0 a6 a4 a9 G (λe h=>(hf e h).toGood) hid w_ zw
 have c4:=hU.row.gt;have S2:=hS.up u2;have d2:=u2.nx;have cn:aa.nilm.cells=[aa.nilm]:=rfl;have dn:List.drop 1 [aa.nilm]=[]:=rfl;have b2:s.aL+1+1=s.aL+2:=rfl;refine ai.ofNRZ aue (aM ?_);simp only[go_sem,seval,k6,c7,a7,hw,R,b2,u3,u4];refine aU.of c6 d_ ?_;simp only[go_sem,seval,dh,cr,dq,cn,dn,b2,aC,hz,z5,a7];refine aU.of r39 d_ ?_;simp only[go_sem,seval,c4];refine aDv T B a5 S b7 G hf w_ (b5:=s.aL+2) (b3:=s.aL) (b4:=s.aL+1) (b11:=s1.aL) (lo:=z.aL) (N:=10) (T0:=J le) w_ hT w_ w_ hC ⟨w_,w_,w_,w_,w_⟩ w_ w_ (λe lc s3 E M mv l kv e0 j d5 d6 kc cc k9 c9 F g6 l6=>?_) (U.map Prod.fst).length (U.map Prod.fst) _ _ s2 0 u.aL ov l0 v .Ge [] (aC _) S2 ⟨⟨c1,c2,c3⟩,λh=>h,hg,w_,w_,λp hp=>cy.2 ⟨p,hp,rfl⟩⟩ (.inl R_) w_ (by rw[bh,bC];omega) (λw d1=>by
  obtain⟨q,hq,rfl⟩:=cy.1 d1;exact(hUi q hq).2) (avL hU w_ w_) d2 ?_ ?_ ⟨?_,?_,?_⟩ ?_ ?_
 have F3:=F.h3;have F6:=F.h6;have c5:=j.h3;have c8:=j.isL.cs;simp only[go_sem,seval,F3,F6,k9,c9,g6,l6,c5,c8,kc,cc];exact⟨_,rfl,j.mw,mv,kv,e0,l,E,rfl,⟨kc,cc⟩,j.isL,d6,d5⟩
 all_goals first|(simp only[sN,sL,seval];done)|(simp only[sN,sL,seval];rfl)|rfl
variable{o:Obj}
def avx(go:o.AL)(Y:J o.gT<=1000000)(T:lc.gen 2=1)(D:lc.get 2 1=X o.cells)(V:∀e,ac e 2=.Gt 2 1 0->K (.exit 0) ⟨e,61,lc⟩ s)(hr:∀e,ac e 4=.bool I->K .ret ⟨e,61,lc⟩ s):
 ∀(rest h:cf)(e:ax),o.gT=h++rest->ac e 2=.Gt 2 1 0->ac e 5=an (J h)->W Q 71 (.loop KH) ⟨e,61,lc⟩ s K:=by
 intro rest;have N:=go.all;have j:=go.gT.lenS bM;simp only[Obj.cells]at D
 induction rest with
 |nil=>
  intro h e F z G;have S:=cL F;refine aF ?_;simp only[go_sem,seval,KH,z,G,T,D,N,j,S,bJ];exact V _ (by simp only[sN,seval,z])
 |cons x rest U=>
  intro h e F z G
  let⟨hlt,hat⟩:=cR F
  have B:=λlc k=>go.gT.at bM.2.2.1 hat lc k;have R:=cm (n:=J h) w_;refine aF ?_;cases hq:aR 300 ((J x:Nat):Int)with
  |true=>
   simp only[go_sem,seval,KH,z,G,T,D,N,j,hlt,B,aw,hq];exact hr _ (by simp only[sN,seval])
  |false=>
   simp only[go_sem,seval,KH,z,G,T,D,N,j,hlt,B,aw,hq,R];refine U (h++[x]) _ (db F) ?_ ?_<;>simp only[aag,sN,seval,z]
def avy(go:o.AL)(a0:J o.uP<=1000000)(R:lc.gen 2=1)(B:lc.get 2 1=X o.cells)(U:s.gE<=s.aL)(Y:∀e,K (.exit 2) ⟨e,61,lc⟩ s)(hr:∀e,ac e 4=.bool I->K .ret ⟨e,61,lc⟩ s):
 ∀(rest h:wf)(e:ax),o.uP=h++rest->ac e 2=.Gt 2 1 0->ac e 6=an (J h)->W Q 71 (.loop QJ) ⟨e,61,lc⟩ s K:=by
 intro rest;have G:=go.all;have z:=go.uP.lenS kh;simp only[Obj.cells]at B
 induction rest with
 |nil=>
  intro h e N j F;have T:=cL N;refine aF ?_;simp only[go_sem,seval,QJ,j,F,R,B,G,z,T,bJ];exact Y _
 |cons t rest V=>
  intro h e N j F
  let⟨hlt,hat⟩:=cR N
  have D:=λlc k=>go.uP.at kh.2.2.1 hat lc k;have S:=cm (n:=J h) w_;have lt:=iZ U;refine aF ?_;simp only[go_sem,seval,QJ,j,F,R,B,G,z,hlt];refine⟨U,?_⟩;cases hq:aR 600 (IntKind.i64.wrap (((J t.1:Nat):Int)+((J t.2:Nat):Int)))with
  |true=>
   simp only[go_sem,seval,j,F,R,B,G,D,bW,nq,hq,lt];exact hr _ (by simp only[sN,seval])
  |false=>
   simp only[go_sem,seval,j,F,R,B,G,D,bW,nq,hq,lt,S];refine V (h++[t]) _ (db N) ?_ ?_<;>simp only[aag,sN,seval,j]
def amr(F:No Q 71)(go:o.AL)(V:n<=1000)(R:s.gE<=s.aL):∃b:Bool,ai Q 71 [o.val,an n] s (.bool b) s/\(b=O->J o.gT<=n):=by
 have B:=go.all;have z:=go.gT.lenS bM;have j:=go.uP.lenS kh;obtain⟨v,s',T,b,rfl,rfl,S⟩:∃v s',ai Q 71 [o.val,an n] s v s'/\∃b:Bool,v=.bool b/\s'=s/\(b=O->J o.gT<=n):=by
  refine ai.ofNRZ aug (aM ?_);cases c1:aR 300 ((J o.id:Nat):Int)with
  |true=>
   simp only[go_sem,seval,Obj.val,Obj.cells,B,z,j,c1];exact⟨_,rfl,I,rfl,λh=>by cases h⟩
  |false=>
  cases c2:aR (n:Int) ((J o.gT:Nat):Int)with
  |true=>
   simp only[go_sem,seval,Obj.val,Obj.cells,B,z,j,c1,c2];exact⟨_,rfl,I,rfl,λh=>by cases h⟩
  |false=>
  have N:J o.gT<=n:=by
   have:¬((n:Int)<((J o.gT:Nat):Int)):=of_decide_eq_false c2;omega
  cases c3:aR 65 ((J o.uP:Nat):Int)with
  |true=>
   simp only[go_sem,seval,Obj.val,Obj.cells,B,z,j,c1,c2,c3];exact⟨_,rfl,I,rfl,λh=>by cases h⟩
  |false=>
  have U:J o.uP<=65:=by
   have:¬((65:Int)<((J o.uP:Nat):Int)):=of_decide_eq_false c3;omega
  simp only[go_sem,seval,Obj.val,Obj.cells,B,z,j,c1,c2,c3];refine avx go w_ ?_ ?_ (λe G=>?_) (λe D=>?_) o.gT [] _ rfl ?_ ?_;rfl;rfl
  ·simp only[go_sem,seval]
   refine avy go w_ ?_ ?_ R (λe=>?_) (λe D=>?_) o.uP [] _ rfl ?_ ?_;rfl;rfl;simp only[go_sem,seval];exact⟨_,rfl,O,rfl,λ_=>N⟩;simp only[go_sem,seval,D];exact⟨_,rfl,I,rfl,λh=>by cases h⟩
   all_goals first|(simp only[sN,seval,G];done)|(simp only[sN,seval,G];rfl)|rfl
  simp only[go_sem,seval,D];exact⟨_,rfl,I,rfl,λh=>by cases h⟩
  all_goals first|(simp only[sN,seval];done)|(simp only[sN,seval];rfl)|rfl
 exact⟨b,T,S⟩
structure aK.Ok (e:aK):Prop where
 gT:au 1 aw e.refsV e.gT
 pr:bn e.refsV=true
 obj:e.obj.AL
 id:e.id.length<small
 other:e.other.length<small
 node:e.node.length<small
 key:e.key.length<small
 value:e.value.length<small
 ref:∀r∈e.gT,r.length<small
variable{e:aK}
def aK.Ok.good(h:e.Ok)(j:J e.gT<=1000000):e.AL:=⟨h.gT,h.pr,h.obj,h.id,h.other,h.node,h.key,h.value,j,h.ref⟩
variable{g:Nat}{iv:aa}
def avu{d:aK}(G:d.Ok)(a0:J d.gT<=1000000)(g6:lc.gen 6=g)(D:lc.get 6 g=X d.cells){ev:aa}(hx:∀e,ac e 0=ev->ac e 5=iv->K (.exit 2) ⟨e,83,lc⟩ s)(hr:∀e,ac e 4=.bool I->K .ret ⟨e,83,lc⟩ s):
 ∀(rest h:cf)(e:ax),d.gT=h++rest->ac e 6=.Gt 6 g 0->ac e 7=an (J h)->ac e 0=ev->ac e 5=iv->W Q 32 (.loop Ki) ⟨e,83,lc⟩ s K:=by
 intro rest;have Y:=G.gT.cs;have R:=G.obj.all;have j:=G.gT.lenS bM;simp only[aK.cells]at D
 induction rest with
 |nil=>
  intro h e F B N V U;have T:=cL F;refine aF ?_;simp only[go_sem,seval,Ki,B,N,g6,D,Y,R,j,T,bJ];exact hx _ (by simp only[sN,seval,V]) (by simp only[sN,seval,U])
 |cons x rest ih=>
  intro h e F B N V U
  let⟨hlt,hat⟩:=cR F
  have z:=λlc k=>G.gT.at bM.2.2.1 hat lc k;have S:=cm (n:=J h) w_;refine aF ?_;cases hq:aR 300 ((J x:Nat):Int)with
  |true=>
   simp only[go_sem,seval,Ki,B,N,g6,D,Y,R,j,hlt,z,aw,hq];exact hr _ (by simp only[sN,seval])
  |false=>
   simp only[go_sem,seval,Ki,B,N,g6,D,Y,R,j,hlt,z,aw,hq,S];refine ih (h++[x]) _ (db F) ?_ ?_ ?_ ?_<;>simp only[aag,sN,seval,B,V,U]
set_option maxHeartbeats 4000000 in
set_option maxRecDepth 4000 in
def avv(U:No Q 71){ev:aa}{l:MB}(hl:au 15 aK.val ev l)(hg:∀e∈l,e.Ok)(a2:J l<=1000000)(hm:s.gE<=s.aL)(hx:(∀d∈l,od d)->∀e lc,K (.exit 0) ⟨e,83,lc⟩ s)(S:∀e lc,ac e 4=.bool I->K .ret ⟨e,83,lc⟩ s):
 ∀(rest j:MB)(e:ax)(lc:Ag.Loc),l=j++rest->(∀d∈j,od d)->ac e 0=ev->ac e 5=an (J j)->W Q 32 (.loop xJ) ⟨e,83,lc⟩ s K:=by
 intro rest;have B:=hl.cs;have z:=hl.lenS nk
 induction rest with
 |nil=>
  intro j e lc h1 hp G F;have a1:=cL h1;refine aF ?_;simp only[go_sem,seval,xJ,G,F,B,z,a1,bJ];exact hx (by rw[h1,jV];exact hp) _ _
 |cons d rest ih=>
  intro j e lc h1 hp G F
  let⟨hlt,hat⟩:=cR h1
  have T:=hg d (cq hat);have R:=T.gT.cs;have N:=T.obj.all;have Y:=T.gT.lenS bM;have V:=T.obj.uP.lenS kh;have D:=λlc k=>hl.at nk.2.2.1 hat lc k;have a0:=cm (n:=J j) w_
  let⟨b,r264,hb⟩:=amr U T.obj (n:=20) w_ hm
  simp only[Obj.val,Obj.cells]at r264;refine aF ?_;cases c1:aR 300 ((J d.id:Nat):Int)with
  |true=>
   simp only[go_sem,seval,xJ,G,F,hlt,B,z,D,aK.val,aK.cells,R,N,c1];exact S _ _ (by simp only[sN,seval])
  |false=>
  cases c2:aR 300 ((J d.other:Nat):Int)with
  |true=>
   simp only[go_sem,seval,xJ,G,F,hlt,B,z,D,aK.val,aK.cells,R,N,c1,c2];exact S _ _ (by simp only[sN,seval])
  |false=>
  cases c3:aR 300 ((J d.node:Nat):Int)with
  |true=>
   simp only[go_sem,seval,xJ,G,F,hlt,B,z,D,aK.val,aK.cells,R,N,c1,c2,c3];exact S _ _ (by simp only[sN,seval])
  |false=>
  cases c4:aR 300 ((J d.key:Nat):Int)with
  |true=>
   simp only[go_sem,seval,xJ,G,F,hlt,B,z,D,aK.val,aK.cells,R,N,c1,c2,c3,c4];exact S _ _ (by simp only[sN,seval])
  |false=>
  cases c5:aR 300 ((J d.value:Nat):Int)with
  |true=>
   simp only[go_sem,seval,xJ,G,F,hlt,B,z,D,aK.val,aK.cells,R,N,c1,c2,c3,c4,c5];exact S _ _ (by simp only[sN,seval])
  |false=>
  cases c6:aR 20 ((J d.gT:Nat):Int)with
  |true=>
   simp only[go_sem,seval,xJ,G,F,hlt,B,z,D,aK.val,aK.cells,R,N,Y,c1,c2,c3,c4,c5,c6];exact S _ _ (by simp only[sN,seval])
  |false=>
  have h6:J d.gT<=20:=by
   have:¬((20:Int)<((J d.gT:Nat):Int)):=of_decide_eq_false c6;omega
  simp only[go_sem,seval,xJ,G,F,hlt,B,z,D,aK.val,aK.cells,R,N,Y,c1,c2,c3,c4,c5,c6];refine aU.of r264 d_ ?_;cases b with
  |false=>
   simp only[go_sem,seval,R,N];exact S _ _ (by simp only[sN,seval])
  |true=>
  cases c8:aR 20 ((J d.obj.uP:Nat):Int)with
  |true=>
   simp only[go_sem,seval,R,N,V,c8];exact S _ _ (by simp only[sN,seval])
  |false=>
  simp only[go_sem,seval,R,N,V,c8];refine avu T w_ (g:=lc.gen 6+1) ?_ ?_ (ev:=ev) (iv:=an (J j)) (λe q0 q5=>?_) (λe q4=>?_) d.gT [] _ rfl ?_ ?_ ?_ ?_;simp only[sL,seval];simp only[sL,seval,aK.cells]
  ·simp only[go_sem,seval,q5,a0]
   refine ih (j++[d]) _ _ (db h1) (λx hx=>?_) ?_ ?_;rcases fJ.1 hx with h|h
   exact hp x h;rw[kq.1 h];exact⟨T.good w_,h6,hb rfl⟩
   all_goals simp only[aag,sN,seval,q0]
  simp only[go_sem,seval];exact S _ _ q4
  all_goals first|(simp only[sN,seval,G,F];done)|(simp only[sN,seval,G,F];rfl)|rfl
def amq(j:No Q 71)(G:No Q 32){ev:aa}{l:MB}(F:au 15 aK.val ev l)(R:∀e∈l,e.Ok)(Y:n<=1000000)(N:s.gE<=s.aL):∃b:Bool,ai Q 32 [ev,an n] s (.bool b) s/\(b=O->J l<=n/\∀d∈l,od d):=by
 have B:=F.cs;have z:=F.lenS nk;obtain⟨v,s',U,b,rfl,rfl,T⟩:∃v s',ai Q 32 [ev,an n] s v s'/\∃b:Bool,v=.bool b/\s'=s/\(b=O->J l<=n/\∀d∈l,od d):=by
  refine ai.ofNRZ aty (aM ?_);cases c1:aR (n:Int) ((J l:Nat):Int)with
  |true=>
   simp only[go_sem,seval,B,z,c1];exact⟨_,rfl,I,rfl,λh=>by cases h⟩
  |false=>
  have D:J l<=n:=by
   have:¬((n:Int)<((J l:Nat):Int)):=of_decide_eq_false c1;omega
  simp only[go_sem,seval,B,z,c1];refine avv j F R w_ N (λS e lc=>?_) (λe lc V=>?_) l [] _ _ rfl (λd h=>by cases h) ?_ ?_;simp only[go_sem,seval];exact⟨_,rfl,O,rfl,λ_=>⟨D,S⟩⟩;simp only[go_sem,seval,V];exact⟨_,rfl,I,rfl,λh=>by cases h⟩
  all_goals first|(simp only[sN,seval];done)|(simp only[sN,seval];rfl)|rfl
 exact⟨b,U,T⟩
attribute[go_sem]GJ apR
def avz(go:o.AL)(a0:J o.gT<=1000000)(g6:lc.gen 6=g)(D:lc.get 6 g=X o.cells)(Y:∀e,ac e 2=.Gt 2 1 0->ac e 5=iv->ac e 6=.Gt 6 g 0->K (.exit 2) ⟨e,79,lc⟩ s)(hr:∀e,ac e 4=.bool I->K .ret ⟨e,79,lc⟩ s):
 ∀(rest h:cf)(e:ax),o.gT=h++rest->ac e 2=.Gt 2 1 0->ac e 5=iv->ac e 6=.Gt 6 g 0->ac e 7=an (J h)->W Q 33 (.loop Kj) ⟨e,79,lc⟩ s K:=by
 intro rest;have N:=go.all;have j:=go.gT.lenS bM;simp only[Obj.cells]at D
 induction rest with
 |nil=>
  intro h e F U T z G;have S:=cL F;refine aF ?_;simp only[go_sem,seval,Kj,z,G,g6,D,N,j,S,bJ];exact Y _ (by simp only[sN,seval,U]) (by simp only[sN,seval,T]) (by simp only[sN,seval,z])
 |cons x rest V=>
  intro h e F U T z G
  let⟨hlt,hat⟩:=cR F
  have B:=λlc k=>go.gT.at bM.2.2.1 hat lc k;have R:=cm (n:=J h) w_;refine aF ?_;cases hq:aR 60 ((J x:Nat):Int)with
  |true=>
   simp only[go_sem,seval,Kj,z,G,g6,D,N,j,hlt,B,aw,hq];exact hr _ (by simp only[sN,seval])
  |false=>
   simp only[go_sem,seval,Kj,z,G,g6,D,N,j,hlt,B,aw,hq,R];refine V (h++[x]) _ (db F) ?_ ?_ ?_ ?_<;>simp only[aag,sN,seval,U,T,z]
def avA(go:o.AL)(a0:J o.uP<=1000000)(g6:lc.gen 6=g)(B:lc.get 6 g=X o.cells)(V:s.gE<=s.aL)(hx:∀e,ac e 2=.Gt 2 1 0->ac e 5=iv->K (.exit 4) ⟨e,79,lc⟩ s)(hr:∀e,ac e 4=.bool I->K .ret ⟨e,79,lc⟩ s):
 ∀(rest h:wf)(e:ax),o.uP=h++rest->ac e 2=.Gt 2 1 0->ac e 5=iv->ac e 6=.Gt 6 g 0->ac e 8=an (J h)->W Q 33 (.loop Qg) ⟨e,79,lc⟩ s K:=by
 intro rest;have G:=go.all;have z:=go.uP.lenS kh;simp only[Obj.cells]at B
 induction rest with
 |nil=>
  intro h e N U T j F;have S:=cL N;refine aF ?_;simp only[go_sem,seval,Qg,j,F,g6,B,G,z,S,bJ];exact hx _ (by simp only[sN,seval,U]) (by simp only[sN,seval,T])
 |cons t rest Y=>
  intro h e N U T j F
  let⟨hlt,hat⟩:=cR N
  have D:=λlc k=>go.uP.at kh.2.2.1 hat lc k;have R:=cm (n:=J h) w_;have lt:=iZ V;refine aF ?_;simp only[go_sem,seval,Qg,j,F,g6,B,G,z,hlt];refine⟨V,?_⟩;cases hq:aR 300 (IntKind.i64.wrap (((J t.1:Nat):Int)+((J t.2:Nat):Int)))with
  |true=>
   simp only[go_sem,seval,j,F,g6,B,G,D,bW,nq,hq,lt];exact hr _ (by simp only[sN,seval])
  |false=>
   simp only[go_sem,seval,j,F,g6,B,G,D,bW,nq,hq,lt,R];refine Y (h++[t]) _ (db N) ?_ ?_ ?_ ?_<;>simp only[aag,sN,seval,U,T,j]
def avB(hl:au 6 Obj.val ov l)(hg:∀o∈l,o.AL)(a2:J l<=1000000)(hm:s.gE<=s.aL)(hx:(∀o∈l,J o.gT<=12)->∀e lc,K (.exit 0) ⟨e,79,lc⟩ s)(U:∀e lc,ac e 4=.bool I->K .ret ⟨e,79,lc⟩ s):
 ∀(rest j:ba)(e:ax)(lc:Ag.Loc),l=j++rest->(∀o∈j,J o.gT<=12)->ac e 2=.Gt 2 1 0->lc.gen 2=1->lc.get 2 1=X [ov]->ac e 5=an (J j)->W Q 33 (.loop DI) ⟨e,79,lc⟩ s K:=by
 intro rest;have B:=hl.cs;have z:=hl.lenS ek
 induction rest with
 |nil=>
  intro j e lc V hp N T S G;have a1:=cL V;refine aF ?_;simp only[go_sem,seval,DI,N,G,T,S,B,z,a1,bJ];exact hx (by rw[V,jV];exact hp) _ _
 |cons o rest ih=>
  intro j e lc V hp N T S G
  let⟨hlt,hat⟩:=cR V
  have go:=hg o (cq hat);have Y:=go.all;have D:=go.gT.lenS bM;have R:=go.uP.lenS kh;have F:=λlc k=>hl.at ek.2.2.1 hat lc k;have a0:=cm (n:=J j) w_;refine aF ?_;cases c1:aR 12 ((J o.gT:Nat):Int)with
  |true=>
   simp only[go_sem,seval,DI,N,G,T,S,B,z,hlt,F,Obj.val,Obj.cells,Y,D,c1];exact U _ _ (by simp only[sN,seval])
  |false=>
  cases c2:aR 20 ((J o.uP:Nat):Int)with
  |true=>
   simp only[go_sem,seval,DI,N,G,T,S,B,z,hlt,F,Obj.val,Obj.cells,Y,D,R,c1,c2];exact U _ _ (by simp only[sN,seval])
  |false=>
  cases c3:aR 60 ((J o.id:Nat):Int)with
  |true=>
   simp only[go_sem,seval,DI,N,G,T,S,B,z,hlt,F,Obj.val,Obj.cells,Y,D,R,c1,c2,c3];exact U _ _ (by simp only[sN,seval])
  |false=>
  have r1:J o.gT<=12:=by
   have:¬((12:Int)<((J o.gT:Nat):Int)):=of_decide_eq_false c1;omega
  have r2:J o.uP<=20:=by
   have:¬((20:Int)<((J o.uP:Nat):Int)):=of_decide_eq_false c2;omega
  simp only[go_sem,seval,DI,N,G,T,S,B,z,hlt,F,Obj.val,Obj.cells,Y,D,R,c1,c2,c3];refine avz go w_ (g:=lc.gen 6+1) ?_ ?_ (iv:=an (J j)) (λe q2 q5 q6=>?_) (λe q4=>?_) o.gT [] _ rfl ?_ ?_ ?_ ?_;simp only[sL,seval];simp only[sL,seval,Obj.cells]
  ·simp only[go_sem,seval]
   refine avA go w_ (g:=lc.gen 6+1) ?_ ?_ hm (iv:=an (J j)) (λe q2 q5=>?_) (λe q4=>?_) o.uP [] _ rfl ?_ ?_ ?_ ?_;simp only[sL,seval];simp only[sL,seval,Obj.cells]
   ·simp only[go_sem,seval,q5,a0]
    refine ih (j++[o]) _ _ (db V) (λx hx=>?_) ?_ ?_ ?_ ?_;rcases fJ.1 hx with h|h
    exact hp x h;rw[kq.1 h];exact r1
    all_goals simp only[aag,sL,seval,q2,T,S]
   simp only[go_sem,seval];exact U _ _ q4
   all_goals first|(simp only[sN,seval,q2,q5,q6];done)|(simp only[sN,seval,q2,q5,q6];rfl)|rfl
  simp only[go_sem,seval];exact U _ _ q4
  all_goals first|(simp only[sN,seval,N,G];done)|(simp only[sN,seval,N,G];rfl)|rfl
def Wr(F:No Q 33)(D:au 6 Obj.val ov l)(N:∀o∈l,o.AL)(V:n<=1000000)(G:s.gE<=s.aL):∃b:Bool,ai Q 33 [.agg [ov],an n] s (.bool b) s/\(b=O->J l<=n/\∀o∈l,J o.gT<=12):=by
 have z:=D.cs;have j:=D.lenS ek;obtain⟨v,s',T,b,rfl,rfl,S⟩:∃v s',ai Q 33 [.agg [ov],an n] s v s'/\∃b:Bool,v=.bool b/\s'=s/\(b=O->J l<=n/\∀o∈l,J o.gT<=12):=by
  refine ai.ofNRZ atz (aM ?_);cases c1:aR (n:Int) ((J l:Nat):Int)with
  |true=>
   simp only[go_sem,seval,z,j,c1];exact⟨_,rfl,I,rfl,λh=>by cases h⟩
  |false=>
  have B:J l<=n:=by
   have:¬((n:Int)<((J l:Nat):Int)):=of_decide_eq_false c1;omega
  simp only[go_sem,seval,z,j,c1];refine avB D N w_ G (λR e lc=>?_) (λe lc U=>?_) l [] _ _ rfl (λd h=>by cases h) ?_ ?_ ?_ ?_;simp only[go_sem,seval];exact⟨_,rfl,O,rfl,λ_=>⟨B,R⟩⟩;simp only[go_sem,seval,U];exact⟨_,rfl,I,rfl,λh=>by cases h⟩
  all_goals first|(simp only[sN,seval];done)|(simp only[sN,seval];rfl)|rfl
 exact⟨b,T,S⟩
variable{l:vy}{rv:aa}
def avC(hl:au 8 aW.val rv l){x:aW}(hi:l[i]?=X x)(R:x.OkS){n:Int}(hx:∀e,ac e 0=rv->ac e 1=ah n->ac e 5=an i->K (.exit 2) ⟨e,76,lc⟩ s)(hr:∀e,ac e 4=.bool I->K .ret ⟨e,76,lc⟩ s):
 ∀(rest h:cf)(e:ax),x.values=h++rest->ac e 0=rv->ac e 1=ah n->ac e 5=an i->ac e 6=an (J h)->W Q 70 (.loop KF) ⟨e,76,lc⟩ s K:=by
 intro rest;have a1:=aab;have a0:=R.len;have j:=R.vals.lenS bM;have z:=R.vals.gt;have B:=hl.gt;have D:=λlc k=>hl.at sF.2.2.1 hi lc k
 induction rest with
 |nil=>
  intro h e T F Y N S;have V:=cL T;refine aF ?_;simp only[go_sem,seval,KF,F,N,S,B,D,aW.val,aW.cells,z,j,V,bJ]
  simp_all [sN]
 |cons v rest ih=>
  intro h e T F Y N S
  let⟨hlt,hat⟩:=cR T
  have G:=λlc k=>R.vals.at bM.2.2.1 hat lc k;have U:IntKind.i64.wrap (((J h:Nat):Int)+1)=((J h+1:Nat):Int):=by rw[kj w_ w_];omega
  refine aF ?_;cases hb:aR 300 ((J v:Nat):Int)with
  |true=>
   simp only[go_sem,seval,KF,F,N,S,B,D,G,aW.val,aW.cells,aw,z,j,hlt,vw,hb];exact hr _ (by simp only[sN,seval])
  |false=>
   simp only[go_sem,seval,KF,F,N,S,B,D,G,aW.val,aW.cells,aw,z,j,hlt,vw,hb,U];refine ih (h++[v]) _ (db T) ?_ ?_ ?_ ?_<;>simp only[sN,seval,F,Y,N,sA]
def avD(U:au 8 aW.val rv l)(a0:∀x∈l,x.OkS)(a2:J l<small){n:Int}(hm:s.gE<=s.aL)(hx:∀e,(∀x∈l,x.Ok)->ac e 0=rv->ac e 1=ah n->K (.exit 0) ⟨e,76,lc⟩ s)(hr:∀e,ac e 4=.bool I->K .ret ⟨e,76,lc⟩ s):
 ∀(rest j:vy)(e:ax),l=j++rest->(∀x∈j,x.Ok)->ac e 0=rv->ac e 1=ah n->ac e 5=an (J j)->W Q 70 (.loop QI) ⟨e,76,lc⟩ s K:=by
 intro rest;have hs:=aab;have z:=U.gt;have S:=U.lenS sF
 induction rest with
 |nil=>
  intro j e T hp B V G;have a1:=cL T;refine aF ?_;simp only[go_sem,seval,QI,B,G,z,S,a1,bJ];exact hx _ (by rw[T,jV];exact hp) (by simp only[sN,seval,B]) (by simp only[sN,seval,V])
 |cons x rest ih=>
  intro j e T hp B V G
  let⟨hlt,hat⟩:=cR T
  have F:=a0 x (cq hat);have R:=F.vals.gt;have N:=F.vals.lenS bM;have D:=λlc k=>U.at sF.2.2.1 hat lc k;have Y:IntKind.i64.wrap (((J j:Nat):Int)+1)=((J j+1:Nat):Int):=by rw[kj w_ w_];omega
  refine aF ?_;simp only[go_sem,seval,QI,B,G,z,S,hlt];refine⟨hm,?_⟩;cases e1:aR 300 (IntKind.i64.wrap (IntKind.i64.wrap (IntKind.i64.wrap ((J x.area:Nat)+(J x.key:Nat):Int)+(J x.ifK:Nat))+(J x.ifV:Nat)))with
  |true=>
   simp only[go_sem,seval,B,G,z,D,aW.val,aW.cells,vw,e1];exact hr _ (by simp only[sN,seval])
  |false=>
  simp only[go_sem,seval,B,G,z,D,aW.val,aW.cells,vw,e1];cases e2:aR 65 ((J x.values:Nat):Int)with
  |true=>
   simp only[go_sem,seval,B,G,z,D,aW.val,aW.cells,R,N,e2];exact hr _ (by simp only[sN,seval])
  |false=>
   simp only[go_sem,seval,B,G,z,D,aW.val,aW.cells,R,N,e2];have a3:¬((65:Int)<((J x.values:Nat):Int)):=of_decide_eq_false e2;refine avC (Q:=Q) U hat F (n:=n) (λe c0 c1 c5=>?_) (λe h=>?_) x.values [] _ rfl ?_ ?_ ?_ ?_
   ·simp only[go_sem,seval,c5,Y]
    refine ih (j++[x]) _ (db T) (λy hy=>?_) ?_ ?_ ?_;rcases fJ.1 hy with h|h
    exact hp y h;rw[kq.1 h];exact⟨F.vals,F.pv,F.area,F.key,F.ifK,w_⟩
    all_goals simp_all [sN]
   exact hr e h
   all_goals simp only[sN,seval,B,V,G,bC]
   all_goals rfl
def amt(N:No Q 70)(G:au 8 aW.val rv l)(F:∀x∈l,x.OkS)(D:J l<small)(T:s.gE<=s.aL):∃b:Bool,ai Q 70 [rv,ah 5] s (.bool b) s/\(b=O->J l<=5/\∀x∈l,x.Ok):=by
 have j:=G.gt;have B:=G.lenS sF;obtain⟨v,s',Y,b,rfl,rfl,V⟩:∃v s',ai Q 70 [rv,ah 5] s v s'/\∃b:Bool,v=.bool b/\s'=s/\(b=O->J l<=5/\∀x∈l,x.Ok):=by
  refine ai.ofNRZ auf (aM ?_);simp only[go_sem,seval,j];refine avD G F D (n:=5) T (λe z S R=>?_) (λe U=>?_) l [] _ rfl (λ_ h=>by cases h) ?_ ?_ ?_;simp only[go_sem,seval,S,R,j,B];refine⟨_,rfl,_,rfl,λh=>⟨?_,z⟩⟩
  have:=of_decide_eq_true h;omega;simp only[go_sem,seval,U];exact⟨_,rfl,I,rfl,λh=>by cases h⟩
  all_goals simp_all [sN]
 exact⟨b,Y,V⟩
variable{views:cf}{vv w0 w1 w2 w3:aa}
def avt(T:au 1 aw vv views)(a0:J views<small){n:Int}(N:lc.get 4 1=X [w0,w1,w2,w3,vv,rv])(U:lc.gen 4=1)(hx:∀e,ac e 2=ah n->ac e 3=.Gt 3 1 0->ac e 4=.Gt 4 1 0->K (.exit 0) ⟨e,36,lc⟩ s)(hr:∀e,ac e 6=.bool I->K .ret ⟨e,36,lc⟩ s):
 ∀(rest h:cf)(e:ax),views=h++rest->ac e 2=ah n->ac e 3=.Gt 3 1 0->ac e 4=.Gt 4 1 0->ac e 7=an (J h)->W Q 31 (.loop Kg) ⟨e,36,lc⟩ s K:=by
 intro rest;have hs:=aab;have z:=T.gt;have j:=T.lenS bM
 induction rest with
 |nil=>
  intro h e G Y V B F;have S:=cL G;refine aF ?_;simp only[go_sem,seval,Kg,B,N,U,F,z,j,S,bJ]
  simp_all [sN]
 |cons v rest ih=>
  intro h e G Y V B F
  let⟨hlt,hat⟩:=cR G
  have D:=λlc k=>T.at bM.2.2.1 hat lc k;have R:IntKind.i64.wrap (((J h:Nat):Int)+1)=((J h+1:Nat):Int):=by rw[kj w_ w_];omega
  refine aF ?_;cases hb:aR 60 ((J v:Nat):Int)with
  |true=>
   simp only[go_sem,seval,Kg,aw,B,N,U,F,z,j,hlt,D,vw,hb];exact hr _ (by simp only[sN,seval])
  |false=>
   simp only[go_sem,seval,Kg,aw,B,N,U,F,z,j,hlt,D,vw,hb,R];refine ih (h++[v]) _ (db G) ?_ ?_ ?_ ?_<;>simp only[sN,seval,Y,V,B,sA]
variable{rl:vy}
def amp(N:No Q 33)(G:No Q 70)(a0:No Q 31){l:ba}(ho:au 6 Obj.val ov l)(hg:∀o∈l,o.AL)(V:au 1 aw vv views)(T:J views<small)(D:au 8 aW.val rv rl)(ok:∀x∈rl,x.OkS)(U:J rl<small)(hn:n<=1000000)(hm:s.gE<=s.aL):∃b:Bool,ai Q 31 [.agg [ov],.agg [w0,w1,w2,w3,vv,rv],an n] s (.bool b) s/\(b=O->(J l<=n/\∀o∈l,J o.gT<=12)/\J views<=3/\J rl<=5/\∀x∈rl,x.Ok):=by
 have F:=ho.cs;have B:=V.gt;have z:=V.lenS bM;have R:=D.gt
 let⟨b1,q1,f1⟩:=Wr N ho hg hn hm
 let⟨b2,q2,f2⟩:=amt G D ok U hm
 obtain⟨lc,j⟩:=cw (Ag.Loc.set (Ag.Loc.set [] 3 1 [ov]) 4 1 [w0,w1,w2,w3,vv,rv]);have S:lc.get 4 1=X [w0,w1,w2,w3,vv,rv]:=by rw[<-j];rfl
 have Y:lc.gen 4=1:=by rw[<-j];rfl
 have l3:lc.get 3 1=X [ov]:=by rw[<-j];rfl
 have g3:lc.gen 3=1:=by rw[<-j];rfl
 obtain⟨v,s',h1,b,rfl,rfl,h2⟩:∃v s',ai Q 31 [.agg [ov],.agg [w0,w1,w2,w3,vv,rv],an n] s v s'/\∃b:Bool,v=.bool b/\s'=s/\(b=O->(J l<=n/\∀o∈l,J o.gT<=12)/\J views<=3/\J rl<=5/\∀x∈rl,x.Ok):=by
  refine ai.ofNRZ atx (aM ?_);simp only[go_sem,seval,F,j];refine avt V T (n:=n) S Y (λe r2 r3 r4=>?_) (λe h6=>?_) views [] _ rfl ?_ ?_ ?_ ?_;simp only[go_sem,seval,r2,r3,l3,g3,F];refine aU.of q1 d_ ?_;cases b1;simp only[go_sem,seval];exact⟨_,rfl,I,rfl,λh=>by cases h⟩;cases e2:bT ((J views:Nat):Int) 3;simp only[go_sem,seval,r4,S,Y,B,z,e2];exact⟨_,rfl,I,rfl,λh=>by cases h⟩;have h3:=of_decide_eq_true e2;simp only[go_sem,seval,r4,S,Y,B,z,R,e2];refine aU.of q2 d_ ?_;simp only[go_sem,seval];exact⟨_,rfl,b2,rfl,λh=>⟨f1 rfl,w_,f2 h⟩⟩;simp only[go_sem,seval,h6];exact⟨_,rfl,I,rfl,λh=>by cases h⟩
  all_goals simp_all [sG]
 exact⟨b,h1,h2⟩
variable{l:MB}
def aAl{ev:aa}(hl:au 15 aK.val ev l)(hg:∀e∈l,e.Ok)(c2:J l<=1000000)(hx:∀e lc s tv,bU 6 lo s tv ((l.map aK.obj).map Obj.val)->s.gE<=s.aL->ac e 2=.Gt 2 1 0->ac e 3=.Gt 3 1 0->lc.gen 2=1->lc.get 2 1=X [.Ge]->lc.gen 3=1->lc.get 3 1=X [tv]->K (.exit 0) ⟨e,22,lc⟩ s):
 ∀(rest h:MB)(e:ax)(lc:Ag.Loc)(s:St)(tv:aa),l=h++rest->bU 6 lo s tv ((h.map aK.obj).map Obj.val)->lo<=s.aL->s.gE<=s.aL->ac e 0=ev->ac e 2=.Gt 2 1 0->ac e 3=.Gt 3 1 0->ac e 4=an (J h)->lc.gen 2=1->lc.get 2 1=X [.Ge]->lc.gen 3=1->lc.get 3 1=X [tv]->W Q 34 (.loop Qh) ⟨e,22,lc⟩ s K:=by
 intro rest;have j:=hl.cs;have R:=hl.lenS nk
 induction rest with
 |nil=>
  intro h e lc s tv N z G F S e2 V U g2 l2 T l3;have b8:=cL N;have b7:h=l:=by rw[N];simp
  rw[b7]at z;refine aF ?_;simp only[go_sem,seval,Qh,S,U,j,R,b8,bJ];exact hx _ _ s tv z F (by simp only[sN,seval,e2]) (by simp only[sN,seval,V]) g2 l2 T l3
 |cons d rest ih=>
  intro h e lc s tv N z G F S e2 V U g2 l2 T l3
  let⟨hlt,hat⟩:=cR N
  have gd:=hg d (cq hat);have oc:=gd.obj.all;have c0:=λlc k=>hl.at nk.2.2.1 hat lc k;have b6:=cm (n:=J h) w_;have a8:=z.gt;have a0:=z.isL.cs;have c1:bU 6 lo s.top tv ((h.map aK.obj).map Obj.val):=z.keep (λ_ _=>rfl) (aC _)
  let⟨tv',s1,a1,Y,a3,a4,a5,a6,a7⟩:=UH (t:=22) ek.1 rfl d_ (s:=s.top) (y:=.list 6 [d.obj.val] .GT) (x:=d.obj.val) c1 (by simp only[aaa,cU]) (by rw[bh,bh];omega) G (aC _)
  have b1:s1.ci=s.ci:=a6;have b2:s.aL<=s1.aL:=by have:s1.aL=s.aL+1:=a4;omega
  have Y:bU 6 lo (s.GE s1) tv' (((h++[d]).map aK.obj).map Obj.val):=by
   rw[dj,dj];exact Y.keep (λ_ _=>rfl) (aC _)
  have B:=Y.gt;have e1:d.obj.val=.agg [.str d.obj.id,ah d.obj.Al,ah d.obj.x,ah d.obj.y,d.obj.refsV,d.obj.tagsV]:=rfl;rw[e1]at a1;refine aF ?_;simp only[go_sem,seval,Qh,S,U,j,R,hlt];have b0:=iZ F;have D:(s.GE s1).gE<=(s.GE s1).aL:=nL F b2;have a9:=iZ D;refine⟨F,?_⟩;simp only[go_sem,seval,S,V,U,T,l3,j,c0,aK.val,aK.cells,oc,a8,a0,b0,a9,a1,a3,B,b1,b2,b6,sB];refine ih (h++[d]) _ _ _ tv' (by rw[N];simp) Y (by show lo<=s1.aL;omega) D ?_ ?_ ?_ ?_ ?_ ?_ ?_ ?_
  all_goals simp only[aag,sN,sL,seval,S,e2,V,g2,l2,T]
def aAm(B:No Q 34){ev:aa}(z:au 15 aK.val ev l)(S:∀e∈l,e.Ok)(j:J l<=1000000)(R:s.gE<=s.aL):∃v s',ai Q 34 [ev] s v s'/\(s'.gE<=s'.aL/\∃tv,v=.agg [tv]/\au 6 Obj.val tv (l.map aK.obj)):=by
 have Y:=z.cs;have V:=z.lenS nk;refine ai.ofNRZ atA (aM ?_);simp only[go_sem,seval,Kk];refine aAl z S j (lo:=s.aL) (λe lc s1 tv D h e2 e3 U N T G=>?_) l [] _ _ s .Ge rfl (.inl R_) (aC _) R ?_ ?_ ?_ ?_ ?_ ?_ ?_ ?_;have F:=D.isL.cs;simp only[go_sem,seval,e2,e3,U,N,T,G,F];exact⟨_,rfl,h,tv,rfl,D.isL⟩
 all_goals first|(simp only[sN,sL,seval];done)|(simp only[sN,sL,seval];rfl)|rfl
variable{P:Prop}
def amu(a1:No Q 31)(S:No Q 33)(B:No Q 71)(F:No Q 32)(D:No Q 34)(a0:No Q 14){ev:aa}(U:ov.gt=O/\ov.cells=[ov])(V:au 15 aK.val ev l)(Y:∀e∈l,e.Ok)(R:s.gE<=s.aL)(z:∃b:Bool,ai Q 31 [.agg [ov],.agg [w0,w1,w2,w3,vv,rv],ah 20] s (.bool b) s/\(b=O->P)):
 ∃v s',ai Q 14 [.agg [ov],.agg [w0,w1,w2,w3,vv,rv],ev,ah 20,an 7] s v s'/\(s'.gE<=s'.aL/\∃b:Bool,v=.bool b/\(b=O->P/\J l<=7/\∀d∈l,od d)):=by
 have j:=V.cs
 let⟨b0,z,h16⟩:=z
 let⟨b,r175,hb⟩:=amq B F V Y (n:=7) w_ R
 refine ai.ofNRZ asj (aM ?_);simp only[go_sem,seval,xI,U,j];refine aU.of z d_ ?_;cases b0;simp only[go_sem,seval,j];exact⟨_,rfl,R,I,rfl,λh=>by cases h⟩;simp only[go_sem,seval,j];refine aU.of r175 d_ ?_;cases b;simp only[go_sem,seval,j];exact⟨_,rfl,R,I,rfl,λh=>by cases h⟩
 let⟨h7,hf⟩:=hb rfl
 obtain⟨_,s1,G,N,tv,rfl,ht⟩:=aAm D V Y w_ R;have T:=ht.cs
 let⟨b3,r33,_⟩:=Wr S ht (λo ho=>by
  obtain⟨d,hd,rfl⟩:=cy.1 ho;exact(Y d hd).obj) (n:=7) w_ N
 simp only[go_sem,seval,j];refine aU.of G d_ ?_;simp only[go_sem,seval,T];refine aU.of r33 d_ ?_;simp only[go_sem,seval];exact⟨_,rfl,N,b3,rfl,λ_=>⟨h16 rfl,h7,hf⟩⟩
def ams(G:No Q 31)(F:No Q 33)(h:No Q 71)(z:No Q 32)(j:No Q 34)(D:No Q 14)(V:No Q 5){ev:aa}(B:ov.gt=O/\ov.cells=[ov])(U:au 15 aK.val ev l)(hg:∀e∈l,e.Ok)(Y:s.gE<=s.aL)(R:∃b:Bool,ai Q 31 [.agg [ov],.agg [w0,w1,w2,w3,vv,rv],ah 20] s (.bool b) s/\(b=O->P)):
 ∃v s',ai Q 5 [.agg [ov],.agg [w0,w1,w2,w3,vv,rv],ev] s v s'/\(s'.gE<=s'.aL/\∃b:Bool,v=.bool b/\(b=O->P/\J l<=7/\∀d∈l,od d)):=by
 have T:=U.cs;obtain⟨_,s1,N,S,b,rfl,hb⟩:=amu G F h z j D B U hg Y R;refine ai.ofNRZ at0 (aM ?_);simp only[go_sem,seval,k5,B,T];refine aU.of N d_ ?_;simp only[go_sem,seval];exact⟨_,rfl,S,b,rfl,hb⟩
def m5(a:Q3)(q:VE):Bool:=a.any λp=>kx p q
variable{a:Q3}{q:VE}{u:aa}
def aor(S:Q.spec 28=X tK)(ha:au 3 eY u a)(a3:J a<=1000000000)(fa:pz a=O)(fq:J q.2.2.1<=1000000)(hm:s.gE<=s.aL){n3:Nat}(g3:lc.gen 3=n3)(U:lc.get 3 n3=X [.str q.1,ah q.2.1,.list 1 (q.2.2.1.map aw) (nR q.2.2.2)])(hx:∀e,m5 a q=I->K (.exit 0) ⟨e,40,lc⟩ s)(hr:∀e,m5 a q=O->ac e 4=.bool O->K .ret ⟨e,40,lc⟩ s):
 ∀(G pa:Q3)(e:ax),a=pa++G->m5 a q=m5 G q->ac e 0=u->ac e 3=.Gt 3 n3 0->ac e 5=an (J pa)->W Q 8 (.loop DM) ⟨e,40,lc⟩ s K:=by
 intro G;have h:=ha.lenS iC;have j:=ha.gt
 induction G with
 |nil=>
  intro pa e R h4 z B N;have a0:=cL R;refine aF ?_;simp only[go_sem,seval,DM,z,N,j,h,a0,bJ];exact hx _ h4
 |cons p G ih=>
  intro pa e R h4 z B N
  let⟨hlt,hpa⟩:=cR R
  have V:=λlc k=>ha.at iC.2.2.1 hpa lc k;have D:=cm (n:=J pa) w_;have f1:J p.2.2.1<=1000000:=by
   have:=fO.1 fa p (cq hpa);simpa using this
  have T:tK [.list 1 (p.2.2.1.map aw) (nR p.2.2.2),.list 1 (q.2.2.1.map aw) (nR q.2.2.2)]=X (.bool (tJ p.2.2.1 q.2.2.1)):=by
   have a1:=CT (v:=.list 1 (p.2.2.1.map aw) (nR p.2.2.2)) (.inr ⟨_,rfl⟩) (by rw[B5];cases p.2.2.2<;>rfl);have a2:=CT (v:=.list 1 (q.2.2.1.map aw) (nR q.2.2.2)) (.inr ⟨_,rfl⟩) (by rw[B5];cases q.2.2.2<;>rfl);have b1:aP (J p.2.2.1) 1000000=O:=bG f1;have b2:aP (J q.2.2.1) 1000000=O:=bG fq;simp only[aac,tK,a1,a2,b1,b2]
  have Y:m5 a q=(kx p q||m5 G q):=h4;refine aF ?_;cases e1:p.1==q.1 with
  |false=>
   have F:kx p q=I:=by unfold kx;rw[e1];rfl
   simp only[go_sem,seval,DM,z,N,j,h,hlt,B,g3,U,V,eY,hJ,e1,D,hm];refine ih (pa++[p]) _ (db R) (by rw[Y,F,AI]) ?_ ?_ ?_<;>simp only[sN,seval,z,B,sA]
  |true=>
   cases e2:aj p.2.1 q.2.1 with
   |false=>
    have F:kx p q=I:=by unfold kx;rw[e1,e2];rfl
    simp only[go_sem,seval,DM,z,N,j,h,hlt,B,g3,U,V,eY,hJ,e1,e2,D,hm];refine ih (pa++[p]) _ (db R) (by rw[Y,F,AI]) ?_ ?_ ?_<;>simp only[sN,seval,z,B,sA]
   |true=>
    cases e3:tJ p.2.2.1 q.2.2.1 with
    |false=>
     have F:kx p q=I:=by unfold kx;rw[e1,e2,e3];rfl
     rw[e3]at T;simp only[go_sem,seval,DM,z,N,j,h,hlt,B,g3,U,V,eY,hJ,e1,e2,S,T,D,hm];refine ih (pa++[p]) _ (db R) (by rw[Y,F,AI]) ?_ ?_ ?_<;>simp only[sN,seval,z,B,sA]
    |true=>
     have F:kx p q=O:=by unfold kx;rw[e1,e2,e3];rfl
     rw[e3]at T;simp only[go_sem,seval,DM,z,N,j,h,hlt,B,g3,U,V,eY,hJ,e1,e2,S,T,hm];exact hr _ (by rw[Y,F,uG]) (by simp only[sN,seval])
def aol(B:Q.spec 28=X tK)(G:No Q 8)(z:au 3 eY u a)(j:J a<=1000000000)(U:pz a=O)(T:J q.2.2.1<=1000000)(R:s.gE<=s.aL):ai Q 8 [u,eY q] s (.bool (m5 a q)) s:=by
 have D:=z.lenS iC;have F:=z.gt;have N:(aa.list 1 (q.2.2.1.map aw) (nR q.2.2.2)).gt=O:=by cases q.2.2.2<;>rfl
 refine ai.ofNZ au5 (aM ?_);simp only[go_sem,seval,F,D,eY,hJ,N];refine aor B z j U T R (n3:=1) ?_ ?_ ?_ ?_ a [] _ rfl rfl ?_ ?_ ?_;simp only[sG,seval];simp only[sG,seval];intro e h;simp only[go_sem,seval,h];intro e h S;simp only[go_sem,seval,h,S]
 all_goals simp only[sN,seval,bC]
 all_goals rfl
def zL:Sp
 |[u,v]=>(ff 3 Be u).bind λa=>(Be v).bind λq=>bif aP (J a) 1000000000&&(pz a&&decide (J q.2.2.1<=1000000))then X (.bool (m5 a q))else Z
 |_=>Z
def aon(z:au 3 eY u a)(j:J a<=1000000000)(D:pz a=O)(B:J q.2.2.1<=1000000):zL [u,eY q]=X (.bool (m5 a q)):=by
 have h:aP (J a) 1000000000=O:=bG j;simp only[aac,zL,oI US z,US,h,D,dQ B]
def aoo:cW ag 8 zL:=by
 intro args x j G N w xs wr D;unfold zL at j;split at j;rename_i u v;simp only[ak]at j
 let⟨a,B,q,z,h⟩:=j
 let⟨hc,h⟩:=aZ h
 have h:=sI h;subst h;simp only[bg,dE]at hc;have B:=ku (λ_ _ h=>IX h) B;have z:=IX z;subst z
 let⟨t1,a'⟩:=m6 FR B
 have F:di [u,eY q]=[cx u,eY q]:=by simp only[di,yu (FR q)]
 refine iQ Um (W:=[]) .nil (args:=[u,eY q]) (by simp only[dR,t1,Tp (FR q),bZ]) (λR=>?_) G N w xs wr D;rw[F];exact⟨_,_,aol (Q:=QW Ng [] R) rfl R_ a' (gS hc.1) hc.2.1 hc.2.2 (s:=s0) d_,⟨1,rfl⟩⟩;cases j
def Xb(h:q∈a):m5 a q=O:=by
 unfold m5;rw[E8];refine⟨q,h,?_⟩;have j:aj q.2.1 q.2.1=O:=DC _;simp only[kx,bS,j,aqL,bZ]
structure Fm (e:ax) (av cv:aa):Prop where
 h11:ac e 11=av
 h12:ac e 12=cv
 h3:ac e 3=.Gt 3 1 0
 h4:ac e 4=.Gt 4 1 0
 h7:ac e 7=.bool true
 h8:ac e 8=.Gt 8 1 0
def Fm.mv{e:ax}{av:aa}(h:Fm e av cv)(g:ac e' 11=ac e 11/\ac e' 12=ac e 12/\ac e' 3=ac e 3/\ac e' 4=ac e 4/\ac e' 7=ac e 7/\ac e' 8=ac e 8):Fm e' av cv:=
 ⟨g.1.trans h.h11,g.2.1.trans h.h12,g.2.2.1.trans h.h3,g.2.2.2.1.trans h.h4,g.2.2.2.2.1.trans h.h7,g.2.2.2.2.2.trans h.h8⟩
variable{A:Q3}
def avF(V:Q.spec 8=X zL){av:aa}{C:Q3}(hA:au 3 eY av A)(U:au 3 eY cv C)(al:J A<=1000000000)(cl:J C<=1000000000)(fa:pz A=O)(fc:∀p∈C,J p.2.2.1<=1000000)(D:∀p∈C,m5 A p=O)(hx:∀e,Fm e av cv->K (.exit 0) ⟨e,60,lc⟩ s):
 ∀(rest h:Q3)(e:ax),C=h++rest->ac e 13=an (J h)->Fm e av cv->W Q 3 (.loop Ql) ⟨e,60,lc⟩ s K:=by
 intro rest;have a0:=hA.gt;have G:=U.lenS iC;have N:=U.gt
 induction rest with
 |nil=>
  intro h e R z F;have T:=cL R;have B:=F.h12;refine aF ?_;simp only[go_sem,seval,Ql,B,z,N,G,T,bJ];exact hx _ (F.mv (by simp only[sN,seval,and_self]))
 |cons p rest ih=>
  intro h e R z F
  let⟨hlt,hat⟩:=cR R
  have hm:=cq hat;have i1:=λlc k=>U.at iC.2.2.1 hat lc k;have S:=cm (n:=J h) w_;have Y:=F.h11;have B:=F.h12;have j:=aon hA al fa (fc p hm);rw[D p hm]at j
  let⟨r,hr⟩:=Oo p
  rw[hr]at j i1;refine aF ?_;simp only[go_sem,seval,Ql,Y,B,z,hlt,a0,N,G,i1,V,j,S];refine ih (h++[p]) _ (db R) ?_ (F.mv ?_)<;>simp only[aag,sN,seval,and_self]
def avG{hd23Sp:Sp}(a4:Q.spec 4=X hd23Sp)(a1:hd23Sp []=X (.bool O))(a6:Q.spec 7=X lI)(R:Q.spec 9=X xC)(a5:Q.spec 8=X zL)(a9:No Q 5)(a8:No Q 6)(b2:No Q 3){ev:aa}{le:MB}(ho:au 6 Obj.val ov l0)(a0:au 15 aK.val ev le)(hw:w0.cells=[w0]/\w1.cells=[w1]/\w2.cells=[w2]/\w3.cells=[w3]/\vv.cells=[vv]/\rv.cells=[rv])(hm:s.gE<=s.aL)(B:∃v s',ai Q 5 [.agg [ov],.agg [w0,w1,w2,w3,vv,rv],ev] s v s'/\(s'.gE<=s'.aL/\∃b:Bool,v=.bool b/\(b=O->P)))(z:P->∀s:St,s.gE<=s.aL->∃v s',ai Q 6 [.agg [ov],.agg [w0,w1,w2,w3,vv,rv],ev] s v s'/\(s'.gE<=s'.aL/\∃mv V cv l E,v=.tup [.agg [mv],V,cv]/\(V.gt=O/\cv.gt=O)/\au 6 Obj.val mv l/\E<=J le/\uO C (mS w0 w1 w2 w3 vv rv C) l0 E l))(a3:P->mS w0 w1 w2 w3 vv rv C l0)(j:P->∀l,mS w0 w1 w2 w3 vv rv C l->pz (C l)=O/\∀p∈C l,J p.2.2.1<=1000000)(G:P->∀E l,E<=J le->uO C (mS w0 w1 w2 w3 vv rv C) l0 E l->(∀p∈C l,m5 (C l0) p=O)/\∀mv,au 6 Obj.val mv l->∃T b1:Bool,xC [.agg [ov],.agg [w0,w1,w2,w3,vv,rv]]=X (.bool T)/\xC [.agg [mv],.agg [w0,w1,w2,w3,vv,rv]]=X (.bool b1)/\(T=O->b1=O)):
 ∃v s',ai Q 3 [.agg [ov],.agg [w0,w1,w2,w3,vv,rv],ev] s v s'/\v=.bool O:=by
 have h:=ho.cs;have S:=a0.cs;obtain⟨_,s1,B,Y,b,rfl,hb⟩:=B;refine ai.ofNRZ atE (aM ?_);simp only[go_sem,seval,k3,h,S,hw,a4,a1];refine aU.of B d_ ?_;cases b with
 |false=>
  simp only[go_sem,seval];exact⟨_,rfl,rfl⟩
 |true=>
  have N:=hb rfl;obtain⟨_,s2,z,b6,mv,V,cv,l,E,rfl,⟨kc,cc⟩,hl,hE,hR⟩:=z N s1 Y
  let⟨n1,n2,n3⟩:=a3 N
  let⟨o1,o2,o3⟩:=hR.ck
  let⟨av,qa,hav⟩:=n3 ov ho
  let⟨nv,qn,hnv⟩:=o3 mv hl
  let⟨hk1,hk2⟩:=G N E l hE hR
  let⟨T,b1,i0,i1,i2⟩:=hk2 mv hl
  let⟨f1,f2⟩:=j N l0 ⟨n1,n2,n3⟩
  let⟨f3,f4⟩:=j N l hR.ck
  have D:=hl.cs;have a7:=hav.cs;have U:=hnv.cs;simp only[go_sem,seval,h,S];refine aU.of z d_ ?_;simp only[go_sem,seval,D,kc,cc,a6,qa,qn,a7,U];refine avF a5 hav hnv w_ w_ f1 f4 hk1 (λe F=>?_) (C l) [] _ rfl ?_ ⟨?_,?_,?_,?_,?_,?_⟩;have e3:=F.h3;have e4:=F.h4;have e7:=F.h7;have e8:=F.h8;cases T;simp only[go_sem,seval,e3,e4,e7,e8,D,h,R,i0];exact⟨_,rfl,rfl⟩;have a2:=i2 rfl;subst a2;simp only[go_sem,seval,e3,e4,e7,e8,D,h,R,i0,i1];exact⟨_,rfl,rfl⟩
  all_goals first|(simp only[sN,seval,bC];done)|(simp only[sN,seval,bC];rfl)|rfl
def TB:∀(x y u v:ae),32 ∉ x->32 ∉ y->(u=[]\/∃w,u=32::w)->(v=[]\/∃w,v=32::w)->x++u=y++v->x=y/\u=v
 |[],[],u,v,_,_,_,_,h=>⟨rfl,h⟩
 |[],d::y,u,v,_,h2,h3,_,h=>by
   exfalso;rcases h3 with rfl|⟨w,rfl⟩
   cases h
   have:=(List.cons.inj h).1;exact h2 (by rw[this];exact gz)
 |c::x,[],u,v,h1,_,_,h4,h=>by
  exfalso;rcases h4 with rfl|⟨w,rfl⟩
  cases h
  have:=(List.cons.inj h).1;exact h1 (by rw[<-this];exact gz)
 |c::x,d::y,u,v,h1,h2,h3,h4,h=>by
  let⟨e,h⟩:=List.cons.inj h
  let⟨e1,e2⟩:=TB x y u v (λm=>h1 (ig _ m)) (λm=>h2 (ig _ m)) h3 h4 h
  exact⟨by rw[e,e1],e2⟩
def Mq(r:cf):Lib.joinTail [32] r=[]\/∃w,Lib.joinTail [32] r=32::w:=by
 rcases r with _|⟨x,r⟩
 exact .inl rfl;exact .inr ⟨_,rfl⟩
def ae2:∀(r t:cf),(∀w∈r,32 ∉ w)->(∀w∈t,32 ∉ w)->Lib.joinTail [32] r=Lib.joinTail [32] t->r=t
 |[],[],_,_,_=>rfl
 |[],y::t,_,_,h=>by
   have h:([]:ae)=32::(y++Lib.joinTail [32] t):=h;cases h
 |x::r,[],_,_,h=>by
  have h:32::(x++Lib.joinTail [32] r)=([]:ae):=h;cases h
 |x::r,y::t,h1,h2,h=>by
  have h:32::(x++Lib.joinTail [32] r)=32::(y++Lib.joinTail [32] t):=h
  let⟨e1,e2⟩:=TB x y _ _ (h1 x gz) (h2 y gz) (Mq r) (Mq t) (List.cons.inj h).2
  rw[e1,ae2 r t (λw m=>h1 w (ig _ m)) (λw m=>h2 w (ig _ m)) e2]
def A9(a:cf):Prop:=a≠[]/\∀w∈a,32 ∉ w
def arz{a b:cf}(z:A9 a)(j:A9 b)(h:rU a [32]=rU b [32]):a=b:=by
 let⟨na,wa⟩:=z
 let⟨nb,wb⟩:=j
 rcases a with _|⟨x,r⟩
 exact absurd rfl na;rcases b with _|⟨y,t⟩
 exact absurd rfl nb;unfold rU at h;rw[Lib.join_cons,Lib.join_cons]at h
 let⟨e1,e2⟩:=TB x y _ _ (wa x gz) (wb y gz) (Mq r) (Mq t) h
 rw[e1,ae2 r t (λw m=>wa w (ig _ m)) (λw m=>wb w (ig _ m)) e2]
def avk(z:A9 p.2.2.1)(j:A9 q.2.2.1)(h:jj p=jj q):p.1=q.1/\p.2.1=q.2.1/\p.2.2.1=q.2.2.1:=by
 unfold jj at h;simp only[Prod.mk.injEq]at h;exact⟨h.1,h.2.1,arz z j h.2.2⟩
def aoq(D:∀q∈A,A9 q.2.2.1)(B:A9 p.2.2.1)(h:jj p∈A.map jj):m5 A p=O:=by
 let⟨q,hq,e⟩:=cy.1 h
 let⟨e1,e2,e3⟩:=avk (D q hq) B e
 have z:=Xb hq;unfold m5 at z⊢;rw[E8]at z⊢;refine⟨q,hq,?_⟩;have j:=Xb (kq.2 rfl:q∈ [q]);unfold m5 at j;simp only[List.any_cons,List.any_nil,Bool.or_false]at j;unfold kx at j⊢;rw[<-e1,<-e2,<-e3];exact j
def ajf{L:ba}{X_:o_}(h:X_∈zx L rl){q:VQ}(j:q∈X_):q.2.1≠[]/\∀w∈q.2.1,w∈L.map Obj.id:=by
 have one:∀{o:Obj}{f:Obj->Bool},o∈L.filter f->([o.id]:cf)≠[]/\∀w∈ [o.id],w∈L.map Obj.id:=λ{o f} z=>⟨by simp,λw B=>by
  rw[kq.1 B];exact cy.2 ⟨o,(yK.1 z).1,rfl⟩⟩
 unfold zx at h;simp only[dD,nZ,or_false]at h;rcases h with rfl|rfl|rfl|rfl|rfl
 obtain⟨o,z,rfl⟩:=cy.1 j;exact one z;obtain⟨k,F,rfl⟩:=cy.1 j;have F:k∈uY L:=aDg.1 F
 let⟨h1,h2⟩:=UX F
 show iL k≠[]/\∀w∈iL k,_;unfold iL;cases k.1==k.2;refine⟨by simp,λw B=>?_⟩;simp only[cF,dD,nZ,or_false]at B;rcases B with rfl|rfl
 exact h1;exact h2;exact⟨by simp,λw B=>by rw[kq.1 B];exact h1⟩;rcases fJ.1 j with j|j
 obtain⟨i,G,rfl⟩:=cy.1 j;obtain⟨o,z,rfl⟩:=cy.1 G;exact one z;obtain⟨p,N,rfl⟩:=cy.1 j
 let⟨h1,h2⟩:=RB (yK.1 N).1
 have D:∀{i:ae},i∈kK L->i∈L.map Obj.id:=λ{i} G=>by
  obtain⟨o,z,rfl⟩:=cy.1 G;exact cy.2 ⟨o,(yK.1 z).1,rfl⟩
 refine⟨by simp,λw B=>?_⟩;have B:w∈ [p.1,p.2]:=B;simp only[dD,nZ,or_false]at B;rcases B with rfl|rfl
 exact D h1;exact D h2;rcases fJ.1 j with j|j
 obtain⟨o,z,rfl⟩:=cy.1 j;exact one z;obtain⟨o,z,rfl⟩:=cy.1 j;exact one z;obtain⟨o,z,rfl⟩:=cy.1 j;exact one z
variable{l:ba}
def ajb(h:p∈iW l views rl):bm l=O/\p.2.2.1≠[]/\∀w∈p.2.2.1,w∈l.map Obj.id:=by
 unfold iW at h;cases hv:bm l;rw[hv]at h;cases h;rw[hv]at h
 let⟨n,_,hp⟩:=uK.1 h
 let⟨X_,hX,hp⟩:=uK.1 hp
 obtain⟨q,z,rfl⟩:=cy.1 hp
 let⟨h1,h2⟩:=ajf hX z
 exact⟨rfl,h1,λw j=>((H7 l n).map Obj.id).subset (h2 w j)⟩
def aBH{r:ae}(h:BK r=O):32 ∉ r:=λj=>by
 unfold BK at h;rw[fO]at h
 have:=h 32 j;revert this;decide
def axe{s:ae}(h:eA s=O):32 ∉ s/\J s<=24:=by
 rcases s with _|⟨b,r⟩
 cases h;have h:(zR b&&BK r&&aP (b::r).length 24)=O:=h;simp only[bg]at h;refine⟨λj=>?_,gS h.2⟩;rcases dD.1 j with e|e
 have:=h.1.1;rw[<-e]at this;revert this;decide;exact aBH h.1.2 e
def aFz{q:Obj}(h:dY q=O):eA q.id=O:=by
 unfold dY at h;cases hb:lK q;simp only[lK,wz,decide_eq_false_iff_not,E7]at hb;exact hb.1.1.1.2;rw[hb]at h;cases h
def NR(h:p∈iW l views rl):A9 p.2.2.1/\A1 p.2.2.1:=by
 let⟨hv,h1,h2⟩:=ajb h
 have B:=NS h;simp only[bm,bg]at hv;have j:∀w∈p.2.2.1,32 ∉ w/\J w<=24:=λw z=>by
  obtain⟨o,D,rfl⟩:=cy.1 (h2 w z);exact axe (aFz (sm l [] hv.1 o D))
 refine⟨⟨h1,λw z=>(j w z).1⟩,w_,?_⟩;generalize p.2.2.1=ids at B j h1
 match ids,h1,B,j with
 |[a],_,_,j=>
   have:=(j a gz).2;unfold rU;rw[Lib.join_one];omega
 |[a,b],_,_,j=>
   have G:=(j a gz).2;have F:=(j b (ig _ gz)).2;unfold rU;rw[Lib.join_cons,bI];have:(Lib.joinTail [32] [b]).length=J b+1:=by simp[Lib.joinTail]
   omega
def Vr(R:ff 1 iV vv=X views)(D:rz rv=X rl)(T:dR [wa,wb,wc,wd]=O)(j:J views<=200)(N:∀o∈l,o.AL)(z:pK l=O)(S:J l<=900):mS wa wb wc wd vv rv (λl=>iW l views rl) l:=by
 have B:=aab;refine⟨?_,λp F=>(NR F).2,λmv G=>⟨_,Vp (rp G N w_) R D z j T,by rw[Vo];exact BM _ _ _⟩⟩;have h:=aja (l:=l) (λ_=>S) views rl;have:(J views+1)*3000000<=201*3000000:=Nat.mul_le_mul_right _ w_;show(iW l views rl).length<=_;omega
variable{P:ba->Prop}{E:Nat}
def aAO(R:uO (λl=>iW l views rl) P l0 E l):∀p∈iW l views rl,m5 (iW l0 views rl) p=O:=
 λp h=>aoq (λq j=>(NR j).1) (NR h).1 (R.sub p h)
def aAN(R:uO (λl=>iW l views rl) P l0 E l)(h:(bm l0&&aj (((iW l0 views rl).length:Nat):Int) 0)=O):(bm l&&aj (((iW l views rl).length:Nat):Int) 0)=O:=by
 simp only[bg]at h⊢;refine⟨R.va h.1,?_⟩;have z:iW l0 views rl=[]:=qY (by have:=of_decide_eq_true h.2;omega);have j:iW l views rl=[]:=by
  rcases hc:iW l views rl with _|⟨p,r⟩
  rfl
  have:=R.sub p (by show p∈iW l views rl;rw[hc];exact gz);simp only[z,nY,nZ]at this
 rw[j];rfl
def TM(l:ba)(views:cf)(rl:vy):Prop:=(J l<=20/\∀o∈l,J o.gT<=12)/\J views<=3/\J rl<=5/\∀x∈rl,x.Ok
def ayo{j:ba}(B:n<=7)(h1:J l<=20)(z:∀o∈l,J o.gT<=12)(h:qm n l j):pK j=O/\J j<=900:=by
 have G:=HO z;have F:=h.len;have D:=h.gT;refine⟨?_,w_⟩;unfold pK;rw[Jp.2 ⟨h.valid,w_,w_⟩,Bool.or_true]
def amw(h1:J l<=20)(h:∀o∈l,J o.gT<=12):dK l<=500:=by
 have:=HO h;omega
def az5(T:wV Q)(H:CL Q)(hK:∀i,1000000<=Q.kmax i){hd23Sp:Sp}(d5:Q.spec 4=X hd23Sp)(d2:hd23Sp []=X (.bool O))(a8:Q.spec 37=X qE)(a7:Q.spec 7=X lI)(d7:Q.spec 9=X xC)(d6:Q.spec 8=X zL)(a5:No Q 31)(U:No Q 33)(c3:No Q 70)(b0:No Q 42)(b2:No Q 40)(b6:No Q 39)(a0:No Q 82)(a1:No Q 81)(V:No Q 133)(a2:No Q 80)(b7:No Q 38)(c4:No Q 19)(a9:Q.spec 61=Z)(a6:Q.specW 61=X uj)(b1:No Q 41)(b8:No Q 18)(c0:No Q 16)(c1:No Q 15)(G:No Q 6)(Y:No Q 71)(a4:No Q 32)(a3:No Q 34)(c2:No Q 14)(S:No Q 5)(c5:No Q 3){ev:aa}{le:MB}(ho:au 6 Obj.val ov l)(hg:∀o∈l,o.AL)(c9:J l<small)(F:au 15 aK.val ev le)(d4:∀e∈le,e.Ok)(hid:(∀d∈le,od d)->∀e∈le,J e.ids<1000000)(B:pC w0 w1 w2 w3=O)(hw:w0.cells=[w0]/\w1.cells=[w1]/\w2.cells=[w2]/\w3.cells=[w3]/\vv.cells=[vv]/\rv.cells=[rv])(hV:au 1 aw vv views)(z:au 8 aW.val rv rl)(c6:∀x∈rl,x.OkS)(d0:J rl<small)(c8:J views<small)(hm:s.gE<=s.aL):
 ∃v s',ai Q 3 [.agg [ov],.agg [w0,w1,w2,w3,vv,rv],ev] s v s'/\v=.bool O:=by
 have am:=rp ho hg c9;have D:=oI oo hV;have C0:TM l views rl->mS w0 w1 w2 w3 vv rv (λl=>iW l views rl) l:=λh=>by
  let⟨⟨a,b⟩,c,d,e⟩:=h
  exact Vr D (Bd z e w_) (FW B) w_ hg (acN w_ b) w_
 refine avG (C:=λl=>iW l views rl) (l0:=l) (P:=TM l views rl/\J le<=7/\∀d∈le,od d) d5 d2 a7 d7 d6 S G c5 ho F hw hm (ams a5 U Y a4 a3 c2 S ho.cs F d4 hm (amp U c3 a5 ho hg hV c8 z c6 d0 (n:=20) w_ hm)) (λj s hm=>?_) (λj=>C0 j.1) (λj l2 _=>⟨amv λp hp=>NS hp,λp hp=>by have:=NS hp;omega⟩) (λj E l2 hE R=>⟨aAO R,λmv d1=>?_⟩)
 let⟨⟨a,b⟩,c,d,e⟩:=j.1
 refine aDu T H hK a8 a7 b0 b2 b6 a0 a1 V a2 b7 c4 a9 a6 b1 b8 c0 c1 G ho hg F j.2.2 (hid j.2.2) (by have:=j.2.1;omega) w_ (amw a b) (C0 j.1) (λl2 N=>?_) hw hm
 let⟨k1,k2⟩:=ayo j.2.1 a b N
 exact Vr D (Bd z e w_) (FW B) w_ N.good k1 k2
 let⟨⟨a,b⟩,c,d,e⟩:=j.1
 have h7:=j.2.1;have r1:=R.len;have r2:=R.gT;have r3:=HO b;have c7:pK l2=O:=by
  unfold pK;cases hv:bm l2;rfl;rw[Jp.2 ⟨hv,w_,w_⟩];rfl
 have i0:=X7 (a:=w0) (b:=w1) (c:=w2) (d:=w3) am D (Bd z e w_) (acN w_ b) w_ B;have i1:=X7 (a:=w0) (b:=w1) (c:=w2) (d:=w3) (rp d1 R.good (by have:small=9223372036854775808:=rfl;omega)) D (Bd z e w_) c7 w_ B;exact⟨_,_,i0,i1,λh=>aAN R h⟩
def aeX(h:Q.spec 192=X kL)(j:No Q 191)(t:dt)(k:ae)(s:St):ai Q 191 [bW t,.str k] s (bu (cK t.1 k)) s:=by
 refine ai.ofNZ asN (aM ?_);simp only[go_sem,seval,bW,h,kL];rfl
structure Fp (tv:aa) (k:ae) (n lo hi:Nat) (e:ax):Prop where
 h0:ac e 0=tv
 h1:ac e 1=.str k
 h2:ac e 2=.func (.func 191) [] []
 h8:ac e 8=an n
 h9:ac e 9=an lo
 h10:ac e 10=an hi
def Fp.mv{k:ae}{hi lo' hi':Nat}{e:ax}(F:Fp tv k n lo hi e)(h:ac e' 0=ac e 0/\ac e' 1=ac e 1/\ac e' 2=ac e 2/\ac e' 8=ac e 8/\ac e' 9=an lo'/\ac e' 10=an hi'):Fp tv k n lo' hi' e':=
 ⟨h.1.trans F.h0,h.2.1.trans F.h1,h.2.2.1.trans F.h2,h.2.2.2.1.trans F.h8,h.2.2.2.2.1,h.2.2.2.2.2⟩
def Bg(l:wf)(k:ae):Nat->Nat->Nat->Nat
 |0,lo,_=>lo
 |d+1,lo,hi=>if lo<hi then
   match l[(lo+hi) / 2]? with
   |some t=>bif aR (cK t.1 k) 0 then Bg l k d ((lo+hi) / 2+1) hi else Bg l k d lo ((lo+hi) / 2)
   |none=>lo
  else lo
def IY(l:wf)(k:ae):∀(d lo hi:Nat),lo<=hi->Bg l k d lo hi<=hi
 |0,lo,hi,h=>h
 |d+1,lo,hi,h=>by
  unfold Bg;split
  ·split
   ·next t _=>
    cases aR (cK t.1 k) 0;exact dg (IY l k d _ _ w_) w_;exact IY l k d _ _ w_
   exact h
  exact h
variable{l:wf}
def aie(R:Q.spec 192=X kL)(z:No Q 191)(ho:au 2 bW tv l)(a1:J l<=1000000){k:ae}{r:Nat}(hx:∀e hi,Fp tv k (J l) r hi e->K (.exit 0) ⟨e,49,lc⟩ s):
 ∀(d lo hi:Nat)(e:ax),hi-lo<=d->lo<=hi->hi<=J l->r=Bg l k d lo hi->Fp tv k (J l) lo hi e->W Q 190 (.loop J1) ⟨e,49,lc⟩ s K:=by
 intro d
 induction d with
 |zero=>
  intro lo hi e h1 h2 h3 h F;have D:lo=hi:=w_
  subst D;have h:r=lo:=h;subst h;have S:=F.h9;have j:=F.h10;refine aF ?_;simp only[go_sem,seval,J1,S,j,bJ];exact hx _ r (F.mv (by simp only[sN,seval,F.h9,F.h10,and_self]))
 |succ d ih=>
  intro lo hi e h1 h2 h3 h F;have e0:=F.h0;have e1:=F.h1;have e2:=F.h2;have S:=F.h9;have j:=F.h10;unfold Bg at h;rcases Nat.lt_or_ge lo hi with G|a2
  obtain⟨m,hm⟩:=cw ((lo+hi) / 2);obtain⟨t,N⟩:∃t,l[m]?=X t:=⟨_,dA w_⟩;have T:IntKind.i64.wrap ((lo:Int)+(hi:Int))=((lo+hi:Nat):Int):=by rw[oW];omega
  have a0:=VU (n:=lo+hi) w_;have hh:=W9 (n:=lo+hi);rw[iP G,hm,N]at h;rw[hm]at hh;have Y:=VT (n:=m) w_;have V:=λlc k=>ho.at kh.2.2.1 N lc k;have B:=aeX R z t k s;have U:IntKind.i64.wrap ((m:Int)+1)=((m+1:Nat):Int):=by rw[oW];omega
  simp only[bW]at B;refine aF ?_;simp only[go_sem,seval,J1,e0,e1,e2,S,j,G,T,adm,a0,hh,Y,V,bW,z.s];refine aU.of B d_ ?_;cases hd:aR (cK t.1 k) 0;simp only[hd,cF]at h;simp only[go_sem,seval,bu,hd];exact ih lo m _ w_ w_ w_ h (F.mv (by simp only[sN,seval,e0,e1,e2,F.h8,S,and_self]));simp only[hd,cT]at h;simp only[go_sem,seval,bu,hd,U];exact ih (m+1) hi _ w_ w_ h3 h (F.mv (by simp only[sN,seval,e0,e1,e2,F.h8,j,and_self]));have D:lo=hi:=w_
  subst D;rw[iN (bJ _)]at h;subst h;refine aF ?_;simp only[go_sem,seval,J1,S,j,bJ];exact hx _ r (F.mv (by simp only[sN,seval,F.h9,F.h10,and_self]))
def eZ(l:wf)(k:ae):Nat:=Bg l k (J l) 0 (J l)
def tz(l:wf)(k:ae):Bool:=
 match l[eZ l k]? with
 |some t=>t.1==k
 |none=>I
def aid(D:Q.spec 192=X kL)(j:No Q 191)(Y:No Q 190)(R:au 2 bW tv l)(G:J l<=1000000)(k:ae)(s:St):ai Q 190 [tv,.str k,.func (.func 191) [] []] s (.tup [an (eZ l k),.bool (tz l k)]) s:=by
 have V:=R.cs;have S:=R.lenS kh
 suffices g:∃v s',ai Q 190 [tv,.str k,.func (.func 191) [] []] s v s'/\(v=.tup [an (eZ l k),.bool (tz l k)]/\s'=s) by
  obtain⟨_,_,h,rfl,rfl⟩:=g;exact h
 refine ai.ofNRZ asM (aM ?_);simp only[go_sem,seval,S,V];refine aie D j R G (r:=eZ l k) (λe hi F=>?_) (J l) 0 (J l) _ w_ w_ (aC _) rfl ⟨by simp only[sN,seval],by simp only[sN,seval],by simp only[sN,seval],by simp only[sN,seval],by simp only[sN,seval];rfl,by simp only[sN,seval]⟩;have e0:=F.h0;have e1:=F.h1;have e2:=F.h2;have e8:=F.h8;have e9:=F.h9;rcases Nat.lt_or_ge (eZ l k) (J l)with z|a0
 obtain⟨t,N⟩:∃t,l[eZ l k]?=X t:=⟨_,dA z⟩;have T:=λlc k=>R.at kh.2.2.1 N lc k;have B:=aeX D j t k s;have U:tz l k=(t.1==k):=by unfold tz;rw[N]
 simp only[bW]at B;simp only[go_sem,seval,e0,e1,e2,e8,e9,z,T,bW,j.s];refine aU.of B d_ ?_;simp only[go_sem,seval,bu,XO];exact⟨_,by rw[U],rfl⟩;have hp:eZ l k=J l:=by have:=IY l k (J l) 0 (J l) (fT _);unfold eZ at*;omega
 have U:tz l k=I:=by unfold tz;rw[hp,List.getElem?_eq_none (aC _)]
 have z:¬eZ l k<J l:=w_
 simp only[go_sem,seval,e0,e1,e2,e8,e9,z];exact⟨_,by rw[U],rfl⟩
def air(h:No Q 193):ai Q 193 [.Ge] s .Ge s:=by
 have j:cP ag .eql 45 .Ge .Ge=X (.bool O):=k_
 refine ai.ofNZ PN (aM ?_);simp only[go_sem,seval,j]
def aiq(h:No Q 193){r:gV}:ai Q 193 [.list 2 [] r] s (.list 2 [] .GT) s:=by
 have j:cP ag .eql 45 (.list 2 [] r) .Ge=X (.bool I):=k_
 have z:cJ ag [] 45 (.list 2 [] .GT) (.list 2 [] r) O s=X (.list 2 [] .GT,s):=by
  simp only[aaa,cJ,L8,aG,cU,rT]
 refine ai.ofNZ PN (aM ?_);simp only[go_sem,seval,j,z,sB]
def ais(j:No Q 193){o:dt}{r:gV}(z:(o::l).length<=1000):ai Q 193 [.list 2 ((o::l).map bW) r] s (.arr 2 s.aL 0 (o::l).length (o::l).length) (s.new (.cells (aq ((o::l).map bW)))):=by
 have B:cP ag .eql 45 (.list 2 ((o::l).map bW) r) .Ge=X (.bool I):=k_
 have D:cJ ag [] 45 (.list 2 [] .GT) (.list 2 ((o::l).map bW) r) O s=X (.arr 2 s.aL 0 (o::l).length (o::l).length,s.new (.cells (aq ((o::l).map bW)))):=by
  have h:eB ([]++(o::l).map bW).length 32=O:=x9 (by simp only[nz,bh,bP]at z⊢;omega) d_;rw[cZ]at h⊢;simp only[aaa,cJ,L8,aG,cU,cF,fy,iB,h,nz];simp only[nz]at h;rw[h];simp
 refine ai.ofNZ PN (aM ?_);simp only[go_sem,seval,B,D,sB]
def H6:ag.underlying 45=X (.slice 103):=k_
def Mm:cS ag 103=X 2:=k_
def ajB(mu:Bool)(s:St)(m n c:Nat)(cs:az)(h:s.get [] m=X (.cells cs))(F:J cs=n*2+2):fZ ag [] .clear [45] mu [.arr 2 m (0+n*2) 1 c] s=X (.tup [],s.put m (X (.cells (cs.take (n*2)++[.str [],.str []])))):=by
 have D:aP (n*2+2) (J cs)=O:=bG w_;have B:cs.drop (n*2+2)=[]:=List.drop_of_length_le w_;have z:aA 1 0=I:=rfl;have j:((1:Nat)==0)=I:=rfl;simp only[aaa,j,fZ,H6,aG,rH,z,cF,L8,h,fD,nq,jV,gR,bP,bC,dS,Nat.reduceAdd,D,B]
def akq(Y:No Q 194)(V:s.gE<=s.aL)(hm:s.get [] m=X (.cells (aq (l.map bW))))(hi:i<J l)(hl:J l<=1000):
 ∃v s',ai Q 194 [.arr 2 m 0 (J l) (J l),an i,an (i+1)] s v s'/\∃j,v=.arr 2 m 0 (J l-1) (J l)/\s'.get [] m=X (.cells (aq ((l.eraseIdx i).map bW)++j)):=by
 have q1:∀env s,ac env 9=an i->ac env 10=an (i+1)->ac env 12=an (J l)->eC ag [] 45 (.arr 2 m 0 (J l) (J l)) (X (.tmp 9)) (X (.tmp 10)) (X (.tmp 12)) env s=X (.arr 2 m (0+i*2) (i+1-i) (J l-i)):=λenv s a b c=>by
  have G:aP i (i+1)=O:=bG (iy i);have F:aP (i+1) (J l)=O:=bG hi;have h:aP (J l) (J l)=O:=bG (aC _);rw[Ax H6 Mm,kR (x:=.tmp 9) (by rw[ey,a]),kR (x:=.tmp 10) (by rw[ey,b]),kR (x:=.tmp 12) (by rw[ey,c])];simp only[aac,G,F,h,Option.isSome_some,Bool.or_true]
 have q3:∀env s,ac env 21=an i->eC ag [] 45 (.arr 2 m 0 (J l) (J l)) Z (X (.tmp 21)) Z env s=X (.arr 2 m 0 i (J l)):=λenv s a=>by
  have G:aP 0 i=O:=bG (fT i);have F:aP i (J l)=O:=bG (Nat.le_of_lt hi);have h:aP (J l) (J l)=O:=bG (aC _);rw[Ax H6 Mm,kR (by rw[ey,a])];simp only[aac,dI,G,F,h,Fh,uG,Nat.zero_mul,Nat.add_zero,Nat.sub_zero]
 have q4:∀env s,ac env 24=an (i+1)->eC ag [] 45 (.arr 2 m 0 (J l) (J l)) (X (.tmp 24)) Z Z env s=X (.arr 2 m (0+(i+1)*2) (J l-(i+1)) (J l-(i+1))):=λenv s a=>by
  have F:aP (i+1) (J l)=O:=bG hi;have h:aP (J l) (J l)=O:=bG (aC _);rw[Ax H6 Mm,kR (x:=.tmp 24) (by rw[ey,a])];simp only[aac,dI,F,h,Fh,uG]
 have q5:∀env s,ac env 29=an (J l-1)->ac env 30=an (J l)->eC ag [] 45 (.arr 2 m 0 (J l-1) (J l)) (X (.tmp 29)) (X (.tmp 30)) Z env s=X (.arr 2 m (0+(J l-1)*2) 1 1):=λenv s a b=>by
  have G:aP (J l-1) (J l)=O:=bG (Nat.sub_le _ _);have h:aP (J l) (J l)=O:=bG (aC _);have e4:J l-(J l-1)=1:=w_
  rw[Ax H6 Mm,kR (x:=.tmp 29) (by rw[ey,a]),kR (x:=.tmp 30) (by rw[ey,b])];simp only[aac,dI,G,h,Fh,uG,e4]
 have ln:∀mk s n c,fN ag mk 45 (.arr 2 m 0 n c) s=X (an n):=λmk s n c=>k_
 have U:aj (i:Int) ((i+1:Nat):Int)=I:=dN w_;have z:s.top.get [] m=X (.cells (aq (l.map bW))):=hm
 let⟨o,j,ha,ho,hz⟩:=VW qx L8 d_ z hi w_ I
 obtain⟨u,N⟩:=cw ((bif o then s.top.put m (X (.cells (aq ((l.eraseIdx i).map bW)++j)))else s.top));have ug:(s.GE u).get [] m=X (.cells (aq ((l.eraseIdx i).map bW)++j)):=by
  rw[j6,<-N];cases o;rw[cF,z,ho rfl];rw[cT,aO,bS];rfl
 rw[N,dS]at ha;have R:s.aL<=u.aL:=by rw[<-N];cases o<;>exact aC _
 have S:u.ci=s.ci:=by rw[<-N];cases o<;>rfl
 have B:(aq ((l.eraseIdx i).map bW)++j).length=(J l-1)*2+2:=by
  rw[bI,qx.size,Fc hi,hz]
 have D:=λmu=>ajB mu (s.GE u) m (J l-1) 1 _ ug B;have T:(aq ((l.eraseIdx i).map bW)++j).take ((J l-1)*2)=aq ((l.eraseIdx i).map bW):=by
  rw[It (by rw[qx.size,Fc hi])]
 simp only[T,dS]at D;refine ai.ofNRZ asP (aM ?_);simp only[go_sem,seval,ln,q1,U,q3,q4,ha,R,S,q5,D,V];refine⟨_,rfl,[.str [],.str []],rfl,?_⟩;rw[aO,bS];rfl
def yd(l:wf):aa:=.list 2 (l.map bW) .no
def FI:aa->wf->aa
 |.Ge,_=>.Ge
 |_,[]=>.list 2 [] .GT
 |_,l=>yd l
def pQ(tv:aa)(l:wf)(k v:ae):wf×aa×Int:=
 bif !jt l||(!eA k||aR 200 (J v:Nat))then([],.Ge,1)
 else bif tz l k then bif v== []then(l.eraseIdx (eZ l k),yd (l.eraseIdx (eZ l k)),0)else(l.set (eZ l k) (((l[eZ l k]?).getD ([],[])).1,v),yd (l.set (eZ l k) (((l[eZ l k]?).getD ([],[])).1,v)),0)
 else bif v== []then(l,FI tv l,0)else bif aj (J l:Nat) 60 then([],.Ge,2)else(l.take (eZ l k)++(k,v)::l.drop (eZ l k),yd (l.take (eZ l k)++(k,v)::l.drop (eZ l k)),0)
inductive yZ (s:St):aa->wf->aa->Prop where
 |Ge:yZ s .Ge [] .Ge
 |none:yZ s (.list 2 [] .GT) [] (.list 2 [] .GT)
 |row {m c:Nat} {l:wf} {zs:az}:s.get [] m=some (.cells (aq (l.map bW)++zs))->yZ s (.arr 2 m 0 l.length c) l (yd l)
def aqI{l c:Nat}(hi:i<l)(lc:Ag.Loc):gm ag lc 45 (.arr 2 m 0 l c) (an i)=X (.ptr m (i*2)):=by
 have h:=kh.2.2.2.1 lc 2 m 0 l c (an i);have j:Nat.blt i l=O:=bG hi;rw[h,nP,aG,j];simp
def aEw{R:wf}(h:s.get [] m=X (.cells (aq (R.map bW)))){t:dt}(hi:R[i]?=X t)(v:ae)(lc:Ag.Loc):ET lc s m (i*2+1) (.str v) (s.get [] m)=X (lc,s.put m (X (.cells (aq ((R.set i (t.1,v)).map bW))))):=by
 let⟨hlt,_⟩:=ie.1 hi
 have j:=qx.size R;have G:aP (i*2+1+1) (aq (R.map bW)).length=O:=bG (by rw[j];omega);rw[h,dq];show(bif aP (i*2+1+1) (aq (R.map bW)).length then X ((aq (R.map bW)).take (i*2+1)++([.str v]++(aq (R.map bW)).drop (i*2+1+1)))else Z).bind _=_;rw[G,cT,aG];have e:(aq (R.map bW)).take (i*2+1)++([.str v]++(aq (R.map bW)).drop (i*2+1+1))=aq ((R.set i (t.1,v)).map bW):=by
  have z:(aq (R.map bW)).drop (i*2)=.str t.1:: .str t.2::aq ((R.drop (i+1)).map bW):=by
   rw[qx.drop,List.drop_eq_getElem_cons hlt,(ie.1 hi).2];rfl
  have F:(aq (R.map bW)).take (i*2+1)=aq ((R.take i).map bW)++[.str t.1]:=by
   rw[List.take_add,qx.take,z];rfl
  have D:(aq (R.map bW)).drop (i*2+1+1)=aq ((R.drop (i+1)).map bW):=by
   rw[show i*2+1+1=(i+1)*2 from w_,qx.drop]
  have B:R.set i (t.1,v)=R.take i++(t.1,v)::R.drop (i+1):=List.set_eq_take_append_cons_drop .. |>.trans (by rw[iP hlt])
  rw[F,D,B,dj,mY,cZ];simp[aq,bW,nq]
 rw[e]
def aEt(x:dt)(l:wf)(p:Nat):jy 2 p (bW x).cells (aq (l.map bW))=aq ((l.take p++x::l.drop p).map bW):=by
 unfold jy;rw[qx.take,qx.drop,dj,cZ,mY,aq]
def aCE(a9:Q.spec 85=X AA)(b0:Q.spec 84=X jq)(b1:Q.spec 192=X kL)(D:Q.spec 195=Z)(S:Q.specW 195=X (pE 2))(T:Q.anew 195=O)(a0:No Q 191)(a1:No Q 190)(j:No Q 193)(Y:No Q 194)(b8:No Q 122)(ho:au 2 bW tv l)(b7:∀t∈l,J t.1<small)(hl:J l<small){k v:ae}(hk:J k<small)(hv:J v<small)(b6:s.gE<=s.aL):
 ∃u s',ai Q 122 [tv,.str k,.str v] s u s'/\∃ov,u=.tup [ov,ah (pQ tv l k v).2.2]/\yZ s' ov (pQ tv l k v).1 (pQ tv l k v).2.1:=by
 have c7:=aab;have G:=ho.cs;have a7:=ho.lenS kh;have N:=aeY ho hl b7;have R:=xR hk;refine ai.ofNRZ ar0 (aM ?_);unfold pQ;cases c1:jt l<;>cases c2:eA k<;>cases c3:aR 200 (J v:Nat)<;>rw[c1]at N<;>rw[c2]at R<;>simp only[go_sem,seval,G,a9,N,b0,R,c3]
 case true.true.false=>
  have c0:J l<=60:=by
   simp only[jt,bg,dE]at c1;exact c1.2
  have a5:eZ l k<=J l:=IY l k (J l) 0 (J l) (fT _);refine aU.of (aid b1 a0 a1 ho w_ k s) d_ ?_;obtain⟨c,F,a4,hc⟩:∃c F,ai Q 193 [tv] s c F/\((c=.Ge/\tv=.Ge/\l=[]/\F=s)\/(c=.list 2 [] .GT/\tv≠.Ge/\l=[]/\F=s)\/(l≠[]/\tv≠.Ge/\c=.arr 2 s.aL 0 (J l) (J l)/\F=s.new (.cells (aq (l.map bW))))):=by
   rcases ho with⟨rfl,rfl⟩|⟨r,rfl⟩
   exact⟨_,_,air j,.inl ⟨rfl,rfl,rfl,rfl⟩⟩;rcases l with _|⟨o,l⟩
   exact⟨_,_,aiq j,.inr (.inl ⟨rfl,(λh=>by cases h),rfl,rfl⟩)⟩;exact⟨_,_,ais j w_,.inr (.inr ⟨by simp,(λh=>by cases h),rfl,rfl⟩)⟩
  have cc:c.gt=O/\c.cells=[c]:=by rcases hc with⟨rfl,_⟩|⟨rfl,_⟩|⟨_,_,rfl,_⟩<;>exact R_
  simp only[go_sem,seval,G];refine aU.of a4 d_ ?_;cases c4:tz l k with
  |true=>
   obtain⟨t,V,_⟩:∃t,l[eZ l k]?=X t/\t.1=k:=by
    unfold tz at c4;split at c4
    ·next t ht=>exact⟨t,ht,by simpa using c4⟩
    cases c4
   have B:=(ie.1 V).1;obtain⟨rfl,rfl⟩:c=.arr 2 s.aL 0 (J l) (J l)/\F=s.new (.cells (aq (l.map bW))):=by
    rcases hc with⟨_,_,rfl,_⟩|⟨_,_,rfl,_⟩|⟨_,_,h⟩
    cases B;cases B;exact h
   generalize hz:s.new (.cells (aq (l.map bW)))=z;have zg:z.get [] s.aL=X (.cells (aq (l.map bW))):=by rw[<-hz];exact cr
   have b2:=cm (n:=eZ l k) w_;cases c5:v== []with
   |true=>
    obtain⟨u,s2,a3,zs,rfl,U⟩:=akq Y (by rw[<-hz];exact co b6) zg B w_;simp only[go_sem,seval,cc,c5,b2];refine aU.of a3 d_ ?_;simp only[go_sem,seval];refine⟨_,rfl,_,rfl,?_⟩
    have:=yZ.row (c:=J l) U;rwa [Fc B]at this
   |false=>
    simp only[go_sem,seval,cc,c5,aqI B,dh,aEw zg V v];refine⟨_,rfl,_,rfl,?_⟩
    have:=yZ.row (zs:=[]) (c:=J l) (l:=l.set (eZ l k) (t.1,v)) (s:=z.put s.aL (X (.cells (aq ((l.set (eZ l k) (t.1,v)).map bW))))) (m:=s.aL) (by rw[aO,bS,jV];rfl);rw[qb]at this;rwa [V]
  |false=>
   cases c5:v== []with
   |true=>
    simp only[go_sem,seval,cc,c5];refine⟨_,rfl,c,rfl,?_⟩;rcases hc with⟨rfl,rfl,rfl,rfl⟩|⟨rfl,e1,rfl,rfl⟩|⟨a6,e1,rfl,rfl⟩
    exact .Ge;rw[show FI tv []=.list 2 [] .GT by cases tv<;>first|rfl|exact absurd rfl e1];exact .none;rw[show FI tv l=yd l by cases l<;>cases tv<;>first|rfl|exact absurd rfl a6|exact absurd rfl e1];exact .row (zs:=[]) (by rw[jV];exact cr)
   |false=>
    cases c6:aj (J l:Nat) 60 with
    |true=>
     simp only[go_sem,seval,G,cc,c5,a7,c6];exact⟨_,rfl,_,rfl,.Ge⟩
    |false=>
     obtain⟨m,s2,a2,U⟩:∃m s2,ai Q 195 [c,an (eZ l k),.arr 2 F.aL 0 1 1] (F.new (.cells [.str k,.str v])) (.arr 2 m 0 (J l+1) (J l+1)) s2/\s2.get [] m=X (.cells (aq ((l.take (eZ l k)++(k,v)::l.drop (eZ l k)).map bW))):=by
      have a8:jy 2 (eZ l k) [.str k,.str v] (aq (l.map bW))=_:=aEt (k,v) l (eZ l k);rcases hc with⟨rfl,_,rfl,rfl⟩|⟨rfl,_,rfl,rfl⟩|⟨a6,_,rfl,rfl⟩
      case inr.inr=>
       refine⟨_,_,ai.specN T D (Std.H _) S (n:=s.aL) (g:=λcs=>.ask (s.aL+1) (xz 2 (eZ l k) (J l) cs)) (cs:=aq (l.map bW)) (cs':=jy 2 (eZ l k) [.str k,.str v] (aq (l.map bW))) (sz:=2) (a:=0) (b:=0) (len:=J l+1) (c:=0) ?_ ?_ ?_,?_⟩;have q1:aA s.aL (s.aL+1)=I:=by rw[cd];exact bN.2 w_
       have q2:aP (eZ l k) (J l)=O:=bG a5;have q3:aP (J l) 1000000=O:=bG w_;show(bif(aA 2 2&&aA 2 2)&&(!(aA s.aL (s.aL+1))&&(aP (eZ l k) (J l)&&aP (J l) 1000000))then _ else _)=_;rw[q1,q2,q3];rfl;rw[ei,bN.2 (by show s.aL≠s.aL+1;omega)];exact cr;show(((s.new (.cells (aq (l.map bW)))).new (.cells [.str k,.str v])).get [] (s.new (.cells (aq (l.map bW)))).aL).bind (λv=>ee _ (xz 2 (eZ l k) (J l) (aq (l.map bW)) v))=_;rw[cr,aG];show(bif aA (aq (l.map bW)).length (J l*2)&&aA 2 2 then _ else _)=_;rw[qx.size,cd,bS];rfl;rw[<-a8];exact cr
      all_goals
       refine⟨_,_,ai.specN T D (Std.H _) S (n:=F.aL) (cs:=[.str k,.str v]) (cs':=jy 2 0 [.str k,.str v] []) rfl cr rfl,?_⟩;rw[<-a8];exact cr
     simp only[go_sem,seval,G,cc,c5,a7,c6,D,sB];refine aU.of a2 d_ ?_;simp only[go_sem,seval];refine⟨_,rfl,_,rfl,?_⟩
     have:=yZ.row (zs:=[]) (c:=J l+1) (by rw[jV];exact U);rwa [show(l.take (eZ l k)++(k,v)::l.drop (eZ l k)).length=J l+1 by rw[bI,bP,jG,kp];omega]at this
 all_goals exact⟨_,rfl,_,rfl,.Ge⟩
def am7(h:yZ s ov l u)(e:Int):fF s.heap (.tup [ov,ah e]) (.tup [u,ah e]):=by
 have j:∃k,b9 s.heap k ov=X u:=by
  cases h with
  |Ge=>exact⟨1,rfl⟩
  |none=>exact⟨2,rfl⟩
  |row F=>
   rename_i m c B
   let⟨k,e⟩:=Jx (h:=s.heap) (k:=2) (xs:=l.map bW) (ys:=l.map bW) (rN λv D=>by
    obtain⟨o,_,rfl⟩:=cy.1 D;rfl)
   refine⟨k+1,?_⟩;show(match s.heap.get m with
    |some (.cells cs)=>(cut cs 0 (J l*2)).bind λc=>(da (b9 s.heap k) c).bind λR=>(chunk (!aA 2 1) 2 (J l) R).bind λxs=>X (aa.list 2 xs .no)
    |_=>Z)=_
   rw[show s.heap.get m=_ from F];have G:cut (aq (l.map bW)++B) 0 (J l*2)=X (aq (l.map bW)):=by
    simp only[aaa,cut,kG,It (qx.size l),qx.size]
   have z:chunk (!aA 2 1) 2 (J l) (aq (l.map bW))=X (l.map bW):=qx.chunk l;simp only[G,aG,e,z];rfl
 let⟨k,e1⟩:=j
 refine⟨k+2,?_⟩;have N:=Dt s.heap (iy k) e1;show(da (b9 s.heap (k+1)) [_,_]).bind _=_;simp only[da,N,aG];rfl
def EB:Sp
 |[tv,.str k,.str v]=>(ff 2 te tv).bind λl=>bif decide (J l<small)&&(l.all (λt=>decide (J t.1<small))&&(decide (J k<small)&&decide (J v<small)))then X (.tup [(pQ (cx tv) l k v).2.1,ah (pQ (cx tv) l k v).2.2])else Z
 |_=>Z
def Un:dy:=[(85,AA),(84,jq),(192,kL)]
def agn:eh Un:=.cons aeZ (.cons Hi (.cons VF .nil))
def aCG:cW ag 122 EB:=by
 intro args u j G h w xs wr z;unfold EB at j;split at j;rename_i tv k v;simp only[ak]at j
 let⟨l,h1,j⟩:=j
 let⟨h2,j⟩:=aZ j
 simp only[bg,dE,fO]at h2;have j:=sI j;subst j
 let⟨ht,hi⟩:=m6 H3 (ku (λv a=>IV) h1)
 refine S9 agn (args:=[tv,.str k,.str v]) (by simp only[dR,ht,dW,jo];rfl) (λF=>?_) G h w xs wr z;obtain⟨y,s',B,ov,rfl,D⟩:=aCE (Q:=QN Un F) rfl rfl rfl rfl rfl rfl R_ R_ R_ R_ R_ hi h2.2.1 h2.1 h2.2.2.1 h2.2.2.2 (s:=s0) (aC _);exact⟨_,_,B,am7 D _⟩;cases j
def aCH(B:au 2 bW tv l)(z:∀t∈l,J t.1<small)(F:J l<small){k v:ae}(R:J k<small):au 2 bW (pQ tv l k v).2.1 (pQ tv l k v).1/\bn (pQ tv l k v).2.1=O/\(pQ tv l k v).1.length<small/\∀t∈(pQ tv l k v).1,J t.1<small:=by
 have N:=aab;have j:∀r:wf,au 2 bW (yd r) r/\bn (yd r)=O:=λr=>⟨.inr ⟨.no,rfl⟩,by
  simp only[yd,bn,Bool.and_true];exact Go.Ag.pures_all.2 λv G=>by
   obtain⟨y,_,rfl⟩:=cy.1 G;rfl⟩
 have nil:au 2 bW .Ge ([]:wf)/\bn .Ge=O/\([]:wf).length<small/\∀t∈([]:wf),J t.1<small:=⟨.inl R_,rfl,d_,λt h=>by cases h⟩;unfold pQ;cases c1:(!jt l||(!eA k||aR 200 (J v:Nat)))with
 |true=>exact nil
 |false=>
  have D:J l<=60:=by
   simp only[wz,E7,jt,bg,dE]at c1;exact c1.1.2
  cases c4:tz l k with
  |true=>
   cases c5:v== []with
   |true=>exact⟨(j _).1,(j _).2,by show(l.eraseIdx _).length<_;have:=List.length_eraseIdx_le l (eZ l k);omega,λt h=>z t (List.mem_of_mem_eraseIdx h)⟩
   |false=>
    refine⟨(j _).1,(j _).2,by show(l.set _ _).length<_;rw[qb];exact F,λt h=>?_⟩;have h:t∈l.set (eZ l k) (((l[eZ l k]?).getD ([],[])).1,v):=h;rcases List.mem_or_eq_of_mem_set h with h|rfl
    exact z t h
    ·show((l[eZ l k]?).getD ([],[])).1.length<small
     unfold tz at c4;split at c4
     ·next t ht=>rw[ht];exact z t (cq ht)
     cases c4
  |false=>
   cases c5:v== [];cases c6:aj (J l:Nat) 60;refine⟨(j _).1,(j _).2,?_,λt h=>?_⟩;show(l.take (eZ l k)++(k,v)::l.drop (eZ l k)).length<small;rw[bI,bP,jG,kp];omega;have h:t∈l.take (eZ l k)++(k,v)::l.drop (eZ l k):=h;rcases fJ.1 h with h|h
   exact z t (List.mem_of_mem_take h);rcases dD.1 h with rfl|h
   exact R;exact z t (List.mem_of_mem_drop h);exact nil;refine⟨?_,?_,F,z⟩;show au 2 bW (FI tv l) l;rcases B with⟨rfl,rfl⟩|⟨r,rfl⟩
   exact .inl R_;rcases l with _|⟨t,r⟩
   exact .inr ⟨.GT,rfl⟩;exact(j _).1;show bn (FI tv l)=O;rcases B with⟨rfl,rfl⟩|⟨r,rfl⟩
   rfl;rcases l with _|⟨t,r⟩
   rfl;exact(j _).2
def aqO(h:od e):J e.ids<1000000:=by
 have z:=h.r20;have j:=h.o20;simp only[aag,aK.ids];omega
def aCI{Q:ay}(h:Q.spec 122=X EB):∃sp,Q.spec 122=X sp/\∀{tv:aa}{j:wf}(k v:ae),au 2 bW tv j->bn tv=O->(∀t∈j,J t.1<small)->J j<small->J k<small->J v<small->∃u,sp [tv,.str k,.str v]=X u/\Uo u:=by
 refine⟨EB,h,λ{tv j} k v B R G F D T=>?_⟩;have S:ff 2 te tv=X j:=oI IW B;have z:(j.all λt=>decide (J t.1<small))=O:=fO.2 λt N=>dQ (G t N)
 let⟨f1,f2,f3,f4⟩:=aCH B G F (k:=k) (v:=v) D
 refine⟨.tup [(pQ tv j k v).2.1,ah (pQ tv j k v).2.2],?_,⟨_,_,_,rfl,f1,f2,f3,f4⟩⟩;simp only[aac,EB,S,dQ F,z,dQ D,dQ T,yu R]
def Ox:gV->gV->Bool
 |.GT,.GT=>O
 |.no,.no=>O
 |_,_=>I
def zF(g:aa->aa->Bool):az->az->Bool
 |[],[]=>O
 |a::x,b::y=>g a b&&zF g x y
 |_,_=>I
def Bn:Nat->aa->aa->Bool
 |_+1,.int k a,.int k' b=>k==k'&&aj a b
 |_+1,.str a,.str b=>a==b
 |k+1,.agg a,.agg b=>zF (Bn k) a b
 |_+1,.Ge,.Ge=>O
 |k+1,.list n a r,.list m b r'=>aA n m&&Ox r r'&&zF (Bn k) a b
 |_,_,_=>I
def ak5{r j:gV}(h:Ox r j=O):r=j:=by
 unfold Ox at h;split at h<;>first|rfl|cases h
def Ji{g:aa->aa->Bool}(j:∀a b,g a b=O->a=b):∀{x y:az},zF g x y=O->x=y
 |[],[],_=>rfl
 |[],_::_,h=>by cases h
 |_::_,[],h=>by cases h
 |a::x,b::y,h=>by
  simp only[zF,bg]at h;rw[j a b h.1,Ji j h.2]
def Wc:∀(k:Nat){a b:aa},Bn k a b=O->a=b
 |0,a,b,h=>by cases a<;>cases b<;>cases h
 |k+1,a,b,h=>by
  have j:=λa b=>Wc k (a:=a) (b:=b);cases a<;>cases b<;>simp only[Bn,E6]at h;simp only[bg]at h;rw[eq_of_beq h.1,eq_of_beq h.2];rw[eq_of_beq h];rw[Ji j h];rfl;simp only[bg]at h;rw[gA h.1.1,ak5 h.1.2,Ji j h.2]
def zN(op:Int)(id key value:ae)(o:Obj):aK:= {op:=op,id:=id,other:=[],node:=[],x:=0,y:=0,key:=key,value:=value,refsV:=.Ge,gT:=[],obj:=o }
def O0(id:ae)(x y:Int):Obj:=⟨id,1,x,y,.Ge,.Ge,[],[]⟩
def O1(r:gV):Obj:=⟨[119,50],2,0,0,.list 1 [.str [110,51],.str [110,52]] r,.Ge,[[110,51],[110,52]],[]⟩
def Gd:MB:=[zN 1 [] [] [] (O0 [110,51] 0 4),zN 1 [] [] [] (O0 [110,52] 4 0),zN 1 [] [] [] (O1 .GT),zN 1 [] [] [] (O1 .no),zN 3 [110,49] [110,97,109,101] [69,108,109] t0,zN 5 [119,49] [] [] t0,zN 2 [110,57] [] [] t0]
def Gf{op:Int}{id key value:ae}(h1:J id<small)(B:J key<small)(z:J value<small)(j:o.AL):(zN op id key value o).AL:=
 ⟨.inl R_,rfl,j,h1,show 0<small from d_,show 0<small from d_,B,z,fT _,λ_ h=>by cases h⟩
def Xc{id:ae}{x y:Int}(h:J id<small):(O0 id x y).AL:=⟨⟨.inl R_,.inl R_,h,show 0<small from d_,(λ_ h=>by cases h),show 0<small from d_,λ_ h=>by cases h⟩,rfl,rfl⟩
def Xd{r:gV}(h:bn (.list 1 [.str [110,51],.str [110,52]] r)=O):(O1 r).AL:=⟨⟨.inr ⟨r,rfl⟩,.inl R_,show 2<small from d_,show 2<small from d_,(λs j=>by
 rcases dD.1 j with rfl|j
 decide;rw[kq.1 j];decide),show 0<small from d_,λ_ h=>by cases h⟩,h,rfl⟩
def aov(h:e∈Gd):e.AL/\J e.ids<1000000:=by
 simp only[Gd,dD,nZ,or_false]at h;rcases h with rfl|rfl|rfl|rfl|rfl|rfl|rfl
 exact⟨Gf d_ d_ d_ (Xc d_),d_⟩;exact⟨Gf d_ d_ d_ (Xc d_),d_⟩;exact⟨Gf d_ d_ d_ (Xd rfl),d_⟩;exact⟨Gf d_ d_ d_ (Xd rfl),d_⟩
 all_goals exact⟨Gf d_ d_ d_ BN,d_⟩
def Nc:dy:=[(43,qN),(118,tW)]
def af9:eh Nc:=.cons K9 (.cons ace .nil)
noncomputable def Fx:qp:=[(61,uj)]
def Uq:rk Fx:=.cons aeJ .nil
set_option maxRecDepth 100000 in
def aos(ch:dd)(h:e∈Gd):ai (QW Nc Fx ch) 73 [e.val] s0 (.bool O) s0:=by
 refine⟨200,?_⟩;simp only[Gd,dD,nZ,or_false]at h;rcases h with rfl|rfl|rfl|rfl|rfl|rfl|rfl<;>kernel_rfl
def am4{L:cf}(h:fW 1 s v (L.map aw)):fF s.heap v (fG 1 (L.map aw)):=by
 rcases h with⟨rfl,D⟩|⟨j,n,rfl,z,_⟩
 rw[D];exact⟨1,rfl⟩;rw[qA]at z;have e:=WG (k:=1) (H:=s.heap) z rfl (rN λv B=>by
  obtain⟨p,_,rfl⟩:=cy.1 B;rfl)
 refine⟨2,e.trans ?_⟩;rcases h:L.map aw with _|⟨x,l⟩
 exact absurd h j;rfl
def aco:Sp:=λh=>bif dR h then(Gd.find? λe=>zF (Bn 9) (di h) [e.val]).bind λe=>X (fG 1 ((BL e).map aw))else Z
def axE:cW ag 41 aco:=by
 intro args u j G h w xs wr D
 let⟨ht,j⟩:=aZ j
 rw[ak]at j
 let⟨e,he,j⟩:=j
 cases j;have N:zF (Bn 9) (di args) [e.val]=O:=List.find?_some (p:=λe:aK=>zF (Bn 9) (di args) [e.val]) he;have F:=Ji (λa b=>Wc 9) N;have z:=List.mem_of_find?_eq_some he
 let⟨ge,hi⟩:=aov z
 refine iQ af9 Uq (args:=args) ht (λB=>?_) G h w xs wr D;rw[F]
 let⟨v,s',hr,hN⟩:=acd (Q:=QW Nc Fx B) (λ_=>aC _) R_ R_ rfl rfl R_ ge hi (aC _) (aos B z)
 exact⟨v,s',hr,am4 hN.row⟩
def hd23Sp:Sp
 |[]=>X (.bool O)
 |_=>Z
noncomputable def Na:dy:=[(75,B7),(76,Dg),(20,gI),(188,Bp),(43,qN),(51,lf),(200,C8),(201,Dc),(122,EB),(118,tW),(37,qE)]
def TY:eh Na:=.cons aAr (.cons akH (.cons vB (.cons amC (.cons K9 (.cons Oh (.cons aju (.cons akb (.cons aCG (.cons ace (.cons ary .nil))))))))))
noncomputable def TV:dy:=(7,NV)::(41,aco)::(30,SO)::Na
def afY:eh TV:=.cons (ajd▸NW) (.cons axE (.cons aCu TY))
def aou:Jk TV 400 4 []=X (.bool O,0):=k_
def aot:cW ag 4 hd23Sp:=by
 intro z u j G h w xs wr B;unfold hd23Sp at j;split at j;cases j;exact Me afY aou (args':=[]) rfl rfl G h w xs wr B;cases j
noncomputable def M5:dy:=(4,hd23Sp)::(7,lI)::(9,xC)::(8,zL)::Na
def afO:eh M5:=.cons aot (.cons NW (.cons arq (.cons aoo TY)))
def aEr(ch:dd):wV (QW M5 Fx ch):=
 ⟨⟨⟨rfl,rfl,rfl,rfl,rfl,R_,R_,R_,R_,R_,R_,R_,R_,R_,R_,R_,R_⟩,R_,R_,R_,R_,R_,aCI rfl⟩,rfl,rfl,rfl,rfl,R_,R_,R_,R_,R_,R_,R_,R_⟩
def Jr(h:vj v=O):v.cells=[v]:=by
 cases v<;>first|rfl|cases h
def akK{l:MB}(h:au 15 aK.val v l)(j:∀e∈l,e.Ok):dW v=O/\au 15 aK.val (cx v) l:=by
 have B:pures (l.map aK.val)=O:=by
  rw[pures_all];intro v D;obtain⟨x,z,rfl⟩:=cy.1 D;have N:=(j x z).pr;have G:=(j x z).obj.pr;have F:=(j x z).obj.pt;simp only[aK.val,aK.cells,bn,pures,N,G,F,bZ]
 rcases h with⟨rfl,rfl⟩|⟨r,rfl⟩
 exact⟨rfl,.inl R_⟩;exact⟨by simpa[dW]using B,.inr (by
  simp only[cx,kF B];exact⟨_,rfl⟩)⟩
def avE{ev:aa}{l:ba}{le:MB}(hl:au 6 Obj.val v l)(hg:∀o∈l,o.AL)(hs:J l<small)(N:pC w0 w1 w2 w3=O)(hV:au 1 aw vv views)(T:J views<small)(U:au 8 aW.val rv rl)(B:∀x∈rl,x.OkS)(V:J rl<small)(Y:au 15 aK.val ev le)(F:∀e∈le,e.Ok)(G:Gh)(h:aB aH)(w:World)(xs:gy)(wr:WR G h w)(hx:bL G [.agg [v],.agg [w0,w1,w2,w3,vv,rv],ev] xs):
 kI ag 3 ⟨xs⟩ w λr w'=>∃G',WR G' h w'/\ce G h w G' h w' 0 0/\VR G' (.bool O) r:=by
 let⟨ht,v',S,hl'⟩:=pJ hl hg
 let⟨ht2,hrl'⟩:=aB8 U B
 let⟨ht3,hvw'⟩:=m6 pT hV
 let⟨ht4,hew'⟩:=akK Y F
 have R:=Wz N;have S:di [.agg [v],.agg [w0,w1,w2,w3,vv,rv],ev]=[.agg [v'],.agg [cx w0,cx w1,cx w2,cx w3,cx vv,cx rv],cx ev]:=by
  simp only[di,cx,S];rw[<-S];simp only[cx,di]
 have j:=FW N;simp only[dR,bg]at j;have z:=R;simp only[pC,bg]at z;refine iQ afO Uq (args:=[.agg [v],.agg [w0,w1,w2,w3,vv,rv],ev]) (by
  have:dW (.agg [w0,w1,w2,w3,vv,rv])=O:=by
   simp only[dW,dR,j.1,j.2.1,j.2.2.1,j.2.2.2.1,ht2,ht3,bZ]
  show(dW (.agg [v])&&(dW (.agg [w0,w1,w2,w3,vv,rv])&&(dW ev&&_)))=O;rw[ht,this,ht4];rfl) (λch=>?_) G h w xs wr hx
 rw[S];obtain⟨v,s',D,rfl⟩:=az5 (Q:=QW M5 Fx ch) (aEr ch) ⟨rfl,rfl,R_,R_,R_⟩ (λ_=>aC _) (hd23Sp:=hd23Sp) rfl rfl rfl rfl rfl rfl R_ R_ R_
  R_ R_ R_ R_ R_ R_ R_ R_ R_ rfl rfl R_ R_ R_ R_ R_ R_ R_ R_ R_ R_ R_
  hl' hg hs hew' F (λhf e he=>aqO (hf e he)) R ⟨Jr z.1,Jr z.2.1,Jr z.2.2.1,Jr z.2.2.2,hvw'.cs.2,hrl'.cs.2⟩ hvw' hrl' B V T (s:=s0) (aC _)
 exact⟨_,_,D,⟨1,rfl⟩⟩
def LW:Value->er
 |.bool b=>X (.bool b)
 |.int k n=>X (.int k n)
 |.string s=>X (.str s.data.toList)
 |.slice Z 0 0=>X .Ge
 |_=>Z
variable{x:Value}
def aCw{G:Gh}(h:LW x=X v):v.scal=O/\VR G v x:=by
 unfold LW at h;split at h;cases h;exact⟨rfl,.bool _⟩;cases h;exact⟨rfl,.int _ _⟩;cases h;exact⟨rfl,.str _⟩;cases h;exact⟨rfl,.Ge⟩;cases h
def tk(W:World)(b o:Nat):er:=(W.cell? ⟨b,o,Z⟩).bind LW
open Classical in
noncomputable def pick(P:aa->Prop):er:=if h:∃v,P v then X (Classical.choose h)else Z
variable{P:aa->Prop}
theorem aAd(h:pick P=X v):P v:=by
 unfold pick at h;split at h<;>grind
theorem aAb(h:P v):∃u,pick P=X u/\P u:=by
 have e:∃v,P v:=⟨v,h⟩
 grind [pick]
abbrev H_:=Nat->Nat->aa->Prop
def wU{α:Type}(sz:Nat)(en:α->aa)(AL:α->Prop)(Cl:H_)(x:Value)(v:aa):Prop:=
 ∃(a:Addr)(len h:Nat)(l:List α),x=.slice (X a) len h/\v=.list sz (l.map en) .no/\(h=0\/a.spot=Z)/\J l=len/\len<=h/\len<small/\(∀s∈l,AL s)/\∀(i j:Nat)(s:α)(c:aa),l[i]?=X s->(en s).cells[j]?=X c->Cl a.block (a.off+(i*sz+j)) c
def y9(W:World)(b o:Nat)(c:aa):Prop:=tk W b o=X c
abbrev A7(W:World):=wU 1 aw (λs=>J s<small) (y9 W)
abbrev IK(W:World):=wU 2 bW (λt=>J t.1<small/\J t.2<small) (y9 W)
noncomputable def v9(W:World)(b o:Nat):er:=
 (W.cell? ⟨b,o,Z⟩).bind λx=>match W.cell? ⟨b,o-1,Z⟩with
  |some (.int _ _)=>pick (A7 W x)
  |some (.slice _ _ _)=>pick (IK W x)
  |some (.string _)=>pick (A7 W x)
  |_=>Z
noncomputable def lg(W:World):Gh where
 at_ _:=Z
 dim _:=Z
 ro b o:=(tk W b o).or (v9 W b o)
variable{o:Nat}{c:aa}
def Ar{W:World}(h:W.cell? ⟨b,o,Z⟩=X x)(j:LW x=X c):y9 W b o c:=by
 unfold y9 tk;rw[h];exact j
def zK{W:World}(h:y9 W b o c):(lg W).ro b o=X c:=by
 show(tk W b o).or _=_;rw[show tk W b o=X c from h];rfl
theorem acA:∀{l:az}{i:Nat}{v:aa},l[i]?=X v->m8 l i=v
 |[],_,_,h=>by simp at h
 |_::_,0,_,h=>by simpa[m8]using h
 |_::l,i+1,v,h=>acA (l:=l) (i:=i) (by simpa using h)
theorem amJ(j:∀x∈xs,J x.cells=sz)(h:(aq xs)[i]?=X y):∃v,xs[i / sz]?=X v/\v.cells[i % sz]?=X y/\i=i / sz*sz+i % sz:=by
 grind [nJ,Nat.div_lt_iff_lt_mul,Nat.mod_lt,Nat.div_add_mod,Wx,acA]
section
variable{W:World}{α:Type}{sz:Nat}{en:α->aa}{AL:α->Prop}{Cl:H_}
def ad5(h:wU sz en AL Cl x v)(U:0<sz)(B:∀s,(en s).cells.length=sz)(T:∀b o c,Cl b o c->(lg W).ro b o=X c):VR (lg W) v x:=by
 obtain⟨d,len,F,l,rfl,rfl,D,R,S,_,_,j⟩:=h;have N:(l.map en).length=len:=by rw[bh,R]
 have G:∀y∈l.map en,J y.cells=sz:=λy z=>by
  obtain⟨s,_,rfl⟩:=cy.1 z;exact B s
 have:VR (lg W) (.list sz (l.map en) .no) (.slice (X d) (l.map en).length F):=by
  refine .list D U G (by rw[N];exact S) (λi y z=>?_) trivial
  let⟨u,h1,h2,h3⟩:=amJ G z
  rw[ix,o6]at h1;obtain⟨s,e,rfl⟩:=h1;rw[h3];exact T _ _ _ (j _ _ _ _ e h2)
 rwa [N]at this
def aBW(h:wU sz en AL Cl x v)(j:∀s,bn (en s)=O):∃l,au sz en v l/\J l<small/\(∀s∈l,AL s)/\bn v=O:=by
 obtain⟨_,_,_,l,_,rfl,_,B,_,D,z,_⟩:=h;exact⟨l,.inr ⟨_,rfl⟩,w_,z,by simp only[bn,B6 j l,bZ]⟩
def aBX(h:wU sz en AL Cl x v):v.scal=O:=by
 obtain⟨_,_,_,_,_,rfl,_⟩:=h;rfl
def Ca(h:x=.slice Z 0 0\/∃v,wU sz en AL Cl x v)(F:0<sz)(j:∀s,(en s).cells.length=sz)(B:∀b o c,Cl b o c->(lg W).ro b o=X c):∃(v:aa)(l:List α),VR (lg W) v x/\v.scal=O/\au sz en v l/\(∀o∈l,AL o)/\J l<small:=by
 rcases h with rfl|⟨v,h⟩
 exact⟨.Ge,[],.Ge,rfl,.inl R_,(λ_ h=>by cases h),show 0<small from d_⟩;have z:=ad5 h F j B;obtain⟨_,_,_,l,_,rfl,_,G,_,N,D,_⟩:=h;exact⟨_,l,z,rfl,.inr ⟨_,rfl⟩,D,w_⟩
def Ep(D:∀s,bn (en s)=O)(j:W.cell? ⟨b,o,Z⟩=X x)(B:x=.slice Z 0 0\/∃v,wU sz en AL (y9 W) x v)(h:v9 W b o=pick (wU sz en AL (y9 W) x)):∃(v:aa)(l:List α),(lg W).ro b o=X v/\au sz en v l/\J l<small/\(∀s∈l,AL s)/\bn v=O:=by
 rcases B with rfl|⟨u,z⟩
 exact⟨.Ge,[],zK (Ar j rfl),.inl R_,show 0<small from d_,(λs h=>by cases h),rfl⟩
 let⟨v,h1,h2⟩:=aAb z
 let⟨l,g⟩:=aBW h2 D
 refine⟨v,l,?_,g⟩;show(tk W _ _).or _=_;have e:tk W b o=Z:=by
  obtain⟨_,_,_,_,rfl,_⟩:=z;unfold tk;rw[j];rfl
 rw[e,h,h1];rfl
end
def ans(W:World):WR (lg W) .nil W where
 obj m o h:=by cases h
 sep m k x y h:=absurd rfl h
 ro b o v h:=by
  have h:(tk W b o).or (v9 W b o)=X v:=h;cases e:tk W b o with
  |some u=>
   rw[e]at h;simp only[Option.some_or,Option.some.injEq]at h;subst h;unfold tk at e;rw[ak]at e
   let⟨x,h1,h2⟩:=e
   let⟨h3,h4⟩:=aCw (G:=lg W) h2
   exact⟨h3,x,h1,h4⟩
  |none=>
   rw[e]at h;simp only[Option.none_or]at h;unfold v9 at h;rw[ak]at h
   let⟨x,h1,h2⟩:=h
   split at h2
   case h_4=>cases h2
   all_goals
    have h3:=aAd h2;exact⟨aBX h3,x,h1,ad5 h3 d_ (λ_=>rfl) (λ_ _ _=>zK)⟩
 apart m ob x i v h:=by cases h
 dim b d h:=by cases h
 below m x h:=by cases h
abbrev gW{H:Type}(enc:TypeId×Value->H)(W:World)(held:Bool)(n:Nat)(t:TypeId)(L:gy)(i:Nat)(y:DataW H×List MemPlace):Prop:=DataW.trod enc ag W 0 (λ_=>O) held n t ((L.drop i).take (ag.cellsOf t))=X y
variable{a:Addr}{ps:List MemPlace}{fuel:Nat}{α:Type}{e:TypeId}{v:Value}
section
variable{H:Type}{enc:TypeId×Value->H}{W:World}{held:Bool}
theorem Cn:ag.underlying 3=X (.int .i64):=k_
def FD:ag.cellsOf 9=1:=k_
theorem C4:ag.cellsOf 3=1:=k_
def IZ:ag.cellsOf 25=1:=k_
def aiw:ag.cellsOf 45=1:=k_
def NJ:ag.cellsOf 44=2:=k_
def NK:ag.cellsOf 103=2:=k_
def I4:ag.cellsOf 47=6:=k_
def Vc:ag.cellsOf 24=1:=k_
def Vb:ag.cellsOf 22=1:=k_
def uC:ag.underlying 9=X .string:=k_
def aE0:ag.underlying 45=X (.slice 103):=k_
def afc:ag.underlying 22=X (.slice 47):=k_
theorem aDw(h:W.cell? a=X v):a.spot=Z:=by
 unfold World.cell? at h;split at h<;>simp_all
theorem agM(h:a.spot=Z)(i:Nat):a.add i=⟨a.block,a.off+i,Z⟩:=by
 let⟨b,o,sp⟩:=a
 grind [pd]
theorem ab1(h:n<=maxLen):n<small:=by
 grind [maxLen,small]
def ux{s:ByteArray}(h:s.size<=maxLen):J s.data.toList<small:=by
 simp_all [ab1]
def avM{l:List α}(h:J l=1):∃a,l=[a]:=by
 match l,h with
 |[a],_=>exact⟨a,rfl⟩
def abw{l:List α}(h:J l=2):∃a b,l=[a,b]:=by
 match l,h with
 |[a,b],_=>exact⟨a,b,rfl⟩
def avO{l:List α}(h:J l=5):∃a b c d e,l=[a,b,c,d,e]:=by
 match l,h with
 |[a,b,c,d,e],_=>exact⟨a,b,c,d,e,rfl⟩
def Rk{l:List α}(h:J l=6):∃a b c d e f,l=[a,b,c,d,e,f]:=by
 match l,h with
 |[a,b,c,d,e,f],_=>exact⟨a,b,c,d,e,f,rfl⟩
def avR{l:List α}(h:J l=9):∃a b c d e f g k i,l=[a,b,c,d,e,f,g,k,i]:=by
 match l,h with
 |[a,b,c,d,e,f,g,k,i],_=>exact⟨a,b,c,d,e,f,g,k,i,rfl⟩
def avN{l:List α}(h:J l=15):∃a b c d e f g k i G F D B z j,l=[a,b,c,d,e,f,g,k,i,G,F,D,B,z,j]:=by
 match l,h with
 |[a,b,c,d,e,f,g,k,i,G,F,D,B,z,j],_=>exact⟨a,b,c,d,e,f,g,k,i,G,F,D,B,z,j,rfl⟩
def afb{cs:gy}{x:DataW H×List MemPlace}(h:DataW.trod enc ag W 0 (λ_=>O) held fuel 103 cs=X x):∃k v:ae,cs=[.string ⟨⟨k⟩⟩,.string ⟨⟨v⟩⟩]/\J k<small/\J v<small:=by
 let⟨y0,y1,n,_,hl,h0,h1⟩:=Go.ChangeShapes.trod_struct2 Tryz.underlying103 h
 rw[NK]at hl;obtain⟨a,b,rfl⟩:=abw hl;rw[FD]at h0 h1
 let⟨s,e0,_,hs⟩:=DataW.trod_string uC h0
 let⟨r,e1,_,hr⟩:=DataW.trod_string uC h1
 simp only[kG,wH,wI,mR,aT]at e0;simp only[uI,kG,wH,wI,mR,aT]at e1;subst e0;subst e1;exact⟨s.data.toList,r.data.toList,rfl,ux hs,ux hr⟩
theorem afa{cs:gy}{x:DataW H×List MemPlace}(h:DataW.trod enc ag W 0 (λ_=>O) held fuel 44 cs=X x):∃k v:Int,cs=[.int .i64 k,.int .i64 v]:=by
 let⟨y0,y1,n,_,hl,h0,h1⟩:=Go.ChangeShapes.trod_struct2 Tryz.underlying44 h
 rw[NJ]at hl;obtain⟨a,b,rfl⟩:=abw hl
 grind [C4,DataW.trod_int,Cn]
theorem abC{α:Type}{P:Nat->α->Prop}:∀(n:Nat),(∀i,i<n->∃o,P i o)->∃l:List α,J l=n/\∀(i:Nat) o,l[i]?=X o->P i o
 |0,_=>⟨[],rfl,λi o h=>by simp at h⟩
 |n+1,h=>by
  let⟨l,h1,h2⟩:=abC n λi z=>h i w_
  let⟨o,ho⟩:=h n w_
  refine⟨l++[o],by simp[h1],λi p j=>?_⟩
  grind
theorem akQ{c:Nat}{z:List (DataW H×List MemPlace)}(D:ag.cellsOf e=c)(hi:i<J z)(B:a.spot=Z)(h:(W.cells? 0 (a.add (i*ag.cellsOf e)) (ag.cellsOf e)).bind (DataW.trod enc ag W 0 (λ_=>O) held n e)=z[i]?):
 ∃cs y,DataW.trod enc ag W 0 (λ_=>O) held n e cs=X y/\J cs=c/\∀j,j<c->W.cell? ⟨a.block,a.off+(i*c+j),Z⟩=cs[j]? :=by
 rw[D,dA hi,ak]at h
 let⟨cs,h1,h2⟩:=h
 let⟨_,hl,hcell⟩:=World.cells?_some h1
 grind [agM]
theorem aC7{len cap:Nat}{z rest:List (DataW H×List MemPlace)}(B:0<ag.cellsOf e)(G:J z=len)(R:len<=cap)(U:∀i,i<len->(W.cells? 0 (a.add (i*ag.cellsOf e)) (ag.cellsOf e)).bind (DataW.trod enc ag W 0 (λ_=>O) held n e)=z[i]?)(D:J rest=cap-len/\∀j,j<cap-len->(W.cells? 0 (a.add ((len+j)*ag.cellsOf e)) (ag.cellsOf e)).bind (DataW.trod enc ag W 0 (λ_=>O) held n e)=rest[j]?):cap=0\/a.spot=Z:=by
 rcases MR cap with N|N
 exact .inl N;refine .inr ?_;have S:∀o:Option (DataW H×List MemPlace),o.isSome=O->(W.cells? 0 (a.add (0*ag.cellsOf e)) (ag.cellsOf e)).bind (DataW.trod enc ag W 0 (λ_=>O) held n e)=o->a.spot=Z:=by
  intro o T h;rcases o with _|y
  cases T;rw[ak]at h
  let⟨cs,F,_⟩:=h
  let⟨_,hl,hcell⟩:=World.cells?_some F
  have:=hcell 0 B;rw[Nat.zero_mul]at this;have V:(a.add 0).add 0=a:=rfl
  grind [aDw]
 rcases MR len with F|F
 have:=D.2 0 w_
 grind
 grind
def BZ{en:α->aa}{E:TypeId}{AL:α->Prop}{Cl:H_}(ut:ag.underlying t=X (.slice E))(cE:ag.cellsOf E=sz)(G:0<sz)(el:∀{n:Nat}{cs:gy}{y:DataW H×List MemPlace}{b o:Nat},DataW.trod enc ag W 0 (λ_=>O) held n E cs=X y->(∀j,j<sz->W.cell? ⟨b,o+j,Z⟩=cs[j]?)->∃s:α,AL s/\∀(j:Nat) c,(en s).cells[j]?=X c->Cl b (o+j) c){cs:gy}{x:DataW H×List MemPlace}(h:DataW.trod enc ag W 0 (λ_=>O) held fuel t cs=X x):∃val,cs=[val]/\(val=.slice Z 0 0\/∃v,wU sz en AL Cl val v):=by
 rcases DataW.trod_slice ut h with⟨rfl,_⟩|⟨a,len,V,U,Y,n,_,rfl,_,_,S,hm,B,F,N,_⟩
 exact⟨_,rfl,.inl rfl⟩;have z:=aC7 (by rw[cE];exact G) B S F (N rfl)
 let⟨l,t1,t2⟩:=abC (P:=λi s=>AL s/\∀(j:Nat) c,(en s).cells[j]?=X c->Cl a.block (a.off+(i*sz+j)) c) len λi D=>by
  have R:a.spot=Z:=by
   rcases z with G|G
   omega;exact G
  let⟨cs,y,q1,q2,q3⟩:=akQ cE w_ R (F i D)
  let⟨s,g1,g2⟩:=el (b:=a.block) (o:=a.off+i*sz) q1 λj hj=>by rw[sS];exact q3 j hj
  exact⟨s,g1,λj c T=>by have:=g2 j c T;rwa [sS]at this⟩
 refine⟨_,rfl,.inr ⟨_,a,len,V,l,rfl,rfl,z,t1,S,ab1 (dg S hm),λs R=>?_,λi j s c D T=>(t2 i s D).2 j c T⟩⟩
 let⟨i,D⟩:=List.getElem?_of_mem R
 exact(t2 i s D).1
def HA{cs:gy}{x:DataW H×List MemPlace}(h:DataW.trod enc ag W 0 (λ_=>O) held fuel 25 cs=X x):∃v,cs=[v]/\(v=.slice Z 0 0\/∃u,A7 W v u):=
 BZ aEV FD d_ (λh D=>by
  obtain⟨s,rfl,_,B⟩:=DataW.trod_string uC h;refine⟨s.data.toList,ux B,λj c z=>?_⟩
  match j,z with
  |0,z=>exact Ar (D 0 d_) z
  |_+1,z=>cases z) h
def azl{cs:gy}{x:DataW H×List MemPlace}(h:DataW.trod enc ag W 0 (λ_=>O) held fuel 45 cs=X x):∃v,cs=[v]/\(v=.slice Z 0 0\/∃u,IK W v u):=
 BZ aE0 NK d_ (λh B=>by
  obtain⟨k,v,rfl,D⟩:=afb h;refine⟨(k,v),D,λj c z=>?_⟩
  match j,z with
  |0,z=>exact Ar (B 0 d_) z
  |1,z=>exact Ar (B 1 d_) z
  |_+2,z=>cases z) h
def ada{cs:gy}{x:DataW H×List MemPlace}(h:DataW.trod enc ag W 0 (λ_=>O) held fuel 47 cs=X x):
 ∃(id:ae)(k z j:Int)(rv tv:Value),cs=[.string ⟨⟨id⟩⟩,.int .i64 k,.int .i64 z,.int .i64 j,rv,tv]/\J id<small/\(rv=.slice Z 0 0\/∃u,A7 W rv u)/\(tv=.slice Z 0 0\/∃u,IK W tv u):=by
 let⟨xs,n,_,_,hl,hlen,hf⟩:=DataW.trod_struct Tryz.underlying47 h
 rw[I4]at hl;obtain⟨a,b,c,d,e,f,rfl⟩:=Rk hl;obtain⟨V,U,T,S,R,rfl⟩:=avO (l:=xs) hlen;have N:gW enc W held n 9 [a,b,c,d,e,f] 0 V:=hf 0 _ rfl;have G:gW enc W held n 3 [a,b,c,d,e,f] 1 U:=hf 1 _ rfl;have F:gW enc W held n 44 [a,b,c,d,e,f] 2 T:=hf 2 _ rfl;have D:gW enc W held n 25 [a,b,c,d,e,f] 4 S:=hf 3 _ rfl;have B:gW enc W held n 45 [a,b,c,d,e,f] 5 R:=hf 4 _ rfl;simp only[gW,FD,C4,NJ,IZ,aiw]at N G F D B
 let⟨s,e0,_,hs⟩:=DataW.trod_string uC N
 let⟨k,e1,_,_⟩:=DataW.trod_int Cn G
 let⟨z,j,e2⟩:=afa F
 let⟨rv,e3,hr⟩:=HA D
 let⟨tv,e4,ht⟩:=azl B
 simp only[kG,uI,wH,wI,mR,aT]at e0 e1 e2 e3 e4;obtain⟨rfl,rfl⟩:=e2;subst e0;subst e1;subst e3;subst e4;exact⟨s.data.toList,k,z,j,_,_,rfl,ux hs,hr,ht⟩
def VY{cs:gy}{y:DataW H×List MemPlace}(h:DataW.trod enc ag W 0 (λ_=>O) held n 47 cs=X y)(D:∀j,j<6->W.cell? ⟨b,o+j,Z⟩=cs[j]?):∃s:Obj,s.AL/\∀(j:Nat) c,s.val.cells[j]?=X c->(lg W).ro b (o+j)=X c:=by
 obtain⟨id,k,U,T,rv,tv,rfl,hid,S,G⟩:=ada h;have R:=D 3 d_;have z:=D 4 d_;have F:=D 5 d_;obtain⟨y,p,q,N⟩:∃y p q,rv=.slice y p q:=by
  rcases S with rfl|⟨u,_,_,_,_,rfl,_⟩<;>exact⟨_,_,_,rfl⟩
 simp only[AR,Cx]at R z F
 let⟨rV,rs,r1,r2,r3,r4,r5⟩:=Ep pT z S (by simp only[v9,z,aG,show o+4-1=o+3 from rfl,R])
 let⟨tV,ts,t1,t2,t3,t4,t5⟩:=Ep H3 F G (by rw[N]at z;simp only[v9,F,aG,show o+5-1=o+4 from rfl,z])
 refine⟨⟨id,k,U,T,rV,tV,rs,ts⟩,⟨⟨r2,t2,hid,r3,r4,t3,λt G=>(t4 t G).1⟩,r5,t5⟩,λj c B=>?_⟩;rcases j with _|_|_|_|_|_|j<;>first|exact zK (Ar (D _ d_) B)|exact sI B▸r1|exact sI B▸t1|cases B
def ait:ag.cellsOf 26=1:=k_
def aiu:ag.cellsOf 27=1:=k_
def aiv:ag.cellsOf 29=6:=k_
def c_4:ag.cellsOf 4=1:=k_
def Ve:ag.cellsOf 105=8:=k_
def aEW:ag.underlying 26=X (.slice 3):=k_
def aEX:ag.underlying 27=X (.slice 105):=k_
def aEY:ag.underlying 4=X .bool:=k_
def avQ{l:List α}(h:J l=8):∃a b c d e f g k,l=[a,b,c,d,e,f,g,k]:=by
 match l,h with
 |[a,b,c,d,e,f,g,k],_=>exact⟨a,b,c,d,e,f,g,k,rfl⟩
def avP{l:List α}(h:J l=7):∃a b c d e f g,l=[a,b,c,d,e,f,g]:=by
 match l,h with
 |[a,b,c,d,e,f,g],_=>exact⟨a,b,c,d,e,f,g,rfl⟩
def azk{cs:gy}{x:DataW H×List MemPlace}(h:DataW.trod enc ag W 0 (λ_=>O) held fuel 105 cs=X x):
 ∃(st:Bool)(S:ae)(k:Int)(j iv:ae)(op:Int)(key:ae)(vv:Value),cs=[.bool st,.string ⟨⟨S⟩⟩,.int .i64 k,.string ⟨⟨j⟩⟩,.string ⟨⟨iv⟩⟩,.int .i64 op,.string ⟨⟨key⟩⟩,vv]/\J S<small/\J j<small/\J key<small/\(vv=.slice Z 0 0\/∃u,A7 W vv u):=by
 let⟨xs,n,_,_,hl,hlen,hf⟩:=DataW.trod_struct Tryz.underlying105 h
 rw[Ve]at hl;obtain⟨a,b,c,d,e,f,g,k,rfl⟩:=avQ hl;obtain⟨y0,y1,y2,Y,V,U,T,rfl⟩:=avP (l:=xs) hlen;have R:gW enc W held n 4 [a,b,c,d,e,f,g,k] 0 y0:=hf 0 _ rfl;have N:gW enc W held n 9 [a,b,c,d,e,f,g,k] 1 y1:=hf 1 _ rfl;have G:gW enc W held n 3 [a,b,c,d,e,f,g,k] 2 y2:=hf 2 _ rfl;have F:gW enc W held n 103 [a,b,c,d,e,f,g,k] 3 Y:=hf 3 _ rfl;have D:gW enc W held n 3 [a,b,c,d,e,f,g,k] 5 V:=hf 4 _ rfl;have B:gW enc W held n 9 [a,b,c,d,e,f,g,k] 6 U:=hf 5 _ rfl;have z:gW enc W held n 25 [a,b,c,d,e,f,g,k] 7 T:=hf 6 _ rfl;simp only[gW,c_4,FD,C4,NK,IZ]at R N G F D B z
 let⟨b0,e0,_⟩:=DataW.trod_bool aEY R
 let⟨s1,e1,_,hs1⟩:=DataW.trod_string uC N
 let⟨k2,e2,_,_⟩:=DataW.trod_int Cn G
 let⟨k3,v3,e3,hk3,_⟩:=afb F
 let⟨k4,e4,_,_⟩:=DataW.trod_int Cn D
 let⟨s5,e5,_,hs5⟩:=DataW.trod_string uC B
 let⟨rv,e6,hr⟩:=HA z
 simp only[kG,uI,wH,wI,mR,aT]at e0 e1 e2 e3 e4 e5 e6;obtain⟨rfl,rfl⟩:=e3;subst e0;subst e1;subst e2;subst e4;subst e5;subst e6;exact⟨b0,s1.data.toList,k2,k3,v3,k4,s5.data.toList,_,rfl,ux hs1,hk3,ux hs5,hr⟩
def akP{cs:gy}{y:DataW H×List MemPlace}(h:DataW.trod enc ag W 0 (λ_=>O) held n 105 cs=X y)(F:∀j,j<8->W.cell? ⟨b,o+j,Z⟩=cs[j]?):∃s:aW,s.OkS/\∀(j:Nat) c,s.val.cells[j]?=X c->(lg W).ro b (o+j)=X c:=by
 obtain⟨N,ar,k,S,iv,R,B,rv,rfl,Y,V,U,T⟩:=azk h;have G:=F 6 d_;have z:=F 7 d_;simp only[AR,Cx]at G z
 let⟨rV,rs,r1,r2,r3,r4,r5⟩:=Ep pT z T (by simp only[v9,z,aG,show o+7-1=o+6 from rfl,G])
 refine⟨⟨N,ar,k,S,iv,R,B,rV,rs⟩,⟨r2,r5,Y,U,V,r3⟩,λj c D=>?_⟩;rcases j with _|_|_|_|_|_|_|_|j<;>first|exact zK (Ar (F _ d_) D)|exact sI D▸r1|cases D
def X5{en:α->aa}(j:∀s,bn (en s)=O){v:aa}{l:List α}(h:au sz en v l):vj v=O:=by
 rcases h with⟨rfl,_⟩|⟨_,rfl⟩
 rfl;exact B6 j l
def Vd:ag.cellsOf 51=15:=k_
def aE1:ag.underlying 30=X (.slice 51):=k_
def azh{cs:gy}{x:DataW H×List MemPlace}(h:DataW.trod enc ag W 0 (λ_=>O) held fuel 51 cs=X x):
 ∃(op:Int)(id other node:ae)(G F:Int)(key value:ae)(rv:Value)(B:ae)(k R N:Int)(z j:Value),cs=[.int .i64 op,.string ⟨⟨id⟩⟩,.string ⟨⟨other⟩⟩,.string ⟨⟨node⟩⟩,.int .i64 G,.int .i64 F,.string ⟨⟨key⟩⟩,.string ⟨⟨value⟩⟩,rv,.string ⟨⟨B⟩⟩,.int .i64 k,.int .i64 R,.int .i64 N,z,j]/\(J id<small/\J other<small/\J node<small/\J key<small/\J value<small/\J B<small)/\(rv=.slice Z 0 0\/∃u,A7 W rv u)/\(z=.slice Z 0 0\/∃u,A7 W z u)/\(j=.slice Z 0 0\/∃u,IK W j u):=by
 let⟨xs,n,_,_,hl,hlen,hf⟩:=DataW.trod_struct Tryz.underlying51 h
 rw[Vd]at hl;obtain⟨a,b,c,d,e,f,g,k,i,a2,b2,c2,d2,D,f2,rfl⟩:=avN hl;obtain⟨y0,y1,y2,y3,y4,y5,y6,y7,y8,rfl⟩:=avR (l:=xs) hlen;obtain⟨L,S⟩:∃L,L=[a,b,c,d,e,f,g,k,i,a2,b2,c2,d2,D,f2]:=⟨_,rfl⟩;rw[<-S]at hf;have h0:gW enc W held n 3 L 0 y0:=hf 0 _ rfl;have h1:gW enc W held n 9 L 1 y1:=hf 1 _ rfl;have h2:gW enc W held n 9 L 2 y2:=hf 2 _ rfl;have h3:gW enc W held n 9 L 3 y3:=hf 3 _ rfl;have h4:gW enc W held n 44 L 4 y4:=hf 4 _ rfl;have Y:gW enc W held n 9 L 6 y5:=hf 5 _ rfl;have V:gW enc W held n 9 L 7 y6:=hf 6 _ rfl;have U:gW enc W held n 25 L 8 y7:=hf 7 _ rfl;have T:gW enc W held n 47 L 9 y8:=hf 8 _ rfl;subst S;simp only[gW,C4,FD,NJ,IZ,I4]at h0 h1 h2 h3 h4 Y V U T
 let⟨k0,e0,_,_⟩:=DataW.trod_int Cn h0
 let⟨s1,e1,_,hs1⟩:=DataW.trod_string uC h1
 let⟨s2,D,_,hs2⟩:=DataW.trod_string uC h2
 let⟨s3,e3,_,hs3⟩:=DataW.trod_string uC h3
 let⟨G,F,e4⟩:=afa h4
 let⟨s5,e5,_,hs5⟩:=DataW.trod_string uC Y
 let⟨s6,e6,_,hs6⟩:=DataW.trod_string uC V
 let⟨rv,e7,hr⟩:=HA U
 let⟨B,ok,R,N,z,j,e8,ho,hor,hot⟩:=ada T
 simp only[kG,uI,wH,wI,mR,aT]at e0 e1 D e3 e4 e5 e6 e7 e8;obtain⟨rfl,rfl⟩:=e4;obtain⟨rfl,rfl,rfl,rfl,rfl,rfl⟩:=e8;subst e0;subst e1;subst D;subst e3;subst e5;subst e6;subst e7;exact⟨k0,s1.data.toList,s2.data.toList,s3.data.toList,G,F,s5.data.toList,s6.data.toList,_,B,ok,R,N,_,_,rfl,⟨ux hs1,ux hs2,ux hs3,ux hs5,ux hs6,ho⟩,hr,hor,hot⟩
def akO{cs:gy}{y:DataW H×List MemPlace}(h:DataW.trod enc ag W 0 (λ_=>O) held n 51 cs=X y)(F:∀j,j<15->W.cell? ⟨b,o+j,Z⟩=cs[j]?):∃s:aK,s.Ok/\∀(j:Nat) c,s.val.cells[j]?=X c->(lg W).ro b (o+j)=X c:=by
 obtain⟨op,id,D,node,px,py,V,value,rv,U,k,ox,oy,T,a1,rfl,⟨g1,g2,g3,g4,g5,g6⟩,hr,N,a0⟩:=azh h;have p7:=F 7 d_;have S:=F 8 d_;have G:=F 12 d_;have z:=F 13 d_;have B:=F 14 d_;obtain⟨y,p,q,Y⟩:∃y p q,T=.slice y p q:=by
  rcases N with rfl|⟨u,_,_,_,_,rfl,_⟩<;>exact⟨_,_,_,rfl⟩
 simp only[AR,Cx]at p7 S G z B
 let⟨rV,rs,r1,r2,r3,r4,r5⟩:=Ep pT S hr (by simp only[v9,S,aG,show o+8-1=o+7 from rfl,p7])
 let⟨oV,os,o1,o2,o3,o4,o5⟩:=Ep pT z N (by simp only[v9,z,aG,show o+13-1=o+12 from rfl,G])
 let⟨tV,ts,t1,t2,t3,t4,t5⟩:=Ep H3 B a0 (by rw[Y]at z;simp only[v9,B,aG,show o+14-1=o+13 from rfl,z])
 refine⟨⟨op,id,D,node,px,py,V,value,rV,rs,⟨U,k,ox,oy,oV,tV,os,ts⟩⟩,⟨r2,r5,⟨⟨o2,t2,g6,o3,o4,t3,λt ht=>(t4 t ht).1⟩,o5,t5⟩,g1,g2,g3,g4,g5,r4⟩,λj c R=>?_⟩;rcases j with _|_|_|_|_|_|_|_|_|_|_|_|_|_|_|j<;>first|exact zK (Ar (F _ d_) R)|exact sI R▸r1|exact sI R▸o1|exact sI R▸t1|cases R
def azi{d:DataW H}(j:v.cells.toList=[v])(h:DataW.Trod enc ag W 0 (λ_=>O) held 30 v d ps):
 ∃(x:aa)(l:MB),VR (lg W) x v/\au 15 aK.val x l/\(∀e∈l,e.Ok):=by
 let⟨fuel,h⟩:=h
 rw[j]at h
 let⟨val,e,h⟩:=BZ (en:=aK.val) (AL:=aK.Ok) (Cl:=λb o c=>(lg W).ro b o=X c) aE1 Vd d_ akO h
 obtain rfl:=(List.cons.inj e).1
 let⟨x,l,h1,_,h2,h3,_⟩:=Ca h d_ (λ_=>rfl) (λ_ _ _ h=>h)
 exact⟨x,l,h1,h2,h3⟩
def azj{d:DataW H}(z:∃cs,v=.agg cs)(h:DataW.Trod enc ag W 0 (λ_=>O) held 24 v d ps):
 ∃(x:aa)(l:ba),VR (lg W) (.agg [x]) v/\au 6 Obj.val x l/\(∀o∈l,o.AL)/\J l<small:=by
 let⟨fuel,h⟩:=h
 obtain⟨cs,rfl⟩:=z
 let⟨y0,n,_,hl,h0⟩:=Go.ChangeShapes.trod_struct1 Tryz.underlying24 h
 rw[Vb]at h0;have j:(Value.agg cs).cells.toList=cs.toList:=rfl;rw[j]at h0 hl;rw[Vc]at hl
 let⟨val,e,h0⟩:=BZ (en:=Obj.val) (AL:=Obj.AL) (Cl:=λb o c=>(lg W).ro b o=X c) afc I4 d_ VY h0
 let⟨x,l,h1,hsc,h2,h3,h4⟩:=Ca h0 d_ (λ_=>rfl) (λ_ _ _ h=>h)
 have B:cs= #[val]:=by
  let⟨cl⟩:=cs
  obtain⟨c,rfl⟩:=avM (l:=cl) hl;simp only[kG,wH,wI,mR,aT]at e;subst e;rfl
 subst B;refine⟨x,l,.agg ?_ (.cons h1 .nil),h2,h3,h4⟩;simp only[dl,pZ,hsc,List.all_nil,bZ]
def azm{d:DataW H}(hv:∃cs,v=.agg cs)(h:DataW.Trod enc ag W 0 (λ_=>O) held 29 v d ps):
 ∃(w0 w1 w2 w3 vv rv:aa)(views:cf)(rl:vy),VR (lg W) (.agg [w0,w1,w2,w3,vv,rv]) v/\pC w0 w1 w2 w3=O/\au 1 aw vv views/\J views<small/\au 8 aW.val rv rl/\(∀x∈rl,x.OkS)/\J rl<small:=by
 obtain⟨fuel,h⟩:=h;obtain⟨cs,rfl⟩:=hv;obtain⟨xs,n,_,_,F,D,z⟩:=DataW.trod_struct Tryz.underlying29 h;have U:(Value.agg cs).cells.toList=cs.toList:=rfl;rw[U]at F z;rw[aiv]at F;obtain⟨cl⟩:=cs;have F:J cl=6:=F;obtain⟨a,b,c,d,e,f,rfl⟩:=Rk F;obtain⟨y0,y1,y2,y3,y4,y5,rfl⟩:=Rk (l:=xs) D;have B:gW enc W held n 24 [a,b,c,d,e,f] 0 y0:=z 0 _ rfl;have T:gW enc W held n 25 [a,b,c,d,e,f] 1 y1:=z 1 _ rfl;have S:gW enc W held n 26 [a,b,c,d,e,f] 2 y2:=z 2 _ rfl;have h3:gW enc W held n 3 [a,b,c,d,e,f] 3 y3:=z 3 _ rfl;have R:gW enc W held n 25 [a,b,c,d,e,f] 4 y4:=z 4 _ rfl;have N:gW enc W held n 27 [a,b,c,d,e,f] 5 y5:=z 5 _ rfl;simp only[gW,Vc,IZ,ait,C4,aiu]at B T S h3 R N;obtain⟨z0,n0,_,a3,B⟩:=Go.ChangeShapes.trod_struct1 Tryz.underlying24 B;simp only[gW,Vb]at B;obtain⟨a2,e0,B⟩:=BZ (en:=Obj.val) (AL:=Obj.AL) (Cl:=λb o c=>(lg W).ro b o=X c) afc I4 d_ VY B;obtain⟨v0,l0,r0,s0,i0,g0,_⟩:=Ca B d_ (λ_=>rfl) (λ_ _ _ h=>h);obtain⟨a1,e1,T⟩:=HA T;obtain⟨v1,l1,r1,s1,i1,_⟩:=Ca T d_ (λ_=>rfl) (λ_ _ _=>zK);obtain⟨a0,e2,S⟩:=BZ (en:=aa.int .i64) (AL:=λ_=>True) (Cl:=y9 W) aEW C4 d_ (λh hc=>by
  obtain⟨k,rfl,_,_⟩:=DataW.trod_int Cn h;refine⟨k,trivial,λj c G=>?_⟩
  match j,G with
  |0,G=>exact Ar (hc 0 d_) G
  |_+1,G=>cases G) S
 obtain⟨v2,l2,r2,s2,i2,_⟩:=Ca S d_ (λ_=>rfl) (λ_ _ _=>zK);obtain⟨k3,e3,_,_⟩:=DataW.trod_int Cn h3;obtain⟨Y,e4,R⟩:=HA R;obtain⟨v4,l4,r4,s4,i4,_,n4⟩:=Ca R d_ (λ_=>rfl) (λ_ _ _=>zK);obtain⟨V,e5,N⟩:=BZ (en:=aW.val) (AL:=aW.OkS) (Cl:=λb o c=>(lg W).ro b o=X c) aEX Ve d_ akP N;obtain⟨v5,l5,r5,s5,i5,g5,n5⟩:=Ca N d_ (λ_=>rfl) (λ_ _ _ h=>h);have f1:=X5 pT i1;have f2:=X5 (λ_=>rfl) i2;simp only[kG,uI,wH,wI,mR,aT]at e0 e1 e2 e3 e4 e5;subst e0;subst e1;subst e2;subst e3;subst e4;subst e5;have f0:vj v0=O:=by
  rcases i0 with⟨rfl,_⟩|⟨r,rfl⟩
  rfl;exact So g0
 refine⟨v0,v1,v2,.int .i64 k3,v4,v5,l4,l5,.agg ?_ (.cons r0 (.cons r1 (.cons r2 (.cons (.int _ _) (.cons r4 (.cons r5 .nil)))))),?_,i4,n4,i5,g5,n5⟩;simp only[dl,pZ,s0,s1,s2,s4,s5,List.all_nil,bZ];rfl;simp only[pC,f0,f1,f2,jo];rfl
end
end Go.Proofs.YtakkigoeiahlcaaGreat
namespace Go.Proofs.YtakkigoeiahlcaaGreat
open Go.ChangeShapes Go.WideShapes Go.ChangeAt Go.RowKit Go.Ag
def azB:ownKnob ag.godebug=Z:=k_
def Rj:laidOutB ag=O:=k_
def u_4:ag.underlying 4=X .bool:=k_
variable{args:il}{P:Program}
def aiH{f:FuncId}{fn:Func}{w:World}{R:Value->World->Prop}(hf:P.funcs[f]? =some fn)(hname:(fn.name== "runtime.NumGoroutine")=false)(hb:fn.body.isSome=true)(h:kI P f args w R):Calls P f args w fun e w'=> ∃y,e= .returned y/\R y w':=by
 rcases h with⟨y,w',h1,_⟩|⟨_,h⟩
 have h2:fn.name≠ "runtime.NumGoroutine" :=by simpa using hname
 cases hc:fn.body with
 |none=>rw[hc]at hb;cases hb
 |some c=>
  have:(callFunc f args).run P w=.ok (.enter f args) w:=by simp[callFunc,hf,h2,hc]
  rw[this]at h1;cases h1
 exact h
variable{base:Nat}{t:TypeId}{v:Value}
def Uy{c:Array Field}(a:P.underlying t=X (.struct c)){W:World}{r:Go.Reach}(h:Value.okWide P W r base t v):∃cs,v=.agg cs:=by
 unfold Value.okWide at h;rw[a]at h;obtain⟨cs,b,_⟩:=h;exact⟨cs,b⟩
def ayv{e:TypeId}(a:P.underlying t=X (.slice e)){W:World}{r:Go.Reach}(h:Value.okWide P W r base t v):v.cells.toList=[v]:=by
 unfold Value.okWide at h;rw[a]at h;have h:Cell.okWide P W r base t v:=h;cases v with
 |agg cs=>
  unfold Cell.okWide at h;rw[a]at h;have h:Cell.ok P W r base t (.agg cs):=h;unfold Cell.ok at h;rw[a]at h;exact h.elim
 |_=>rfl
variable{W':World}
def SP{W:World}(h:∀b,b<W.heap.size->W'.heap[b]?=W.heap[b]?)(p:MemPlace)(a:p.block<W.heap.size):W.sameAt W' p:=by
 cases p with
 |cell b o=>
  have h:=h b a;show W'.cell? ⟨b,o,Z⟩=W.cell? ⟨b,o,Z⟩;unfold World.cell?;rw[h]
 |map b=>exact h b a
def avf{W:World}(h:∀b,b<W.heap.size->W'.heap[b]?=W.heap[b]?)(e:W'.os=W.os)(d:W'.output=W.output)(a:MemPlace->Prop):W.keptBut W' a:=by
 refine⟨e,d,λi f=>?_⟩;rw[h i f];cases W.heap[i]? with
 |none=>rfl
 |some o=>
  cases o with
  |cells c t g=>exact⟨rfl,rfl,rfl,λ_ _=>rfl⟩
  |map j l=>exact .inr ⟨rfl,rfl⟩
  |_=>rfl
def aAf{H:Type}{enc:TypeId×Value->H}{f:Func}{s:ChangeSpec}{apart fresh g n:Bool}{W:World}{u q:List (DataW H)}{c pa pv:List MemPlace}(w:DataW.Whole enc P f.params.toList s.vars apart W args.toList u q c)(l:∀(b:Nat)(sp:g_)(E:Bool),DataW.TrodAll enc P W' b sp E f.resultTypes.toList (v.resultList f.resultTypes.size) (s.fn H (u++q)).results [])(e:∀sp:g_,(∀p∈c,sp p.block=O)->DataW.TrodAll enc P W' 0 sp O f.params.toList args.toList (s.fn H (u++q)).args pa)(d:∀sp:g_,(∀p∈c,sp p.block=O)->DataW.TrodVars enc P W' sp s.vars (s.fn H (u++q)).vars pv)(h:c=pa++pv)(D:W.keptBut W' (· ∈c))(z:∀a,a.block<W.heap.size->W'.frozen? a=W.frozen? a)(x:∀(j:Nat)(t:TypeId)(r:Value),f.resultTypes[j]?=X t->(v.resultList f.resultTypes.size)[j]?=X r->Value.okWide P W' .any 0 t r):
 s.post enc P f apart fresh g n W args v W':=by
 have m:∀p∈c,(λb=>decide (b<W.heap.size)) p.block=O:=λp i=>by simpa using w.lt p i
 refine⟨u,q,c,[],pa,pv,w,l _ _ _,e _ m,d _ m,World.keptBut_mono (λp i=>⟨i,?_⟩) D,λ_=>?_⟩;rw[h,List.mem_append]at i;exact Or.inr i;have y:=w.lt;obtain⟨_,_,_,_,_,B,C⟩:=w;refine⟨x,_,_,([]++pa)++pv,⟨[]++pa,pv,trodAll_append (e _ (λ_ _=>rfl)) (l _ _ _),d _ (λ_ _=>rfl),rfl,?_,?_⟩,?_⟩;intro b o i;have A:MemPlace.cell b o∈c:=by rw[h];simpa using i
 rw[z _ (y _ A)];exact B b o A;intro F
 have:=C F;rw[h]at this;simpa using this;intro p i _;rw[h];simpa using i
set_option maxRecDepth 100000 in
def aAe(os:Os)(c:os.Started)(H:Type)(enc:TypeId×Value->H):
 ReturnsInHanded {} Tryz.checked os 3 .any (Rows.partKeepsSpec.pre6 enc ag Tryz.f3 Rows.partKeepsRow.domain I) (Rows.partKeepsSpec.post enc ag Tryz.f3 I O I I):=by
 refine returnsInHanded_of_change (C:=Tryz.checked) azB c k_ Tryz.func3
  (ChangeSpec.witness6 (enc:=enc) (C:=Tryz.checked) I ⟨#[],#[.agg #[.slice Z 0 0],.agg #[.slice Z 0 0,.slice Z 0 0,.slice Z 0 0,.int .i64 0,.slice Z 0 0,.slice Z 0 0],.slice Z 0 0],[]⟩ 8 k_ k_ k_ k_) ?_
 intro W base args ds gs n f hW a0 _;have a:∀(j:Nat) t v,Tryz.f3.params[j]?=X t->args[j]?=X v->Value.okWide ag W .any base t v:=f;have i:=hW;obtain⟨p,q,m,K,rfl,a2,a1⟩:=hW;have hA:DataW.TrodAll enc ag W 0 (λ_=>O) O Tryz.f3.params.toList args.toList ds p:=m;rw[Tryz.params3]at hA a;obtain⟨T,S,R,d0,d1,d2,Y,V,U,rfl,rfl,rfl,Q,N,M⟩:=trodAll_three hA;obtain⟨rfl,rfl⟩:=trodVars_none K;clear m f;simp only[List.append_nil]at i;obtain⟨x,l,hx,hl,hg,hs⟩:=azj (Uy Tryz.underlying24 (a 0 24 T rfl rfl)) Q;obtain⟨w0,w1,w2,w3,vv,rv,o,rl,hy,G,K,A,B,s,D⟩:=azm (Uy Tryz.underlying29 (a 1 29 S rfl rfl)) N;obtain⟨ev,le,hu,E,F⟩:=azi (ayv Tryz.underlying30 (a 2 30 R rfl rfl)) M;have hc:=aiH (fn:=Tryz.f3) Tryz.func3 k_ k_ (avE hl hg hs G K A B s D E F (lg W) .nil W [T,S,R] (ans W) (.cons hx (.cons hy (.cons hu .nil))));refine hc.mono λe W' ⟨r',he,G',_,ext,hr⟩=>?_;subst he;cases hr;have keep:∀b,b<W.heap.size->W'.heap[b]?=W.heap[b]? :=λb hb=>ext.keep b hb K6;have y:∀z∈Y,z.block<W.heap.size:=by
  obtain⟨k,h⟩:=Q;exact DataW.trod_lt _ _ _ _ h
 have w:∀z∈V,z.block<W.heap.size:=by
  obtain⟨k,h⟩:=N;exact DataW.trod_lt _ _ _ _ h
 have u:∀z∈U,z.block<W.heap.size:=by
  obtain⟨k,h⟩:=M;exact DataW.trod_lt _ _ _ _ h
 refine⟨_,rfl,aAf (pa:=Y++(V++U)) (pv:=[]) i (λ_ _ _=>trodAll_mk1 (shut_bool u_4 O)) (λsp g=>trodAll_mk3 ?_ ?_ ?_) (λ_ _=>rfl) (by simp)
  (avf keep ext.quiet.1 ext.quiet.2.1 _) ext.quiet.2.2.2.1 (ok_one k_ rfl (okWide_bool_mk u_4 O))⟩
 exact WideElems.Trod_stays Rj k_ (of_decide_eq_true k_) Q (λz d=>SP keep z (y z d)) (λz d=>g z (by simp[d]));exact WideElems.Trod_stays Rj k_ (of_decide_eq_true k_) N (λz d=>SP keep z (w z d)) (λz d=>g z (by simp[d]));exact WideElems.Trod_stays Rj k_ (of_decide_eq_true k_) M (λz d=>SP keep z (u z d)) (λz d=>g z (by simp[d]))
