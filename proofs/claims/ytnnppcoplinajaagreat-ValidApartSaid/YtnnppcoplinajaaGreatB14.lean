/- Lemmas for ValidApart. -/
import Derived.Test.YtnnppcoplinajaaGreatB9
import Derived.Test.YtnnppcoplinajaaGreatB13
import Derived.Test.YtnnppcoplinajaaGreatB8
import Derived.Test.YtnnppcoplinajaaGreatB10
import Derived.Test.YtnnppcoplinajaaGreatB12
import Derived.Test.YtnnppcoplinajaaGreatB6
set_option linter.all false
open Bool renaming and_eq_true→bu,and_self→cw,false_and→dW,or_eq_false_iff→v9,true_and→eH
open Go.IntKind renaming wrap_i64→ayK
open List renaming all_cons→ju,all_eq_true→f8,append_assoc→ny,append_nil→kC,drop_succ_cons→oO,drop_zero→nz,drop→bP,eq_nil_of_length_eq_zero→uv,filter_append→DR,filter_congr→ay5,filter_cons_of_neg→G5,flatMap_cons→uy,foldl_cons→uA,getElem?_eq_getElem→gn,getElem?_eq_some_iff→nY,length_append→cJ,length_cons→bH,length_drop→ayU,length_filter_le→kT,length_map→ce,length_nil→bn,length_range→DU,length_replicate→DV,length_take→sC,map_append→ff,map_congr_left→DW,map_cons→fy,map_map→mI,map_nil→uB,mem_append→lj,mem_cons_of_mem→iE,mem_cons_self→iL,mem_cons→fc,mem_filter→DX,mem_flatMap→uC,mem_iff_getElem?→ay6,mem_map_of_mem→G9,mem_map→dy,mem_of_getElem?→eP,mem_of_mem_drop→ayP,mem_of_mem_take→DY,mem_singleton→BB,nil_append→oP,nodup_append→wf,not_mem_nil→zT,of_mem_zip→ay7,pairwise_map→Ha,replicate_succ→Ld,replicate→iy,take_append_drop→zU,take→df
open Nat renaming beq→aQ,ble_eq_true_of_le→cP,ble→bw,blt→bm,le_of_ble_eq_true→fW,le_refl→br,le_succ_of_le→cq,le_succ→jQ,le_trans→fA,lt_irrefl→cD,lt_or_ge→nZ,lt_succ_self→kU,mul_le_mul→rf,reduceAdd→bQ,reduceBEq→ah,reduceDiv→eR,reduceEqDiff→eI,reduceLT→aB,reduceLeDiff→cK,reduceMod→ep,reduceMul→ee,reducePow→uO,reduceSub→ey,zero_le→ki
open Go.Op renaming bytesLess→fN
open Option renaming bind_eq_some_iff→ak,bind_some→au,map_none→sF
open Option.some renaming injEq→aJ
open Go.Proofs.Tryz renaming prog→ae
open Go.Ag.W renaming drawX→iT,loopC→bG,loopE→lk
open Go.Ag.WC renaming sound→co
namespace Go.Proofs.YtnnppcoplinajaaGreat
open Go.Ag
variable{Q:aH}[Std Q]
def BP(l:List Obj)(rl:List aI)(o:Obj):Bool:=oH rl&&rl.any fun x=>x.strict&&mo l x o
def Ko(l:List Obj)(rl:List aI):List aa:=(l.filter (BP l rl)).map fun o=>fC 7 [o.id]
def zK(l:List Obj)(rl:List aI):aa:=fI 3 (Ko l rl)
theorem JG{l:List Obj}{f:Nat×ag}: ∀ {r:List aI} {k:Nat},f∈pR l k r↔ ∃j x,f.1=k+j/\r[j]? =some x/\ ∃o∈l,o.id=f.2/\mo l x o=true
 | [],k=>by simp[pR]
 |x::r,k=>by
  rw[pR,lj,JG (r:=r)];constructor;rintro(h|⟨j,y,z,t,w⟩);obtain⟨o,D,rfl⟩:=dy.1 h
  grind
  exact⟨j+1,y,by omega,by simpa using t,w⟩;rintro⟨j,y,z,t,o,w,B,A⟩;cases j with
  |zero=>
   simp only[List.getElem?_cons_zero,aJ] at t;subst t;refine .inl (dy.2 ⟨o,DX.2 ⟨w,A⟩,?_⟩);rw[B];exact Prod.ext z.symm rfl
  |succ j=>grind
def GM(rl:List aI)(i:Nat):Bool:=match rl[i]? with|some x=>x.strict|none=>false
def wU(rl:List aI)(t:List (Nat×ag))(k:ag):Bool:=t.any fun f=>GM rl f.1&&f.2==k
variable{l:List Obj}{o:Obj}
theorem ac1(t:(l.map Obj.id).Nodup){rl:List aI}(z:o∈l):wU rl (bif oH rl then pR l 0 rl else []) o.id=BP l rl o:=by
 unfold wU BP;cases oH rl with
 |false=>rfl
 |true=>
  rw[cT,eH,Bool.eq_iff_iff];simp only[List.any_eq_true,bu,bE];constructor;rintro⟨f,F,w,y⟩;obtain⟨j,x,B,H,q,E,G,J⟩:=JG.1 F;rw[Nat.zero_add] at B;unfold GM at w;rw[B,H] at w;have I:q=o:=by
   have a:=FR t E;have b:=FR t z;rw[G,y,b] at a;exact(sI a).symm
  grind
  rintro⟨x,D,w,y⟩;obtain⟨j,A⟩:=List.getElem?_of_mem D;refine⟨(j,o.id),JG.2 ⟨j,x,by simp,A,o,z,rfl,y⟩,?_,rfl⟩;unfold GM;rw[A];exact w
variable{K:Ex->Fr->St->Prop}{a:Nat}{ov rv:aa}
theorem aps{fv:aa}{rl:List aI}(H:ay 8 aI.val rv rl)(ok: ∀x∈rl,x.Ok){w:List (Nat×ag)}(Y:ay 2 pd fv w)(a2:w.length<=900000)(Z: ∀f∈w,f.1<rl.length){s0:St}(hx: ∀e lc s B,ac e 2= .rd 2 1 0->lc.get 2 1=some [ov]->lc.gen 2=1->ac e 5= .map a->eL a s0 s->bR aa.str s a B->(∀k,(cI k B).getD (.bool false)= .bool (wU rl w k))->K (.exit 0) ⟨e,50,lc⟩ s):
 ∀(t pre:List (Nat×ag)) (e:ax) (lc:Ag.Loc) (s:St) (B:List (ag×aa)),w=pre++t->eL a s0 s->bR aa.str s a B->(∀k,(cI k B).getD (.bool false)= .bool (wU rl pre k))->
  ac e 1=rv->ac e 2= .rd 2 1 0->lc.get 2 1=some [ov]->lc.gen 2=1->ac e 5= .map a->ac e 14=fv->ac e 15=uM w.length->ac e 16=uM pre.length->W Q 57 (.loop Jp) ⟨e,50,lc⟩ s K:=by
 intro t
 induction t with
 |nil=>
  intro pre e lc s B D O P hB R r2 l2 g2 h5 A z y;have V:pre.length=w.length:=by rw[D];simp
  have U:pre=w:=by rw[D];simp
  refine bG ?_;simp only[go_sem,seval,Jp,z,y,V,cD];rw[U] at hB;exact hx _ _ _ B (by simp only[sN,seval,r2]) l2 g2 (by simp only[sN,seval,h5]) O P hB
 |cons f t ih=>
  intro pre e lc s B D O P hB R r2 l2 g2 h5 A z y;have I:pre.length<w.length:=by rw[D];simp
  have N:w[pre.length]? =some f:=by rw[D];simp
  have M:=fun lc k=>Y.at P7.2.2.1 N lc k;have G:=dB (n:=pre.length) (by omega);obtain⟨x,F⟩: ∃x,rl[f.1]? =some x:=⟨_,gn (Z f (eP N))⟩;have J:=fun lc k=>H.at t9.2.2.1 F lc k;have E:=H.ge;have a1:GM rl f.1=x.strict:=by unfold GM;rw[F]
  have a0: ∀k,wU rl (pre++[f]) k=(wU rl pre k||(x.strict&&f.2==k)):=fun k=>by
   simp_all [wU]
  cases hst:x.strict with
  |false=>
   refine bG ?_;simp only[go_sem,seval,Jp,pd,R,A,z,y,I,M,J,G,E,aI.val,aI.cells,hst];refine ih (pre++[f]) _ _ s B (by rw[D];simp) O P (fun k=>by grind) ?_ ?_ ?_ ?_ ?_ ?_ ?_ ?_
   all_goals simp_all [sL]
  |true=>
   have S:=vU jA yZ P f.2 (.bool true);refine bG ?_;simp only[go_sem,seval,Jp,pd,R,h5,A,z,y,I,M,J,G,E,aI.val,aI.cells,hst,S];refine ih (pre++[f]) _ _ _ (fe f.2 (.bool true) B) (by rw[D];simp) (O.put _) bR.put (fun k=>?_) ?_ ?_ ?_ ?_ ?_ ?_ ?_ ?_
   grind [ON]
   all_goals simp_all [sL]
variable{lo:Nat}
theorem apY(ho:ay 6 Obj.val ov l)(hl:l.length<=900000){g:ag->Bool}(al:a<lo){B:List (ag×aa)}{s0:St}(hM:bR aa.str s0 a B)(hB: ∀k,(cI k B).getD (.bool false)= .bool (g k))(hx: ∀e lc s E,cR 3 lo s E ((l.filter fun o=>g o.id).map fun o=>fC 7 [o.id])->ac e 8=E->K (.exit 2) ⟨e,50,lc⟩ s):
 ∀(w pre:List Obj) (e:ax) (lc:Ag.Loc) (s:St) (E:aa),l=pre++w->cR 3 lo s E ((pre.filter fun o=>g o.id).map fun o=>fC 7 [o.id])->(∀k,k<lo->s.get [] k=s0.get [] k)->lo<=s.aL->s.gt<=s.aL->ac e 5= .map a->ac e 8=E->ac e 31=ov->ac e 32=uM l.length->ac e 33=uM pre.length->W Q 57 (.loop Jq) ⟨e,50,lc⟩ s K:=by
 intro w
 induction w with
 |nil=>
  intro pre e lc s E J R F I H U S G D A;have Z:pre.length=l.length:=by rw[J];simp
  have Y:pre=l:=by rw[J];simp
  refine bG ?_;simp only[go_sem,seval,Jq,D,A,Z,cD];rw[Y] at R;exact hx _ _ _ E R (by simp only[sN,seval,S])
 |cons o w ih=>
  intro pre e lc s E J R F I H U S G D A;have O:pre.length<l.length:=by rw[J];simp
  have a0:l[pre.length]? =some o:=by rw[J];simp
  have P:=fun lc k=>ho.at gX.2.2.1 a0 lc k;have N:=dB (n:=pre.length) (by omega);have a8:bR aa.str s a B:=(F a al).trans hM;have z:=tK jA yZ GY a8 o.id;rw[hB] at z;have M:=R.ge;cases hg:g o.id with
  |false=>
   rw[hg] at z;refine bG ?_;simp only[go_sem,seval,Jq,U,G,D,A,O,P,N,Obj.val,Obj.cells,z];refine ih (pre++[o]) _ _ s E (by rw[J];simp) (by grind) F I H ?_ ?_ ?_ ?_ ?_
   all_goals simp_all [sN]
  |true=>
   rw[hg] at z;obtain⟨V,s1,a1,a2,a3,a4,a5,a6,a7⟩:=BL (t:=35) j6.1 rfl (by decide) (s:=s) (y:=.list 3 [fC 7 [o.id]] .uP) (x:=fC 7 [o.id]) R (by simp only[afo,eE]) (by
    grind) I H
   simp only[fC,fy,uB,aG] at a1;refine bG ?_;simp only[go_sem,seval,Jq,aG,U,S,G,D,A,O,P,Obj.val,Obj.cells,z,M,bj,bg,aZ,bf,evc];simp only[go_sem,seval,aG,S,A,N,M,a1,a3,bj,bg,aZ,bf,evc];refine ih (pre++[o]) _ _ s1 V (by rw[J];simp) (by grind) (fun k hk=>(a7 k hk).trans (F k hk)) (by omega) a5 ?_ ?_ ?_ ?_ ?_
   all_goals simp only[sN,seval,U,G,D,sA]
variable{s:St}
theorem adS(J:Q.spec 216=some Bh)(a7:Q.spec 31=some jK)(M:Q.spec 214=some mV)(N:Q.spec 130=some pP)(I:Q.spec 299=some tD)(D:No Q 298)(E:No Q 217)(F:No Q 124)(b0:No Q 57)(A:ay 6 Obj.val ov l)(hg: ∀o∈l,o.oM)(hf:mU l=true)(ht: ∀o∈l,o.gT.length<=1000000){rl:List aI}(w:ay 8 aI.val rv rl)(ok: ∀x∈rl,x.Ok)(Z:rl.length<=1000000)(hm:s.gt<=s.aL):
 ∃v s',aq Q 57 [.agg [ov],rv] s v s'/\fY s'.heap v (zK l rl):=by
 have a4:l.length<=900:=(pf.1 hf).len;have a2:=yK (pf.1 hf).valid;have H:=A.cs;have a3:=A.lenS gX;have Y:=w.ge;obtain⟨O,y⟩:=ct ((bif oH rl then pR l 0 rl else []));have a5:O.length<=900000:=by
  rw[<-y];cases hr:oH rl with
  |false=>simp
  |true=>
   have a0:rl.length<=200:=by
    unfold oH at hr;simp only[bu,dE] at hr;exact hr.1
   have:=fA (MM l rl 0) (rf a0 a4);rw[cT];omega
 have a6: ∀f∈O,f.1<rl.length:=fun f h=>by
  grind [JG]
 obtain⟨z,R⟩:=ct (s.new (.map [] 0));have zn:z.aL=s.aL+1:=by rw[<-R];rfl
 have zm:z.gt<=z.aL:=by rw[<-R];exact cq hm
 have za:bR aa.str z s.aL []:=by rw[<-R];exact cW
 have P:=afK J a7 M N I D E F A hg hf ht w ok Z zm;refine aq.ofNRZ ak0 (co ?_);simp only[go_sem,seval,H,Y,m7,R,bj,bg,aZ,bf,evc];refine cG.ex P (by decide) ?_;rintro fv V ⟨t,m1,n1,o1⟩;rw[y] at t;have a9:=t.ge;have a8:=t.lenS P7;have a1:bR aa.str V s.aL []:=(o1 _ (by omega)).trans za;simp only[go_sem,seval,a9,a8];refine aps w ok t a5 a6 (a:=s.aL) (s0:=V) (ov:=ov) ?_ O [] _ _ V [] rfl (.refl m1) a1 (fun k=>rfl) ?_ ?_ ?_ ?_ ?_ ?_ ?_ ?_
 ·intro e lc U B r2 l2 g2 h5 hb hM hB
  have n2:=hb.aL;simp only[go_sem,seval,r2,l2,g2,H,a3];refine apY A (by omega) (g:=wU rl O) (a:=s.aL) (lo:=U.aL) (by omega) (s0:=U) hM hB ?_ l [] _ _ U .oZ rfl (.inl ⟨rfl,rfl⟩) (fun _ _=>rfl) (br _) hb.mw ?_ ?_ ?_ ?_ ?_;intro e3 b1 s3 tv hO h8;have S:=hO.ge;have G:(l.filter fun o=>wU rl O o.id)=l.filter (BP l rl):=ay5 fun o A=>by rw[<-y];exact ac1 a2 A
  rw[G] at hO;simp only[go_sem,seval,h8,S];refine⟨_,rfl,4,AE hO fun v hv=>?_⟩;obtain⟨i,_,rfl⟩:=dy.1 hv;exact EF _ _ _
  all_goals simp_all [sN]
 all_goals simp only[abc,alb,ah,bQ]
 all_goals rfl
def RP:dX:=[(216,Bh),(31,jK),(214,mV),(130,pP),(299,tD)]
def acf:dR RP:=.cons aqa (.cons xd (.cons UW (.cons TH (.cons ahr .nil))))
theorem arF(h:dD l=true): ∀o∈l,o.gT.length<=1000000:=fun o t=>by
 grind [dD,Pg,mD]
def zy:Sp
 | [v,r]=>(lz v).bind fun l=>(sX r).bind fun rl=>bif mU l then some (zK l rl) else none
 |_=>none
def ap7:db ae 57 zy:=by
 intro args u t G h w M N P;unfold zy at t;split at t;rename_i U r;simp only[ak] at t;obtain⟨l,F,rl,y,t⟩:=t;obtain⟨J,t⟩:=bh t;have t:=sI t;subst t;obtain⟨v,rfl,F,I,V⟩:=rk F;obtain⟨y,H,D⟩:=Ht y;obtain⟨R,O,A,E⟩:=qQ F I;obtain⟨B,z⟩:=Kq y H;have A:en [.agg [v],r]=[.agg [O],de r]:=by simp only[en,A]
 refine j9 acf (W:=[]) .nil (args:=[.agg [v],r]) (by simp only[eO,R,B,cw]) (fun S=>?_) G h w M N P;rw[A];exact adS (Q:=QW RP [] S) rfl rfl rfl rfl rfl ⟨rfl,rfl⟩ ⟨rfl,rfl⟩ ⟨rfl,rfl⟩ ⟨rfl,rfl⟩ E I J (arF (pf.1 J).valid) z H D (by decide);cases t
def sh(o:Obj):ag×Bool:=match dM lU o.gT with|some v=>(v,gU v)|none=>([],false)
def Y6(h:dM lU o.gT=none):sh o=([],false):=by unfold sh;rw[h]
def Y7{v:ag}(h:dM lU o.gT=some v):sh o=(v,gU v):=by unfold sh;rw[h]
def ahm(name:ag)(o:Obj):ax4 name o=(!(sh o).2||(sh o).1==name):=by
 unfold ax4 QE;cases h:dM lU o.gT with
 |none=>rw[Y6 h];rfl
 |some v=>
  rw[Y7 h];simp only[au];cases gU v<;>simp
def aa5: ∀ {l:List fE} {last:ag},uq last l=true-> ∀ {k v:ag},dM k l=some v->v.length<=200
 | [],_,_,_,_,hq=>by cases hq
 |t::r,last,h,k,v,hq=>by
  simp only[uq] at h;cases hb:qi last t with
  |true=>rw[hb] at h;cases h
  |false=>
   rw[hb] at h;simp only[dM] at hq;cases hk:t.1==k with
   |true=>
    rw[hk] at hq;simp only[cT,aJ] at hq;subst hq;simp only[qi,v9,decide_eq_false_iff_not,Nat.not_lt] at hb;exact hb.2
   |false=>
    rw[hk] at hq;exact aa5 (l:=r) (last:=t.1) h hq
def arC{l:List fE}(h:mD l=true){k v:ag}(t:dM k l=some v):v.length<=200:=by
 unfold mD at h;simp only[bu] at h;exact aa5 h.1 t
def arz{l:List fE}(h:mD l=true):l.length<=1000000:=by
 unfold mD at h;simp only[bu,dE] at h;omega
def ao1(t:Q.spec 214=some mV)(y:Q.spec 163=some jq)(D:No Q 159)(go:o.oM)(F:mD o.gT=true)(s:St):aq Q 159 [o.val] s (.tup [.str (sh o).1,.bool (sh o).2]) s:=by
 have E:=go.all;have H:=ajJ;have w:mV [o.tagsV,.str [118,105,101,119]]=some (yI (dM lU o.gT)):=M3 go.gT (arz F) lU;have A: ∃v z,aq Q 159 [o.val] s v z/\(v= .tup [.str (sh o).1,.bool (sh o).2]/\z=s):=by
  refine aq.ofNRZ aih (co ?_);cases hq:dM lU o.gT with
  |none=>
   rw[hq] at w;simp only[yI] at w;have B:=Y6 hq;simp only[go_sem,seval,Obj.val,Obj.cells,E,t,w,B];exact⟨_,rfl,rfl⟩
  |some v=>
   rw[hq] at w;simp only[yI] at w;have G:=y7 (s:=v) (by have:=arC F hq;omega);have B:=Y7 hq;simp only[go_sem,seval,Obj.val,Obj.cells,E,t,w,y,G,B];exact⟨_,rfl,rfl⟩
 obtain⟨v,z,h,rfl,rfl⟩:=A;exact h
variable{nb:Nat}
def anH(t:No Q 73){name:ag}(w:s.get [] nb=some (.cells [.str name]))(v:ag)(d:Bool):aq Q 73 [.str v,.bool d,.ptr nb 0] s (.bool (!d||v==name)) s:=by
 refine aq.ofNZ ala (co ?_);cases d with
 |false=>simp only[go_sem,seval,Bool.not_false,Bool.true_or]
 |true=>simp only[go_sem,seval,w,aW,aY,Bool.not_true,Bool.false_or]
variable{wb:Nat}
def anu(y:Q.spec 214=some mV)(z:Q.spec 163=some jq)(w:No Q 159)(A:No Q 73)(E:No Q 158)(go:o.oM)(H:mD o.gT=true){name:ag}(B:s.gt<=s.aL)(G:s.get [] wb=some (.cells [.func (.func 73) [] [.ptr nb 0]]))(I:s.get [] nb=some (.cells [.str name])):aq Q 158 [o.val,.ptr wb 0] s (.bool (ax4 name o)) s:=by
 have F:=go.all;have t:=ao1 y z w go H s.top;have D:=anH A (s:=s.top) I (sh o).1 (sh o).2;simp only[Obj.val,Obj.cells] at t;refine aq.ofNZ aif ?_;refine WE.sound ?_;simp only[go_sem,seval,Obj.val,Obj.cells,F];refine iT B ?_;simp only[go_sem,Iw,seval,aW,G,aY,F];refine kY.quiet t (by decide) (by simp[fo,pD]) ?_;simp only[go_sem,Iw,seval];refine kY.quiet D (by decide) (by simp[fo,pD]) ?_;simp only[go_sem,Iw,seval,ahm]
def afJ(U:Q.spec 214=some mV)(V:Q.spec 163=some jq)(I:No Q 159)(a0:No Q 73)(J:No Q 158)(ho:ay 6 Obj.val ov l)(hg: ∀o∈l,o.oM)(ht: ∀o∈l,mD o.gT=true)(hl:l.length<=900000){name:ag}{s0:St}(hw:s0.get [] wb=some (.cells [.func (.func 73) [] [.ptr nb 0]]))(hn:s0.get [] nb=some (.cells [.str name]))(wl:wb<lo)(nl:nb<lo)(hx: ∀e lc s D,cR 6 lo s D ((gi l name).map Obj.val)->s.gt<=s.aL->lo<=s.aL->(∀k,k<lo->s.get [] k=s0.get [] k)->ac e 5=D->K (.exit 0) ⟨e,23,lc⟩ s):
 ∀(w pre:List Obj) (e:ax) (lc:Ag.Loc) (s:St) (D:aa),l=pre++w->cR 6 lo s D ((gi pre name).map Obj.val)->(∀k,k<lo->s.get [] k=s0.get [] k)->lo<=s.aL->s.gt<=s.aL->ac e 1= .func (.func 158) [] [.ptr wb 0]->ac e 5=D->ac e 8=ov->ac e 9=uM l.length->ac e 10=uM pre.length->W Q 157 (.loop ND) ⟨e,23,lc⟩ s K:=by
 intro w
 induction w with
 |nil=>
  intro pre e lc s D G H z E A Y S Z R B;have b1:pre.length=l.length:=by rw[G];simp
  have a9:pre=l:=by rw[G];simp
  refine bG ?_;simp only[go_sem,seval,ND,R,B,b1,cD];rw[a9] at H;exact hx _ _ _ D H A E z (by simp only[sN,seval,S])
 |cons o w ih=>
  intro pre e lc s D G H z E A Y S Z R B;have b0:pre.length<l.length:=by rw[G];simp
  have P:l[pre.length]? =some o:=by rw[G];simp
  have O:=eP P;have go:=hg o O;have rc:=go.all;have b2:=fun lc k=>ho.at gX.2.2.1 P lc k;have N:=dB (n:=pre.length) (by omega);have F:=anu U V I a0 J go (ht o O) (s:=s) A ((z wb wl).trans hw) ((z nb nl).trans hn);simp only[Obj.val,Obj.cells] at F;have M:=H.ge;refine bG ?_;simp only[go_sem,seval,ND,Y,Z,R,B,b0,b2,Obj.val,Obj.cells,rc];refine cG.of F (by decide) ?_;cases hb:ax4 name o with
  |false=>
   simp only[go_sem,seval,B,N];refine ih (pre++[o]) _ _ s D (by rw[G];simp) (by unfold gi;rw[o9 hb];exact H) z E A ?_ ?_ ?_ ?_ ?_
   all_goals simp only[sN,seval,Y,S,Z,R,sA]
  |true=>
   obtain⟨a8,s1,a1,a2,a3,a4,a5,a6,a7⟩:=BL (t:=22) gX.1 rfl (by decide) (s:=s) (y:=.list 6 [o.val] .uP) (x:=o.val) H (by simp only[afo,eE]) (by
    rw[ce]
    have:=kT (ax4 name) pre;unfold gi;omega) E A
   simp only[Obj.val,Obj.cells] at a1;simp only[go_sem,seval,S,M,rc,bj,bg,aZ,bf,evc];simp only[go_sem,seval,S,B,N,M,a1,a3,rc,bj,bg,aZ,bf,evc];refine ih (pre++[o]) _ _ s1 a8 (by rw[G];simp) (by
    have e:gi (pre++[o]) name=gi pre name++[o]:=by
     show List.filter (ax4 name) _=List.filter (ax4 name) _++_;exact tm hb
    rw[e,ff];exact a2) (fun k hk=>(a7 k hk).trans (z k hk)) (by omega) a5 ?_ ?_ ?_ ?_ ?_
   all_goals simp only[sN,seval,Y,Z,R,sA]
def afH(z:Q.spec 214=some mV)(A:Q.spec 163=some jq)(w:No Q 159)(B:No Q 73)(y:No Q 158)(I:No Q 157)(E:ay 6 Obj.val ov l)(Z: ∀o∈l,o.oM)(U: ∀o∈l,mD o.gT=true)(Y:l.length<=900000){name:ag}(F:s.gt<=s.aL)(S:s.get [] wb=some (.cells [.func (.func 73) [] [.ptr nb 0]]))(V:s.get [] nb=some (.cells [.str name]))(M:wb<s.aL)(O:nb<s.aL):
 ∃v t,aq Q 157 [ov,.func (.func 158) [] [.ptr wb 0]] s v t/\(cR 6 s.aL t v ((gi l name).map Obj.val)/\t.gt<=t.aL/\s.aL<=t.aL/\ ∀k,k<s.aL->t.get [] k=s.get [] k):=by
 have H:=E.ge;have G:=E.lenS gX;refine aq.ofNRZ aid (co ?_);simp only[go_sem,seval,H,G,Aq];refine afJ z A w B y E Z U Y (lo:=s.aL) (name:=name) (s0:=s) S V M O ?_ l [] _ _ s .oZ rfl (.inl ⟨rfl,rfl⟩) (fun _ _=>rfl) (br _) F ?_ ?_ ?_ ?_ ?_;intro e lc s1 tv J R P N h5;have D:=J.ge;simp only[go_sem,seval,h5,D];exact⟨_,rfl,J,R,P,N⟩
 all_goals simp only[sN,seval,bn]
 all_goals rfl
def iA(l:List Obj)(name:ag):List Obj:=bif dD l then gi l name else []
def vp(l:List Obj):aa:=fI 6 (l.map Obj.val)
def Ym: ∀l:List Obj,ay 6 Obj.val (vp l) l
 | []=>.inl ⟨rfl,rfl⟩
 |_::_=>.inr ⟨_,rfl⟩
def DG(l:List Obj)(name:ag):(gi l name).Sublist l:=List.filter_sublist
def FU(l:List Obj)(name:ag):(iA l name).Sublist l:=by
 unfold iA;cases dD l with
 |false=>exact List.nil_sublist _
 |true=>exact DG l name
variable{h:aC aR}
def agd(z:cR 6 lo s ov (l.map Obj.val))(y: ∀o∈l,o.oM):fY h (.agg [ov]) (.agg [vp l]):=by
 have e:=AE (h:=h) z (k:=4) fun v t=>by
  obtain⟨o,w,rfl⟩:=dy.1 t;exact agc h (y o w) 0
 refine⟨6,?_⟩;show(dL (cL h 5) [ov]).bind (fun r=>some (aa.agg r))=_;simp only[dL,e,au];rfl
def anB(B:Q.spec 31=some jK)(D:Q.spec 214=some mV)(E:Q.spec 163=some jq)(t:No Q 159)(G:No Q 73)(w:No Q 158)(y:No Q 157)(O:No Q 72)(z:ay 6 Obj.val ov l)(M: ∀o∈l,o.oM)(Y:l.length<=900000){name:ag}(I:s.gt<=s.aL)(V:s.get [] nb=some (.cells [.str name]))(R:nb<s.aL):
 ∃v J,aq Q 72 [.agg [ov],.func (.func 73) [] [.ptr nb 0]] s v J/\cR 6 (s.aL+1) J v ((iA l name).map Obj.val):=by
 have U:=ajJ;have A:=z.cs;have F:=A0 z M (by omega);refine aq.ofNRZ ak8 (co ?_);cases hv:dD l with
 |false=>
  rw[hv] at F;simp only[go_sem,seval,A,Aq,HF,B,F];exact⟨_,rfl,.inl ⟨rfl,by unfold iA;rw[hv];rfl⟩⟩
 |true=>
  rw[hv] at F;have nn:(s.new (.cells [.func (.func 73) [] [.ptr nb 0]])).aL=s.aL+1:=rfl;have H:(s.new (.cells [.func (.func 73) [] [.ptr nb 0]])).get [] nb=some (.cells [.str name]):=by rw[cz R];exact V
  have S: ∀o∈l,mD o.gT=true:=fun o z=>by
   simp only[dD,bu] at hv;exact Pg l [] hv.1 o z
  simp only[go_sem,seval,A,Aq,HF,B,F];refine cG.ex (afH D E t G w y z M S Y (wb:=s.aL) (nb:=nb) (name:=name) (s:=s.new (.cells [.func (.func 73) [] [.ptr nb 0]])) (cq I) cW H (by omega) (by omega)) (by decide) ?_;rintro v Z ⟨N,m1,n1,o1⟩;have P:=N.ge;simp only[go_sem,seval,P];have e:iA l name=gi l name:=by unfold iA;rw[hv];rfl
  rw[e];exact⟨_,rfl,N⟩
def anG(I:Q.spec 31=some jK)(z:Q.spec 214=some mV)(A:Q.spec 163=some jq)(t:No Q 159)(D:No Q 73)(w:No Q 158)(y:No Q 157)(E:No Q 72)(N:No Q 28)(B:ay 6 Obj.val ov l)(M: ∀o∈l,o.oM)(P:l.length<=900000)(name:ag)(F:s.gt<=s.aL):
 ∃v J,aq Q 28 [.agg [ov],.str name] s v J/\fY J.heap v (.agg [vp (iA l name)]):=by
 have G:=B.cs;refine aq.ofNRZ ajq (co ?_);simp only[go_sem,seval,G,bj,bg,aZ,bf,evc];refine cG.ex (anB I z A t D w y E B M P (nb:=s.aL) (name:=name) (s:=s.new (.cells [.str name])) (cq F) cW (kU _)) (by decide) ?_;rintro v R H;have O:=H.ge;have vs:v.cells=[v]:=by rcases H with⟨rfl,_⟩|⟨_,k,rfl,_⟩<;>rfl
 simp only[go_sem,seval,O,vs,bj,bg,aZ,bf,evc];exact⟨_,rfl,agd H fun o B=>M o ((FU l name).subset B)⟩
def RG:dX:=[(31,jK),(214,mV),(163,jq)]
def ab6:dR RG:=.cons xd (.cons UW (.cons O3 .nil))
def vW:Sp
 | [v,.str name]=>(lz v).bind fun l=>bif decide (l.length<=900000) then some (.agg [vp (iA l name)]) else none
 |_=>none
variable{v:aa}
def abk(h:ay 6 Obj.val v l)(y: ∀o∈l,o.oM)(w:l.length<=900000)(name:ag):vW [.agg [v],.str name]=some (.agg [vp (iA l name)]):=by
 have t:=ajJ;simp only[akZ,vW,uQ h y (by omega),w,dT]
def abl:db ae 28 vW:=by
 intro args u t G h w E F I;unfold vW at t;split at t;rename_i N name;simp only[ak] at t;obtain⟨l,A,t⟩:=t;obtain⟨D,t⟩:=bh t;simp only[dE] at D;have t:=sI t;subst t;obtain⟨v,rfl,A,B,O⟩:=rk A;obtain⟨J,H,y,z⟩:=qQ A B;have y:en [.agg [v],.str name]=[.agg [H],.str name]:=by simp only[en,y];rfl
 refine j9 ab6 (W:=[]) .nil (args:=[.agg [v],.str name]) (by show(d8 (.agg [v])&&_)=true;rw[J];rfl) (fun M=>?_) G h w E F I;rw[y];exact anG (Q:=QW RG [] M) rfl rfl rfl ⟨rfl,rfl⟩ ⟨rfl,rfl⟩ ⟨rfl,rfl⟩ ⟨rfl,rfl⟩ ⟨rfl,rfl⟩ ⟨rfl,rfl⟩ z B D name (by decide);cases t
def qX(l:List Obj):Nat:=(l.map fun o=>o.gE.length).sum
structure wx (l:List Obj):Prop where
 valid:dD l=true
 len:l.length<=900
 gE:qX l<=999
def HW(l:List Obj):Bool:=dD l&&(decide (l.length<=900)&&decide (qX l<=999))
def MN:HW l=true↔wx l:=by
 unfold HW;simp only[bu,dE];exact⟨fun⟨a,b,c⟩=>⟨a,b,c⟩,fun⟨a,b,c⟩=>⟨a,b,c⟩⟩
def apB{r:List Obj}(h:r.Sublist l):qX r<=qX l:=by
 induction h with
 |slnil=>exact br _
 |cons a _ t=>simp only[qX,fy,List.sum_cons] at t ⊢;omega
 |cons_cons a _ t=>simp only[qX,fy,List.sum_cons] at t ⊢;omega
def ZL: ∀ {l:List Obj} {o:Obj},o∈l->o.gE.length<=qX l
 |a::l,o,h=>by
  simp only[qX,fy,List.sum_cons];rcases fc.1 h with rfl|h
  omega
  have:=ZL h;unfold qX at this;omega
def Xn(l:List Obj): ∀r:List Obj,(r.flatMap (jJ l)).length<=qX r
 | []=>br _
 |o::r=>by
  rw[uy,cJ];have w:=Xm l o;have t:=Xn l r;simp only[qX,fy,List.sum_cons] at t ⊢;omega
def JF{r:List Obj}(h:dD l=true)(t:r.Sublist l):dD r=true:=by
 simp only[dD,bu,dE] at h ⊢;obtain⟨A,z⟩:=H9 l [] h.1;exact⟨Yn r [] (fun q w=>JP l [] h.1 q (t.subset w)) (fun k y=>A k ((t.map _).subset y)) (z.sublist (t.map _)),fA t.length_le h.2⟩
def wx.sub{r:List Obj}(h:wx l)(t:r.Sublist l):wx r:=⟨JF h.valid t,fA t.length_le h.len,fA (apB t) h.gE⟩
def wx.fine(h:wx l):Rk l:=by
 refine⟨h.valid,h.len,fun o t=>fA (ZL t) h.gE,?_⟩;unfold iI;rw[(GH _).length_eq];have z:=Y8 l;have y:=Xn l l;have w:=h.gE;omega
def LZ(P:Program)(mk:aK)(t t2:TypeId)(w:Bool)(x y:aa)(s:St):jH P mk .copy [t,t2] w [x,y] s=rC P mk t x y s:=rfl
def as1(w:Array Operand)(t:Array TypeId):yh (.call ⟨.builtin .copy,w,t⟩)=1:=rfl
def agJ(h:Tmp->Nat)(d:Option Tmp)(e:ax)(w:Array Operand)(t:Array TypeId):cu h d e (.call ⟨.builtin .copy,w,t⟩)= .all:=rfl
variable{lc:Ag.Loc}{f:FuncId}{sz:Nat}{d:Option Tmp}{g:SG}{mk:aK}{e:ax}
def Pv{Q:aH}(t t2:TypeId)(x:Operand):cM Q f ⟨d,.convert t t2 x,g⟩ mk ⟨e,sz,lc⟩ s=(evc e x).bind fun a=>fT (uW Q.P t t2 a) lc s:=rfl
def Pz{Q:aH}(t:TypeId)(l c:Operand):cM Q f ⟨d,.makeSlice t l c,g⟩ mk ⟨e,sz,lc⟩ s=(ev e l).bind fun l=>(ev e c).bind fun c=>gW (ow Q.P t l c (aQ (pg (Q.hint f) d) 2) s) lc:=rfl
def JA(mk:aK)(sz m o l c:Nat)(s:St):jo ae mk 26 (.arr sz m o l c) s=some (uM l):=by kernel_rfl
theorem XW(l c:aa)(t:Bool)(s:St):ow ae 26 l c t s=(dS l).bind fun l=>(dS c).bind fun c=>bif bw l c&&bw (c*8) 1099511627776&&bw c 1099511627776 then
 bif aQ l 0&& !t then some (.list 1 [] (.own s.aL),s.new .tok)
 else some (.arr 1 s.aL 0 l l,s.new (.cells (aZ [ic 0] l)))
 else none:=by kernel_rfl
variable{j m n:Nat}{x:Operand}
def aqK(y:j<=n)(w:ev e x=some (uM j))(mk:aK)(s:St):jE ae mk 26 (.arr 1 m 0 n n) (some x) none none e s=some (.arr 1 m j (n-j) (n-j)):=by
 have z: ∀(lo t:Option Operand),jE ae mk 26 (.arr 1 m 0 n n) lo t none e s=(fR e t n).bind fun h=>(fR e lo 0).bind fun l=>bif aQ 1 1&&bw l h&&bw h n&&true then some (.arr 1 m (0+l*1) (h-l) (n-l)) else none:=by intro lo t;kernel_rfl
 have B:bw j n=true:=cP y;have A:bw n n=true:=cP (br _);rw[z,O5,O6,w];show(bif aQ 1 1&&bw j n&&bw n n&&true then some (aa.arr 1 m (0+j*1) (n-j) (n-j)) else none)=_;rw[B,A,Nat.zero_add,Nat.mul_one];rfl
def aqJ(y:j<=n)(w:ev e x=some (uM j))(mk:aK)(s:St):jE ae mk 26 (.arr 1 m 0 n n) none (some x) none e s=some (.arr 1 m 0 j n):=by
 have z: ∀(lo t:Option Operand),jE ae mk 26 (.arr 1 m 0 n n) lo t none e s=(fR e t n).bind fun h=>(fR e lo 0).bind fun l=>bif aQ 1 1&&bw l h&&bw h n&&true then some (.arr 1 m (0+l*1) (h-l) (n-l)) else none:=by intro lo t;kernel_rfl
 have B:bw j n=true:=cP y;have A:bw 0 j=true:=cP (ki _);rw[z,O5,O6,w];show(bif aQ 1 1&&bw 0 j&&bw j n&&true then some (aa.arr 1 m (0+0*1) (j-0) (n-0)) else none)=_;rw[B,A];rfl
def QB(f:Nat->Bool)(h:(List.range 1000).all f=true)(t:n<1000):f n=true:=f8.1 h n (List.mem_range.2 t)
def abe(t:n<1000):IntKind.u64.wrap (n:Int)=n:=by
 have:=QB (fun n=>an (IntKind.u64.wrap (n:Int)) n) (by kernel_rfl) t;exact of_decide_eq_true this
def ar6(t:n<1000):eB ae .and 389 (.int .u64 (n:Int)) (.int .u64 4294967295)=some (.int .u64 (n:Int)):=by
 have:=QB (fun n=>an (IntKind.u64.wrap (((BitVec.ofInt IntKind.u64.bits (n:Int)) &&& (BitVec.ofInt IntKind.u64.bits 4294967295)).toNat:Nat)) n) (by kernel_rfl) t;have h:IntKind.u64.wrap (((BitVec.ofInt IntKind.u64.bits (n:Int)) &&& (BitVec.ofInt IntKind.u64.bits 4294967295)).toNat:Nat)=(n:Int):=of_decide_eq_true this;show some (aa.int .u64 (IntKind.u64.wrap _))=_;rw[h]
def ash(t:n<1000):eB ae .shr 389 (.int .u64 (n:Int)) (.int .u64 32)=some (.int .u64 0):=by
 have:=QB (fun n=>an ((n:Int).fdiv (2 ^ (min (32:Int).toNat IntKind.u64.bits))) 0) (by kernel_rfl) t;have h:((n:Int).fdiv (2 ^ (min (32:Int).toNat IntKind.u64.bits)))=0:=of_decide_eq_true this;show some (aa.int .u64 ((n:Int).fdiv _))=_;rw[h]
def asg(t:n<1000):eB ae .mul 389 (.int .u64 1) (.int .u64 (n:Int))=some (.int .u64 (n:Int)):=by
 show some (aa.int .u64 (IntKind.u64.wrap (1*(n:Int))))=_;rw[Int.one_mul,abe t]
def asf(n:Nat):eB ae .mul 389 (.int .u64 0) (.int .u64 (n:Int))=some (.int .u64 0):=by
 show some (aa.int .u64 (IntKind.u64.wrap (0*(n:Int))))=_;rw[Int.zero_mul];rfl
def ar7:eB ae .and 389 (.int .u64 1) (.int .u64 4294967295)=some (.int .u64 1):=by kernel_rfl
def ar8:eB ae .shr 389 (.int .u64 1) (.int .u64 32)=some (.int .u64 0):=by kernel_rfl
def ar9:eB ae .add 389 (.int .u64 0) (.int .u64 0)=some (.int .u64 0):=by kernel_rfl
def asa:eB ae .and 389 (.int .u64 0) (.int .u64 4294967295)=some (.int .u64 0):=by kernel_rfl
def asb:eB ae .shr 389 (.int .u64 0) (.int .u64 32)=some (.int .u64 0):=by kernel_rfl
def asc:eB ae .mul 389 (.int .u64 1) (.int .u64 0)=some (.int .u64 0):=by kernel_rfl
def asd:eB ae .mul 389 (.int .u64 0) (.int .u64 0)=some (.int .u64 0):=by kernel_rfl
def abd:eB ae .gtr 294 (.int .u64 0) (.int .u64 0)=some (.bool false):=by kernel_rfl
theorem ase(t:n<1000):eB ae .gtr 294 (.int .u64 (n:Int)) (.int .u64 9223372036854775807)=some (.bool false):=by
 show some (aa.bool (bc 9223372036854775807 (n:Int)))=_
 grind [bc]
def asi:uW ae 3 294 (ic 1)=some (.int .u64 1):=by kernel_rfl
def asl(t:n<1000):uW ae 3 294 (ic (n:Int))=some (.int .u64 (n:Int)):=by
 have:uW ae 3 294 (ic (n:Int))=some (.int .u64 (IntKind.u64.wrap (n:Int))):=by kernel_rfl
 rw[this,abe t]
theorem asj(t:n<1000):uW ae 294 3 (.int .u64 (n:Int))=some (ic (n:Int)):=by
 have:uW ae 294 3 (.int .u64 (n:Int))=some (ic (IntKind.i64.wrap (n:Int))):=by kernel_rfl
 grind [iC]
def kO(k:Int)(j n:Nat):List aa:=iy j (ic k)++iy (n-j) (ic 0)
theorem UD(k:Int): ∀n,aF (iy n (ic k))=iy n (ic k)
 |0=>rfl
 |n+1=>by rw[Ld,aF,UD k n];rfl
theorem Tg(k:Int): ∀n,bf false 1 n (iy n (ic k))=some (iy n (ic k))
 |0=>rfl
 |n+1=>by
  rw[Ld];show(bf false 1 n (iy n (ic k))).bind _=_;rw[Tg k n];rfl
theorem ZP: ∀n,aZ [ic 0] n=iy n (ic 0)
 |0=>rfl
 |n+1=>by rw[aZ,ZP n,Ld];rfl
variable{k:Int}
def aex{r:oW}(y:0<n)(z:s.get [] m=some (.cells (iy n (ic 0)))):rC ae [] 26 (.arr 1 m 0 n n) (.list 1 [ic k] r) s=some (ic ((1:Nat):Int),s.put m (some (.cells (kO k 1 n)))):=by
 obtain⟨n,rfl⟩: ∃j,n=j+1:=⟨n-1,by omega⟩;have w:fL (iy (n+1) (ic 0)) 0 [ic k]=some (kO k 1 (n+1)):=by
  have t:bw (0+ [ic k].length) (iy (n+1) (ic 0)).length=true:=cP (by simp);unfold fL;rw[t];rfl
 have e:df (n+1) [ic k]=[ic k]:=by simp
 have f:aF [ic k]=[ic k]:=rfl
 simp_all [rC,ng,eE]
theorem aey(D:j<=n)(E:s.get [] m=some (.cells (kO k j n))):rC ae [] 26 (.arr 1 m j (n-j) (n-j)) (.arr 1 m 0 j n) s=some (ic ((min (n-j) j:Nat):Int),s.put m (some (.cells (kO k (j+min (n-j) j) n)))):=by
 have G:cut (kO k j n) 0 (j*1)=some (iy j (ic k)):=by
  have e:((kO k j n).drop 0).take (j*1)=iy j (ic k):=by simp[kO]
  have b:aQ (iy j (ic k)).length (j*1)=true:=by rw[DV,Nat.mul_one,bD];simp
  show(bif aQ (((kO k j n).drop 0).take (j*1)).length (j*1) then some (((kO k j n).drop 0).take (j*1)) else none)=_;rw[e,b];rfl
 have F:(iy j (ic k)).take (n-j)=iy (min (n-j) j) (ic k):=List.take_replicate;have B:fL (kO k j n) j (iy (min (n-j) j) (ic k))=some (kO k (j+min (n-j) j) n):=by
  have t:min (n-j) j<=n-j:=Nat.min_le_left _ _;generalize min (n-j) j=w at t ⊢;have A:bw (j+(iy w (ic k)).length) (kO k j n).length=true:=cP (by simp[kO];omega);unfold fL;rw[A,cT];congr 1;have z:(kO k j n).take j=iy j (ic k):=by simp[kO]
  have y:(kO k j n).drop (j+(iy w (ic k)).length)=iy (n-(j+w)) (ic 0):=by
   simp[kO,List.drop_append];omega
  rw[z,y,<-ny];unfold kO;rw[List.replicate_append_replicate]
 grind [rC,ng,eE,bD,Tg,UD,DV]
structure uL (s:St) (v:aa) (L:List Int):Prop where
 ge:v.ge=true
 len: ∀mk s',jo ae mk 26 v s'=some (uM L.length)
 cell: ∀ {i:Nat} {k:Int},L[i]? =some k-> ∃p,p.ge=true/\(∀lc,ja ae lc 26 v (uM i)=some p)/\ ∀lc,mr ae [] 3 p lc s=some (ic k)
def uL.ofList(s:St)(L:List Int)(r:oW):uL s (.list 1 (L.map cd) r) L:=by
 have h:ay 1 cd (.list 1 (L.map cd) r) L:=.inr ⟨r,rfl⟩;refine⟨rfl,h.lenS ng,fun {i k} t=>⟨.ro [ic k],rfl,fun lc=>h.at ng.2.2.1 t lc .i64,fun lc=>?_⟩⟩;rw[mZ,j0];rfl
theorem uL.ofRow(B:s.get [] m=some (.cells (kO k n n))):uL s (.arr 1 m 0 n n) (iy n k):=by
 refine⟨rfl,fun mk A=>by rw[JA,DV],fun {i x} t=>?_⟩;have z:i<n:=by
  have:=(nY.1 t).1;rwa [DV] at this
 have y:k=x:=by
  obtain⟨D,w⟩:=nY.1 t;rw[List.getElem_replicate] at w;exact w
 subst y;refine⟨.ptr m (0+i*1),rfl,fun lc=>?_,fun lc=>?_⟩
 grind [bm,cP,ng,oz,bD]
 grind [aW,aY,j0,kO]
theorem apN(S:n<1000){s0:St}(A: ∀e lc s,ac e 7= .arr 1 m 0 n n->s.get [] m=some (.cells (kO k n n))->eL m s0 s->K (.exit 0) ⟨e,48,lc⟩ s):
 ∀(f j:Nat) (e:ax) (lc:Ag.Loc) (s:St),n-j<=f->0<j->j<=n->s.get [] m=some (.cells (kO k j n))->eL m s0 s->ac e 7= .arr 1 m 0 n n->ac e 8=uM j->W Q 218 (.loop E4) ⟨e,48,lc⟩ s K:=by
 intro f
 induction f with
 |zero=>
  intro j e lc s P N t H G y z;have w:j=n:=by omega
  subst w;refine lk ?_;simp only[go_sem,df,bP,ah,aB,bQ,ee,ey,eI,cK,uO,ep,reduceCtorEq,eR,E4,y,z,JA,cD]
  simp_all [sN]
 |succ f M=>
  intro j e lc s P N t H G y z;rcases nZ j n with E|O
  ·have F:s.top.get [] m=some (.cells (kO k j n)):=H
   have R:=aey (m:=m) (n:=n) (j:=j) (k:=k) (s:=s.top) t F;have D:=G.mw;have B:IntKind.i64.wrap (((j:Nat):Int)+((min (n-j) j:Nat):Int))=((j+min (n-j) j:Nat):Int):=by
    rw[iC (by omega) (by omega)];omega
   have J:=fun(e:ax) (x:Operand) (A:ev e x=some (uM j)) (mk:aK) (s:St)=>aqK (m:=m) t A mk s;have I:=fun(e:ax) (x:Operand) (A:ev e x=some (uM j)) (mk:aK) (s:St)=>aqJ (m:=m) t A mk s;refine lk ?_;simp only[go_sem,df,bP,ah,aB,bQ,ee,ey,eI,cK,uO,ep,reduceCtorEq,eR,E4,y,z,JA,E];refine iT D ?_;simp only[go_sem,V4,df,bP,ah,aB,bQ,ee,ey,eI,cK,uO,ep,reduceCtorEq,eR,y,z,J,I,LZ,as1,agJ,iU,R,B,eB,Ic];refine M (j+min (n-j) j) _ _ _ (by omega) (by omega) (by omega) ?_ (G.putT _) ?_ ?_
   grind [mY,aX]
   all_goals simp only[sN,ah,bQ,y]
  have w:j=n:=by omega
  subst w;refine lk ?_;simp only[go_sem,df,bP,ah,aB,bQ,ee,ey,eI,cK,uO,ep,reduceCtorEq,eR,E4,y,z,JA,cD]
  simp_all [sN]
def amQ(z:No Q 408)(y:n<1000)(s:St):aq Q 408 [.int .u64 1,.int .u64 (n:Int)] s (.tup [.int .u64 0,.int .u64 (n:Int)]) s:=by
 have E:=ar6 y;have D:=ash y;have B:=asg y;have A:=asf n;have w: ∃v t,aq Q 408 [.int .u64 1,.int .u64 (n:Int)] s v t/\(v= .tup [.int .u64 0,.int .u64 (n:Int)]/\t=s):=by
  refine aq.ofNRZ akB (co ?_);simp only[go_sem,df,bP,ah,aB,bQ,ee,ey,eI,cK,uO,ep,reduceCtorEq,eR,E,D,B,A,ar7,ar8,ar9,asa,asb,asc,asd];exact⟨_,rfl,rfl⟩
 obtain⟨v,t,h,rfl,rfl⟩:=w;exact h
def amP(z:No Q 300)(t:No Q 408)(A:n<1000)(s:St):aq Q 300 [.int .u64 1,.int .u64 (n:Int)] s (.tup [.int .u64 0,.int .u64 (n:Int)]) s:=by
 have y: ∃v w,aq Q 300 [.int .u64 1,.int .u64 (n:Int)] s v w/\(v= .tup [.int .u64 0,.int .u64 (n:Int)]/\w=s):=by
  refine aq.ofNRZ ajL (co ?_);simp only[go_sem,df,bP,ah,aB,bQ,ee,ey,eI,cK,uO,ep,reduceCtorEq,eR];refine cG.of (amQ t A s) (by decide) ?_;simp only[go_sem,df,bP,ah,aB,bQ,ee,ey,eI,cK,uO,ep,reduceCtorEq,eR];exact⟨_,rfl,rfl⟩
 obtain⟨v,w,h,rfl,rfl⟩:=y;exact h
theorem ZO(z:No Q 300)(y:No Q 408)(M:No Q 218)(B:n<1000)(k:Int)(r:oW)(N:s.gt<=s.aL):
 ∃v w,aq Q 218 [.list 1 [ic k] r,uM n] s v w/\(uL w v (iy n k)/\w.aL=s.aL+1/\w.gt<=w.aL/\ ∀i,i<s.aL->w.get [] i=s.get [] i):=by
 have R: ∀mk w,jo ae mk 26 (.list 1 [ic k] r) w=some (ic 1):=fun mk w=>by rw[ng.2.2.2.2.2];rfl
 have A:bc ((n:Nat):Int) 0=false:=by
  unfold bc;rw[dN];omega
 have Y:=asl B;have P:=asj B;have O:=ase B;have b1:bw n n=true:=cP (br _);have b2:bw (n*8) 1099511627776=true:=cP (by omega);have Z:bw n 1099511627776=true:=cP (by omega);have bb:(bw n n&&bw (n*8) 1099511627776&&bw n 1099511627776)=true:=by rw[b1,b2,Z];rfl
 refine aq.ofNRZ aiC (co ?_);simp only[go_sem,df,bP,ah,aB,bQ,ee,ey,eI,cK,uO,ep,reduceCtorEq,eR,Pv,Pz,R,A,asi,Y];refine cG.of (amP z y B s) (by decide) ?_;rcases Nat.eq_zero_or_pos n with D|D
 subst D;have E: ∀s,ow ae 26 (ic ((0:Nat):Int)) (ic ((0:Nat):Int)) false s=some (.list 1 [] (.own s.aL),s.new .tok):=fun s=>by rw[XW];rfl
 have J: ∀k r t s,rC ae [] 26 (.list 1 [] t) (.list 1 [ic k] r) s=some (ic 0,s):=fun k r t s=>by
  simp only[afo,rC,ng,au,eE]
 have S: ∀mk t w,jo ae mk 26 (.list 1 [] t) w=some (ic 0):=fun mk t w=>by rw[ng.2.2.2.2.2];rfl
 simp only[go_sem,df,bP,ah,aB,bQ,ee,ey,eI,cK,uO,ep,reduceCtorEq,eR,Pv,Pz,abd,P,O,E,LZ,J];refine lk ?_;have H:bc (0:Int) ((0:Nat):Int)=false:=rfl;have G:bc (0:Int) 0=false:=rfl;simp only[go_sem,df,bP,ah,aB,bQ,ee,ey,eI,cK,uO,ep,reduceCtorEq,eR,E4,S,H,G];refine⟨_,rfl,uL.ofList _ [] _,cq N,fun i F=>cz F⟩
 ·have E: ∀s,ow ae 26 (ic ((n:Nat):Int)) (ic ((n:Nat):Int)) false s=some (.arr 1 s.aL 0 n n,s.new (.cells (iy n (ic 0)))):=fun s=>by
   grind [bD,XW,oz,ZP]
  have J:=aex (s:=s.new (.cells (iy n (ic 0)))) (m:=s.aL) (k:=k) (r:=r) D cW;simp only[go_sem,df,bP,ah,aB,bQ,ee,ey,eI,cK,uO,ep,reduceCtorEq,eR,Pv,Pz,abd,P,O,E,LZ,iU,J];refine apN (m:=s.aL) (k:=k) B (s0:=s.new (.cells (iy n (ic 0)))) ?_ (n-1) 1 _ _ _ (br _) Nat.one_pos D ?_ ((eL.refl (cq N)).put _) ?_ ?_;intro e lc s1 V U I;simp only[go_sem,df,bP,ah,aB,bQ,ee,ey,eI,cK,uO,ep,reduceCtorEq,eR,V,iU];exact⟨_,rfl,uL.ofRow U,I.aL,I.mw,fun i F=>(I.old i (by omega)).trans (cz F)⟩
  all_goals simp_all [aX,sN]
def amM(e:ax)(x:Operand)(s:St):m7 ae 100 e (some x) s=(ev e x).bind fun
 | .int _ _=>some (.map s.aL,s.new (.map [] 0))
 |_=>none:=by kernel_rfl
def vZ(o:Obj):List Int:=(List.range o.gE.length).map (kR o.nR)
def asJ(h:an o.nR 5=false):vZ o=iy o.gE.length (bif an o.nR 4 then 2 else 1):=by
 unfold vZ;have e: ∀i,kR o.nR i=bif an o.nR 4 then 2 else 1:=fun i=>by
  unfold kR;rw[h,dW,Bool.or_false]
 rw[DW (g:=fun _=>bif an o.nR 4 then(2:Int) else 1) fun i _=>e i,List.map_const',DU]
def asK(h:an o.nR 5=true)(t:o.gE.length=3):vZ o=[2,1,2]:=by
 have e:o.nR=5:=of_decide_eq_true h;unfold vZ;rw[t,e];decide
variable{b:Nat}
def anv(Y:ay 6 Obj.val ov l)(Z: ∀o∈l,o.oM)(hl:l.length<=1000000)(D:(l.map Obj.id).Nodup){s0:St}(V: ∀e lc s,ac e 3= .map b->eL b s0 s->bR aa.str s b (kx l)->K (.exit 0) ⟨e,23,lc⟩ s):
 ∀(t pre:List Obj) (e:ax) (lc:Ag.Loc) (s:St),l=pre++t->eL b s0 s->bR aa.str s b (kx pre)->ac e 3= .map b->ac e 11=ov->ac e 12=uM l.length->ac e 13=uM pre.length->W Q 65 (.loop Ox) ⟨e,23,lc⟩ s K:=by
 intro t
 induction t with
 |nil=>
  intro pre e lc s B R M G A w z;have O:pre.length=l.length:=by rw[B];simp
  have I:pre=l:=by rw[B];simp
  refine bG ?_;simp only[go_sem,seval,Ox,w,z,O,cD];exact V _ _ _ (by simp only[sN,seval,G]) R (by rw[<-I];exact M)
 |cons o t U=>
  intro pre e lc s B R M G A w z;have N:pre.length<l.length:=by rw[B];simp
  have F:l[pre.length]? =some o:=by rw[B];simp
  have go:=Z o (eP F);have S:=go.all;have P:=fun lc k=>Y.at gX.2.2.1 F lc k;have H:=dB (n:=pre.length) (by omega);have J:cI o.id (kx pre)=none:=by
   rw[AX,C4,sF];intro hc;rw[B,ff] at D;exact(wf.1 D).2.2 _ hc o.id (by simp) rfl
  have y:=vU jA yY M o.id o.val;have E:fe o.id o.val (kx pre)=kx (pre++[o]):=by
   rw[vj J];unfold kx;rw[ff];rfl
  rw[E] at y;simp only[Obj.val,Obj.cells] at y;refine bG ?_;simp only[go_sem,seval,Ox,G,A,w,z,N,P,H,Obj.val,Obj.cells,S,y];refine U (pre++[o]) _ _ _ (by rw[B];simp) (R.put _) bR.put ?_ ?_ ?_ ?_
  all_goals simp only[sL,seval,G,A,w,sA]
def anA(M:No Q 65)(y:ay 6 Obj.val ov l)(P: ∀o∈l,o.oM)(O:l.length<=1000000)(A:(l.map Obj.id).Nodup)(N:s.gt<=s.aL):
 ∃v t,aq Q 65 [.agg [ov]] s v t/\(v= .map s.aL/\bR aa.str t s.aL (kx l)/\t.aL=s.aL+1/\t.gt<=t.aL/\ ∀i,i<s.aL->t.get [] i=s.get [] i):=by
 have E:=y.cs;have B:=y.lenS gX;obtain⟨z,w⟩:=ct (s.new (.map [] 0));have H:z.aL=s.aL+1:=by rw[<-w];rfl
 have I:z.gt<=z.aL:=by rw[<-w];exact cq N
 have J:bR aa.str z s.aL (kx []):=by rw[<-w];exact cW
 have G: ∀i,i<s.aL->z.get [] i=s.get [] i:=fun i D=>by rw[<-w];exact cz D
 refine aq.ofNRZ ak6 (co ?_);simp only[go_sem,seval,E,B,amM,w];refine anv y P O A (b:=s.aL) (s0:=z) ?_ l [] _ _ z rfl (.refl I) J ?_ ?_ ?_ ?_;intro e lc U S F R;simp only[go_sem,seval,S];exact⟨_,rfl,rfl,R,by rw[F.aL];exact H,F.mw,fun i D=>(F.old i (by omega)).trans (G i D)⟩
 all_goals simp only[abc,alb,ah,bQ]
 all_goals rfl
def asI(w:No Q 300)(t:No Q 408)(y:No Q 218)(I:No Q 125)(go:o.oM)(J:o.gE.length<1000)(O:an o.nR 5=true->o.gE.length=3)(H:s.gt<=s.aL):
 ∃v z,aq Q 125 [o.val] s v z/\(uL z v (vZ o)/\s.aL<=z.aL/\z.gt<=z.aL/\ ∀i,i<s.aL->z.get [] i=s.get [] i):=by
 have E:=go.all;have B:=go.gE.lenS cH;refine aq.ofNRZ ahD (co ?_);cases e5:an o.nR 5 with
 |true=>
  simp only[go_sem,seval,Obj.val,Obj.cells,E,e5,bj,bg,aZ,bf,evc];rw[asK e5 (O e5)];exact⟨_,rfl,uL.ofList s [2,1,2] _,H,fun _ _=>trivial⟩
 |false=>
  rw[asJ e5];cases e4:an o.nR 4 with
  |true=>
   simp only[go_sem,seval,Obj.val,Obj.cells,E,B,e5,e4,bj,bg,aZ,bf,evc];refine cG.ex (ZO w t y J 2 .uP H) (by decide) ?_;rintro v M ⟨A,N,G,F⟩;have D:=A.ge;simp only[go_sem,seval,D];exact⟨_,rfl,A,by omega,G,F⟩
  |false=>
   simp only[go_sem,seval,Obj.val,Obj.cells,E,B,e5,e4,bj,bg,aZ,bf,evc];refine cG.ex (ZO w t y J 1 .uP H) (by decide) ?_;rintro v M ⟨A,N,G,F⟩;have D:=A.ge;simp only[go_sem,seval,D];exact⟨_,rfl,A,by omega,G,F⟩
def CL(l:List Obj)(k:Int):Nat->List ag->Bool
 |_,[]=>true
 |i,r::rest=>an (pV l r) (kR k i)&&CL l k (i+1) rest
def Xj(l:List Obj)(k:Int): ∀(rs:List ag) (i:Nat),(((List.range' i rs.length).zip rs).all fun p=>an (pV l p.2) (kR k p.1))=CL l k i rs
 | [],_=>rfl
 |r::rs,i=>by
  rw[bH,List.range'_succ,List.zip_cons_cons,ju,Xj l k rs (i+1)];rfl
def apA(l:List Obj)(o:Obj):Kg l o=CL l o.nR 0 o.gE:=by
 rw[<-Xj];unfold Kg;rw[List.range_eq_range']
def rq(l:List Obj)(o:Obj):Bool:= !Kg l o
def PQ(l:List Obj):List aa:=(l.filter (rq l)).map fun o=>fC 1 [o.id]
def GR(l:List Obj):aa:=fI 3 (PQ l)
def alo(l:List Obj)(r:ag):yD ae 52 (((dP r l).map Obj.val).getD (.agg [(.str []),(ic (0)),(ic (0)),(ic (0)),.oZ,.oZ])) 1=some (ic (pV l r)):=by
 unfold pV;cases dP r l with
 |none=>rw[sF,Option.getD_none,HT,j0];rfl
 |some q=>
  rw[Option.map_some,Option.getD_some];show yD ae 52 (.agg q.cells) 1=_;rw[HT,j0];rfl
def alm(l:List Obj)(r:ag):((((dP r l).map Obj.val).getD (.agg [(.str []),(ic (0)),(ic (0)),(ic (0)),.oZ,.oZ]))).ge=true:=by
 cases dP r l<;>rfl
structure cN (a g6:Nat) (c6:List aa) (ov:aa) (n i:Nat) (e:ax) (lc:Ag.Loc):Prop where
 h3:ac e 3= .map a
 h6:ac e 6= .rd 6 g6 0
 q6:lc.gen 6=g6
 l6:lc.get 6 g6=some c6
 h12:ac e 12=ov
 h13:ac e 13=uM n
 h14:ac e 14=uM i
variable{i:Nat}
def apy{g6:Nat}(hM:bR aa.str s a (kx l))(O:s.gt<=s.aL)(P:lo<=s.aL)(go:o.oM)(hr:o.gE.length<1000){wv:aa}(hw:uL s wv (vZ o)){Z:aa}{H:List aa}(hO:cR 3 lo s Z H)(b1:H.length<=900000)(hx: ∀e lc I A,cR 3 lo I A (H++(bif rq l o then [fC 1 [o.id]] else []))->I.gt<=I.aL->lo<=I.aL->(∀k,k<lo->I.get [] k=s.get [] k)->ac e 4=A->cN a g6 o.cells ov n i e lc->K (.exit 2) ⟨e,46,lc⟩ I):
 ∀(w pre:List ag) (e:ax) (lc:Ag.Loc),o.gE=pre++w->Kg l o=CL l o.nR pre.length w->ac e 4=Z->ac e 19=wv->ac e 20=uM o.gE.length->ac e 21=uM pre.length->cN a g6 o.cells ov n i e lc->W Q 58 (.loop Jr) ⟨e,46,lc⟩ s K:=by
 intro w
 induction w with
 |nil=>
  intro pre e lc U V S E z D F;have a9:pre.length=o.gE.length:=by rw[U];simp
  have hb:rq l o=false:=by unfold rq;rw[V];rfl
  refine bG ?_;simp only[go_sem,seval,Jr,z,D,a9,cD];refine hx _ _ _ Z (by rw[hb,cF,kC];exact hO) O P (fun _ _=>rfl) ?_ ⟨?_,?_,F.q6,F.l6,?_,?_,?_⟩
  all_goals simp only[sN,seval,S,F.h3,F.h6,F.h12,F.h13,F.h14]
 |cons r w ih=>
  intro pre e lc U V S E z D F;have G:pre.length<o.gE.length:=by rw[U];simp
  have b0:o.gE[pre.length]? =some r:=by rw[U];simp
  have a8:(vZ o)[pre.length]? =some (kR o.nR pre.length):=by
   unfold vZ;rw[List.getElem?_map,List.getElem?_range G];rfl
  obtain⟨p,pc,N,M⟩:=hw.cell a8;have R:=fun lc k=>go.gE.at cH.2.2.1 b0 lc k;have a0:=dB (n:=pre.length) (by omega);have B:=tK jA yY zP hM r;rw[AX] at B;have kf:=alo l r;have kc:=alm l r;obtain⟨q,hq⟩:=ct (((dP r l).map Obj.val).getD (.agg [(.str []),(ic (0)),(ic (0)),(ic (0)),.oZ,.oZ]));rw[hq] at B kf kc;have wc:=hw.ge;have J:=hO.ge;have rc:=go.gE.ge;have e3:=F.h3;have e6:=F.h6;have eg:=F.q6;have Y:=F.l6;simp only[Obj.cells] at Y;cases hk:an (pV l r) (kR o.nR pre.length) with
  |true=>
   refine bG ?_;simp only[go_sem,seval,Jr,aG,e3,e6,eg,Y,E,z,D,G,R,N,M,pc,wc,rc,B,kc,kf,hk,a0];refine ih (pre++[r]) _ _ (by rw[U];simp) (by rw[V,CL,hk,eH,cJ];rfl) ?_ ?_ ?_ ?_ ⟨?_,?_,F.q6,F.l6,?_,?_,?_⟩
   all_goals simp only[sL,seval,S,E,z,F.h3,F.h6,F.h12,F.h13,F.h14,sA]
  |false=>
   have hb:rq l o=true:=by unfold rq;rw[V,CL,hk,dW];rfl
   obtain⟨A,s1,a1,a2,a3,a4,a5,a6,a7⟩:=BL (t:=35) j6.1 rfl (by decide) (s:=s) (y:=.list 3 [fC 1 [o.id]] .uP) (x:=fC 1 [o.id]) hO (by simp only[afo,eE]) b1 P O;simp only[fC,fy,uB,aG] at a1;refine bG ?_;simp only[go_sem,seval,Jr,aG,S,e3,e6,eg,Y,E,z,D,G,R,N,M,pc,wc,rc,B,kc,kf,hk,J,bj,bg,aZ,bf,evc];simp only[go_sem,seval,aG,S,J,e6,eg,Y,rc,a1,a3,bj,bg,aZ,bf,evc];refine hx _ _ s1 A (by rw[hb];exact a2) a5 (by omega) a7 ?_ ⟨?_,?_,F.q6,F.l6,?_,?_,?_⟩
   all_goals simp only[sL,seval,F.h3,F.h6,F.h12,F.h13,F.h14]
def apD(M:No Q 300)(J:No Q 408)(N:No Q 218)(O:No Q 125)(ho:ay 6 Obj.val ov l)(hg: ∀o∈l,o.oM)(hl:l.length<=900)(hr: ∀o∈l,o.gE.length<1000)(h5: ∀o∈l,an o.nR 5=true->o.gE.length=3)(al:a<lo){s0:St}(hM:bR aa.str s0 a (kx l))(hx: ∀e lc s w,cR 3 lo s w (PQ l)->ac e 4=w->K (.exit 0) ⟨e,46,lc⟩ s):
 ∀(t pre:List Obj) (e:ax) (lc:Ag.Loc) (s:St) (w:aa),l=pre++t->cR 3 lo s w ((pre.filter (rq l)).map fun o=>fC 1 [o.id])->(∀k,k<lo->s.get [] k=s0.get [] k)->lo<=s.aL->s.gt<=s.aL->ac e 3= .map a->ac e 4=w->ac e 12=ov->ac e 13=uM l.length->ac e 14=uM pre.length->W Q 58 (.loop Oj) ⟨e,46,lc⟩ s K:=by
 intro t
 induction t with
 |nil=>
  intro pre e lc s w I S G a2 P h3 h4 H D B;have a3:pre.length=l.length:=by rw[I];simp
  have a0:pre=l:=by rw[I];simp
  refine bG ?_;simp only[go_sem,seval,Oj,D,B,a3,cD];rw[a0] at S;exact hx _ _ _ w S (by simp only[sN,seval,h4])
 |cons o t ih=>
  intro pre e lc s w I S G a2 P h3 h4 H D B;have a1:pre.length<l.length:=by rw[I];simp
  have R:l[pre.length]? =some o:=by rw[I];simp
  have y:=eP R;have go:=hg o y;have rc:=go.all;have a4:=fun lc k=>ho.at gX.2.2.1 R lc k;have Y:=dB (n:=pre.length) (by omega);have Z:(vZ o).length=o.gE.length:=by unfold vZ;rw[ce,DU]
  have E:=asI M J N O go (hr o y) (h5 o y) (s:=s) P;simp only[Obj.val,Obj.cells] at E;refine bG ?_;simp only[go_sem,seval,Oj,H,D,B,a1,a4,Obj.val,Obj.cells,rc];refine cG.ex E (by decide) ?_;rintro wv s1 ⟨A,n1,m1,V⟩;have wc:=A.ge;have wl:=A.len;have a7:bR aa.str s1 a (kx l):=(V a (by omega)).trans ((G a al).trans hM);have a6:cR 3 lo s1 w ((pre.filter (rq l)).map fun o=>fC 1 [o.id]):=by
   rcases S with h|⟨q1,k,q2,q3,q4,q5⟩
   exact .inl h;exact .inr ⟨q1,k,q2,(V k q5).trans q3,q4,by omega⟩
  have a5:((pre.filter (rq l)).map fun o=>fC 1 [o.id]).length<=900000:=by
   rw[ce]
   have:=kT (rq l) pre;omega
  simp only[go_sem,seval,wc,wl,Z];refine apy a7 m1 (by omega) go (hr o y) A a6 a5 (ov:=ov) (n:=l.length) (i:=pre.length) (g6:=lc.gen 6+1) ?_ o.gE [] _ _ rfl (apA l o) ?_ ?_ ?_ ?_ ⟨?_,?_,?_,?_,?_,?_,?_⟩
  ·intro e2 a9 s2 U z m2 l2 o2 c4 F
   have a8:=F.h14;simp only[go_sem,seval,a8,Y];refine ih (pre++[o]) _ _ s2 U (by rw[I];simp) ?_ (fun k hk=>(o2 k hk).trans ((V k (by omega)).trans (G k hk))) l2 m2 ?_ ?_ ?_ ?_ ?_;cases hb:rq l o with
   |false=>
    rw[hb,cF,kC] at z;rw[o9 hb];exact z
   |true=>
    rw[hb,cT] at z;rw[tm hb,ff];exact z
   all_goals simp only[sN,seval,c4,F.h3,F.h12,F.h13,sA]
  all_goals simp only[sL,seval,h3,h4,H,D,B,bn]
  all_goals rfl
def apz(y:No Q 300)(w:No Q 408)(z:No Q 218)(A:No Q 125)(E:No Q 65)(R:No Q 58)(t:ay 6 Obj.val ov l)(N: ∀o∈l,o.oM)(Y:l.length<=900)(U: ∀o∈l,o.gE.length<=999)(B:dD l=true)(V:s.gt<=s.aL):
 ∃v M,aq Q 58 [.agg [ov]] s v M/\fY M.heap v (GR l):=by
 have D:=t.cs;have I:=t.lenS gX;have h5: ∀o∈l,an o.nR 5=true->o.gE.length=3:=fun o H P=>by
  simp only[dD,bu] at B;obtain⟨_,_,J⟩:=anz.1 (JP l [] B.1 o H);have e1:an o.nR 1=false:=by
   have:o.nR=5:=of_decide_eq_true P;rw[this];rfl
  rw[e1,P] at J;simp only[cF,cT,bu,bE] at J;exact J.1
 refine aq.ofNRZ ak1 (co ?_);simp only[go_sem,seval,D];refine cG.ex (anA E t N (by omega) (yK B) V) (by decide) ?_;rintro v G ⟨rfl,Z,n1,S,o1⟩;simp only[go_sem,seval,D,I];refine apD y w z A t N Y (fun o t=>by have:=U o t;omega) h5 (a:=s.aL) (lo:=G.aL) (by omega) (s0:=G) Z ?_ l [] _ _ G .oZ rfl (.inl ⟨rfl,rfl⟩) (fun _ _=>rfl) (br _) S ?_ ?_ ?_ ?_ ?_;intro e lc s2 tv O h4;have F:=O.ge;simp only[go_sem,seval,h4,F];refine⟨_,rfl,4,AE O fun v B=>?_⟩;obtain⟨i,_,rfl⟩:=dy.1 B;exact EF _ _ _
 all_goals simp only[abc,alb,ah,bQ]
 all_goals rfl
def Di:Sp
 | [v]=>(lz v).bind fun l=>bif mU l then some (GR l) else none
 |_=>none
def apC:db ae 58 Di:=by
 intro args u t G h w E F I;unfold Di at t;split at t;simp only[ak] at t;obtain⟨l,B,t⟩:=t;obtain⟨y,t⟩:=bh t;have t:=sI t;subst t;obtain⟨v,rfl,B,D,N⟩:=rk B;obtain⟨J,H,z,A⟩:=qQ B D;have z:en [.agg [v]]=[.agg [H]]:=by simp only[en,z]
 have y:=pf.1 y;refine j9 (T:=[]) (W:=[]) .nil .nil (args:=[.agg [v]]) (by simp only[eO,J,cw]) (fun M=>?_) G h w E F I;rw[z];exact apz (Q:=QW [] [] M) ⟨rfl,rfl⟩ ⟨rfl,rfl⟩ ⟨rfl,rfl⟩ ⟨rfl,rfl⟩ ⟨rfl,rfl⟩ ⟨rfl,rfl⟩ A D y.len y.gE y.valid (by decide);cases t
variable{args:List aa}
def yf.run{Q:aH}{d:Tmp}{s1:St}{C:Fr->St->Prop}{g:FuncId}(t:aq Q g args s v s1)(w:d<sz)(h:C ⟨e.set d (some v),sz,lc⟩ s1):yf Q d e sz lc s C g args (Q.spec g):=by
 cases hs:Q.spec g with
 |none=>exact⟨v,s1,t,w,h⟩
 |some sp=>
  obtain⟨z,y⟩:=aq.sp_inv hs t;subst y;exact⟨v,lc,s1,by rw[z];rfl,w,h⟩
def Gq(w:n<=1000000000)(t:b<=88):jc n b=true:=by
 unfold jc;apply cP;have:(n*2+1024)*b<=2000001024*88:=rf (by omega) t;omega
def LI{t:TypeId}{E:EI}(O:lV ae t=some E)(P:E.n=sz)(N:E.b<=88){y x:aa}{xs:List aa}(h:cR sz lo s ov xs)(H:eE [] E.g E.n y s=some [x])(J:xs.length<=900000000)(D:lo<=s.aL)(I:s.gt<=s.aL):
 ∃w z,fF ae [] t ov y false s=some (w,z)/\cR sz lo z w (xs++[x])/\w.cells=[w]/\z.aL=s.aL+1/\z.gt<=z.aL/\(∀n,n<s.aL->s.get [] n≠some .tok->z.get [] n=s.get [] n)/\(∀n,n<lo->z.get [] n=s.get [] n):=by
 subst P;rcases h with⟨rfl,rfl⟩|⟨B,k,rfl,M,S,R⟩
 have F:jc [x].length E.b=true:=Gq (by simp) N;refine⟨.list E.n [x] (.own s.aL),s.new .tok,?_,.inr ⟨by simp,s.aL,rfl,by rw[fk,bS];rfl,D,kU _⟩,rfl,rfl,cq I,fun n A _=>?_,fun n A=>?_⟩;simp only[akZ,fF,O,H,jG,kL,F,cF];rw[fk,bN.2 (by omega)];rfl;rw[fk,bN.2 (by omega)];rfl;have F:jc (xs.length+ [x].length) E.b=true:=Gq (by simp;omega) N;refine⟨.list E.n (xs++[x]) (.own s.aL),(s.put k none).new .tok,?_,.inr ⟨by simp,s.aL,rfl,by rw[fk,lR,bS];rfl,D,kU _⟩,rfl,rfl,cq (dh s k none I),fun n A G=>?_,fun n A=>?_⟩;simp only[afo,fF,O,au,H,jG,M,F,cw];have B:n≠k:=fun e=>G (by rw[e];exact M);rw[fk,lR,bN.2 (by omega),cF,aX,bN.2 B];rfl;rw[fk,lR,bN.2 (by omega),cF,aX,bN.2 (by omega)];rfl
abbrev VQ:=Int×List ag×Bool
def vG:Bool->oW
 |true=>.no
 |false=>.uP
def g9(name:ag)(q:VQ):aa:=.agg [.str name,ic q.1,.list 1 (q.2.1.map aG) (vG q.2.2)]
variable{α:Type}
def tQ(n:Nat)(enc:α->aa): ∀l:List α,ay n enc (fI n (l.map enc)) l
 | []=>.inl ⟨rfl,rfl⟩
 |_::_=>.inr ⟨_,rfl⟩
def UR(h:aC aR)(name:ag)(q:VQ):cL h 3 (g9 name q)=some (g9 name q):=by
 have e:cL h 2 (.list 1 (q.2.1.map aG) (vG q.2.2))=some (.list 1 (q.2.1.map aG) (vG q.2.2)):=H1 h (by rw[Gj];cases q.2.2<;>rfl) fun v t=>by
  obtain⟨x,_,rfl⟩:=dy.1 t;rfl
 show(dL (cL h 2) [.str name,ic q.1,.list 1 (q.2.1.map aG) (vG q.2.2)]).bind (fun r=>some (aa.agg r))=_;rw[yF fun v t=>?_];rfl;simp only[fc,zT,or_false] at t;rcases t with rfl|rfl|rfl
 rfl;rfl;exact e
variable{vv:aa}
def XY{views:List ag}(B:ay 1 aG vv views)(z:views.length<=1000000)(w:s.gt<=s.aL):
 ∃nv t,fF ae [] 25 (.list 1 [.str []] .uP) vv false s=some (nv,t)/\ay 1 aG nv ([]::views)/\s.aL<=t.aL/\t.gt<=t.aL/\ ∀i,i<s.aL->t.get [] i=s.get [] i:=by
 rcases B with⟨rfl,rfl⟩|⟨r,rfl⟩
 exact⟨.list 1 ([([]:ag)].map aG) .uP,s,by simp only[akZ,fF,cH,eE,yL];rfl,.inr ⟨_,rfl⟩,br _,w,fun _ _=>rfl⟩;cases views with
 |nil=>exact⟨.list 1 ([([]:ag)].map aG) .uP,s,by simp only[afo,fF,cH,au,eE,uB,yL];rfl,.inr ⟨_,rfl⟩,br _,w,fun _ _=>rfl⟩
 |cons x views=>
  have y:jc ([aa.str []]++(x::views).map aG).length 16=true:=Gq (by simp only[adz,ce] at z ⊢;omega) (by decide);refine⟨.list 1 ([aa.str []]++(x::views).map aG) (.own s.aL),s.new .tok,?_,.inr ⟨_,rfl⟩,jQ _,cq w,fun i A=>cz A⟩;rw[fy] at y ⊢;simp only[afo,fF,cH,au,eE,cF,jG,kL,y]
def fV(c:FuncId×List aa):aa:=.func (.func c.1) [] c.2
structure Hh (g10:Nat) (ov mv nv cv:aa) (nn i nc j:Nat) (name:ag) (e:ax) (lc:Ag.Loc):Prop where
 h2:ac e 2= .rd 2 1 0
 g2:lc.gen 2=1
 l2:lc.get 2 1=some [ov]
 h6:ac e 6=cv
 h9:ac e 9= .str name
 h10:ac e 10= .rd 10 g10 0
 q10:lc.gen 10=g10
 l10:lc.get 10 g10=some [mv]
 h24:ac e 24=nv
 h25:ac e 25=uM nn
 h26:ac e 26=uM i
 h33:ac e 33=cv
 h34:ac e 34=uM nc
 h35:ac e 35=uM j
variable{bse:List aa}{g10:Nat}{cv nv:aa}
def asE{name:ag}{L:List VQ}(hV:ay 3 (g9 []) vv L)(a0:bse.length+L.length<=900000000){mv:aa}{nn nc:Nat}{s0:St}(hx: ∀e lc s B,cR 3 lo s B (bse++L.map (g9 name))->oV s0 s->lo<=s.aL->(∀k,k<lo->s.get [] k=s0.get [] k)->ac e 7=B->Hh g10 ov mv nv cv nn i nc j name e lc->K (.exit 4) ⟨e,57,lc⟩ s):
 ∀(w pre:List VQ) (e:ax) (lc:Ag.Loc) (s:St) (B:aa),L=pre++w->cR 3 lo s B (bse++pre.map (g9 name))->oV s0 s->lo<=s.aL->(∀k,k<lo->s.get [] k=s0.get [] k)->ac e 7=B->ac e 41=vv->ac e 42=uM L.length->ac e 43=uM pre.length->Hh g10 ov mv nv cv nn i nc j name e lc->W Q 18 (.loop NG) ⟨e,57,lc⟩ s K:=by
 intro w
 induction w with
 |nil=>
  intro pre e lc s B H M N E D O G A z F;have V:pre.length=L.length:=by rw[H];simp
  have S:pre=L:=by rw[H];simp
  refine bG ?_;simp only[go_sem,seval,NG,A,z,V,cD];rw[S] at M;refine hx _ _ _ B M N E D ?_ ⟨?_,F.g2,F.l2,?_,?_,?_,F.q10,F.l10,?_,?_,?_,?_,?_,?_⟩
  all_goals simp only[sN,seval,O,F.h2,F.h6,F.h9,F.h10,F.h24,F.h25,F.h26,F.h33,F.h34,F.h35]
 |cons q w ih=>
  intro pre e lc s B H M N E D O G A z F;have U:pre.length<L.length:=by rw[H];simp
  have Z:L[pre.length]? =some q:=by rw[H];simp
  have Y:=fun lc k=>hV.at j6.2.2.1 Z lc k;have R:=dB (n:=pre.length) (by omega);have I:=M.ge;have e9:=F.h9;obtain⟨P,s1,a1,a2,a3,a4,a5,a6,a7⟩:=LI (t:=35) j6.1 rfl (by decide) (s:=s) (y:=.list 3 [g9 name q] .uP) (x:=g9 name q) M (by simp only[afo,eE]) (by rw[cJ,ce];omega) E N.mw;simp only[g9] at a1;refine bG ?_;simp only[go_sem,seval,NG,g9,e9,O,G,A,z,U,Y,I,bj,bg,aZ,bf,evc];simp only[go_sem,seval,g9,O,z,R,I,a1,a3,bj,bg,aZ,bf,evc];refine ih (pre++[q]) _ _ s1 P (by rw[H];simp) (by rw[ff,<-ny];exact a2) (N.app a4 a5 a6) (by omega) (fun k J=>(a7 k J).trans (D k J)) ?_ ?_ ?_ ?_ ⟨?_,?_,?_,?_,?_,?_,?_,?_,?_,?_,?_,?_,?_,?_⟩
  all_goals simp only[sL,seval,G,A,F.h2,F.g2,F.l2,F.h6,F.h9,F.h10,F.q10,F.l10,F.h24,F.h25,F.h26,F.h33,F.h34,F.h35,sA]
def pZ(name:ag)(cs:List ((FuncId×List aa)×List VQ)):List aa:=cs.flatMap fun c=>c.2.map (g9 name)
def ao0(name:ag)(cs:List ((FuncId×List aa)×List VQ))(c:(FuncId×List aa)×List VQ):pZ name (cs++[c])=pZ name cs++c.2.map (g9 name):=by
 unfold pZ;rw[List.flatMap_append,uy,List.flatMap_nil,kC]
variable{wc:List aa}{rb:Nat}
def ad0{name:ag}{cs:List ((FuncId×List aa)×List VQ)}(hC:ay 1 fV cv (cs.map (·.1)))(a9:cs.length<=1000)(R:rb<lo){mv:aa}(mc:mv.ge=true)(ms:mv.cells=[mv]){s0:St}(S:s0.get [] rb=some (.cells wc))(hc: ∀c∈cs, ∀s:St,s.get [] rb=some (.cells wc)-> ∃v,aq Q c.1.1 (.agg [mv]::c.1.2) s v s/\ay 3 (g9 []) v c.2)(a1:bse.length+(pZ name cs).length<=900000000){nn:Nat}(hx: ∀e lc s w,cR 3 lo s w (bse++pZ name cs)->lo<=s.aL->s.gt<=s.aL->(∀k,k<lo->s.get [] k=s0.get [] k)->ac e 7=w->Hh g10 ov mv nv cv nn i cs.length cs.length name e lc->K (.exit 2) ⟨e,57,lc⟩ s):
 ∀(t pre:List ((FuncId×List aa)×List VQ)) (e:ax) (lc:Ag.Loc) (s:St) (w:aa),cs=pre++t->cR 3 lo s w (bse++pZ name pre)->lo<=s.aL->s.gt<=s.aL->(∀k,k<lo->s.get [] k=s0.get [] k)->ac e 7=w->Hh g10 ov mv nv cv nn i cs.length pre.length name e lc->W Q 18 (.loop NH) ⟨e,57,lc⟩ s K:=by
 intro t
 induction t with
 |nil=>
  intro pre e lc s w z M B A y h7 F;have H:pre.length=cs.length:=by rw[z];simp
  have U:pre=cs:=by rw[z];simp
  have E:=F.h34;have D:=F.h35;refine bG ?_;simp only[go_sem,seval,NH,E,D,H,cD];rw[U] at M;refine hx _ _ _ w M B A y ?_ ⟨?_,F.g2,F.l2,?_,?_,?_,F.q10,F.l10,?_,?_,?_,?_,?_,?_⟩
  all_goals simp only[sN,seval,h7,H,F.h2,F.h6,F.h9,F.h10,F.h24,F.h25,F.h26,F.h33,F.h34,F.h35]
 |cons c t ih=>
  intro pre e lc s w z M B A y h7 F;have V:pre.length<cs.length:=by rw[z];simp
  have a2:(cs.map (·.1))[pre.length]? =some c.1:=by rw[z];simp
  have a0:c∈cs:=by rw[z];simp
  have Z:=fun lc k=>hC.at GD.2.2.1 a2 lc k;have O:=dB (n:=pre.length) (by omega);have a4:=F.h33;have E:=F.h34;have D:=F.h35;have a5:=F.h10;have eg:=F.q10;have el:=F.l10;have a6:=hC.ge;obtain⟨v,G,P⟩:=hc c a0 s ((y rb R).trans S);have vc:=P.ge;have vl:=P.lenS j6;have J:(bse++pZ name pre).length+c.2.length<=900000000:=by
   have:pZ name cs=(pZ name pre++c.2.map (g9 name))++pZ name t:=by
    rw[z];unfold pZ;rw[List.flatMap_append,uy,ny]
   rw[this,cJ,cJ,ce] at a1;rw[cJ];omega
  refine bG ?_;simp only[go_sem,seval,NH,fV,a4,E,D,a5,eg,el,V,Z,a6,mc,ms,Aq,HF];refine yf.run G (by decide) ?_;simp only[go_sem,seval,vc,vl];refine asE (name:=name) P (lo:=lo) (bse:=bse++pZ name pre) J (s0:=s) (g10:=g10) (ov:=ov) (mv:=mv) (nv:=nv) (cv:=cv) (nn:=nn) (i:=i) (nc:=cs.length) (j:=pre.length) ?_ c.2 [] _ _ s w rfl (by rw[uB,kC];exact M) (.refl A) B (fun _ _=>rfl) ?_ ?_ ?_ ?_ ⟨?_,F.g2,F.l2,?_,?_,?_,F.q10,F.l10,?_,?_,?_,?_,?_,?_⟩
  ·intro e2 a8 s2 N a3 Y l2 o2 c7 F2
   have a7:=F2.h35;simp only[go_sem,seval,a7,O];refine ih (pre++[c]) _ _ s2 N (by rw[z];simp) (by rw[ao0,<-ny];exact a3) l2 Y.mw (fun k I=>(o2 k I).trans (y k I)) ?_ ⟨?_,F2.g2,F2.l2,?_,?_,?_,F2.q10,F2.l10,?_,?_,?_,?_,?_,?_⟩
   all_goals simp only[sN,seval,c7,F2.h2,F2.h6,F2.h9,F2.h10,F2.h24,F2.h25,F2.h26,F2.h33,F2.h34,sA]
  all_goals simp only[sN,seval,h7,F.h2,F.h6,F.h9,F.h10,F.h24,F.h25,F.h26,F.h33,F.h34,F.h35,bn]
  all_goals rfl
def zr(l:List Obj):List VQ:=(l.filter (rq l)).map fun o=>(1,[o.id],false)
def sZ(l:List Obj):List VQ:=(so (rp l)).map fun k=>(2,jr k,true)
def A2(l:List Obj):List VQ:=(wF l).map (fun i=>(3,[i],false))++((vC (lK l)).filter (HO l)).map fun q=>(4,[q.1,q.2],false)
def A3(l:List Obj):List VQ:=(l.filter (od l)).map (fun o=>(5,[o.id],false))++(l.filter (mn l)).map fun o=>(6,[o.id],false)
def xD(l:List Obj)(rl:List aI):List VQ:=(l.filter (BP l rl)).map fun o=>(7,[o.id],false)
def apx(l:List Obj):GR l=fI 3 ((zr l).map (g9 [])):=by unfold GR PQ zr;rw[mI];rfl
def adm(l:List Obj):Br l=fI 3 ((sZ l).map (g9 [])):=by unfold Br sZ;rw[mI];rfl
def ana(l:List Obj):DH l=fI 3 ((A2 l).map (g9 [])):=by unfold DH axw A2;rw[ff,mI,mI];rfl
def ane(l:List Obj):GQ l=fI 3 ((A3 l).map (g9 [])):=by unfold GQ X6 A3;rw[ff,mI,mI];rfl
def ap5(l:List Obj)(rl:List aI):zK l rl=fI 3 ((xD l rl).map (g9 [])):=by unfold zK Ko xD;rw[mI];rfl
def tf(l:List Obj)(rl:List aI):List (List VQ):=[zr l,sZ l,A2 l,A3 l,xD l rl]
def Tf(rb:Nat):List (FuncId×List aa):=[(58,[]),(59,[]),(60,[]),(61,[]),(56,[.ptr rb 0])]
def BZ(l:List Obj)(rl:List aI)(rb:Nat):List ((FuncId×List aa)×List VQ):=[((58,[]),zr l),((59,[]),sZ l),((60,[]),A2 l),((61,[]),A3 l),((56,[.ptr rb 0]),xD l rl)]
def mG(l:List Obj)(rl:List aI)(name:ag):List aa:=(tf (gi l name) rl).flatMap fun L=>L.map (g9 name)
theorem Y5(l:List Obj)(rl:List aI)(rb:Nat)(name:ag):pZ name (BZ (gi l name) rl rb)=mG l rl name:=rfl
def te(l:List Obj)(views:List ag)(rl:List aI):List aa:=bif dD l then([]::views).flatMap (mG l rl) else []
def Qg(K:List CK):(so K).length=K.length:=by
 unfold so;rw[ce,(xH _ _ _).length_eq,ce]
theorem QF{rl:List aI}{name:ag}(h:l.length<=900):(mG l rl name).length<=3000000:=by
 have t:(gi l name).length<=900:=fA (DG l name).length_le h;generalize hL:gi l name=L at t;have y:L.length*L.length<=900*900:=rf t t;have D:(zr L).length<=L.length:=by unfold zr;rw[ce];exact kT _ _
 have B:(sZ L).length<=L.length*L.length:=by unfold sZ;rw[ce,Qg];exact Sx L
 have A:(wF L).length<=L.length:=by unfold wF;rw[ce];exact kT _ _
 have w:(lK L).length<=L.length:=by unfold lK;rw[ce];exact kT _ _
 have z:(lK L).length*(lK L).length<=900*900:=rf (fA w t) (fA w t)
 grind [PB,A2,ce,A3,xD,mG,tf]
def QG{l:List Obj}{rl:List aI}(h:l.length<=900): ∀N:List ag,(N.flatMap (mG l rl)).length<=N.length*3000000
 | []=>ki _
 |n::N=>by
  rw[uy,cJ,bH,Nat.succ_mul];have w:=QF (rl:=rl) (name:=n) h;have t:=QG (rl:=rl) h N;omega
def asA(w: ∀o∈l,o.oM)(name:ag): ∀o∈gi l name,o.oM:=fun o t=>w o ((DG l name).subset t)
def Yl(l:List Obj):(vp l).ge=true/\(vp l).cells=[vp l]:=by cases l<;>exact⟨rfl,rfl⟩
def X7(n:Nat)(l:List aa):(fI n l).ge=true:=by cases l<;>rfl
theorem UA(t:mU l=true):l.length<small:=by
 have:=(pf.1 t).len
 grind [small]
variable{w0 w1 w2 w3:aa}
def ap4(D:Q.spec 57=some zy)(t:No Q 56){mv:aa}{L:List Obj}(F:ay 6 Obj.val mv L)(N: ∀o∈L,o.oM)(G:mU L=true)(M:s.get [] rb=some (.cells [w0,w1,w2,w3,vv,rv])){rl:List aI}(y:ay 8 aI.val rv rl)(J: ∀x∈rl,x.Ok)(A:rl.length<=1000000):aq Q 56 [.agg [mv],.ptr rb 0] s (zK L rl) s:=by
 have B:=F.cs;have z:=y.ge;have E:zy [.agg [mv],rv]=some (zK L rl):=by
  simp only[akZ,zy,uQ F N (UA G),BM y J A,G]
 have I:=X7 3 (Ko L rl);refine aq.ofW (by rw[Std.P];exact Jo.1) Jo.2 Jo.3 Jo.4 t.s (X7 3 (Ko L rl)) ?_ (Std.H 56) t.w;refine co ?_;unfold zK at E ⊢;simp only[go_sem,seval,B,z,M,aW,aY,D,E,I]
def ad1(F:Q.spec 58=some Di)(E:Q.spec 59=some BV)(D:Q.spec 60=some C2)(B:Q.spec 61=some C3)(G:Q.spec 57=some zy)(y:No Q 56){mv:aa}{L:List Obj}(H:ay 6 Obj.val mv L)(I: ∀o∈L,o.oM)(t:mU L=true){rl:List aI}(z:ay 8 aI.val rv rl)(M: ∀x∈rl,x.Ok)(A:rl.length<=1000000):
 ∀c∈BZ L rl rb, ∀s:St,s.get [] rb=some (.cells [w0,w1,w2,w3,vv,rv])-> ∃v,aq Q c.1.1 (.agg [mv]::c.1.2) s v s/\ay 3 (g9 []) v c.2:=by
 have w:=uQ H I (UA t);intro c J s N;simp only[BZ,fc,zT,or_false] at J;rcases J with rfl|rfl|rfl|rfl|rfl
 exact⟨GR L,aq.sp F (by simp only[akZ,Di,w,t]),by rw[apx];exact tQ _ _ _⟩;exact⟨Br L,aq.sp E (by simp only[akZ,BV,w,t]),by rw[adm];exact tQ _ _ _⟩;exact⟨DH L,aq.sp D (by simp only[akZ,C2,w,t]),by rw[ana];exact tQ _ _ _⟩;exact⟨GQ L,aq.sp B (by simp only[akZ,C3,w,t]),by rw[ane];exact tQ _ _ _⟩;exact⟨zK L rl,ap4 G y H I t N z M A,by rw[ap5];exact tQ _ _ _⟩
theorem asC(a3:Q.spec 28=some vW)(ho:ay 6 Obj.val ov l)(hg: ∀o∈l,o.oM)(H:wx l){rl:List aI}(S:rb<lo){N:List ag}(hN:ay 1 aG nv N)(a9:N.length<=201)(hC:ay 1 fV cv (Tf rb)){s0:St}(U:s0.get [] rb=some (.cells wc))(hc: ∀name, ∀c∈BZ (gi l name) rl rb, ∀s:St,s.get [] rb=some (.cells wc)-> ∃v,aq Q c.1.1 (.agg [vp (gi l name)]::c.1.2) s v s/\ay 3 (g9 []) v c.2)(hx: ∀e lc s w,cR 3 lo s w (N.flatMap (mG l rl))->ac e 7=w->K (.exit 0) ⟨e,57,lc⟩ s):
 ∀(t pre:List ag) (e:ax) (lc:Ag.Loc) (s:St) (w:aa),N=pre++t->cR 3 lo s w (pre.flatMap (mG l rl))->lo<=s.aL->s.gt<=s.aL->(∀k,k<lo->s.get [] k=s0.get [] k)->ac e 2= .rd 2 1 0->lc.gen 2=1->lc.get 2 1=some [ov]->ac e 6=cv->ac e 7=w->ac e 24=nv->ac e 25=uM N.length->ac e 26=uM pre.length->W Q 18 (.loop NJ) ⟨e,57,lc⟩ s K:=by
 intro t
 induction t with
 |nil=>
  intro pre e lc s w B hO G E D J g2 O h6 h7 A z y;have Z:pre.length=N.length:=by rw[B];simp
  have V:pre=N:=by rw[B];simp
  refine bG ?_;simp only[go_sem,seval,NJ,z,y,Z,cD];rw[V] at hO;exact hx _ _ _ w hO (by simp only[sN,seval,h7])
 |cons name t ih=>
  intro pre e lc s w B hO G E D J g2 O h6 h7 A z y;have Y:pre.length<N.length:=by rw[B];simp
  have a2:N[pre.length]? =some name:=by rw[B];simp
  have a0:=fun lc k=>hN.at cH.2.2.1 a2 lc k;have P:=dB (n:=pre.length) (by omega);have a1:=ho.ge;have q1:=abk ho hg (by have:=H.len;omega) name;have eo:iA l name=gi l name:=by unfold iA;rw[H.valid];rfl
  rw[eo] at q1;obtain⟨mc,ms⟩:=Yl (gi l name);have a5:=hC.ge;have a4: ∀mk s',jo ae mk 98 cv s'=some (ic ((5:Nat):Int)):=hC.lenS GD;have R:(pre.flatMap (mG l rl)).length+(mG l rl name).length<=900000000:=by
   have a:=QG (rl:=rl) H.len pre;have b:=QF (rl:=rl) (name:=name) H.len;have c:pre.length*3000000<=200*3000000:=Nat.mul_le_mul_right _ (by omega);omega
  refine bG ?_;simp only[go_sem,seval,NJ,aG,J,g2,O,h6,A,z,y,Y,a0,a1,a3,q1,mc,ms,a5,a4];refine ad0 (name:=name) (cs:=BZ (gi l name) rl rb) hC (by show 5<=1000;decide) (lo:=lo) (rb:=rb) (wc:=wc) S (ov:=ov) (mv:=vp (gi l name)) (nv:=nv) mc ms (s0:=s0) U (hc name) (bse:=pre.flatMap (mG l rl)) (by rw[Y5];exact R) (g10:=lc.gen 10+1) (nn:=N.length) (i:=pre.length) ?_ (BZ (gi l name) rl rb) [] _ _ s w rfl (by simp_all [pZ]) G E D ?_ ⟨?_,?_,?_,?_,?_,?_,?_,?_,?_,?_,?_,?_,?_,?_⟩
  ·intro e2 a7 s2 I a8 M m2 o2 c7 F
   have a6:=F.h26;simp only[go_sem,seval,a6,P];refine ih (pre++[name]) _ _ s2 I (by rw[B];simp) ?_ M m2 o2 ?_ F.g2 F.l2 ?_ ?_ ?_ ?_ ?_
   grind [Y5]
   all_goals simp only[sN,seval,c7,F.h2,F.h6,F.h24,F.h25,sA]
  all_goals simp only[sL,seval,J,g2,O,h6,h7,A,z,y,bn]
  all_goals rfl
def adR(A:Q.spec 31=some jK)(a1:Q.spec 28=some vW)(Z:Q.spec 58=some Di)(Y:Q.spec 59=some BV)(V:Q.spec 60=some C2)(U:Q.spec 61=some C3)(a0:Q.spec 57=some zy)(E:No Q 56)(a3:No Q 18)(P:ay 6 Obj.val ov l)(R: ∀o∈l,o.oM)(M:l.length<small)(hw:dD l=true->wx l){views:List ag}(hV:ay 1 aG vv views)(a4:views.length<=200){rl:List aI}(N:ay 8 aI.val rv rl)(ok: ∀x∈rl,x.Ok)(O:rl.length<=1000000)(hm:s.gt<=s.aL):
 ∃v B,aq Q 18 [.agg [ov],.agg [w0,w1,w2,w3,vv,rv]] s v B/\fY B.heap v (fI 3 (te l views rl)):=by
 have y:=P.cs;have F:=hV.ge;have D:=A0 P R M;obtain⟨z,t⟩:=ct (s.new (.cells [w0,w1,w2,w3,vv,rv]));have zg:z.get [] s.aL=some (.cells [w0,w1,w2,w3,vv,rv]):=by rw[<-t];exact cW
 have zm:z.gt<=z.aL:=by rw[<-t];exact cq hm
 have zn:z.aL=s.aL+1:=by rw[<-t];rfl
 refine aq.ofNRZ aiw (co ?_);cases hmv:dD l with
 |false=>
  rw[hmv] at D;simp only[go_sem,seval,y,t,A,D];refine⟨_,rfl,?_⟩;have:te l views rl=[]:=by unfold te;rw[hmv];rfl
  rw[this];exact⟨1,rfl⟩
 |true=>
  rw[hmv] at D;have W:=hw hmv;obtain⟨nv,H,b1,S,b3,b4,b5⟩:=XY hV (by omega) zm;have J:=S.ge;have I:=S.lenS cH;have hC:ay 1 fV (.list 1 [.func (.func 58) [] [],.func (.func 59) [] [],.func (.func 60) [] [],.func (.func 61) [] [],.func (.func 56) [] [.ptr s.aL 0]] .uP) (Tf s.aL):=.inr ⟨.uP,rfl⟩;have a2:(aa.nilf).cells=[.nilf]:=rfl;simp only[go_sem,seval,a2,y,t,A,D,Aq,HF,zg,aW,aY,F,b1,J,I,GD,bj,bg,aZ,bf,evc];refine asC a1 P R W (rl:=rl) (rb:=s.aL) (lo:=H.aL) (by omega) (wc:=[w0,w1,w2,w3,vv,rv]) S (by rw[bH];omega) hC (s0:=H) ((b5 _ (by omega)).trans zg) (fun name c hc B hr=>ad1 Z Y V U a0 E (Ym _) (asA R name) (pf.2 (W.sub (DG l name)).fine) N ok O c hc B hr) ?_ ([]::views) [] _ _ H .oZ rfl (.inl ⟨rfl,rfl⟩) (br _) b4 (fun _ _=>rfl) ?_ ?_ ?_ ?_ ?_ ?_ ?_ ?_;intro e lc s3 tv hO h7;have G:=hO.ge;simp only[go_sem,seval,h7,G];have e:te l views rl=([]::views).flatMap (mG l rl):=by unfold te;rw[hmv];rfl
  rw[e];refine⟨_,rfl,4,AE hO fun v w=>?_⟩;obtain⟨name,_,w⟩:=uC.1 w;obtain⟨L,_,w⟩:=uC.1 w;obtain⟨q,_,rfl⟩:=dy.1 w;exact UR _ _ _
  all_goals simp only[abc,alb,ah,bQ]
  all_goals rfl
def Rv:dX:=[(31,jK),(28,vW),(58,Di),(59,BV),(60,C2),(61,C3),(57,zy)]
def abW:dR Rv:=.cons xd (.cons abl (.cons apC (.cons adn (.cons anb (.cons anc (.cons ap7 .nil))))))
def qR(l:List Obj):Bool:= !dD l||HW l
def o4:Sp
 | [m,.agg [a,b,c,d,vv,rv]]=>(lz m).bind fun l=>(eX 1 jl vv).bind fun views=>(sX rv).bind fun rl=>bif qR l&&(decide (views.length<=200)&&eO [a,b,c,d]) then some (fI 3 (te l views rl)) else none
 |_=>none
variable{c d:aa}
def El{m a b:aa}{views:List ag}{rl:List aI}(y:lz m=some l)(t:eX 1 jl vv=some views)(w:sX rv=some rl)(h1:qR l=true)(A:views.length<=200)(z:eO [a,b,c,d]=true):o4 [m,.agg [a,b,c,d,vv,rv]]=some (fI 3 (te l views rl)):=by
 simp only[akZ,o4,y,t,w,h1,A,z,dT,cw]
def Mc:db ae 18 o4:=by
 intro args u t G h w V Y hx;unfold o4 at t;split at t;rename_i m a b c d vv rv;simp only[ak] at t;obtain⟨l,O,views,z,rl,A,t⟩:=t;obtain⟨U,t⟩:=bh t;have t:=sI t;subst t;simp only[bu,dE] at U;obtain⟨B,P,y⟩:=U;obtain⟨v,rfl,O,S,hs⟩:=rk O;obtain⟨A,R,M⟩:=Ht A;have z:=kr (fun _ _ h=>pM h) z;obtain⟨ht,Z,F,N⟩:=qQ O S;obtain⟨I,E⟩:=Kq A R;obtain⟨H,D⟩:=pU vQ z;have F:en [.agg [v],.agg [a,b,c,d,vv,rv]]=[.agg [Z],.agg [de a,de b,de c,de d,de vv,de rv]]:=by simp only[en,de,F];rw[<-F];simp only[de,en]
 have J:dD l=true->wx l:=fun e=>by
  unfold qR at B;rw[e] at B;exact MN.1 (by simpa using B)
 simp only[eO,bu] at y;refine j9 abW (W:=[]) .nil (args:=[.agg [v],.agg [a,b,c,d,vv,rv]]) (by
  have:d8 (.agg [a,b,c,d,vv,rv])=true:=by
   simp only[d8,eO,y.1,y.2.1,y.2.2.1,y.2.2.2.1,I,H,cw]
  simp only[eO,ht,this,cw]) (fun ch=>?_) G h w V Y hx
 rw[F];exact adR (Q:=QW Rv [] ch) rfl rfl rfl rfl rfl rfl rfl ⟨rfl,rfl⟩ ⟨rfl,rfl⟩ N S hs J D P E R M (by decide);cases t
abbrev VE:=ag×VQ
def dH(p:VE):aa:=g9 p.1 p.2
def Ed:aa->Option VE
 | .agg [.str n,.int .i64 k,.list 1 xs .no]=>(iV jl xs).bind fun l=>some (n,k,l,true)
 | .agg [.str n,.int .i64 k,.list 1 xs .uP]=>(iV jl xs).bind fun l=>some (n,k,l,false)
 |_=>none
def Sv(p:VE):Ed (dH p)=some p:=by
 obtain⟨n,k,l,b⟩:=p;have h:=yX oc l;cases b with
 |true=>show(iV jl (l.map aG)).bind _=_;rw[h];rfl
 |false=>show(iV jl (l.map aG)).bind _=_;rw[h];rfl
variable{p:VE}
def Su(h:Ed v=some p):v=dH p:=by
 unfold Ed at h;split at h;simp only[ak,aJ] at h;obtain⟨l,t,rfl⟩:=h
 have:=FE (fun _ _ h=>pM h) t;rw[this];rfl;simp only[ak,aJ] at h;obtain⟨l,t,rfl⟩:=h
 have:=FE (fun _ _ h=>pM h) t;rw[this];rfl;cases h
def TQ(p:VE):bL (dH p)=true:=by
 obtain⟨n,k,l,b⟩:=p;have h:bL (.list 1 (l.map aG) (vG b))=true:=by rw[Gj];cases b<;>rfl
 show(true&&(true&&(bL (.list 1 (l.map aG) (vG b))&&true)))=true;rw[h];rfl
def tj(p q:VE):Bool:=p.1==q.1&&(an p.2.1 q.2.1&&wV p.2.2.1 q.2.2.1)
def oI:List VE->List VE->Bool
 | [],[]=>true
 |p::a,q::b=>tj p q&&oI a b
 |_,_=>false
def Z7: ∀ {a b:List VE},oI a b=true->a.length=b.length
 | [],[],_=>rfl
 | [],_::_,h=>by cases h
 |_::_,[],h=>by cases h
 |p::a,q::b,h=>by
  simp only[oI,bu] at h;rw[bH,bH,Z7 h.2]
def u7(l:List VE):Bool:=l.all fun p=>decide (p.2.2.1.length<=1000000)
variable{a b:List VE}{u:aa}
def aqp(J:Q.spec 35=some AK)(ha:ay 3 dH u a)(hb:ay 3 dH v b)(hl:a.length=b.length)(a3:a.length<=1000000000)(fa:u7 a=true)(fb:u7 b=true)(U:s.gt<=s.aL)(hx: ∀e,oI a b=true->K (.exit 0) ⟨e,55,lc⟩ s)(Z: ∀e,oI a b=false->ac e 4= .bool false->K .ret ⟨e,55,lc⟩ s):
 ∀(F rb pa D:List VE) (e:ax),a=pa++F->b=D++rb->pa.length=D.length->oI a b=oI F rb->ac e 0=u->ac e 1=v->ac e 5=uM pa.length->W Q 17 (.loop CB) ⟨e,55,lc⟩ s K:=by
 intro F;have z:=ha.lenS j6;have t:=ha.ge;have B:=hb.ge
 induction F with
 |nil=>
  intro rb pa D e N M h3 h4 w G y;have a0:pa.length=a.length:=by rw[N];simp
  have Y:rb=[]:=by
   have:b.length=D.length+rb.length:=by rw[M];simp
   exact uv (by omega)
  subst Y;refine bG ?_;simp only[go_sem,seval,CB,w,y,t,z,a0,cD];exact hx _ h4
 |cons p F ih=>
  intro rb pa D e N M h3 h4 w G y;have A:pa.length<a.length:=by rw[N];simp
  cases rb with
  |nil=>
   exfalso;have:b.length=D.length:=by rw[M];simp
   omega
  |cons q rb=>
   have I:a[pa.length]? =some p:=by rw[N];simp
   have H:b[pa.length]? =some q:=by rw[M,h3];simp
   have R:=fun lc k=>ha.at j6.2.2.1 I lc k;have P:=fun lc k=>hb.at j6.2.2.1 H lc k;have V:=dB (n:=pa.length) (by omega);have f1:p.2.2.1.length<=1000000:=by
    have:=f8.1 fa p (eP I);simpa using this
   have f2:q.2.2.1.length<=1000000:=by
    have:=f8.1 fb q (eP H);simpa using this
   have O:AK [.list 1 (p.2.2.1.map aG) (vG p.2.2.2),.list 1 (q.2.2.1.map aG) (vG q.2.2.2)]=some (.bool (wV p.2.2.1 q.2.2.1)):=by
    have a1:=Hx (v:=.list 1 (p.2.2.1.map aG) (vG p.2.2.2)) (.inr ⟨_,rfl⟩) (by rw[Gj];cases p.2.2.2<;>rfl);have a2:=Hx (v:=.list 1 (q.2.2.1.map aG) (vG q.2.2.2)) (.inr ⟨_,rfl⟩) (by rw[Gj];cases q.2.2.2<;>rfl);have b1:bw p.2.2.1.length 1000000=true:=cP f1;have b2:bw q.2.2.1.length 1000000=true:=cP f2;simp only[akZ,AK,a1,a2,b1,b2,cw]
   have S:oI a b=(tj p q&&oI F rb):=h4;refine lk ?_;cases e1:p.1==q.1 with
   |false=>
    have E:tj p q=false:=by unfold tj;rw[e1];rfl
    simp only[go_sem,seval,CB,w,y,t,z,A];refine iT U ?_;simp only[go_sem,AV,seval,w,G,y,t,B,R,P,dH,g9,e1];exact Z _ (by rw[S,E,dW]) (by simp only[sN,seval])
   |true=>
    cases e2:an p.2.1 q.2.1 with
    |false=>
     have E:tj p q=false:=by unfold tj;rw[e1,e2];rfl
     simp only[go_sem,seval,CB,w,y,t,z,A];refine iT U ?_;simp only[go_sem,AV,seval,w,G,y,t,B,R,P,dH,g9,e1,e2];exact Z _ (by rw[S,E,dW]) (by simp only[sN,seval])
    |true=>
     cases e3:wV p.2.2.1 q.2.2.1 with
     |false=>
      have E:tj p q=false:=by unfold tj;rw[e1,e2,e3];rfl
      rw[e3] at O;simp only[go_sem,seval,CB,w,y,t,z,A];refine iT U ?_;simp only[go_sem,AV,seval,w,G,y,t,B,R,P,dH,g9,e1,e2];simp only[go_sem,AV,seval,J,O];exact Z _ (by rw[S,E,dW]) (by simp only[sN,seval])
     |true=>
      have E:tj p q=true:=by unfold tj;rw[e1,e2,e3];rfl
      rw[e3] at O;simp only[go_sem,seval,CB,w,y,t,z,A];refine iT U ?_;simp only[go_sem,AV,seval,w,G,y,t,B,R,P,dH,g9,e1,e2];simp only[go_sem,AV,seval,J,O,y,V];refine ih rb (pa++[p]) (D++[q]) _ (by rw[N];simp) (by rw[M];simp) (by simp[h3]) (by rw[S,E,eH]) ?_ ?_ ?_
      all_goals simp only[sN,seval,w,G,sA]
def aqo(F:Q.spec 35=some AK)(G:No Q 17)(E:ay 3 dH u a)(B:ay 3 dH v b)(D:a.length<=1000000000)(N:u7 a=true)(M:u7 b=true)(H:s.gt<=s.aL):aq Q 17 [u,v] s (.bool (oI a b)) s:=by
 have z:=E.lenS j6;have w:=B.lenS j6;have A:=E.ge;have y:=B.ge;refine aq.ofNZ aiv (co ?_);cases hn:an ((a.length:Nat):Int) ((b.length:Nat):Int) with
 |false=>
  have t:oI a b=false:=by
   cases h:oI a b with
   |false=>rfl
   |true=>
    rw[Z7 h] at hn;unfold an at hn;simp at hn
  simp only[go_sem,seval,A,y,z,w,hn,t]
 |true=>
  have I:a.length=b.length:=by
   have:=of_decide_eq_true hn;omega
  simp only[go_sem,seval,A,y,z,w,hn];refine aqp F E B I D N M H ?_ ?_ a b [] [] _ rfl rfl rfl rfl ?_ ?_ ?_;intro e t;simp only[go_sem,seval,t];intro e t J;simp only[go_sem,seval,t,J]
  all_goals simp only[sN,seval,bn]
  all_goals rfl
def vM:Sp
 | [u,v]=>(eX 3 Ed u).bind fun a=>(eX 3 Ed v).bind fun b=>bif bw a.length 1000000000&&(u7 a&&u7 b) then some (.bool (oI a b)) else none
 |_=>none
def P3(y:ay 3 dH u a)(w:ay 3 dH v b)(t:a.length<=1000000000)(A:u7 a=true)(z:u7 b=true):vM [u,v]=some (.bool (oI a b)):=by
 have q:bw a.length 1000000000=true:=cP t;simp only[akZ,vM,mX Sv y,mX Sv w,q,A,z,cw]
def RS:dX:=[(35,AK)]
def ach:dR RS:=.cons ag3 .nil
def Z6:db ae 17 vM:=by
 intro args x t G I w B D H;unfold vM at t;split at t;rename_i u v;simp only[ak] at t;obtain⟨a,A,b,z,h⟩:=t;obtain⟨y,h⟩:=bh h;have h:=sI h;subst h;simp only[bu] at y;have A:=kr (fun _ _ h=>Su h) A;have z:=kr (fun _ _ h=>Su h) z;obtain⟨F,N⟩:=pU TQ A;obtain⟨E,M⟩:=pU TQ z;refine j9 ach (W:=[]) .nil (by simp only[eO,F,E,cw]) (fun J=>?_) G I w B D H;exact⟨_,_,aqo (Q:=QW RS [] J) rfl ⟨rfl,rfl⟩ N M (fW y.1) y.2.1 y.2.2 (by decide),⟨1,rfl⟩⟩;cases t
structure aI.OkS (x:aI):Prop where
 vals:ay 1 aG x.valuesV x.values
 pv:bL x.valuesV=true
 area:x.area.length<small
 key:x.key.length<small
 ifK:x.ifK.length<small
 len:x.values.length<small
def x8:aa->Option aI
 | .agg [.bool st,.str a,.int .i64 k,.str ik,.str iv,.int .i64 op,.str key,vv]=>(eX 1 jl vv).bind fun vs=>bif bL vv&&(bm a.length small&&(bm key.length small&&(bm ik.length small&&bm vs.length small))) then some ⟨st,a,k,ik,iv,op,key,vv,vs⟩ else none
 |_=>none
variable{x:aI}
def Sm(h:x8 v=some x):v=x.val/\x.OkS:=by
 unfold x8 at h;split at h;simp only[ak] at h;obtain⟨vs,w,h⟩:=h;obtain⟨t,h⟩:=bh h;injection h with h;subst h
 simp only[bu] at t;exact⟨rfl,kr (fun _ _ h=>pM h) w,t.1,fW t.2.1,fW t.2.2.1,fW t.2.2.2.1,fW t.2.2.2.2⟩;cases h
def acS(t:x.OkS):x8 x.val=some x:=by
 have w:=mX oc t.vals;have B:bm x.area.length small=true:=cP t.area;have A:bm x.key.length small=true:=cP t.key;have z:bm x.ifK.length small=true:=cP t.ifK;have y:bm x.values.length small=true:=cP t.len;simp only[akZ,x8,aI.val,aI.cells,w,t.pv,B,A,z,y,cw]
theorem XF: ∀ {xs:List aa} {l:List aI},iV x8 xs=some l-> ∀x∈l,x.OkS
 | [],l,h=>by grind [iV]
 |x::xs,l,h=>by
  simp only[iV,ak,aJ] at h;obtain⟨a,z,r,w,rfl⟩:=h;intro y t;rcases fc.1 t with rfl|t
  exact(Sm z).2;exact XF w y t
def XH: ∀ {l:List aI},(∀x∈l,x.OkS)->iV x8 (l.map aI.val)=some l
 | [],_=>rfl
 |x::l,h=>by
  simp only[fy,iV,acS (h x iL),au,XH (l:=l) fun y t=>h y (iE _ t)]
def Ah(v:aa):Option (List aI):=(eX 8 x8 v).bind fun l=>bif bm l.length small then some l else none
variable{l:List aI}
theorem So(h:Ah v=some l):ay 8 aI.val v l/\(∀x∈l,x.OkS)/\l.length<small:=by
 unfold Ah at h;simp only[ak] at h;obtain⟨y,t,h⟩:=h;obtain⟨w,h⟩:=bh h;injection h with h;subst h
 refine⟨kr (fun v a h=>(Sm h).1) t,?_,fW w⟩;unfold eX at t
 grind [XF]
theorem Sq(h:ay 8 aI.val v l)(t: ∀x∈l,x.OkS)(w:l.length<small):Ah v=some l:=by
 have y:eX 8 x8 v=some l:=by
  rcases h with⟨rfl,rfl⟩|⟨r,rfl⟩
  rfl;simp only[afo,eX,XH t]
 grind [bm,cP,Ah]
def PX(h:ay 8 aI.val v l)(w: ∀x∈l,x.OkS):d8 v=true/\ay 8 aI.val (de v) l:=by
 have t:pures (l.map aI.val)=true:=by
  rw[Bd];intro v z;obtain⟨x,y,rfl⟩:=dy.1 z;simp only[aI.val,aI.cells,bL,pures,(w x y).pv,cw]
 rcases h with⟨rfl,rfl⟩|⟨r,rfl⟩
 exact⟨rfl,.inl ⟨rfl,rfl⟩⟩;exact⟨by simpa[d8] using t,.inr (by
  simp only[de,lh t];exact⟨_,rfl⟩)⟩
def Gr(x:aI):Int:=IntKind.i64.wrap (IntKind.i64.wrap (IntKind.i64.wrap ((x.area.length:Nat)+(x.key.length:Nat):Int)+(x.ifK.length:Nat))+(x.ifV.length:Nat))
def wH(v:ag):Bool:=bc 300 ((v.length:Nat):Int)
def xE(x:aI):Bool:=bc 300 (Gr x)||bc 65 ((x.values.length:Nat):Int)
def sl(x:aI):Bool:= !xE x&&x.values.all fun v=> !wH v
def u6(l:List aI)(n:Int):Bool:=l.all sl&&cr ((l.length:Nat):Int) n
def agk(R:ay 8 aI.val rv l)(hi:l[i]? =some x)(I:x.OkS){n:Int}(Z: ∀e,(x.values.all fun v=> !wH v)=true->ac e 0=rv->ac e 1=ic n->ac e 5=uM i->K (.exit 2) ⟨e,76,lc⟩ s)(hr: ∀e,(x.values.all fun v=> !wH v)=false->ac e 4= .bool false->K .ret ⟨e,76,lc⟩ s):
 ∀(t pre:List ag) (e:ax),x.values=pre++t->(x.values.all fun v=> !wH v)=(t.all fun v=> !wH v)->ac e 0=rv->ac e 1=ic n->ac e 5=uM i->ac e 6=uM pre.length->W Q 55 (.loop Jm) ⟨e,76,lc⟩ s K:=by
 intro t;have Y:=ajJ;have V:=I.len;have y:=I.vals.lenS cH;have z:=I.vals.ge;have A:=R.ge;have B:=fun lc k=>R.at t9.2.2.1 hi lc k
 induction t with
 |nil=>
  intro pre e H S D P G J;have N:pre.length=x.values.length:=by rw[H];simp
  refine bG ?_;simp only[go_sem,seval,Jm,D,G,J,A,B,aI.val,aI.cells,z,y,N,cD]
  simp_all [sN]
 |cons v t U=>
  intro pre e H S D P G J;have E:pre.length<x.values.length:=by rw[H];simp
  have O:x.values[pre.length]? =some v:=by rw[H];simp
  have F:=fun lc k=>I.vals.at cH.2.2.1 O lc k;have M:IntKind.i64.wrap (((pre.length:Nat):Int)+1)=((pre.length+1:Nat):Int):=by rw[iC (by omega) (by omega)];omega
  refine bG ?_;cases hb:wH v with
  |true=>
   have w:=hb;unfold wH at w;simp only[go_sem,seval,Jm,D,G,J,A,B,F,aI.val,aI.cells,aG,z,y,E,lC,w]
   simp_all [sN]
  |false=>
   have w:=hb;unfold wH at w;simp only[go_sem,seval,Jm,D,G,J,A,B,F,aI.val,aI.cells,aG,z,y,E,lC,w,M];refine U (pre++[v]) _ (by rw[H];simp) (by rw[S,ju,hb];rfl) ?_ ?_ ?_ ?_
   all_goals simp only[sN,seval,D,P,G,sA]
theorem aga(O:ay 8 aI.val rv l)(U: ∀x∈l,x.OkS)(a0:l.length<small){n:Int}(V:s.gt<=s.aL)(hx: ∀e,l.all sl=true->ac e 0=rv->ac e 1=ic n->K (.exit 0) ⟨e,76,lc⟩ s)(S: ∀e,l.all sl=false->ac e 4= .bool false->K .ret ⟨e,76,lc⟩ s):
 ∀(w pre:List aI) (e:ax),l=pre++w->l.all sl=w.all sl->ac e 0=rv->ac e 1=ic n->ac e 5=uM pre.length->W Q 55 (.loop Fq) ⟨e,76,lc⟩ s K:=by
 intro w;have hs:=ajJ;have t:=O.ge;have D:=O.lenS t9
 induction w with
 |nil=>
  intro pre e M h2 y Z A;have Y:pre.length=l.length:=by rw[M];simp
  refine lk ?_;simp only[go_sem,seval,Fq,y,A,t,D,Y,cD]
  simp_all [sN]
 |cons x w ih=>
  intro pre e M h2 y Z A;have E:pre.length<l.length:=by rw[M];simp
  have F:l[pre.length]? =some x:=by rw[M];simp
  have P:=U x (eP F);have I:=P.vals.ge;have H:=P.vals.lenS cH;have z:=fun lc k=>O.at t9.2.2.1 F lc k;have R:IntKind.i64.wrap (((pre.length:Nat):Int)+1)=((pre.length+1:Nat):Int):=by rw[iC (by omega) (by omega)];omega
  have N:xE x=true->l.all sl=false:=fun G=>by
   grind [sl]
  cases B:bc 300 (Gr x) with
  |true=>
   have G:xE x=true:=by unfold xE;rw[B,Bool.true_or]
   unfold Gr at B;refine lk ?_;simp only[go_sem,seval,Fq,y,A,t,D,E];refine iT V ?_;simp only[go_sem,CG,seval,y,A,t,z,aI.val,aI.cells,lC,B];exact S _ (N G) (by simp only[sN,seval])
  |false=>
   cases e2:bc 65 ((x.values.length:Nat):Int) with
   |true=>
    have G:xE x=true:=by unfold xE;rw[B,e2];rfl
    unfold Gr at B;refine lk ?_;simp only[go_sem,seval,Fq,y,A,t,D,E];refine iT V ?_;simp only[go_sem,CG,seval,y,A,t,z,aI.val,aI.cells,lC,B];simp only[go_sem,CG,seval,y,A,t,z,aI.val,aI.cells,I,H,e2];exact S _ (N G) (by simp only[sN,seval])
   |false=>
    have G:xE x=false:=by unfold xE;rw[B,e2];rfl
    have hf:sl x=(x.values.all fun v=> !wH v):=by unfold sl;rw[G];rfl
    unfold Gr at B;refine lk ?_;simp only[go_sem,seval,Fq,y,A,t,D,E];refine iT V ?_;simp only[go_sem,CG,seval,y,A,t,z,aI.val,aI.cells,lC,B];simp only[go_sem,CG,seval,y,A,t,z,aI.val,aI.cells,I,H,e2];refine agk O F P (n:=n) ?_ ?_ x.values [] _ rfl rfl ?_ ?_ ?_ ?_
    ·intro B J c0 c1 c5
     simp only[go_sem,seval,c5,R];refine ih (pre++[x]) _ (by rw[M];simp) (by grind) ?_ ?_ ?_
     all_goals simp_all [sN]
    intro B J c4;exact S _ (by grind) c4
    all_goals simp only[sN,seval,y,Z,A,bn]
    all_goals rfl
def afy(E:No Q 55)(B:ay 8 aI.val rv l)(A: ∀x∈l,x.OkS)(z:l.length<small)(n:Int)(H:s.gt<=s.aL):aq Q 55 [rv,ic n] s (.bool (u6 l n)) s:=by
 have w:=B.ge;have y:=B.lenS t9;refine aq.ofNZ akY (co ?_);simp only[go_sem,seval,w];refine aga B A z (n:=n) H ?_ ?_ l [] _ rfl rfl ?_ ?_ ?_;intro e t G F;have D:u6 l n=cr ((l.length:Nat):Int) n:=by unfold u6;rw[t];rfl
 simp only[go_sem,seval,G,F,w,y,D];intro e t I;have D:u6 l n=false:=by unfold u6;rw[t];rfl
 simp only[go_sem,seval,I,D]
 all_goals simp_all [sN]
def Cj:Sp
 | [v,.int .i64 n]=>(Ah v).bind fun l=>some (.bool (u6 l n))
 |_=>none
def afu(h:ay 8 aI.val v l)(t: ∀x∈l,x.OkS)(w:l.length<small)(n:Int):Cj [v,ic n]=some (.bool (u6 l n)):=by
 simp only[Cj,Sq h t w,au]
def afv:db ae 55 Cj:=by
 intro args u t G F w A B D;unfold Cj at t;split at t;rename_i v n;simp only[ak] at t;obtain⟨l,J,h⟩:=t;have h:=sI h;subst h;obtain⟨E,z,y⟩:=So J;obtain⟨I,H⟩:=PX E z;refine j9 (T:=[]) (W:=[]) .nil .nil (args:=[v,ic n]) (by show(d8 v&&_)=true;rw[I];rfl) (fun M=>?_) G F w A B D;exact⟨_,_,afy (Q:=QW [] [] M) ⟨rfl,rfl⟩ H z y n (by decide),⟨1,rfl⟩⟩;cases t
def yd(v:ag):Bool:=bc 60 ((v.length:Nat):Int)
def wQ(l:List Obj)(views:List ag)(rl:List aI)(n:Int):Bool:=(views.all fun v=> !yd v)&&(rF l n&&(cr ((views.length:Nat):Int) 3&&u6 rl 5))
def kQ(l:List Obj)(rl:List aI)(name:ag):List VE:=(tf (gi l name) rl).flatMap fun L=>L.map fun q=>(name,q)
theorem QD(l:List Obj)(rl:List aI)(name:ag):mG l rl name=(kQ l rl name).map dH:=by
 unfold mG kQ;rw[List.map_flatMap];congr 1;funext L;rw[mI];rfl
def fQ(l:List Obj)(views:List ag)(rl:List aI):List VE:=bif dD l then([]::views).flatMap (kQ l rl) else []
theorem Ek(l:List Obj)(views:List ag)(rl:List aI):te l views rl=(fQ l views rl).map dH:=by
 unfold te fQ;cases dD l with
 |false=>rfl
 |true=>
  show([]::views).flatMap (mG l rl)=(([]::views).flatMap (kQ l rl)).map dH;rw[List.map_flatMap];congr 1
  grind [QD]
variable{l:List Obj}
def Td(h:dD l=true->l.length<=900)(views:List ag)(rl:List aI):(fQ l views rl).length<=(views.length+1)*3000000:=by
 unfold fQ;cases hv:dD l with
 |false=>exact ki _
 |true=>
  have t:=QG (rl:=rl) (h hv) ([]::views)
  simp_all [kQ,QD]
def afC{views:List ag}(M:ay 1 aG vv views)(U:views.length<small){mv:aa}{n:Int}(G:lc.get 4 1=some [w0,w1,w2,w3,vv,rv])(N:lc.gen 4=1)(V: ∀e,(views.all fun v=> !yd v)=true->ac e 2=ic n->ac e 3= .rd 3 1 0->ac e 4= .rd 4 1 0->K (.exit 0) ⟨e,36,lc⟩ s)(Z: ∀e,(views.all fun v=> !yd v)=false->ac e 6= .bool false->K .ret ⟨e,36,lc⟩ s):
 ∀(t pre:List ag) (e:ax),views=pre++t->(views.all fun v=> !yd v)=(t.all fun v=> !yd v)->ac e 2=ic n->ac e 3= .rd 3 1 0->ac e 4= .rd 4 1 0->ac e 7=uM pre.length->W Q 16 (.loop IJ) ⟨e,36,lc⟩ s K:=by
 intro t;have Y:=ajJ;have z:=M.ge;have y:=M.lenS cH
 induction t with
 |nil=>
  intro pre e E R P O A F;have I:pre.length=views.length:=by rw[E];simp
  refine bG ?_;simp only[go_sem,seval,IJ,A,G,N,F,z,y,I,cD]
  simp_all [sN]
 |cons v t S=>
  intro pre e E R P O A F;have B:pre.length<views.length:=by rw[E];simp
  have J:views[pre.length]? =some v:=by rw[E];simp
  have D:=fun lc k=>M.at cH.2.2.1 J lc k;have H:IntKind.i64.wrap (((pre.length:Nat):Int)+1)=((pre.length+1:Nat):Int):=by rw[iC (by omega) (by omega)];omega
  refine bG ?_;cases hb:yd v with
  |true=>
   have w:=hb;unfold yd at w;simp only[go_sem,seval,IJ,aG,A,G,N,F,z,y,B,D,lC,w]
   simp_all [sN]
  |false=>
   have w:=hb;unfold yd at w;simp only[go_sem,seval,IJ,aG,A,G,N,F,z,y,B,D,lC,w,H];refine S (pre++[v]) _ (by rw[E];simp) (by rw[R,ju,hb];rfl) ?_ ?_ ?_ ?_
   all_goals simp only[sN,seval,P,O,A,sA]
variable{rl:List aI}
def aft(z:Q.spec 33=some Cl)(S:Q.spec 55=some Cj)(a0:No Q 16)(Z:ay 6 Obj.val ov l)(hg: ∀o∈l,o.oM)(N:l.length<small){views:List ag}(R:ay 1 aG vv views)(M:views.length<small)(E:ay 8 aI.val rv rl)(ok: ∀x∈rl,x.OkS)(O:rl.length<small)(n:Int)(s:St):aq Q 16 [.agg [ov],.agg [w0,w1,w2,w3,vv,rv],ic n] s (.bool (wQ l views rl n)) s:=by
 have y:=Z.cs;have B:=R.ge;have A:=R.lenS cH;have F:=E.ge;have D:=afz Z hg N n;have q2:=afu E ok O 5;obtain⟨lc,t⟩:=ct (Ag.Loc.set (Ag.Loc.set [] 3 1 [ov]) 4 1 [w0,w1,w2,w3,vv,rv]);have I:lc.get 4 1=some [w0,w1,w2,w3,vv,rv]:=by rw[<-t];rfl
 have U:lc.gen 4=1:=by rw[<-t];rfl
 have J:lc.get 3 1=some [ov]:=by rw[<-t];rfl
 have V:lc.gen 3=1:=by rw[<-t];rfl
 refine aq.ofNZ aiu (co ?_);simp only[go_sem,seval,y,t];refine afC R M (mv:=ov) (n:=n) I U ?_ ?_ views [] _ rfl rfl ?_ ?_ ?_ ?_;intro e w H G Y;have P:wQ l views rl n=(rF l n&&(cr ((views.length:Nat):Int) 3&&u6 rl 5)):=by unfold wQ;rw[w,eH]
 rw[P];cases e1:rF l n with
 |false=>
  rw[e1] at D;simp only[go_sem,seval,H,G,J,V,y,z,D,dW]
 |true=>
  rw[e1] at D;cases e2:cr ((views.length:Nat):Int) 3 with
  |false=>
   simp only[go_sem,seval,H,G,Y,J,V,I,U,y,B,A,z,D,e2,dW,Bool.and_false]
  |true=>
   simp only[go_sem,seval,H,G,Y,J,V,I,U,y,B,A,F,z,D,e2,S,q2,eH]
 intro e w h6;have P:wQ l views rl n=false:=by unfold wQ;rw[w,dW]
 simp only[go_sem,seval,h6,P]
 all_goals simp_all [sG]
def Ck:Sp
 | [m,.agg [a,b,c,d,vv,rv],.int .i64 n]=>(lz m).bind fun l=>(eX 1 jl vv).bind fun views=>(Ah rv).bind fun rl=>bif bm views.length small&&eO [a,b,c,d] then some (.bool (wQ l views rl n)) else none
 |_=>none
def Rx:dX:=[(33,Cl),(55,Cj)]
def abX:dR Rx:=.cons afA (.cons afv .nil)
theorem afw{m a b:aa}{views:List ag}(y:lz m=some l)(t:eX 1 jl vv=some views)(w:Ah rv=some rl)(A:views.length<small)(z:eO [a,b,c,d]=true)(n:Int):Ck [m,.agg [a,b,c,d,vv,rv],ic n]=some (.bool (wQ l views rl n)):=by
 grind [bm,cP,Ck]
def afx:db ae 16 Ck:=by
 intro args u t G h w S U Y;unfold Ck at t;split at t;rename_i m a b c d vv rv n;simp only[ak] at t;obtain⟨l,M,views,z,rl,A,t⟩:=t;obtain⟨R,t⟩:=bh t;have t:=sI t;subst t;simp only[bu] at R;obtain⟨N,y⟩:=R;obtain⟨v,rfl,M,P,hs⟩:=rk M;obtain⟨A,O,I⟩:=So A;have z:=kr (fun _ _ h=>pM h) z;obtain⟨Z,V,E,J⟩:=qQ M P;obtain⟨H,D⟩:=PX A O;obtain⟨F,B⟩:=pU vQ z;have E:en [.agg [v],.agg [a,b,c,d,vv,rv],ic n]=[.agg [V],.agg [de a,de b,de c,de d,de vv,de rv],ic n]:=by simp only[en,de,E];rw[<-E];simp only[de,en]
 simp only[eO,bu] at y;refine j9 abX (W:=[]) .nil (args:=[.agg [v],.agg [a,b,c,d,vv,rv],ic n]) (by
  have:d8 (.agg [a,b,c,d,vv,rv])=true:=by
   simp only[d8,eO,y.1,y.2.1,y.2.2.1,y.2.2.2.1,H,F,cw]
  show(d8 (.agg [v])&&(d8 (.agg [a,b,c,d,vv,rv])&&_))=true;rw[Z,this];rfl) (fun ch=>?_) G h w S U Y
 rw[E];exact⟨_,_,aft (Q:=QW Rx [] ch) rfl rfl ⟨rfl,rfl⟩ J P hs B (fW N) D O I n _,⟨1,rfl⟩⟩;cases t
def awX:aa->Bool
 | .agg _=>false
 | .tup _=>false
 | .list _ xs _=>pures xs
 |v=>bL v
def HY(h:awX v=true):d8 v=true:=by
 cases v<;>first|exact h|(cases h;done)
def HZ(h:awX v=true):awX (de v)=true:=by
 cases v with
 |list n t r=>
  have h:pures t=true:=h;simp only[de,lh h];cases r<;>exact h
 |agg cs=>cases h
 |tup cs=>cases h
 |_=>rw[KU h];exact h
def tq(a b c d:aa):Bool:=awX a&&(awX b&&(awX c&&awX d))
def Cn{a b:aa}(h:tq a b c d=true):eO [a,b,c,d]=true:=by
 simp only[tq,bu] at h;simp only[eO,HY h.1,HY h.2.1,HY h.2.2.1,HY h.2.2.2,cw]
def UE{a b:aa}(h:tq a b c d=true):tq (de a) (de b) (de c) (de d)=true:=by
 simp only[tq,bu] at h ⊢;exact⟨HZ h.1,HZ h.2.1,HZ h.2.2.1,HZ h.2.2.2⟩
def Uv{l:List VE}(h: ∀p∈l,p.2.2.1.length<=2):u7 l=true:=by
 unfold u7;rw[f8];intro p t
 have:=h p t;exact dQ (by omega)
variable{q:VQ}
def adY{L:List VQ}(w:L∈tf l rl)(t:q∈L):q.2.1.length<=2:=by
 simp only[tf,fc,zT,or_false] at w;rcases w with rfl|rfl|rfl|rfl|rfl
 obtain⟨o,_,rfl⟩:=dy.1 t;exact jQ 1;obtain⟨k,_,rfl⟩:=dy.1 t;show(jr k).length<=2;unfold jr;cases k.1==k.2;exact br 2;exact jQ 1;rcases lj.1 t with t|t
 obtain⟨o,_,rfl⟩:=dy.1 t;exact jQ 1;obtain⟨o,_,rfl⟩:=dy.1 t;exact br 2;rcases lj.1 t with t|t
 obtain⟨o,_,rfl⟩:=dy.1 t;exact jQ 1;obtain⟨o,_,rfl⟩:=dy.1 t;exact jQ 1;obtain⟨o,_,rfl⟩:=dy.1 t;exact jQ 1
def asv{name:ag}(h:p∈kQ l rl name):p.2.2.1.length<=2:=by
 obtain⟨L,y,w⟩:=uC.1 h;obtain⟨q,t,rfl⟩:=dy.1 w;exact adY y t
def Tc{views:List ag}(h:p∈fQ l views rl):p.2.2.1.length<=2:=by
 unfold fQ at h;cases hv:dD l with
 |false=>rw[hv] at h;cases h
 |true=>
  rw[hv] at h;obtain⟨n,_,t⟩:=uC.1 h;exact asv t
def agZ(a:List ag):wV a a=true:=by
 rw[agY,aen];rfl
def Kv: ∀l:List VE,oI l l=true
 | []=>rfl
 |p::l=>by
  have t:an p.2.1 p.2.1=true:=EN _;simp only[oI,tj,bS,t,agZ,Kv l,cw]
def aAW(h:n<9223372036854775808):uW ae 3 294 (uM n)=some (.int .u64 (n:Nat)):=by
 have e:IntKind.u64.wrap (n:Int)=(n:Int):=by unfold IntKind.wrap;simp[IntKind.bits,IntKind.signed];omega
 have t:uW ae 3 294 (uM n)=some (.int .u64 (IntKind.u64.wrap (n:Int))):=by kernel_rfl
 rw[t,e]
def aAV(h:n<9223372036854775808):uW ae 294 3 (.int .u64 (n:Nat))=some (uM n):=by
 have t:uW ae 294 3 (.int .u64 (n:Nat))=some (.int .i64 (IntKind.i64.wrap (n:Int))):=by kernel_rfl
 have e:IntKind.i64.wrap (n:Int)=(n:Int):=by rw[ayK];omega
 rw[t,e]
def aA2:eB ae .shr 294 (.int .u64 (n:Nat)) (.int .u64 1)=some (.int .u64 ((n / 2:Nat):Int)):=by
 have t:eB ae .shr 294 (.int .u64 (n:Nat)) (.int .u64 1)=some (.int .u64 ((n:Int).fdiv (2 ^ 1))):=by rfl
 rw[t];have e:(n:Int).fdiv (2 ^ 1)=((n / 2:Nat):Int):=by rw[Int.fdiv_eq_ediv_of_nonneg _ (by decide)];omega
 rw[e]
def azP(t:Q.spec 109=some awR)(w:No Q 172)(go:o.oM)(id:ag):aq Q 172 [o.val,.str id] s (cd (dz o.id id)) s:=by
 have y:=go.all;refine aq.ofNZ aBo (co ?_);simp only[go_sem,seval,Obj.val,Obj.cells,y,t,awR];rfl
structure FrB (ov:aa) (id:ag) (n lo hi:Nat) (e:ax):Prop where
 h0:ac e 0=ov
 h1:ac e 1= .str id
 h2:ac e 2= .func (.func 172) [] []
 h8:ac e 8=uM n
 h9:ac e 9=uM lo
 h10:ac e 10=uM hi
def FrB.mv{id:ag}{hi lo' hi':Nat}{t:ax}(F:FrB ov id n lo hi e)(h:ac t 0=ac e 0/\ac t 1=ac e 1/\ac t 2=ac e 2/\ac t 8=ac e 8/\ac t 9=uM lo'/\ac t 10=uM hi'):FrB ov id n lo' hi' t:=
 ⟨h.1.trans F.h0,h.2.1.trans F.h1,h.2.2.1.trans F.h2,h.2.2.2.1.trans F.h8,h.2.2.2.2.1,h.2.2.2.2.2⟩
def ltI(id:ag)(o:Obj):Bool:=bc (dz o.id id) 0
def aAH(E:Q.spec 109=some awR)(z:No Q 172)(ho:ay 6 Obj.val ov l)(hg: ∀o∈l,o.oM)(a0:l.length<=1000000){id:ag}(t: ∀(a b:Nat) (o p:Obj),a<=b->l[a]? =some o->l[b]? =some p->ltI id p=true->ltI id o=true)(hx: ∀p e,p<=l.length->(∀(a:Nat) o,a<p->l[a]? =some o->ltI id o=true)->(∀(a:Nat) o,p<=a->l[a]? =some o->ltI id o=false)->FrB ov id l.length p p e->K (.exit 0) ⟨e,49,lc⟩ s):
 ∀(d lo hi:Nat) (e:ax),hi-lo<=d->lo<=hi->hi<=l.length->(∀(a:Nat) o,a<lo->l[a]? =some o->ltI id o=true)->(∀(a:Nat) o,hi<=a->l[a]? =some o->ltI id o=false)->FrB ov id l.length lo hi e->W Q 171 (.loop azr) ⟨e,49,lc⟩ s K:=by
 intro d
 induction d with
 |zero=>
  intro lo hi e h1 h2 J I H F;have D:lo=hi:=by omega
  subst D;have M:=F.h9;have y:=F.h10;refine bG ?_;simp only[go_sem,seval,azr,M,y,cD];exact hx _ _ J I H (F.mv (by simp only[sN,seval,F.h9,F.h10,and_self]))
 |succ d N=>
  intro lo hi e h1 h2 J I H F;have e0:=F.h0;have e1:=F.h1;have e2:=F.h2;have M:=F.h9;have y:=F.h10;rcases nZ lo hi with S|a1
  obtain⟨m,hm⟩:=ct ((lo+hi) / 2);have R:m<l.length:=by omega
  obtain⟨o,w⟩: ∃o,l[m]? =some o:=⟨_,gn R⟩;have go:=hg o (eP w);have O:IntKind.i64.wrap ((lo:Int)+(hi:Int))=((lo+hi:Nat):Int):=by rw[ayK];omega
  have Y:=aAW (n:=lo+hi) (by omega);have hh:=aA2 (n:=lo+hi);rw[hm] at hh;have V:=aAV (n:=m) (by omega);have U:=fun lc k=>ho.at gX.2.2.1 w lc k;have A:=azP E z go id (s:=s);simp only[Obj.val,Obj.cells] at A;have P:IntKind.i64.wrap ((m:Int)+1)=((m+1:Nat):Int):=by rw[ayK];omega
  refine bG ?_;simp only[go_sem,seval,azr,e0,e1,e2,M,y,S,O,aBZ,Y,hh,V,U,Obj.val,Obj.cells,z.s];refine cG.of A (by decide) ?_;cases hd:ltI id o with
  |true=>
   have B:bc (dz o.id id) 0=true:=hd;simp only[go_sem,seval,cd,B,P];refine N (m+1) hi _ (by omega) (by omega) J (fun a G h4 Z=>t a m G o (by omega) Z w hd) H ?_;exact F.mv (by simp only[sN,seval,e0,e1,e2,F.h8,y,and_self])
  |false=>
   have B:bc (dz o.id id) 0=false:=hd;simp only[go_sem,seval,cd,B];refine N lo m _ (by omega) (by omega) (by omega) I (fun a G h4 Z=>by
    cases hq:ltI id G with
    |false=>rfl
    |true=>rw[t m a o G h4 w Z hq] at hd;cases hd) ?_
   exact F.mv (by simp only[sN,seval,e0,e1,e2,F.h8,M,and_self])
  have D:lo=hi:=by omega
  exact N lo hi e (by omega) h2 J I H F
structure axA (l:List Obj) (id:ag) (p:Nat):Prop where
 le:p<=l.length
 lo: ∀(a:Nat) o,a<p->l[a]? =some o->ltI id o=true
 hi: ∀(a:Nat) o,p<=a->l[a]? =some o->ltI id o=false
def aAG(y:Q.spec 109=some awR)(t:No Q 172)(O:No Q 171)(H:ay 6 Obj.val ov l)(R: ∀o∈l,o.oM)(E:l.length<=1000000){id:ag}(z: ∀(a b:Nat) (o p:Obj),a<=b->l[a]? =some o->l[b]? =some p->ltI id p=true->ltI id o=true)(B: ∀o∈l,o.id≠id):
 ∃v P,aq Q 171 [ov,.str id,.func (.func 172) [] []] s v P/\ ∃p,axA l id p/\P=s/\v= .tup [uM p,.bool false]:=by
 have N:=H.cs;have J:=H.lenS gX;refine aq.ofNRZ aBn (co ?_);simp only[go_sem,seval,J,N];refine aAH y t H R E z (fun p e V U S F=>?_) l.length 0 l.length _ (by omega) (by omega) (br _) (fun a o h=>absurd h (Nat.not_lt_zero _)) (fun a o h G=>by rw[List.getElem?_eq_none h] at G;cases G) ⟨by simp only[sN,seval],by simp only[sN,seval],by simp only[sN,seval],by simp only[sN,seval],by simp only[sN,seval];rfl,by simp only[sN,seval]⟩;have e0:=F.h0;have e1:=F.h1;have e2:=F.h2;have Z:=F.h8;have Y:=F.h9;rcases nZ p l.length with D|a0
 obtain⟨o,A⟩: ∃o,l[p]? =some o:=⟨_,gn D⟩;have go:=R o (eP A);have M:=fun lc k=>H.at gX.2.2.1 A lc k;have w:=azP y t go id (s:=s);have I:an (dz o.id id) 0=false:=by
  cases G:an (dz o.id id) 0 with
  |false=>rfl
  |true=>exact absurd (uU (of_decide_eq_true G)) (B o (eP A))
 simp only[Obj.val,Obj.cells] at w;simp only[go_sem,seval,e0,e1,e2,Z,Y,D,M,Obj.val,Obj.cells,t.s];refine cG.of w (by decide) ?_;simp only[go_sem,seval,cd,I];exact⟨_,rfl,p,⟨V,U,S⟩,rfl⟩;have hp:p=l.length:=by omega
 subst hp;simp only[go_sem,seval,e0,e1,e2,Z,Y,cD];exact⟨_,rfl,_,⟨V,U,S⟩,rfl⟩
def aAF(B:Q.spec 109=some awR)(w:No Q 172)(y:No Q 171)(G:No Q 79)(F:ay 6 Obj.val ov l)(J: ∀o∈l,o.oM)(A:l.length<=1000000){id:ag}(t: ∀(a b:Nat) (o p:Obj),a<=b->l[a]? =some o->l[b]? =some p->ltI id p=true->ltI id o=true)(z: ∀o∈l,o.id≠id):
 ∃v D,aq Q 79 [.agg [ov],.str id] s v D/\ ∃p,axA l id p/\D=s/\v= .tup [uM p,.bool false]:=by
 have E:=F.cs;obtain⟨v,D,H,p,I,rfl,rfl⟩:=aAG B w y F J A t z (s:=s);refine aq.ofNRZ aBK (co ?_);simp only[go_sem,seval,E,rR];refine cG.of H (by decide) ?_;simp only[go_sem,seval];exact⟨_,rfl,p,I,rfl⟩
def aCc(w:Q.spec 31=some jK)(y:No Q 170)(z:ay 6 Obj.val ov l)(D: ∀o∈l,o.oM)(A:l.length<small):aq Q 170 [.agg [ov]] s (.bool (!dD l)) s:=by
 have t:=z.cs;have B:=A0 z D A;refine aq.ofNZ aBm (co ?_);simp only[go_sem,seval,t,w,B]
def aCd(B:Q.spec 31=some jK)(t:No Q 170)(D:No Q 262)(G:ay 6 Obj.val ov l)(I: ∀o∈l,o.oM)(H:l.length<small):aq Q 262 [.list 1 [.agg [ov]] .uP,.func (.func 170) [] []] s (cd (bif dD l then-1 else 0)) s:=by
 have w:=G.cs;have y:=aCc B t G I H (s:=s);have F:bc 0 1=true:=rfl;have E:bc 1 1=false:=rfl;have A:IntKind.i64.wrap 1=1:=rfl;have z: ∀lc,ja ae lc 241 (.list 1 [.agg [ov]] .uP) (.int .i64 0)=some (.ro [ov]):=fun lc=>by kernel_rfl
 refine aq.ofNZ aBv (co ?_);simp only[go_sem,seval,w];refine bG ?_;simp only[go_sem,seval,az8,w,F,E,A,z,t.s];refine cG.of y (by decide) ?_;cases hv:dD l with
 |false=>
  simp only[go_sem,seval];rfl
 |true=>
  simp only[go_sem,seval,A];refine bG ?_;simp only[go_sem,seval,az8,w,F,E,A,z,t.s];rfl
def aCb(z:Q.spec 31=some jK)(w:No Q 170)(t:No Q 262)(A:No Q 169)(B:ay 6 Obj.val ov l)(E: ∀o∈l,o.oM)(D:l.length<small):aq Q 169 [.list 1 [.agg [ov]] .uP,.func (.func 170) [] []] s (.bool (!dD l)) s:=by
 have y:=B.cs;refine aq.ofNZ aBl (co ?_);simp only[go_sem,seval,y];refine cG.of (aCd z w t B E D) (by decide) ?_;cases hv:dD l<;>simp only[go_sem,seval,cd,kE]<;>rfl
def aCe(A:Q.spec 31=some jK)(w:No Q 170)(t:No Q 262)(y:No Q 169)(D:No Q 78)(B:ay 6 Obj.val ov l)(F: ∀o∈l,o.oM)(E:l.length<small):aq Q 78 [.list 1 [.agg [ov]] .uP] s (.bool (dD l)) s:=by
 have z:=B.cs;refine aq.ofNZ aBJ (co ?_);simp only[go_sem,seval,z,rR];refine cG.of (aCb A w t y B F E) (by decide) ?_;cases hv:dD l<;>simp only[go_sem,seval]<;>rfl
def aAO(t:No Q 80):aq Q 80 [.oZ] s .oZ s:=by
 have w:eB ae .eql 22 .oZ .oZ=some (.bool true):=by kernel_rfl
 refine aq.ofNZ azB (co ?_);simp only[go_sem,seval,w]
def aAM(t:No Q 80){r:oW}:aq Q 80 [.list 6 [] r] s (.list 6 [] .uP) s:=by
 have w:eB ae .eql 22 (.list 6 [] r) .oZ=some (.bool false):=by kernel_rfl
 have y:fF ae [] 22 (.list 6 [] .uP) (.list 6 [] r) true s=some (.list 6 [] .uP,s):=by
  simp only[afo,fF,azh,au,eE,yL]
 refine aq.ofNZ azB (co ?_);simp only[go_sem,seval,w,y,bj,bg,aZ,bf,evc]
def aAP(w:No Q 80){r:oW}(y:(o::l).length<=1000):aq Q 80 [.list 6 ((o::l).map Obj.val) r] s (.arr 6 s.aL 0 (o::l).length (o::l).length) (s.new (.cells (aF ((o::l).map Obj.val)))):=by
 have z:eB ae .eql 22 (.list 6 ((o::l).map Obj.val) r) .oZ=some (.bool false):=by kernel_rfl
 have A:fF ae [] 22 (.list 6 [] .uP) (.list 6 ((o::l).map Obj.val) r) true s=some (.arr 6 s.aL 0 (o::l).length (o::l).length,s.new (.cells (aF ((o::l).map Obj.val)))):=by
  have t:jc ([]++(o::l).map Obj.val).length 88=true:=Gq (by simp only[oP,ce,bH] at y ⊢;omega) (by decide);rw[fy] at t ⊢;simp only[afo,fF,azh,au,eE,cF,jG,kL,t,oP];simp only[oP] at t;rw[t];simp
 refine aq.ofNZ azB (co ?_);simp only[go_sem,seval,z,A,bj,bg,aZ,bf,evc]
noncomputable def QN(T:dX)(ch:Nat->Nat):aH:= {P:=ae,hint:=ai,spec:=fun f=>gL f T,ch:=ch,kmax:=fun _=>1000000,specW:=fun f=>bif aQ f 81 then some ayh else none,anew:=fun f=>aQ f 81 }
instance(T:dX)(ch:Nat->Nat):Std (QN T ch):=⟨rfl,rfl,fun _=>rfl⟩
variable{T:dX}
def azL{ch:Nat->Nat}{f:Nat}{sp:List aa->Option pH}(h:(QN T ch).specW f=some sp):f=81/\sp=ayh:=by
 have h:(bif aQ f 81 then some ayh else none)=some sp:=h;obtain⟨t,h⟩:=bh h;exact⟨Nat.eq_of_beq_eq_true t,(sI h).symm⟩
def az1{w:pH}(h:ayh args=some w): ∃n g,w=some (n,g)/\ ∀(f:Nat->Option aR) cs l,gm f (g cs)≠some (.agg l):=by
 have t: ∀ {i len:Nat} {cs:List aa} {o:aR} {f:Nat->Option aR} {l:List aa},gm f (ayR i len cs o)≠some (.agg l):=fun e=>by
  obtain⟨_,_,_,_,e⟩:=azb e;cases e
 unfold ayh at h;split at h;obtain⟨_,h⟩:=bh h;injection h with h;subst h
 refine⟨_,_,rfl,fun f cs l e=>?_⟩;simp only[gm,ak] at e;obtain⟨o,_,e⟩:=e;exact t e;injection h with h;subst h
 exact⟨_,_,rfl,fun f cs l e=>t e⟩;injection h with h;subst h
 exact⟨_,_,rfl,fun f cs l e=>t e⟩;cases h
theorem aA1(z:dR T):Ag.oM (QN T fun _=>0) where
 mixed:=XV
 spec f sp hsp args v hv G hp w xs wr hx:=z _ (Qz hsp) args v hv G hp w xs wr hx
 specH f sp h args v G hp w xs wr hx hv:=by cases h
 specW f sp h args G hp w xs wr hx:=by
  obtain⟨rfl,rfl⟩:=azL h;refine⟨fun h1=>?_,fun n g cs t h1 h2 h3=>?_⟩;obtain⟨_,_,e,_⟩:=az1 h1;cases e;obtain⟨_,_,e,h4⟩:=az1 h1;injection e with e;injection e with B A
  subst B;subst A;exact absurd h3 (h4 _ _ _)
 specN f sp h _ args G hp w xs wr hx n g cs t sz a b len c q h1 h2 h3 h4:=by
  obtain⟨rfl,rfl⟩:=azL h;exact aBb args xs wr hx n g cs t sz a b len c q h1 h2 h3 h4
 names f fn y:=by
  have y:ae.funcs[f]? =some fn:=y
  grind [XZ]
def aCa(S:dR T)(O:eO args=true)(M: ∀z, ∃v t,aq (QN T z) f (en args) s0 v t/\fY t.heap v u)(G:Gh)(h:aC aR)(w:World)(xs:List Value)(wr:WR G h w)(J:ck G args xs):
 mM ae f ⟨xs⟩ w fun y I=> ∃H,WR H h I/\cZ G h w H h I 0 0/\VR H u y:=by
 obtain⟨N,U⟩:=fan (B:=1000000) (by omega) (fun z n=> ∃v t,(cy (QN T z) n).call f (en args) [] s0=some (v,t)/\fY t.heap v u)
  (fun z n m E ⟨v,t,D,A⟩=>⟨v,t,(nM (QN T z) E).call _ _ _ _ _ D,A⟩)
  (fun z n ⟨v,t,D,A⟩=>⟨t.ci,fun F R=>⟨v,t,(tL (QN T fun _=>0) n).call f _ [] z s0 v t D F R,A⟩⟩)
  (fun z _=>let⟨v,t,⟨n,D⟩,A⟩:=M z;⟨n,v,t,D,A⟩)
 exact aaz (Q:=QN T fun _=>0) (n:=N) (aA1 S) (fun _=>(by decide:0<1000000)) O (fun z P=>U z P) G h w xs wr J
def azR: ∀(l:List Obj) (p:Nat),(aF (l.map Obj.val)).take (p*6)=aF ((l.take p).map Obj.val)
 | [],p=>by simp[aF]
 |o::l,0=>by simp[aF]
 |o::l,p+1=>by
  have h:(aF (l.map Obj.val)).take (p*6)=aF ((l.take p).map Obj.val):=azR l p;have e:o.val.cells.length=6:=rfl;rw[List.take_succ_cons,fy,fy,aF,aF,<-h,List.take_append,e,List.take_of_length_le (by omega),show(p+1)*6-6=p*6 by omega]
def azQ: ∀(l:List Obj) (p:Nat),(aF (l.map Obj.val)).drop (p*6)=aF ((l.drop p).map Obj.val)
 | [],p=>by simp[aF]
 |o::l,0=>by simp
 |o::l,p+1=>by
  have h:(aF (l.map Obj.val)).drop (p*6)=aF ((l.drop p).map Obj.val):=azQ l p;have e:o.val.cells.length=6:=rfl;rw[oO,fy,aF,<-h,List.drop_append,e,List.drop_of_length_le (by omega),oP,show(p+1)*6-6=p*6 by omega]
def aAK(x:Obj)(l:List Obj)(p:Nat):atq p x.val.cells (aF (l.map Obj.val))=aF ((l.take p++x::l.drop p).map Obj.val):=by
 unfold atq;rw[azR,azQ,ff,fy,qF,aF]
def aCg{q:Obj}(h:gH q=true):q.id≠ []:=by
 unfold gH at h;cases hb:oo q with
 |true=>rw[hb] at h;cases h
 |false=>
  simp only[oo,v9,decide_eq_false_iff_not,Bool.not_eq_false'] at hb;have t:=hb.1.1.1.2;intro e;rw[e] at t;cases t
def aAl{id:ag}:ltI id o=true↔fN o.id id=true:=by
 rw[<-B6];exact decide_eq_true_iff
def aAZ{id:ag}(h:ltI id o=false)(t:o.id≠id):fN id o.id=true:=by
 rw[<-B6];have z: ¬dz o.id id<0:=of_decide_eq_false h;have y:dz o.id id≠0:=fun e=>t (uU e);have w:=B7 o.id id;omega
def azC(z:dD l=true)(id:ag)(a b:Nat)(o p:Obj)(D:a<=b)(y:l[a]? =some o)(t:l[b]? =some p)(h:ltI id p=true):ltI id o=true:=by
 simp only[dD,bu] at z;have E:=(H9 l [] z.1).2;rcases nZ a b with w|B
 have A:=List.pairwise_iff_getElem.1 (Ha.1 E) a b (nY.1 y).1 (nY.1 t).1 w;rw[(nY.1 y).2,(nY.1 t).2] at A;rw[aAl,<-B6] at h ⊢;exact Eo ((B6 _ _).2 A) h;have:a=b:=by omega
 subst this;rw[y] at t
 have:=sI t;subst this;exact h
variable{p:Nat}{x:Obj}
def aBh(A:dD l=true)(G:gH x=true)(D: ∀o∈l,o.id≠x.id)(F:axA l x.id p)(P:l.length<1000000):dD (l.take p++x::l.drop p)=true:=by
 simp only[dD,bu,dE] at A ⊢;obtain⟨M,O⟩:=H9 l [] A.1;have w:=JP l [] A.1;have z:fN [] x.id=true:=by
  cases e:x.id with
  |nil=>exact absurd e (aCg G)
  |cons c r=>rw[<-B6];simp[dz]
 have H: ∀o∈l.take p,fN o.id x.id=true:=fun o y=>by
  obtain⟨a,t⟩:=ay6.1 y;rw[List.getElem?_take] at t;split at t;exact aAl.1 (F.lo a o (by omega) t);cases t
 have J: ∀o∈l.drop p,fN x.id o.id=true:=fun o y=>by
  obtain⟨a,t⟩:=ay6.1 y;rw[List.getElem?_drop] at t;exact aAZ (F.hi (p+a) o (by omega) t) (D o (ayP y))
 have I:=Ha.1 O;refine⟨Yn _ [] (fun q B=>?_) (fun k N=>?_) (Ha.2 (List.pairwise_append.2 ⟨I.sublist (List.take_sublist p l),List.pairwise_cons.2 ⟨J,I.sublist (List.drop_sublist p l)⟩,fun a t b E=>?_⟩)),?_⟩;rcases lj.1 B with h|h
 exact w q (DY h);rcases fc.1 h with rfl|h
 exact G;exact w q (ayP h);obtain⟨q,B,rfl⟩:=dy.1 N;rcases lj.1 B with h|h
 exact M _ (G9 (DY h));rcases fc.1 h with rfl|h
 exact z;exact M _ (G9 (ayP h));rcases fc.1 E with rfl|E
 exact H a t;rw[<-B6];exact Eo ((B6 _ _).2 (H a t)) ((B6 _ _).2 (J b E));rw[cJ,bH,sC,ayU]
 have:=F.le;omega
def ayT(id:ag)(l:List Obj):Nat:=l.findIdx fun o=> !ltI id o
def awn(l:List Obj)(x:Obj):List Obj:=l.take (ayT x.id l)++x::l.drop (ayT x.id l)
def axA.eq{id:ag}{q:Nat}(a:axA l id p)(b:axA l id q):p=q:=by
 have t: ∀ {p q:Nat},axA l id p->axA l id q-> ¬p<q:=fun {p q} a b h=>by
  have w:p<l.length:=by have:=b.le;omega
  have e:=gn w;have y:=a.hi p _ (br _) e;rw[b.lo p _ h e] at y;cases y
 have y:=t a b;have z:=t b a;omega
def aAt{id:ag}(hm: ∀(a b:Nat) (o p:Obj),a<=b->l[a]? =some o->l[b]? =some p->ltI id p=true->ltI id o=true):axA l id (ayT id l) where
 le:=List.findIdx_le_length
 lo a o ha hat:=by
  obtain⟨h1,rfl⟩:=nY.1 hat;have h2:=List.not_of_lt_findIdx ha;simpa using h2
 hi a o ha hat:=by
  cases e:ltI id o with
  |false=>rfl
  |true=>
   have y:=(nY.1 hat).1;have t:ayT id l<l.length:=by omega
   have h1:=hm _ a _ o ha (gn t) hat e;have h2:(!ltI id l[ayT id l])=true:=List.findIdx_getElem (w:=t);rw[h1] at h2;cases h2
def azS: ∀l:List Obj,bf (!aQ 6 1) 6 l.length (aF (l.map Obj.val))=some (l.map Obj.val)
 | []=>rfl
 |o::l=>by
  have t:=azS l;have z:aF ((o::l).map Obj.val)= .str o.id:: .int .i64 o.nR:: .int .i64 o.x:: .int .i64 o.y::o.refsV::o.tagsV::aF (l.map Obj.val):=rfl;rw[z];simp only[bH,fy];show(bif(!aQ 6 1) then _ else _)=_;have w:cut (.str o.id:: .int .i64 o.nR:: .int .i64 o.x:: .int .i64 o.y::o.refsV::o.tagsV::aF (l.map Obj.val)) 0 6=some o.cells:=rfl;rw[w];simp only[au,oO,nz,t];rfl
def azp: ∀l:List Obj,(aF (l.map Obj.val)).length=l.length*6
 | []=>rfl
 |o::l=>by
  have t:=azp l;show(o.cells++aF (l.map Obj.val)).length=_;rw[cJ,t,bH];show 6+_=_;omega
def aAY(z: ∀o∈l,o.oM)(y:h.get m=some (.cells (aF (l.map Obj.val)))):fY h (.tup [.agg [.arr 6 m 0 l.length l.length],ic 0]) (.tup [.agg [.list 6 (l.map Obj.val) .no],ic 0]):=by
 obtain⟨k,e⟩:=UK (h:=h) (k:=4) (xs:=l.map Obj.val) (ys:=l.map Obj.val) (yF fun v t=>by
  obtain⟨o,w,rfl⟩:=dy.1 t;exact agc h (z o w) 0)
 have D:cL h (k+1) (.arr 6 m 0 l.length l.length)=some (.list 6 (l.map Obj.val) .no):=by
  show(match h.get m with
   |some (.cells cs)=>(cut cs 0 (l.length*6)).bind fun c=>(dL (cL h k) c).bind fun E=>(bf (!aQ 6 1) 6 l.length E).bind fun xs=>some (aa.list 6 xs .no)
   |_=>none)=_
  rw[y];have A:cut (aF (l.map Obj.val)) 0 (l.length*6)=some (aF (l.map Obj.val)):=by
   simp only[afo,cut,nz,<-azp,List.take_length]
  simp only[A,au,e,azS]
 have B:cL h (k+2) (.agg [.arr 6 m 0 l.length l.length])=some (.agg [.list 6 (l.map Obj.val) .no]):=by
  show(dL (cL h (k+1)) [_]).bind _=_;simp only[dL,D,au]
 refine⟨k+3,?_⟩;show(dL (cL h (k+2)) [_,_]).bind _=_;simp only[dL,B,au];rfl
def aAN(t:No Q 80)(y:Q.spec 81=none)(z:Q.specW 81=some ayh)(A:Q.anew 81=true)(M:ay 6 Obj.val ov l)(N:l.length<=1000)(x:Obj)(D:p<=l.length)(s:St):
 ∃c B m F,aq Q 80 [ov] s c B/\c.cells=[c]/\c.ge=true/\aq Q 81 [c,uM p,.arr 6 B.aL 0 1 1] (B.new (.cells x.cells)) (.arr 6 m 0 (l.length+1) (l.length+1)) F/\F.get [] m=some (.cells (aF ((l.take p++x::l.drop p).map Obj.val))):=by
 have E:atq p x.cells (aF (l.map Obj.val))=_:=aAK x l p;rcases M with⟨rfl,rfl⟩|⟨r,rfl⟩
 have w:p=0:=by simpa using D
 subst w;refine⟨.oZ,s,_,_,aAO t,rfl,rfl,aq.specN A y (Std.H _) z (n:=s.aL) (cs:=x.cells) (cs':=atq 0 x.cells []) rfl cW rfl,?_⟩;rw[<-E];exact cW;cases l with
 |nil=>
  have w:p=0:=by simpa using D
  subst w;refine⟨.list 6 [] .uP,s,_,_,aAM t,rfl,rfl,aq.specN A y (Std.H _) z (n:=s.aL) (cs:=x.cells) (cs':=atq 0 x.cells []) rfl cW rfl,?_⟩;rw[<-E];exact cW
 |cons o l=>
  refine⟨.arr 6 s.aL 0 (o::l).length (o::l).length,s.new (.cells (aF ((o::l).map Obj.val))),_,_,aAP t N,rfl,rfl,aq.specN A y (Std.H _) z (n:=s.aL) (g:=fun cs=>.ask (s.aL+1) (ayR p (o::l).length cs)) (cs:=aF ((o::l).map Obj.val)) (cs':=atq p x.cells (aF ((o::l).map Obj.val))) (sz:=6) (a:=0) (b:=0) (len:=(o::l).length+1) (c:=0) ?_ ?_ ?_,?_⟩;have J:aQ s.aL (s.aL+1)=false:=by rw[bD];exact bN.2 (by omega)
  have I:bw p (o::l).length=true:=cP D;have G:bw (o::l).length 1000000=true:=cP (by omega);show(bif !(aQ s.aL (s.aL+1))&&(bw p (o::l).length&&bw (o::l).length 1000000) then _ else _)=_;rw[J,I,G];rfl;rw[fk,bN.2 (by show s.aL≠s.aL+1;omega)];exact cW;show(((s.new (.cells (aF ((o::l).map Obj.val)))).new (.cells x.cells)).get [] (s.new (.cells (aF ((o::l).map Obj.val)))).aL).bind (fun v=>gm _ (ayR p (o::l).length (aF ((o::l).map Obj.val)) v))=_;rw[cW,au];show(bif aQ (aF ((o::l).map Obj.val)).length ((o::l).length*6)&&aQ 6 6 then _ else _)=_;rw[azp,bD,bS];rfl;rw[<-E];exact cW
def aB0(a2:Q.spec 31=some jK)(M:Q.spec 75=some FS)(N:Q.spec 109=some awR)(J:Q.spec 81=none)(a6:Q.specW 81=some ayh)(a7:Q.anew 81=true)(a8:No Q 34)(z:No Q 172)(A:No Q 171)(R:No Q 79)(B:No Q 170)(y:No Q 262)(D:No Q 169)(S:No Q 78)(P:No Q 80)(H:ay 6 Obj.val ov l)(hg: ∀q∈l,q.oM)(hl:l.length<=1000)(gx:x.oM)(a0: ∀q∈l,q.id≠x.id):
 ∃v s',aq Q 34 [.agg [ov],x.val] s v s'/\(((dD l&&gH x)=false/\v= .tup [.agg [.oZ],ic 1])\/((dD l&&gH x)=true/\ ∃m,v= .tup [.agg [.arr 6 m 0 (l.length+1) (l.length+1)],ic 0]/\s'.get [] m=some (.cells (aF ((awn l x).map Obj.val))))):=by
 have b0:=ajJ;have w:=H.cs;have a1:=H.lenS gX;have E:=gx.all;have t:=anw gx;have a5:=fun s=>aCe a2 B y D S H hg (by omega:l.length<small) (s:=s);simp only[Obj.val,Obj.cells] at t;have I:an ((l.length:Nat):Int) 1000000=false:=dN (by omega);refine aq.ofNRZ aBy (co ?_);simp only[go_sem,seval,w,Obj.val,Obj.cells,E,bj,bg,aZ,bf,evc];refine cG.of (a5 _) (by decide) ?_;cases hv:dD l with
 |false=>
  simp only[go_sem,seval,bg];exact⟨_,rfl,.inl rfl⟩
 |true=>
  cases hx:gH x with
  |false=>
   rw[hx] at t;simp only[go_sem,seval,M,t,E,bg];exact⟨_,rfl,.inl rfl⟩
  |true=>
   rw[hx] at t;simp only[go_sem,seval,M,t,E];obtain⟨a9,U,Y,p,hp,e1,e2⟩:=aAF N z A R H hg (by omega) (azC hv x.id) a0 (s:=s);subst e1;subst e2;have Z:=hp.eq (aAt (azC hv x.id));refine cG.of Y (by decide) ?_;simp only[go_sem,seval,w,E];obtain⟨c,sc,m,s2,V,a4,a3,F,G⟩:=aAN P J a6 a7 H hl x hp.le U;refine cG.of V (by decide) ?_;simp only[Obj.cells] at F;simp only[go_sem,seval,w,a1,I,a4,a3,E,J,Obj.val,Obj.cells,bj,bg,aZ,bf,evc];refine cG.of F (by decide) ?_;have O:(aa.arr 6 m 0 (l.length+1) (l.length+1)).cells=[.arr 6 m 0 (l.length+1) (l.length+1)]:=rfl;simp only[go_sem,seval,O];exact⟨_,rfl,.inr ⟨m,rfl,by rw[G,Z];rfl⟩⟩
def aAQ:db ae 109 awR:=by
 intro args v t G h w y z A;unfold awR at t;split at t;rename_i a b;injection t with t;subst t
 exact ni (Q:=QT X32) (mW aAC) (fun _=>Nat.zero_lt_succ 1) (args:=[.str a,.str b]) (v:=cd (dz a b)) (s':=s0) rfl (aAR (sp:=fun f=>gL f X32) rfl rfl rfl a b s0) rfl ⟨1,rfl⟩ G h w y z A;cases t
def TPu:dX:=[(31,jK),(75,FS),(109,awR)]
def aAB:dR TPu:=.cons xd (.cons anx (.cons aAQ .nil))
noncomputable def ayZ(l:List Obj)(x:Obj):aa:=bif dD l&&gH x then .tup [.agg [vp (awn l x)],ic 0] else .tup [.agg [.oZ],ic 1]
noncomputable def ayY:Sp
 | [m,u]=>(lz m).bind fun l=>(wA u).bind fun x=>bif decide (l.length<=1000)&&l.all (fun q=> !(q.id==x.id)) then some (ayZ l x) else none
 |_=>none
def aB2(z:ay 6 Obj.val ov l)(B: ∀q∈l,q.oM)(A:l.length<=1000)(D:x.oM)(t: ∀q∈l,q.id≠x.id):ayY [.agg [ov],x.val]=some (ayZ l x):=by
 have w:=ajJ;have q:l.all (fun q=> !(q.id==x.id))=true:=f8.2 fun q y=>by simp[t q y]
 simp only[akZ,ayY,uQ z B (by omega),Sl D,dQ A,q,cw]
def azF(l:List Obj)(x:Obj):(awn l x).length=l.length+1:=by
 unfold awn;rw[cJ,bH,sC,ayU];omega
def azG(h:o∈awn l x):o=x\/o∈l:=by
 rcases lj.1 h with h|h
 exact .inr (DY h);rcases fc.1 h with h|h
 exact .inl h;exact .inr (ayP h)
def aB1(l:List Obj)(x:Obj):vp (awn l x)= .list 6 ((awn l x).map Obj.val) .no:=by
 have h:=azF l x;cases e:awn l x with
 |nil=>rw[e] at h;cases h
 |cons a r=>rfl
def aB3:db ae 34 ayY:=by
 intro args u t G h w J M P;unfold ayY at t;split at t;rename_i a b;simp only[ak] at t;obtain⟨l,Z,x,Y,t⟩:=t;obtain⟨I,t⟩:=bh t;simp only[bu,dE] at I;have t:=sI t;subst t;obtain⟨v,rfl,V,H,hs⟩:=rk Z;obtain⟨rfl,A⟩:=LN Y;obtain⟨R,N,B,E⟩:=qQ V H;have B:en [.agg [v],x.val]=[.agg [N],x.val]:=by simp only[en,B,KU A.pure]
 refine aCa aAB (args:=[.agg [v],x.val]) (by simp only[eO,R,arL A.pure,cw]) (fun ch=>?_) G h w J M P;rw[B];obtain⟨y,O,S,D⟩:=aB0 (Q:=QN TPu ch) rfl rfl rfl rfl rfl rfl ⟨rfl,rfl⟩ ⟨rfl,rfl⟩ ⟨rfl,rfl⟩ ⟨rfl,rfl⟩ ⟨rfl,rfl⟩ ⟨rfl,rfl⟩ ⟨rfl,rfl⟩ ⟨rfl,rfl⟩ ⟨rfl,rfl⟩ E H I.1 A (fun q D=>by have:=f8.1 I.2 q D;simpa using this) (s:=s0);refine⟨_,_,S,?_⟩;rcases D with⟨e,rfl⟩|⟨e,m,rfl,z⟩
 unfold ayZ;rw[e];exact⟨3,rfl⟩;unfold ayZ;rw[e,cT,aB1];have F: ∀o∈awn l x,o.oM:=fun o U=>by
  rcases azG U with rfl|h
  exact A;exact H o h
 have:=aAY (h:=O.heap) (m:=m) F z;rw[azF] at this;exact this;cases t
structure ajp (C l:List Obj):Prop where
 sub:C.Sublist l
 val:dD l=true
 at_: ∀o∈C, ∀r∈o.gE,dP r C=dP r l
theorem azo{p q:α->Bool}: ∀ {l:List α},(∀x∈l,p x=q x)->l.all p=l.all q
 | [],_=>rfl
 |a::l,h=>by grind
def ay3(t:dD l=true)(h:o∈l):dP o.id l=some o:=FR (yK t) h
namespace ajp
variable{C l:List Obj}
def valC(P:ajp C l):dD C=true:=JF P.val P.sub
def mem(P:ajp C l)(h:o∈C):o∈l:=P.sub.subset h
def up(P:ajp C l){r:ag}(h:dP r C=some o):dP r l=some o:=by
 obtain⟨t,rfl⟩:=tS h;exact ay3 P.val (P.mem t)
def nR(P:ajp C l)(w:o∈C){r:ag}(t:r∈o.gE):pV C r=pV l r:=by
 unfold pV;rw[P.at_ o w r t]
def node(P:ajp C l)(w:o∈C){r:ag}(t:r∈o.gE):ei C r=ei l r:=by
 unfold ei;rw[P.nR w t]
def pt(P:ajp C l)(w:o∈C){r:ag}(t:r∈o.gE):fJ C r=fJ l r:=by
 unfold fJ;rw[P.at_ o w r t]
def nodes(P:ajp C l)(w:o∈C):o.gE.all (ei C)=o.gE.all (ei l):=azo fun _ t=>P.node w t
def badRef_eq(P:ajp C l)(w:o∈C):rq C o=rq l o:=by
 unfold rq Kg;congr 1;exact azo fun p t=>by rw[P.nR w (ay7 t).2]
def lines_eq(P:ajp C l)(t:o∈C):jJ C o=jJ l o:=by
 unfold jJ w8;rw[P.nodes t]
def ring_eq(P:ajp C l)(t:o∈C):zu C o=zu l o:=by
 unfold zu;rw[P.nodes t,DW fun r w=>P.pt t w]
def proper_eq(P:ajp C l)(t:o∈C):tY C o=tY l o:=by
 unfold tY;rw[P.ring_eq t]
def isProper_eq(P:ajp C l)(t:o∈C):ph C o=ph l o:=by
 unfold ph;rw[P.proper_eq t]
def badRing_eq(P:ajp C l)(t:o∈C):oY C o=oY l o:=by
 unfold oY;rw[P.ring_eq t]
def properAt_eq(P:ajp C l)(t:o∈C):vD C o.id=vD l o.id:=by
 unfold vD;rw[ay3 P.valC t,ay3 P.val (P.mem t),au,au,P.proper_eq t]
def crossMs_eq(P:ajp C l){q:ag×ag}(h1:q.1∈lK C)(z:q.2∈lK C):HO C q=HO l q:=by
 have t: ∀ {k:ag},k∈lK C->Km C k=Km l k:=fun {k} y=>by
  obtain⟨o,w,rfl⟩:=dy.1 y;unfold Km;rw[P.properAt_eq (DX.1 w).1]
 unfold HO;rw[t h1,t z]
def way_eq(P:ajp C l){r:ag}(h:dP r C=dP r l):kB C r=kB l r:=by
 unfold kB;rw[<-h];cases e:dP r C with
 |none=>rfl
 |some q=>
  rw[au,au,P.nodes (tS e).1]
def sound_eq(P:ajp C l)(w:o∈C):ue C o=ue l o:=by
 unfold ue;exact azo fun p t=>by rw[P.node w (ay7 t).2,P.way_eq (P.at_ o w _ (ay7 t).2)]
def conn_eq(P:ajp C l)(w:o∈C):Et C o=Et l o:=by
 unfold Et;rw[DW fun r t=>by rw[P.way_eq (P.at_ o w r t)]]
def no_empty{l:List Obj}(t:dD l=true):dP [] l=none:=C4 fun h=>by
 simp only[dD,bu] at t;have w:=(H9 l [] t.1).1 [] h;exact absurd w (by decide)
def ref_eq(P:ajp C l)(t:o∈C)(i:Nat):dP (o.gE.getD i []) C=dP (o.gE.getD i []) l:=by
 rw[List.getD_eq_getElem?_getD];cases e:o.gE[i]? with
 |none=>rw[Option.getD_none,no_empty P.valC,no_empty P.val]
 |some r=>exact P.at_ o t r (eP e)
def turn_eq(P:ajp C l)(t:o∈C):GP C o=GP l o:=by
 unfold GP;rw[P.way_eq (P.ref_eq t 0),P.way_eq (P.ref_eq t 2)]
def badRoute_eq(P:ajp C l)(t:o∈C):od C o=od l o:=by
 unfold od;rw[P.sound_eq t,P.conn_eq t]
def badTurn_eq(P:ajp C l)(t:o∈C):mn C o=mn l o:=by
 unfold mn;rw[P.sound_eq t,P.turn_eq t]
theorem refSeq_eq(P:ajp C l){f g:Obj->List (Pt×Bool)}(w: ∀q∈C,f q=g q){k:Int}: ∀ {rs:List ag} {i:Nat},(∀r∈rs,dP r C=dP r l)->t7 C f k i rs=t7 l g k i rs
 | [],_,_=>rfl
 |r::rs,i,h=>by
  have z:=h r iL;have y:=refSeq_eq P w (k:=k) (rs:=rs) (i:=i+1) fun x t=>h x (iE _ t)
  grind [t7,tS]
def seq_eq(P:ajp C l): ∀(n:Nat) {o:Obj},o∈C->tR C n o=tR l n o
 |0,_,_=>rfl
 |n+1,o,ho=>by
  unfold tR;rw[P.refSeq_eq (g:=tR l n) (fun q t=>P.seq_eq n t) (P.at_ o ho)]
end ajp
def OwI(t:List CK×(CK->List ag)):Prop:= ∀k y,y∈t.2 k->k∈t.1
structure ayQ (st st':List CK×(CK->List ag)):Prop where
 keys: ∀k,k∈st.1->k∈st'.1
 own: ∀k y,y∈st.2 k->y∈st'.2 k
def ayQ.trans{a b c:List CK×(CK->List ag)}(h:ayQ a b)(k:ayQ b c):ayQ a c:=⟨fun x w=>k.keys x (h.keys x w),fun x y t=>k.own x y (h.own x y t)⟩
theorem aAD(id:ag)(j:CK)(t:List CK×(CK->List ag))(I:OwI t):OwI (jk id t j)/\ayQ t (jk id t j)/\j∈(jk id t j).1/\id∈(jk id t j).2 j:=by
 unfold jk;cases e:(t.2 j).contains id with
 |true=>
  have h:id∈t.2 j:=List.contains_iff_mem.1 e;exact⟨I,⟨fun _ h=>h,fun _ _ h=>h⟩,I j id h,h⟩
 |false=>
  refine⟨fun k y w=>?_,⟨fun k z=>qO.2 (.inr z),fun k y w=>?_⟩,qO.2 (.inl rfl),?_⟩;by_cases z:k=j;exact qO.2 (.inl z);have w:y∈lH t.2 j (t.2 j++[id]) k:=w;rw[lf _ _ z] at w;exact qO.2 (.inr (I k y w))
  all_goals grind [lH]
def aAs(id:ag): ∀(w:List CK) (t:List CK×(CK->List ag)),OwI t->OwI (w.foldl (jk id) t)/\ayQ t (w.foldl (jk id) t)/\ ∀k∈w,k∈(w.foldl (jk id) t).1/\id∈(w.foldl (jk id) t).2 k
 | [],_,I=>⟨I,⟨fun _ h=>h,fun _ _ h=>h⟩,fun _ h=>by cases h⟩
 |j::w,t,I=>by
  obtain⟨G,F,E,D⟩:=aAD id j t I;obtain⟨B,z,A⟩:=aAs id w (jk id t j) G;refine⟨B,F.trans z,fun k y=>?_⟩;rcases fc.1 y with rfl|y
  exact⟨z.keys _ E,z.own _ _ D⟩;exact A k y
def aAo(l:List Obj): ∀(os:List Obj) (t:List CK×(CK->List ag)),OwI t->OwI (os.foldl (io l) t)/\ayQ t (os.foldl (io l) t)/\ ∀o∈os, ∀k∈jJ l o,k∈(os.foldl (io l) t).1/\o.id∈(os.foldl (io l) t).2 k
 | [],_,I=>⟨I,⟨fun _ h=>h,fun _ _ h=>h⟩,fun _ h=>by cases h⟩
 |o::os,t,I=>by
  obtain⟨F,E,A⟩:=aAs o.id (jJ l o) t I;obtain⟨D,z,B⟩:=aAo l os (io l t o) F;refine⟨D,E.trans z,fun q w k y=>?_⟩;rcases fc.1 w with rfl|w
  exact⟨z.keys _ (A k y).1,z.own _ _ (A k y).2⟩;exact B q w k y
def aBY(l:List Obj): ∀o∈l, ∀k∈jJ l o,k∈(ip l).1/\o.id∈(ip l).2 k:=(aAo l l ([],fun _=>[]) fun _ _ h=>by cases h).2.2
def aAm{k:CK}:k∈iI l↔ ∃o∈l,k∈jJ l o:=by
 unfold iI;rw[(GH _).mem_iff];exact⟨ao2,fun⟨o,t,w⟩=>(aBY l o t k w).1⟩
theorem aBP{k:CK}(h:k∈jJ l o):k.1∈o.gE/\k.2∈o.gE:=by
 grind [jJ,aak]
namespace ajp
variable{C l:List Obj}
def key_up(P:ajp C l){a:CK}(h:a∈iI C):a∈iI l/\fJ C a.1=fJ l a.1/\fJ C a.2=fJ l a.2:=by
 obtain⟨o,t,w⟩:=aAm.1 h;have y:=aBP w;rw[P.lines_eq t] at w;exact⟨aAm.2 ⟨o,P.mem t,w⟩,P.pt t y.1,P.pt t y.2⟩
theorem ends_up(P:ajp C l){x:ag}(h:x∈yB C):x∈yB l/\fJ C x=fJ l x:=by
 obtain⟨a,w,t⟩:=uC.1 h;obtain⟨y,A,z⟩:=P.key_up w;refine⟨uC.2 ⟨a,y,t⟩,?_⟩
 grind
end ajp
def aAL(h:q∈(tf l rl).flatten):q∈zr l\/q∈sZ l\/q∈A2 l\/q∈A3 l\/q∈xD l rl:=by
 simpa only[tf,List.flatten_cons,List.flatten_nil,kC,lj] using h
def ay9(h:q∈zr l\/q∈sZ l\/q∈A2 l\/q∈A3 l\/q∈xD l rl):q∈(tf l rl).flatten:=by
 simpa only[tf,List.flatten_cons,List.flatten_nil,kC,lj] using h
variable{Q:aH}[Std Q]
def Yk: ∀ {l:List Obj},pq l=true-> ∀o∈l,xj o=false
 | [],_,o,h=>by cases h
 |a::l,h,o,t=>by
  simp only[pq] at h;cases e1:xj a with
  |true=>rw[e1] at h;cases h
  |false=>
   rw[e1] at h;rcases fc.1 t with rfl|t
   exact e1;have h:(bif vF a.gE then bif vR a.gT then pq l else false else false)=true:=h;cases e2:vF a.gE with
   |false=>rw[e2] at h;cases h
   |true=>
    rw[e2] at h;cases e3:vR a.gT with
    |false=>rw[e3] at h;cases h
    |true=>rw[e3] at h;exact Yk h o t
def afB(h:rF l (n:Int)=true):l.length<=n/\ ∀o∈l,o.gE.length<=12/\o.gT.length<=20:=by
 unfold rF at h;cases e:bc (n:Int) ((l.length:Nat):Int) with
 |true=>rw[e] at h;cases h
 |false=>
  rw[e] at h;refine⟨?_,fun o t=>?_⟩;unfold bc at e
  have:=of_decide_eq_false e;omega
  have:=Yk h o t;unfold xj at this;simp only[v9,decide_eq_false_iff_not,Nat.not_lt] at this;exact⟨this.1.1,this.1.2⟩
def ZK{k:Nat}: ∀ {l:List Obj},(∀o∈l,o.gE.length<=k)->qX l<=l.length*k
 | [],_=>ki _
 |a::l,h=>by
  have y:=h a iL;have w:=ZK (k:=k) (l:=l) fun o t=>h o (iE _ t);unfold qX at w ⊢;simp only[fy,List.sum_cons,bH,Nat.succ_mul];omega
def Yv(h1:l.length<=40)(w: ∀o∈l,o.gE.length<=12):qR l=true:=by
 unfold qR;cases hv:dD l with
 |false=>rfl
 |true=>
  have y:=ZK w;have t:HW l=true:=MN.2 ⟨hv,by omega,by omega⟩;rw[t];rfl
def aqb(h:rl.all sl=true)(z: ∀x∈rl,x.OkS): ∀x∈rl,x.Ok:=fun x w=>by
 have t:=f8.1 h x w;have o:=z x w;unfold sl xE at t;simp only[bu,Bool.not_eq_true',v9] at t;have y:=t.1.2;unfold bc at y;have A:=of_decide_eq_false y;exact⟨o.vals,o.pv,o.area,o.key,o.ifK,by omega⟩
def EJ:Sp
 | []=>some (.bool true)
 |_=>none
def aau:List CK->List CK
 | []=>[]
 | [k]=>[k]
 |K=>so K
def aqY: ∀K,aau K=so K
 | []=>(uv (Qg [])).symm
 | [k]=>by
   show [k]=so [k];have t:(so [k]).Perm [k]:=by
    unfold so;exact(xH _ _ _).map _
   exact(List.perm_singleton.1 t).symm
 |_::_::_=>rfl
def L1(l:List Obj):List VQ:=(aau (rp l)).map fun k=>(2,jr k,true)
def adl(l:List Obj):L1 l=sZ l:=by unfold L1 sZ;rw[aqY]
def KS(l:List Obj)(rl:List aI)(name:ag):List aa:=[zr (gi l name),L1 (gi l name),A2 (gi l name),A3 (gi l name),xD (gi l name) rl].flatMap fun L=>L.map (g9 name)
def asy(l:List Obj)(rl:List aI)(name:ag):KS l rl name=mG l rl name:=by unfold KS mG tf;rw[adl]
def Ma(l:List Obj)(views:List ag)(rl:List aI):List aa:=bif dD l then([]::views).flatMap (KS l rl) else []
def adW(l:List Obj)(views:List ag)(rl:List aI):Ma l views rl=te l views rl:=by
 have:KS l rl=mG l rl:=funext fun n=>asy l rl n;unfold Ma te;rw[this]
def Mb:Sp
 | [m,.agg [a,b,c,d,vv,rv]]=>(lz m).bind fun l=>(eX 1 jl vv).bind fun views=>(sX rv).bind fun rl=>bif qR l&&(decide (views.length<=200)&&eO [a,b,c,d]) then some (fI 3 (Ma l views rl)) else none
 |_=>none
def adX:Mb=o4:=by
 funext l;unfold Mb o4;split;simp only[adW];rename_i h
 first|rfl|(split;rename_i m a b c d vv rv;exact absurd rfl (h m a b c d vv rv);rfl)
def Rp:dX:=[(18,Mb),(17,vM),(31,jK)]
def abQ:dR Rp:=.cons (adX▸Mc) (.cons Z6 (.cons xd .nil))
def agM:mS Rp 200 15 []=some (.bool true,0):=by kernel_rfl
def agN:db ae 15 EJ:=by
 intro args u t G h w y z A;unfold EJ at t;split at t;injection t with t;subst t
 exact oJ abQ agM (args':=[]) rfl rfl G h w y z A;cases t
theorem aBR{f:α->VQ}{l:List α}(h: ∀a,(f a).1=k): ∀q∈l.map f,q.1=k:=fun q t=>by
 grind
def aAw(l:List Obj)(rl:List aI)(name:ag):kQ l rl name=((tf (gi l name) rl).flatten).map fun q=>(name,q):=by
 unfold kQ;rw[List.map_flatten,List.flatMap_def]
structure awm (x:Obj) (pre post:List Obj):Prop where
 val:dD (pre++x::post)=true
 nR:x.nR=1
 gE:x.gE=[]
 fresh: ∀o∈pre++post,x.id ∉ o.gE
def aAn{r:ag}{x:Obj}(h:r≠x.id){post:List Obj}: ∀pre:List Obj,dP r (pre++x::post)=dP r (pre++post)
 | []=>by
   have e:(r==x.id)=false:=bN.2 h;simp only[oP,dP,e,cF]
 |a::pre=>by simp only[List.cons_append,dP,aAn h pre]
def ayW{f g:Obj->Bool}{pre post:List Obj}(h: ∀o∈pre++post,f o=g o)(t:f x=false):(pre++x::post).filter f=(pre++post).filter g:=by
 rw[DR,G5 (by simp[t]),<-DR];exact ay5 h
def azX{α β:Type}{f g:β->α->β}: ∀ {l:List α} {s:β},(∀o∈l, ∀t,f t o=g t o)->l.foldl f s=l.foldl g s
 | [],_,_=>rfl
 |a::l,s,h=>by
  rw[uA,uA,h a iL];exact azX fun o w=>h o (iE _ w)
def azW{β:Type}{f g:α->List β}{l:List α}(h: ∀a∈l,f a=g a):l.flatMap f=l.flatMap g:=by
 rw[List.flatMap_def,List.flatMap_def,DW h]
def awV(x:ag)(q:VQ):Bool:= !(an q.1 7)|| !(wV q.2.1 [x])
def az0{a b:ag}(h:wV [a] [b]=true):a=b:=by
 rw[agY] at h;have h:=Mo (of_decide_eq_true h);injection h
def aAk{x:ag}(w:x ∉ l.map Obj.id)(h:q∈(tf l rl).flatten):awV x q=true:=by
 have t: ∀ {α:Type} {k:Int} {f:α->VQ} {m:List α},q∈m.map f->(∀a,(f a).1=k)->an k 7=false->awV x q=true:=fun y A B=>by
  unfold awV;rw[aBR A q y,B];rfl
 rcases aAL h with h|h|h|h|h
 exact t h (fun _=>rfl) rfl;exact t h (fun _=>rfl) rfl;rcases lj.1 h with h|h
 exact t h (fun _=>rfl) rfl;exact t h (fun _=>rfl) rfl;rcases lj.1 h with h|h
 exact t h (fun _=>rfl) rfl;exact t h (fun _=>rfl) rfl;obtain⟨o,z,rfl⟩:=dy.1 h;unfold awV;have:wV [o.id] [x]=false:=by
  cases e:wV [o.id] [x] with
  |false=>rfl
  |true=>exact(w (az0 e▸G9 (DX.1 z).1)).elim
 show(!(an 7 7)|| !(wV [o.id] [x]))=true;rw[this];rfl
namespace awm
variable{x:Obj}{pre post:List Obj}
theorem new(A:awm x pre post):x.id ∉ (pre++post).map Obj.id:=fun h=>by
 have t:=yK A.val;simp only[ff,fy] at t h;have w:=wf.1 t;rcases lj.1 h with h|h
 exact w.2.2 _ h _ iL rfl;exact(List.nodup_cons.1 w.2.1).1 h
def part(A:awm x pre post):ajp (pre++post) (pre++x::post) where
 sub:=(List.Sublist.refl pre).append (List.sublist_cons_self x post)
 val:=A.val
 at_ o ho r hr:=(aAn (fun e=>A.fresh o ho (e▸hr)) pre).symm
def views(A:awm x pre post)(name:ag):awm x (gi pre name) (gi post name) where
 val:=by
  refine JF A.val ?_;exact(DG pre name).append ((DG post name).cons_cons x)
 nR:=A.nR
 gE:=A.gE
 fresh o ho:=A.fresh o (((DG pre name).append (DG post name)).subset ho)
def lines(A:awm x pre post):jJ l x=[]:=by
 unfold jJ w8;rw[A.nR];rfl
def ring(A:awm x pre post):zu l x=none:=by
 unfold zu;rw[A.nR];rfl
def own(A:awm x pre post):ip (pre++x::post)=ip (pre++post):=by
 have h: ∀o∈pre++post, ∀t,io (pre++x::post) t o=io (pre++post) t o:=fun o y t=>by
  unfold io;rw[A.part.lines_eq y]
 have w: ∀t,io (pre++x::post) t x=t:=fun t=>by
  unfold io;rw[A.lines];rfl
 unfold ip;rw[<-azX h,List.foldl_append,uA,w,<-List.foldl_append]
def keys(A:awm x pre post):iI (pre++x::post)=iI (pre++post):=by
 unfold iI;rw[A.own]
def ends(A:awm x pre post):yB (pre++x::post)=yB (pre++post):=by
 unfold yB;rw[A.keys]
def bad(A:awm x pre post):rp (pre++x::post)=rp (pre++post):=by
 have E:JI (pre++x::post)=JI (pre++post):=by
  unfold JI;rw[A.ends];refine azW fun a y=>?_;rw[(A.part.ends_up y).2];congr 1;exact ay5 fun b w=>by rw[(A.part.ends_up w).2]
 have D:Eu (pre++x::post)=Eu (pre++post):=by
  unfold Eu;rw[A.keys,A.own];rw[DW (g:=pA (pre++post)) fun k t=>by
   obtain⟨_,B,z⟩:=A.part.key_up t;unfold pA;rw[B,z]]
 unfold rp;rw[E,D]
def proper(A:awm x pre post)(a:ag):vD (pre++x::post) a=vD (pre++post) a:=by
 cases e:dP a (pre++x::post) with
 |none=>
  have t:dP a (pre++post)=none:=by
   cases t:dP a (pre++post) with
   |none=>rfl
   |some o=>rw[A.part.up t] at e;cases e
  unfold vD;rw[e,t];rfl
 |some o=>
  obtain⟨y,rfl⟩:=tS e;have w:o=x\/o∈pre++post:=by
   rcases lj.1 y with h|h
   exact .inr (List.mem_append_left _ h);rcases fc.1 h with h|h
   exact .inl h;exact .inr (List.mem_append_right _ h)
  rcases w with rfl|w
  have t:dP o.id (pre++post)=none:=C4 A.new;unfold vD tY;rw[e,t,au,A.ring];rfl;exact(A.part.properAt_eq w).symm
def inside(A:awm x pre post)(t:o∈pre++post)(a:ag):qH (pre++x::post) o.id a=qH (pre++post) o.id a:=by
 unfold qH;rw[ay3 A.part.valC t,ay3 A.val (A.part.mem t),A.proper];cases vD (pre++post) a with
 |none=>rfl
 |some r=>simp only[A.part.seq_eq 3 t]
def rule(A:awm x pre post)(t:o∈pre++post)(rl:List aI):BP (pre++x::post) rl o=BP (pre++post) rl o:=by
 unfold BP mo;congr 1;exact congrArg (List.any rl) (funext fun y=>by rw[A.inside t])
def chk(A:awm x pre post)(rl:List aI):((tf (pre++x::post) rl).flatten).filter (awV x.id)=(tf (pre++post) rl).flatten:=by
 have P:=A.part;have F:zr (pre++x::post)=zr (pre++post):=by
  unfold zr;rw[ayW (fun o t=>(P.badRef_eq t).symm) (by unfold rq Kg;rw[A.gE];rfl)]
 have E:sZ (pre++x::post)=sZ (pre++post):=by
  unfold sZ;rw[A.bad]
 have H:lK (pre++x::post)=lK (pre++post):=by
  unfold lK;rw[ayW (fun o t=>(P.isProper_eq t).symm) (by unfold ph tY;rw[A.ring];rfl)]
 have D:A2 (pre++x::post)=A2 (pre++post):=by
  unfold A2 wF;rw[ayW (fun o t=>(P.badRing_eq t).symm) (by unfold oY;rw[A.ring]),H];rw[ay5 (q:=HO (pre++post)) fun q w=>(P.crossMs_eq (XS w).1 (XS w).2).symm]
 have B:A3 (pre++x::post)=A3 (pre++post):=by
  unfold A3;rw[ayW (fun o t=>(P.badRoute_eq t).symm) (by unfold od;rw[A.nR];rfl),ayW (fun o t=>(P.badTurn_eq t).symm) (by unfold mn;rw[A.nR];rfl)]
 have z:(xD (pre++x::post) rl).filter (awV x.id)=xD (pre++post) rl:=by
  unfold xD;rw[List.filter_map,List.filter_filter];congr 1;refine ayW (fun o t=>?_) ?_;have G:wV [o.id] [x.id]=false:=by
   cases e:wV [o.id] [x.id] with
   |false=>rfl
   |true=>exact(A.new (az0 e▸G9 t)).elim
  show((!(an 7 7)|| !(wV [o.id] [x.id]))&&_)=_;rw[G,A.rule t];rfl;show((!(an 7 7)|| !(wV [x.id] [x.id]))&&_)=false;rw[agZ];rfl
 have k: ∀ {q:VQ},q∈(tf (pre++post) rl).flatten->awV x.id q=true:=fun h=>aAk A.new h;have y: ∀ {L:List VQ},(∀q∈L,q∈(tf (pre++post) rl).flatten)->L.filter (awV x.id)=L:=fun h=>List.filter_eq_self.2 fun q w=>k (h q w);simp only[tf,List.flatten_cons,List.flatten_nil,kC,DR,F,E,D,B,z];rw[y fun q h=>ay9 (.inl h),y fun q h=>ay9 (.inr (.inl h)),y fun q h=>ay9 (.inr (.inr (.inl h))),y fun q h=>ay9 (.inr (.inr (.inr (.inl h))))]
def law(A:awm x pre post)(views:List ag)(rl:List aI):(fQ (pre++x::post) views rl).filter (fun p=>awV x.id p.2)=fQ (pre++post) views rl:=by
 unfold fQ;rw[A.val,A.part.valC,cT,cT,List.filter_flatMap];refine azW fun n _=>?_;rw[aAw,aAw,List.filter_map];congr 1;show((tf (gi (pre++x::post) n) rl).flatten).filter (awV x.id)=_;have y:gi (pre++post) n=gi pre n++gi post n:=DR ..;cases hi:ax4 n x with
 |true=>
  have t:gi (pre++x::post) n=gi pre n++x::gi post n:=by
   unfold gi;rw[DR,List.filter_cons_of_pos hi]
  rw[t,y];exact(A.views n).chk rl
 |false=>
  have t:gi (pre++x::post) n=gi (pre++post) n:=by
   unfold gi;rw[DR,G5 (by simp[hi]),DR]
  rw[t];exact List.filter_eq_self.2 fun q w=>aAk (fun h=>A.new (((DG _ n).map Obj.id).subset h)) w
end awm
variable{Q:aH}[Std Q]
def azD(id:ag)(o:Obj):Prop:=o.id≠id/\id ∉ o.gE
structure Fr7 (e:ax):Prop where
 h3:ac e 3= .rd 3 1 0
 h4:ac e 4= .rd 4 1 0
 h5:ac e 5= .rd 5 1 0
 h7:ac e 7= .bool true
def Fr7.mv{t:ax}(F:Fr7 e)(h:ac t 3=ac e 3/\ac t 4=ac e 4/\ac t 5=ac e 5/\ac t 7=ac e 7):Fr7 t:=⟨h.1.trans F.h3,h.2.1.trans F.h4,h.2.2.1.trans F.h5,h.2.2.2.trans F.h7⟩
def aB5(ho:ay 6 Obj.val ov l)(go:o.oM)(S:l[i]? =some o)(a0:o.gE.length<=1000)(hm:s.gt<=s.aL)(g3:lc.gen 3=1)(M:lc.get 3 1=some [ov])(g5:lc.gen 5=1)(Z:lc.get 5 1=some x.cells)(hr: ∀e,ac e 6= .bool true->K .ret ⟨e,125,lc⟩ s)(hx:x.id ∉ o.gE-> ∀e,Fr7 e->ac e 8=uM i->K (.exit 2) ⟨e,125,lc⟩ s):
 ∀(t pre:List ag) (e:ax),o.gE=pre++t->x.id ∉ pre->Fr7 e->ac e 8=uM i->ac e 9=uM pre.length->W Q 7 (.loop azz) ⟨e,125,lc⟩ s K:=by
 intro t;have A:=ho.cs;have z:=fun lc k=>ho.at gX.2.2.1 S lc k;have w:=go.gE.cs;have H:=go.gE.lenS cH;have J:=go.all
 induction t with
 |nil=>
  intro pre e G Y F B E;have D:=F.h3;have R:pre.length=o.gE.length:=by rw[G];simp
  refine lk ?_;simp only[go_sem,seval,azz,D,B,E,g3,M,A,z,Obj.val,Obj.cells,J,w,H,R,cD];exact hx (by rw[G,kC];exact Y) _ (F.mv (by simp only[sN,seval,D,and_self])) (by simp only[sN,seval,B])
 |cons y t ih=>
  intro pre e G Y F B E;have D:=F.h3;have V:=F.h5;have U:=F.h7;have P:pre.length<o.gE.length:=by rw[G];simp
  have hy:o.gE[pre.length]? =some y:=by rw[G];simp
  have I:=fun lc k=>go.gE.at cH.2.2.1 hy lc k;have N:IntKind.i64.wrap ((pre.length:Int)+1)=((pre.length+1:Nat):Int):=by rw[ayK];omega
  refine lk ?_;simp only[go_sem,seval,azz,D,B,E,g3,M,A,z,Obj.val,Obj.cells,J,w,H,P];refine iT hm ?_;cases e1:y==x.id with
  |true=>
   simp only[go_sem,azx,seval,D,V,U,B,E,g3,M,g5,Z,A,z,I,Obj.val,Obj.cells,J,w,aG,e1];exact hr _ (by simp only[sN,seval,U])
  |false=>
   have O: ¬y=x.id:=by simpa using e1
   simp only[go_sem,azx,seval,D,V,U,B,E,g3,M,g5,Z,A,z,I,Obj.val,Obj.cells,J,w,aG,e1,N];exact ih (pre++[y]) _ (by rw[G];simp) (by
    rw[lj,BB];rintro(h|h);exact Y h;exact O h.symm) (F.mv (by simp only[sN,seval,D,V,and_self])) (by simp only[sN,seval,B]) (by simp only[adz,sN,seval,E])
def aBU(I:ay 6 Obj.val ov l)(hg: ∀o∈l,o.oM)(hl:l.length<=1000)(O: ∀o∈l,o.gE.length<=1000)(hm:s.gt<=s.aL)(g3:lc.gen 3=1)(D:lc.get 3 1=some [ov])(Y:lc.gen 5=1)(M:lc.get 5 1=some x.cells)(hr: ∀e,ac e 6= .bool true->K .ret ⟨e,125,lc⟩ s)(hx:(∀o∈l,azD x.id o)-> ∀e,Fr7 e->K (.exit 0) ⟨e,125,lc⟩ s):
 ∀(t pre:List Obj) (e:ax),l=pre++t->(∀o∈pre,azD x.id o)->Fr7 e->ac e 8=uM pre.length->W Q 7 (.loop azA) ⟨e,125,lc⟩ s K:=by
 intro t;have w:=I.cs;have G:=I.lenS gX
 induction t with
 |nil=>
  intro pre e B V F A;have z:=F.h3;have S:pre.length=l.length:=by rw[B];simp
  refine lk ?_;simp only[go_sem,seval,azA,z,A,g3,D,w,G,S,cD];exact hx (by rw[B,kC];exact V) _ (F.mv (by simp only[sN,seval,z,and_self]))
 |cons o t ih=>
  intro pre e B V F A;have z:=F.h3;have U:=F.h5;have J:=F.h7;have R:pre.length<l.length:=by rw[B];simp
  have y:l[pre.length]? =some o:=by rw[B];simp
  have E:=eP y;have go:=hg o E;have Z:=go.all;have H:=fun lc k=>I.at gX.2.2.1 y lc k;have N:IntKind.i64.wrap ((pre.length:Int)+1)=((pre.length+1:Nat):Int):=by rw[ayK];omega
  refine lk ?_;simp only[go_sem,seval,azA,z,A,g3,D,w,G,R];refine iT hm ?_;cases e1:o.id==x.id with
  |true=>
   simp only[go_sem,azy,seval,z,U,J,A,g3,D,Y,M,w,H,Obj.val,Obj.cells,Z,e1];exact hr _ (by simp only[sN,seval,J])
  |false=>
   have P: ¬o.id=x.id:=by simpa using e1
   simp only[go_sem,azy,seval,z,U,J,A,g3,D,Y,M,w,H,Obj.val,Obj.cells,Z,e1];refine aB5 I go y (O o E) hm g3 D Y M (fun e2 k6=>?_) (fun hn e2 F2 k8=>?_) o.gE [] _ rfl zT ⟨?_,?_,?_,?_⟩ ?_ ?_;exact hr e2 k6
   rotate_left
   iterate 6
    simp only[sN,seval,z,F.h4,U,J,A,bn]
    try rfl
   simp only[go_sem,seval,k8,N];exact ih (pre++[o]) _ (by rw[B];simp) (fun q hq=>by
    rcases lj.1 hq with h|h
    exact V q h;rw[BB] at h;subst h;exact⟨P,hn⟩) (F2.mv (by simp only[sN,seval,and_self])) (by simp only[adz,sN,seval])
def ayS(x:ag)(p:VE):Bool:=awV x p.2
def aBX(b1:Q.spec 35=some AK){av:aa}{E:List VE}(hE:ay 3 dH av E)(b6:E.length<=900000000)(hi: ∀p∈E,p.2.2.1.length<=2)(g5:lc.gen 5=1)(l5:lc.get 5 1=some x.cells)(gx:x.oM)(hx: ∀e s M,cR 3 lo s M ((E.filter (ayS x.id)).map dH)->ac e 13=M->Fr7 e->K (.exit 4) ⟨e,125,lc⟩ s):
 ∀(D pre:List VE) (e:ax) (s:St) (M:aa),E=pre++D->cR 3 lo s M ((pre.filter (ayS x.id)).map dH)->lo<=s.aL->s.gt<=s.aL->ac e 12=av->ac e 13=M->ac e 14=uM pre.length->Fr7 e->W Q 7 (.loop ay2) ⟨e,125,lc⟩ s K:=by
 intro D;have B:=hE.cs;have b2:=hE.lenS j6;have rc:=gx.all
 induction D with
 |nil=>
  intro pre e s M V Y U H w J z F;have b5:pre.length=E.length:=by rw[V];simp
  have b3:pre=E:=by rw[V];simp
  refine lk ?_;simp only[go_sem,seval,ay2,w,z,B,b2,b5,cD];rw[b3] at Y;exact hx _ _ M Y (by simp only[sN,seval,J]) (F.mv (by simp only[sN,seval,and_self]))
 |cons p D ih=>
  intro pre e s M V Y U H w J z F;have b4:pre.length<E.length:=by rw[V];simp
  have b0:E[pre.length]? =some p:=by rw[V];simp
  have I:=fun lc k=>hE.at j6.2.2.1 b0 lc k;have S:IntKind.i64.wrap ((pre.length:Int)+1)=((pre.length+1:Nat):Int):=by rw[ayK];omega
  have Z:=F.h5;have a0:=Y.ge;have O:=kZ H;have a9:(aa.list 1 (p.2.2.1.map aG) (vG p.2.2.2)).ge=true:=by cases p.2.2.2<;>rfl
  have N:AK [.list 1 (p.2.2.1.map aG) (vG p.2.2.2),.list 1 [.str x.id] .uP]=some (.bool (wV p.2.2.1 [x.id])):=
   aBa (.inr ⟨_,rfl⟩) (.inr ⟨_,rfl⟩:ay 1 aG (.list 1 [.str x.id] .uP) [x.id]) (by rw[Gj];cases p.2.2.2<;>rfl) rfl (by have:=hi p (eP b0);omega) (show 1<=1000000 by decide)
  have step: ∀(b:Bool),ayS x.id p=b->b=false-> ∀A,ac A 12=av->ac A 13=M->ac A 14=uM (pre++[p]).length->Fr7 A->W Q 7 (.loop ay2) ⟨A,125,lc⟩ s K:=fun b hb h0 A k12 R P F'=>by
   subst h0;exact ih (pre++[p]) A s M (by rw[V];simp) (by rw[o9 hb];exact Y) U H k12 R P F'
  obtain⟨a8,s1,a1,a2,a3,a4,a5,a6,a7⟩:=LI (t:=35) j6.1 rfl (by decide) (s:=s) (y:=.list 3 [dH p] .uP) (x:=dH p) Y (by simp only[afo,eE]) (by
   rw[ce]
   have:=kT (ayS x.id) pre;have:pre.length<=E.length:=by omega
   omega) U H
  have G:ayS x.id p=true-> ∀A,ac A 12=av->ac A 13=a8->ac A 14=uM (pre++[p]).length->Fr7 A->W Q 7 (.loop ay2) ⟨A,125,lc⟩ s1 K:=fun hb A k12 R P F'=>
   ih (pre++[p]) A s1 a8 (by rw[V];simp) (by rw[tm hb,ff];exact a2) (by omega) a5 k12 R P F'
  simp only[dH,g9] at a1;have keep:ayS x.id p=(!(an p.2.1 7)|| !(wV p.2.2.1 [x.id])):=rfl;refine lk ?_;simp only[go_sem,seval,ay2,w,z,B,b2,b4];refine iT H ?_;cases hk:an p.2.1 7 with
  |false=>
   simp only[go_sem,azf,seval,Z,w,z,g5,l5,B,I,dH,g9,Obj.cells,rc,hk];simp only[go_sem,seval,w,J,z,B,I,dH,g9,a0,S,a1,a3,bj,bg,aZ,bf,evc];refine G (by rw[keep,hk];rfl) _ ?_ ?_ ?_ ⟨?_,?_,?_,?_⟩
   all_goals simp only[adz,sN,seval,w,F.h3,F.h4,Z,F.h7]
  |true=>
   cases hj:wV p.2.2.1 [x.id] with
   |false=>
    rw[hj] at N;simp only[go_sem,azf,seval,Z,w,z,g5,l5,B,I,dH,g9,Obj.cells,rc,hk,a9,b1,N,O,bj,bg,aZ,bf,evc];simp only[go_sem,seval,w,J,z,B,I,dH,g9,a0,S,a1,a3,bj,bg,aZ,bf,evc];refine G (by rw[keep,hk,hj];rfl) _ ?_ ?_ ?_ ⟨?_,?_,?_,?_⟩
    all_goals simp only[adz,sN,seval,w,F.h3,F.h4,Z,F.h7]
   |true=>
    rw[hj] at N;simp only[go_sem,azf,seval,Z,w,z,g5,l5,B,I,dH,g9,Obj.cells,rc,hk,a9,b1,N,O,bj,bg,aZ,bf,evc];simp only[go_sem,seval,z,S];refine step _ rfl (by rw[keep,hk,hj];rfl) _ ?_ ?_ ?_ ⟨?_,?_,?_,?_⟩
    all_goals simp only[adz,sN,seval,w,J,F.h3,F.h4,Z,F.h7]
def aBT(h:gH x=true)(t:an x.nR 1=true):x.gE=[]:=by
 unfold gH at h;rw[t] at h;cases h1:oo x with
 |true=>rw[h1] at h;cases h
 |false=>
  rw[h1] at h;cases h2:pK x.nR [] [] x.gE with
  |true=>rw[h2] at h;cases h
  |false=>
   rw[h2] at h;simp only[cF,cT,bu] at h;exact uv (eq_of_beq h.1)
def aBO(y:dD l=true)(w:gH x=true)(B:an x.nR 1=true)(z: ∀o∈l,azD x.id o)(D:l.length<1000000)(views:List ag)(rl:List aI):
 (fQ (awn l x) views rl).filter (ayS x.id)=fQ l views rl:=by
 have S:=aAt (azC y x.id);have A:awm x (l.take (ayT x.id l)) (l.drop (ayT x.id l)):=⟨aBh y w (fun o t=>(z o t).1) S D,of_decide_eq_true B,aBT w B,fun o t=>(z o (by rw[zU] at t;exact t)).2⟩;have h:=A.law views rl;rw[zU] at h;exact h
def aBN(I:Q.spec 15=some EJ)(H:Q.spec 16=some Ck)(b7:Q.spec 17=some vM)(a1:Q.spec 18=some o4)(P:Q.spec 33=some Cl)(a0:Q.spec 34=some ayY)(b6:Q.spec 35=some AK)(w7:No Q 7)(E:ay 6 Obj.val ov l)(hg: ∀o∈l,o.oM)(b1:l.length<small)(O:tq w0 w1 w2 w3=true){views:List ag}(hV:ay 1 aG vv views)(b0:views.length<small)(M:ay 8 aI.val rv rl)(V: ∀x∈rl,x.OkS)(b2:rl.length<small)(gx:x.oM)(hm:s.gt<=s.aL):
 ∃v s',aq Q 7 [.agg [ov],.agg [w0,w1,w2,w3,vv,rv],x.val] s v s'/\v= .bool true:=by
 have c3:=ajJ;have z:=E.cs;have t:=hV.cs;have w:=M.cs;have S:=gx.all;have am:=uQ E hg b1;have R:=mX oc hV;have qh:EJ []=some (.bool true):=rfl;have B:=afw am R (Sq M V b2) b0 (Cn O) 24;have A:Cl [.agg [.list 6 [x.val] .uP],ic 1]=some (.bool (rF [x] 1)):=afz (l:=[x]) (.inr ⟨.uP,rfl⟩) (fun o E=>by rw[BB] at E;subst E;exact gx) (show 1<small by decide) 1;simp only[Obj.val,Obj.cells] at A;refine aq.ofNRZ aBL (WE.sound ?_);cases hf:wQ l views rl 24 with
 |false=>
  rw[hf] at B;simp only[go_sem,seval,z,t,w,S,Obj.val,Obj.cells,I,qh,H,B,bj,bg,aZ,bf,evc];exact⟨_,rfl,rfl⟩
 |true=>
  rw[hf] at B;cases hx1:rF [x] 1 with
  |false=>
   rw[hx1] at A;simp only[go_sem,seval,z,t,w,S,Obj.val,Obj.cells,I,qh,H,B,P,A,bj,bg,aZ,bf,evc];exact⟨_,rfl,rfl⟩
  |true=>
   rw[hx1] at A;cases hk:an x.nR 1 with
   |false=>
    simp only[go_sem,seval,z,t,w,S,Obj.val,Obj.cells,I,qh,H,B,P,A,hk,bj,bg,aZ,bf,evc];exact⟨_,rfl,rfl⟩
   |true=>
    unfold wQ at hf;simp only[bu] at hf;obtain⟨_,b5,Z,G⟩:=hf;obtain⟨c1,D⟩:=afB (n:=24) b5;obtain⟨_,N⟩:=afB (n:=1) hx1;have c2:views.length<=3:=by
     unfold cr at Z
     have:=of_decide_eq_true Z;omega
    unfold u6 at G;simp only[bu] at G;have ok:=aqb G.1 V;have c4:rl.length<=5:=by
     have h:=G.2;unfold cr at h
     have:=of_decide_eq_true h;omega
    have ar:=BM M ok (by omega);have a6:qR l=true:=Yv (by omega) fun o E=>(D o E).1;simp only[go_sem,seval,z,t,w,S,Obj.val,Obj.cells,I,qh,H,B,P,A,hk,bj,bg,aZ,bf,evc];refine aBU (x:=x) E hg (by omega) (fun o h=>by have:=(D o h).1;omega) hm ?_ ?_ ?_ ?_ (fun e h6=>?_) (fun hn e F=>?_) l [] _ rfl (fun _ h=>by cases h) ⟨?_,?_,?_,?_⟩ ?_
    rotate_left 4
    simp only[go_sem,seval,h6];exact⟨_,rfl,rfl⟩
    ·have h3:=F.h3
     have h4:=F.h4;have h5:=F.h5;have h7:=F.h7;have y:=aB2 E hg (by omega) gx fun o h=>(hn o h).1;simp only[Obj.val,Obj.cells] at y;cases hb:dD l&&gH x with
     |false=>
      unfold ayZ at y;rw[hb] at y;have a9:an 1 0=false:=rfl;simp only[go_sem,seval,h3,h4,h5,h7,z,t,w,S,Obj.val,Obj.cells,a0,y,a9];exact⟨_,rfl,rfl⟩
     |true=>
      unfold ayZ at y;rw[hb] at y;simp only[bu] at hb;have c5:=azF l x;have b4: ∀o∈awn l x,o.oM:=fun o h=>by
       rcases azG h with rfl|h
       exact gx;exact hg o h
      have b3: ∀o∈awn l x,o.gE.length<=12:=fun o h=>by
       rcases azG h with rfl|h
       exact(N _ (BB.2 rfl)).1;exact(D o h).1
      have Y:=Ym (awn l x);have a8:=Y.cs;have a4:o4 [.agg [ov],.agg [w0,w1,w2,w3,vv,rv]]=some (fI 3 ((fQ l views rl).map dH)):=by
       rw[<-Ek];exact El am R ar a6 (by omega) (Cn O)
      have U:o4 [.agg [vp (awn l x)],.agg [w0,w1,w2,w3,vv,rv]]=some (fI 3 ((fQ (awn l x) views rl).map dH)):=by
       rw[<-Ek];exact El (uQ Y b4 (by omega)) R ar (Yv (by omega) b3) (by omega) (Cn O)
      have J: ∀m:List Obj,m.length<=900->(fQ m views rl).length<=12000000:=fun m hm=>by
       have:=Td (fun _=>hm:dD m=true->m.length<=900) views rl;omega
      have ia:=tQ 3 dH (fQ l views rl);have ii:=tQ 3 dH (fQ (awn l x) views rl);have c0:=ia.cs;have a7:=ii.cs;have a2:=Uv (l:=fQ l views rl) fun p hp=>Tc hp;simp only[go_sem,seval,h3,h4,h5,h7,z,t,w,S,a8,a7,Obj.val,Obj.cells,a0,y,a1,U];refine aBX (x:=x) (lo:=s.aL) b6 ii (by have:=J (awn l x) (by omega);omega) (fun p hp=>Tc hp) ?_ ?_ gx ?_ (fQ (awn l x) views rl) [] _ _ .oZ rfl (.inl ⟨rfl,rfl⟩) (br _) hm ?_ ?_ ?_ ⟨?_,?_,?_,?_⟩
      rotate_left 2
      intro e2 s2 tv hO b8 F2;rw[aBO hb.1 hb.2 hk hn (by omega)] at hO;have a3:=hO.ge;have k3:=F2.h3;have k4:=F2.h4;have k7:=F2.h7;have a5:vM [tv,fI 3 ((fQ l views rl).map dH)]=some (.bool true):=by
       rw[P3 hO.isL ia (by have:=J l (by omega);omega) a2 a2,Kv]
      simp only[go_sem,seval,k3,k4,k7,b8,z,t,w,c0,a3,a1,a4,b7,a5];exact⟨_,rfl,rfl⟩
      all_goals simp only[sN,sG,seval,h3,h4,h5,h7,bn]
      all_goals rfl
    all_goals simp only[sN,sG,seval,bn]
    all_goals rfl
def LT7:dX:=[(15,EJ),(16,Ck),(17,vM),(18,o4),(33,Cl),(35,AK)]
noncomputable def azK:dX:=(34,ayY)::LT7
def aAz:dR azK:=.cons aB3 (.cons agN (.cons afx (.cons Z6 (.cons Mc (.cons afA (.cons ag3 .nil))))))
def aBM{views:List ag}(hl:ay 6 Obj.val v l)(U: ∀o∈l,o.oM)(hs:l.length<small)(D:tq w0 w1 w2 w3=true)(hV:ay 1 aG vv views)(F:views.length<small)(J:ay 8 aI.val rv rl)(y: ∀x∈rl,x.OkS)(M:rl.length<small)(P:x.oM)(G:Gh)(h:aC aR)(w:World)(xs:List Value)(wr:WR G h w)(Y:ck G [.agg [v],.agg [w0,w1,w2,w3,vv,rv],x.val] xs):
 mM ae 7 ⟨xs⟩ w fun r S=> ∃R,WR R h S/\cZ G h w R h S 0 0/\VR R (.bool true) r:=by
 obtain⟨Z,V,E,N⟩:=qQ hl U;obtain⟨I,B⟩:=PX J y;obtain⟨H,z⟩:=pU vQ hV;have O:=UE D;have E:en [.agg [v],.agg [w0,w1,w2,w3,vv,rv],x.val]=[.agg [V],.agg [de w0,de w1,de w2,de w3,de vv,de rv],x.val]:=by simp only[en,de,E,KU P.pure];rw[<-E];simp only[de,en]
 have t:=Cn D;simp only[eO,bu] at t;refine j9 aAz (W:=[]) .nil (args:=[.agg [v],.agg [w0,w1,w2,w3,vv,rv],x.val]) (by
  have:d8 (.agg [w0,w1,w2,w3,vv,rv])=true:=by
   simp only[d8,eO,t.1,t.2.1,t.2.2.1,t.2.2.2.1,I,H,cw]
  show(d8 (.agg [v])&&(d8 (.agg [w0,w1,w2,w3,vv,rv])&&(d8 x.val&&_)))=true;rw[Z,this,arL P.pure];rfl) (fun ch=>?_) G h w xs wr Y
 rw[E];obtain⟨v,s',A,rfl⟩:=aBN (Q:=QW azK [] ch) rfl rfl rfl rfl rfl rfl rfl ⟨rfl,rfl⟩ N U hs O z F B y M P (s:=s0) (by decide);exact⟨_,_,A,⟨1,rfl⟩⟩
