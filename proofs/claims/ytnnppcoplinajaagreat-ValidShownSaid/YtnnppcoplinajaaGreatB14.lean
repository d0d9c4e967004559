/- Lemmas for ValidShown. -/
import Derived.Test.YtnnppcoplinajaaGreatB9
import Derived.Test.YtnnppcoplinajaaGreatB13
import Derived.Test.YtnnppcoplinajaaGreatB8
import Derived.Test.YtnnppcoplinajaaGreatB10
set_option linter.all false
open Bool renaming and_eq_true→bq,and_self→bX,eq_iff_iff→GN,false_and→dL,false_or→jV,or_eq_false_iff→zN,or_eq_true→uj,true_and→eC
open List renaming all_cons→kx,all_eq_true→fD,any_eq_true→BG,append_assoc→oC,append_nil→ky,contains_iff_mem→K7,drop→bL,eq_nil_of_length_eq_zero→vP,filter_append→BH,flatMap_cons→D5,getD_eq_getElem?_getD→m8,getElem?_eq_getElem→gB,getElem?_eq_some_iff→nR,getElem?_of_mem→uu,length_append→de,length_cons→cX,length_drop→GW,length_filter_le→kA,length_map→bU,length_nil→ct,length_range→D6,length_replicate→D7,map_append→eK,map_congr_left→BJ,map_cons→eT,map_map→m9,map_nil→sQ,mem_append_left→sR,mem_append_right→GY,mem_append→hQ,mem_cons_of_mem→iw,mem_cons_self→fE,mem_cons→dG,mem_filterMap→Ld,mem_filter→jp,mem_flatMap→sS,mem_map_of_mem→D8,mem_map→cw,mem_of_getElem?→dM,mem_singleton→vQ,nil_append→vR,not_mem_nil→xQ,of_mem_zip→G3,replicate_succ→Lg,replicate→gD,take→cQ
open Nat renaming beq→aK,ble_eq_true_of_le→cN,ble→bu,blt→bh,le_of_ble_eq_true→fF,le_refl→bj,le_succ_of_le→bW,le_succ→jW,le_trans→eL,lt_irrefl→cq,lt_succ_self→jX,mul_le_mul→rC,reduceAdd→bH,reduceBEq→ai,reduceDiv→ek,reduceEqDiff→d8,reduceLT→aA,reduceLeDiff→cz,reduceMod→dP,reduceMul→dH,reducePow→dR,reduceSub→dS,succ_mul→qo,zero_add→eM,zero_le→jY
open Go.Op renaming bytesLess→fh
open Option renaming bind_eq_some_iff→ak,bind_some→bk,map_none→sV
open Option.some renaming injEq→aM
open Go.Proofs.Tryz renaming prog→ah
open Go.Ag.W renaming drawX→gi,loopC→bm,loopE→kB
open Go.Ag.WC renaming sound→bP
namespace Go.Proofs.YtnnppcoplinajaaGreat
open Go.Ag
variable{Q:aF}[Std Q]
def oV(f:Nat×ae):aa:=.agg [aI f.1,.str f.2]
def HP(l:List Obj)(k:Nat)(x:aB):List (Nat×ae):=(l.filter (j6 l x)).map fun o=>(k,o.id)
def pH(l:List Obj):Nat->List aB->List (Nat×ae)
 |_,[]=>[]
 |k,x::r=>HP l k x++pH l (k+1) r
def NG(l:List Obj): ∀(r:List aB) (k:Nat),(pH l k r).length<=r.length*l.length
 | [],_=>jY _
 |x::r,k=>by
  have:=NG l r (k+1);have h:=kA (j6 l x) l;simp only[pH,HP,de,bU,cX,qo];omega
variable{l:List Obj}{ov:aa}
def ag7(w:No Q 217)(F:au 6 Obj.val ov l){x:aB}(z:x.Ok)(s:St):aq Q 217 [.agg [ov],x.val] s (.func (.func 298) [] [.ptr (s.aL+1) 0,.ptr s.aL 0]) ((s.new (.cells [ov])).new (.cells x.cells)):=by
 have t:=F.cs;have A:=z.vals.ge;have vs:=z.vals.scal;have E:(s.new (.cells [ov])).aL=s.aL+1:=rfl;refine aq.ofNZ apc (bP ?_);simp only[go_sem,seval,t,aB.val,aB.cells,A,vs,E,bf,aZ,aW,aY,evc]
variable{K:Ex->Fr->St->Prop}{lo:Nat}{rv:aa}
def akz(b4:Q.spec 214=some mD)(b5:Q.spec 130=some nj)(b3:Q.spec 299=some tH)(Y:No Q 298)(ho:au 6 Obj.val ov l)(hg: ∀o∈l,o.AL)(hf:mB l=true)(ht: ∀o∈l,o.uP.length<=1000000){x:aB}(ok:x.Ok){xb mb k nr:Nat}{bse:List (Nat×ae)}(c5:bse.length+l.length<=900000){s0:St}(a0:s0.get [] xb=some (.cells x.cells))(b0:s0.get [] mb=some (.cells [ov]))(xl:xb<s0.aL)(ml:mb<s0.aL)(hx: ∀e lc s G,cI 2 lo s G ((bse++HP l k x).map oV)->oH s0 s->lo<=s.aL->(∀k,k<lo->s.get [] k=s0.get [] k)->ac e 1=rv->ac e 2= .Gt 2 1 0->lc.get 2 1=some [ov]->lc.gen 2=1->ac e 5=G->ac e 19=rv->ac e 20=aI nr->ac e 21=aI k->K (.exit 2) ⟨e,49,lc⟩ s):
 ∀(z w:List Obj) (e:aw) (lc:Ag.Loc) (s:St) (G:aa),l=w++z->cI 2 lo s G ((bse++(w.filter (j6 l x)).map fun o=>(k,o.id)).map oV)->oH s0 s->lo<=s.aL->(∀k,k<lo->s.get [] k=s0.get [] k)->ac e 1=rv->ac e 2= .Gt 2 1 0->lc.get 2 1=some [ov]->lc.gen 2=1->ac e 5=G->ac e 6=aI k->ac e 8= .func (.func 298) [] [.ptr xb 0,.ptr mb 0]->ac e 19=rv->ac e 20=aI nr->ac e 21=aI k->ac e 30=ov->ac e 31=aI l.length->ac e 32=aI w.length->W Q 124 (.loop Ol) ⟨e,49,lc⟩ s K:=by
 intro z
 induction z with
 |nil=>
  intro w e lc s G S T F H I r1 r2 l2 g2 h5 h6 h8 P O M J E A;have c2:w.length=l.length:=by rw[S];simp
  have b8:w=l:=by rw[S];simp
  refine bm ?_;simp only[go_sem,seval,Ol,E,A,c2,cq];rw[b8] at T;refine hx _ _ _ G T F H I ?_ ?_ l2 g2 ?_ ?_ ?_ ?_
  all_goals simp only[sN,seval,r1,r2,h5,P,O,M]
 |cons o z ih=>
  intro w e lc s G S T F H I r1 r2 l2 g2 h5 h6 h8 P O M J E A;have c1:w.length<l.length:=by rw[S];simp
  have b2:l[w.length]? =some o:=by rw[S];simp
  have a9:=dM b2;have go:=hg o a9;have rc:=go.all;have c3:=fun lc k=>ho.at eO.2.2.1 b2 lc k;have c4:l.length<=900:=(oW.1 hf).len;have a8:=da (n:=w.length) (by omega);have b7:=(F.old xb xl (by rw[a0];simp)).trans a0;have c0:=(F.old mb ml (by rw[b0];simp)).trans b0;have R:=ag8 b4 b5 b3 Y ho hg hf ok go (ht o a9) (s:=s) b7 c0;simp only[Obj.val,Obj.cells] at R;have Z:=T.ge;have b1:(bse++(w.filter (j6 l x)).map fun o=>(k,o.id)).length<=900000:=by
   rw[de,bU]
   have:=kA (j6 l x) w;omega
  refine bm ?_;simp only[go_sem,seval,Ol,h8,J,E,A,c1,c3,Obj.val,Obj.cells,rc];refine co.of R (by decide) ?_;cases hb:j6 l x o with
  |false=>
   simp only[go_sem,seval,A,a8];refine ih (w++[o]) _ _ s G (by rw[S];simp) (by rw[qJ hb];exact T) F H I ?_ ?_ ?_ ?_ ?_ ?_ ?_ ?_ ?_ ?_ ?_ ?_ ?_
   all_goals simp only[sL,seval,r1,r2,l2,g2,h5,h6,h8,P,O,M,J,E,sA]
  |true=>
   obtain⟨b6,s1,a1,a2,a3,a4,a5,a6,a7⟩:=BS (t:=184) KC.1 rfl (by decide) (s:=s) (y:=.list 2 [oV (k,o.id)] .GT) (x:=oV (k,o.id)) T (by simp only[fc,ee]) (by rw[bU];exact b1) H F.mw;simp only[oV] at a1;simp only[go_sem,seval,h5,h6,Z,bf,aZ,aW,aY,evc];simp only[go_sem,seval,h5,A,a8,Z,a1,a3,bf,aZ,aW,aY,evc];refine ih (w++[o]) _ _ s1 b6 (by rw[S];simp) (by
    have e:(bse++((w++[o]).filter (j6 l x)).map fun o=>(k,o.id)).map oV=(bse++(w.filter (j6 l x)).map fun o=>(k,o.id)).map oV++[oV (k,o.id)]:=by rw[wE hb];simp
    rw[e];exact a2) (F.app a4 a5 a6) (by omega) (fun k F=>(a7 k F).trans (I k F)) ?_ ?_ ?_ ?_ ?_ ?_ ?_ ?_ ?_ ?_ ?_ ?_ ?_
   all_goals simp only[sL,seval,r1,r2,l2,g2,h6,h8,P,O,M,J,E,sA]
def akN(a2:Q.spec 214=some mD)(a3:Q.spec 130=some nj)(a1:Q.spec 299=some tH)(R:No Q 298)(S:No Q 217)(ho:au 6 Obj.val ov l)(hg: ∀o∈l,o.AL)(hf:mB l=true)(ht: ∀o∈l,o.uP.length<=1000000){rl:List aB}(a7:au 8 aB.val rv rl)(ok: ∀x∈rl,x.Ok)(a6:rl.length<=200){s9:St}(hx: ∀e lc s F,cI 2 lo s F ((pH l 0 rl).map oV)->s.gE<=s.aL->lo<=s.aL->(∀k,k<lo->s.get [] k=s9.get [] k)->ac e 5=F->K (.exit 0) ⟨e,49,lc⟩ s):
 ∀(A t:List aB) (e:aw) (lc:Ag.Loc) (s:St) (F:aa) (w:List (Nat×ae)),rl=t++A->w++pH l t.length A=pH l 0 rl->cI 2 lo s F (w.map oV)->lo<=s.aL->s.gE<=s.aL->(∀k,k<lo->s.get [] k=s9.get [] k)->ac e 1=rv->ac e 2= .Gt 2 1 0->lc.get 2 1=some [ov]->lc.gen 2=1->ac e 5=F->ac e 19=rv->ac e 20=aI rl.length->ac e 21=aI t.length->W Q 124 (.loop Om) ⟨e,49,lc⟩ s K:=by
 have b1:l.length<=900:=(oW.1 hf).len;have c8:(pH l 0 rl).length<=200*900:=eL (NG l rl 0) (rC a6 b1);have Z:=ho.ge;have b0:=ho.lenS eO;intro A
 induction A with
 |nil=>
  intro t e lc s F w h1 P hO Y J h9 r1 r2 l2 g2 h5 M I H;have b2:t.length=rl.length:=by rw[h1];simp
  refine bm ?_;simp only[go_sem,seval,Om,I,H,b2,cq];have P:w=pH l 0 rl:=by rw[<-P];exact(ky w).symm
  subst P;exact hx _ _ _ F hO J Y h9 (by simp only[sN,seval,h5])
 |cons x A ih=>
  intro t e lc s F w h1 P hO Y J h9 r1 r2 l2 g2 h5 M I H;have a9:t.length<rl.length:=by rw[h1];simp
  have a0:rl[t.length]? =some x:=by rw[h1];simp
  have G:=ok x (dM a0);have vc:=G.vals.ge;have vs:=G.vals.scal;have b4:=fun lc k=>a7.at ow.2.2.1 a0 lc k;have a5:=da (n:=t.length) (by omega);have b5:w.length+l.length<=900000:=by
   have:=congrArg List.length P;rw[de] at this;omega
  have E:=ag7 S ho G s;obtain⟨z,O⟩:=bZ ((s.new (.cells [ov])).new (.cells x.cells));have nn:(s.new (.cells [ov])).aL=s.aL+1:=rfl;have zn:z.aL=s.aL+2:=by rw[<-O];rfl
  have zo: ∀k,k<s.aL->z.get [] k=s.get [] k:=fun k hk=>by rw[<-O,cr (by omega),cr hk]
  have zm:z.gE<=z.aL:=by rw[<-O];exact bW (bW J)
  have z0:z.get [] s.aL=some (.cells [ov]):=by rw[<-O,cr (by omega)];exact cH
  have z1:z.get [] (s.aL+1)=some (.cells x.cells):=by rw[<-O,<-nn];exact cH
  rw[O] at E;simp only[aB.val,aB.cells] at E;have b7:cI 2 lo z F ((w++(([]:List Obj).filter (j6 l x)).map fun o=>(t.length,o.id)).map oV):=by
   have e:(w++(([]:List Obj).filter (j6 l x)).map fun o=>(t.length,o.id))=w:=by simp
   rw[e];rcases hO with h|⟨q1,k,q2,q3,q4,q5⟩
   exact .inl h;exact .inr ⟨q1,k,q2,(zo k q5).trans q3,q4,by omega⟩
  refine bm ?_;simp only[go_sem,seval,Om,r2,l2,g2,M,I,H,a9,b4,aB.val,aB.cells,vc,vs,Z];refine co.of E (by decide) ?_;simp only[go_sem,seval,r2,l2,g2,b0,Z];refine akz a2 a3 a1 R ho hg hf ht G (rv:=rv) (xb:=s.aL+1) (mb:=s.aL) (lo:=lo) (k:=t.length) (nr:=rl.length) (bse:=w) b5 (s0:=z) z1 z0 (by omega) (by omega) ?_ l [] _ _ z F rfl b7 (.refl zm) (by omega) (fun _ _=>rfl) ?_ ?_ ?_ ?_ ?_ ?_ ?_ ?_ ?_ ?_ ?_ ?_ ?_
  ·intro e1 c7 s1 a4 b6 b3 T a8 c1 c2 b8 c0 c5 c6 c4 c3
   simp only[go_sem,seval,c3,a5];refine ih (t++[x]) _ _ s1 a4 (w++HP l t.length x) (by rw[h1];simp) ?_ b6 T b3.mw (fun k hk=>(a8 k hk).trans ((zo k (by omega)).trans (h9 k hk))) ?_ ?_ ?_ ?_ ?_ ?_ ?_ ?_;rw[<-P,oC,de];rfl
   all_goals simp only[sL,seval,c1,c2,b8,c0,c5,c6,c4,sA]
  all_goals simp only[sL,seval,r1,r2,l2,g2,h5,M,I,H,ct]
  all_goals rfl
variable{s:St}
def akn(w:Q.spec 216=some Bn)(a1:Q.spec 31=some im)(I:Q.spec 214=some mD)(J:Q.spec 130=some nj)(H:Q.spec 299=some tH)(z:No Q 298)(A:No Q 217)(a2:No Q 124)(O:au 6 Obj.val ov l)(hg: ∀o∈l,o.AL)(hf:mB l=true)(ht: ∀o∈l,o.uP.length<=1000000){rl:List aB}(t:au 8 aB.val rv rl)(ok: ∀x∈rl,x.Ok)(S:rl.length<=1000000)(hm:s.gE<=s.aL):
 ∃v E,aq Q 124 [.agg [ov],rv] s v E/\(au 2 oV v (bif ou rl then pH l 0 rl else [])/\E.gE<=E.aL/\s.aL<=E.aL/\ ∀k,k<s.aL->E.get [] k=s.get [] k):=by
 have a3:=gV;have a4:l.length<=900:=(oW.1 hf).len;have hv:cM l=true:=(oW.1 hf).valid;have G:=O.cs;have a5:=CC O;have F:=t.ge;have R:=t.lenS ow;have M:=awF t ok S;have q2:=wT O hg (by omega);rw[hv] at q2;refine aq.ofNRZ aof (bP ?_);cases hr:ou rl with
 |false=>
  rw[hr] at M;simp only[go_sem,seval,G,F,w,M];exact⟨_,rfl,.inl ⟨rfl,rfl⟩,hm,fun _ _=>trivial⟩
 |true=>
  have T:rl.length<=200:=by
   unfold ou at hr;simp only[bq,dE] at hr;exact hr.1
  rw[hr] at M;simp only[go_sem,seval,G,F,R,w,M,a1,q2];refine akN I J H z A O hg hf ht t ok T (lo:=s.aL) (s9:=s) ?_ rl [] _ _ s .Ge [] rfl rfl (.inl ⟨rfl,rfl⟩) (bj _) hm (fun _ _=>rfl) ?_ ?_ ?_ ?_ ?_ ?_ ?_ ?_;intro e lc s1 tv hO Z a0 Y h5;have P:=hO.ge;simp only[go_sem,seval,h5,P];exact⟨_,rfl,hO.isL,Z,a0,Y⟩
  all_goals simp only[aV,nY,ai,bH,ct]
  all_goals rfl
def tj(l:List Obj)(rl:List aB)(o:Obj):Bool:=ou rl&&rl.any fun x=>x.strict&&j6 l x o
def Kq(l:List Obj)(rl:List aB):List aa:=(l.filter (tj l rl)).map fun o=>eJ 7 [o.id]
def zK(l:List Obj)(rl:List aB):aa:=gw 3 (Kq l rl)
theorem JD{l:List Obj}{f:Nat×ae}: ∀ {r:List aB} {k:Nat},f∈pH l k r↔ ∃j x,f.1=k+j/\r[j]? =some x/\ ∃o∈l,o.id=f.2/\j6 l x o=true
 | [],k=>by simp[pH]
 |x::r,k=>by
  rw[pH,hQ,JD (r:=r)];constructor;rintro(h|⟨j,y,z,t,w⟩);obtain⟨o,F,rfl⟩:=cw.1 h
  grind
  exact⟨j+1,y,by omega,by simpa using t,w⟩;rintro⟨j,y,z,t,o,w,E,A⟩;cases j with
  |zero=>
   simp only[List.getElem?_cons_zero,aM] at t;subst t;refine .inl (cw.2 ⟨o,jp.2 ⟨w,A⟩,?_⟩);rw[E];exact Prod.ext z.symm rfl
  |succ j=>grind
def GG(rl:List aB)(i:Nat):Bool:=match rl[i]? with|some x=>x.strict|none=>false
def wH(rl:List aB)(t:List (Nat×ae))(k:ae):Bool:=t.any fun f=>GG rl f.1&&f.2==k
variable{o:Obj}
theorem agD(t:(l.map Obj.id).Nodup){rl:List aB}(A:o∈l):wH rl (bif ou rl then pH l 0 rl else []) o.id=tj l rl o:=by
 unfold wH tj;cases ou rl with
 |false=>rfl
 |true=>
  rw[cT,eC,GN];simp only[BG,bq,bE];constructor;rintro⟨f,I,w,z⟩;obtain⟨j,x,F,M,q,H,J,P⟩:=JD.1 I;rw[eM] at F;unfold GG at w;rw[F,M] at w;have O:q=o:=by
   have a:=De t H;have b:=De t A;rw[J,z,b] at a;exact(sI a).symm
  grind
  rintro⟨x,G,w,z⟩;obtain⟨j,E⟩:=uu G;refine⟨(j,o.id),JD.2 ⟨j,x,by simp,E,o,A,rfl,z⟩,?_,rfl⟩;unfold GG;rw[E];exact w
variable{a:Nat}
theorem avM{fv:aa}{rl:List aB}(M:au 8 aB.val rv rl)(ok: ∀x∈rl,x.Ok){z:List (Nat×ae)}(a3:au 2 oV fv z)(a7:z.length<=900000)(a4: ∀f∈z,f.1<rl.length){s0:St}(hx: ∀e lc s B,ac e 2= .Gt 2 1 0->lc.get 2 1=some [ov]->lc.gen 2=1->ac e 5= .map a->dr a s0 s->bM aa.str s a B->(∀k,(cD k B).getD (.bool false)= .bool (wH rl z k))->K (.exit 0) ⟨e,50,lc⟩ s):
 ∀(w t:List (Nat×ae)) (e:aw) (lc:Ag.Loc) (s:St) (B:List (ae×aa)),z=t++w->dr a s0 s->bM aa.str s a B->(∀k,(cD k B).getD (.bool false)= .bool (wH rl t k))->
  ac e 1=rv->ac e 2= .Gt 2 1 0->lc.get 2 1=some [ov]->lc.gen 2=1->ac e 5= .map a->ac e 14=fv->ac e 15=aI z.length->ac e 16=aI t.length->W Q 57 (.loop Jk) ⟨e,50,lc⟩ s K:=by
 intro w
 induction w with
 |nil=>
  intro t e lc s B G T Y hB Z r2 l2 g2 h5 F E A;have a2:t.length=z.length:=by rw[G];simp
  have a1:t=z:=by rw[G];simp
  refine bm ?_;simp only[go_sem,seval,Jk,E,A,a2,cq];rw[a1] at hB;exact hx _ _ _ B (by simp only[sN,seval,r2]) l2 g2 (by simp only[sN,seval,h5]) T Y hB
 |cons f w ih=>
  intro t e lc s B G T Y hB Z r2 l2 g2 h5 F E A;have O:t.length<z.length:=by rw[G];simp
  have S:z[t.length]? =some f:=by rw[G];simp
  have R:=fun lc k=>a3.at KC.2.2.1 S lc k;have J:=da (n:=t.length) (by omega);obtain⟨x,I⟩: ∃x,rl[f.1]? =some x:=⟨_,gB (a4 f (dM S))⟩;have P:=fun lc k=>M.at ow.2.2.1 I lc k;have H:=M.ge;have a6:GG rl f.1=x.strict:=by unfold GG;rw[I]
  have a5: ∀k,wH rl (t++[f]) k=(wH rl t k||(x.strict&&f.2==k)):=fun k=>by
   simp_all [wH]
  cases hst:x.strict with
  |false=>
   refine bm ?_;simp only[go_sem,seval,Jk,oV,Z,F,E,A,O,R,P,J,H,aB.val,aB.cells,hst];refine ih (t++[f]) _ _ s B (by rw[G];simp) T Y (fun k=>by grind) ?_ ?_ ?_ ?_ ?_ ?_ ?_ ?_
   all_goals simp_all [sL]
  |true=>
   have a0:=vK iA wX Y f.2 (.bool true);refine bm ?_;simp only[go_sem,seval,Jk,oV,Z,h5,F,E,A,O,R,P,J,H,aB.val,aB.cells,hst,a0];refine ih (t++[f]) _ _ _ (en f.2 (.bool true) B) (by rw[G];simp) (T.put _) bM.put (fun k=>?_) ?_ ?_ ?_ ?_ ?_ ?_ ?_ ?_
   grind [P8]
   all_goals simp_all [sL]
variable{B:List (ae×aa)}
theorem awu(ho:au 6 Obj.val ov l)(hl:l.length<=900000){g:ae->Bool}(al:a<lo){s0:St}(hM:bM aa.str s0 a B)(hB: ∀k,(cD k B).getD (.bool false)= .bool (g k))(hx: ∀e lc s G,cI 3 lo s G ((l.filter fun o=>g o.id).map fun o=>eJ 7 [o.id])->ac e 8=G->K (.exit 2) ⟨e,50,lc⟩ s):
 ∀(z w:List Obj) (e:aw) (lc:Ag.Loc) (s:St) (G:aa),l=w++z->cI 3 lo s G ((w.filter fun o=>g o.id).map fun o=>eJ 7 [o.id])->(∀k,k<lo->s.get [] k=s0.get [] k)->lo<=s.aL->s.gE<=s.aL->ac e 5= .map a->ac e 8=G->ac e 31=ov->ac e 32=aI l.length->ac e 33=aI w.length->W Q 57 (.loop Jl) ⟨e,50,lc⟩ s K:=by
 intro z
 induction z with
 |nil=>
  intro w e lc s G O Y H M J h5 Z I F E;have a9:w.length=l.length:=by rw[O];simp
  have a8:w=l:=by rw[O];simp
  refine bm ?_;simp only[go_sem,seval,Jl,F,E,a9,cq];rw[a8] at Y;exact hx _ _ _ G Y (by simp only[sN,seval,Z])
 |cons o z ih=>
  intro w e lc s G O Y H M J h5 Z I F E;have S:w.length<l.length:=by rw[O];simp
  have b0:l[w.length]? =some o:=by rw[O];simp
  have T:=fun lc k=>ho.at eO.2.2.1 b0 lc k;have R:=da (n:=w.length) (by omega);have b1:bM aa.str s a B:=(H a al).trans hM;have A:=qP iA wX D1 b1 o.id;rw[hB] at A;have P:=Y.ge;cases hg:g o.id with
  |false=>
   rw[hg] at A;refine bm ?_;simp only[go_sem,seval,Jl,h5,I,F,E,S,T,R,Obj.val,Obj.cells,A];refine ih (w++[o]) _ _ s G (by rw[O];simp) (by grind) H M J ?_ ?_ ?_ ?_ ?_
   all_goals simp_all [sN]
  |true=>
   rw[hg] at A;obtain⟨a0,s1,a1,a2,a3,a4,a5,a6,a7⟩:=BS (t:=35) iq.1 rfl (by decide) (s:=s) (y:=.list 3 [eJ 7 [o.id]] .GT) (x:=eJ 7 [o.id]) Y (by simp only[fc,ee]) (by
    grind) M J
   simp only[eJ,eT,sQ,ax] at a1;refine bm ?_;simp only[go_sem,seval,Jl,ax,h5,Z,I,F,E,S,T,Obj.val,Obj.cells,A,P,bf,aZ,aW,aY,evc];simp only[go_sem,seval,ax,Z,E,R,P,a1,a3,bf,aZ,aW,aY,evc];refine ih (w++[o]) _ _ s1 a0 (by rw[O];simp) (by grind) (fun k hk=>(a7 k hk).trans (H k hk)) (by omega) a5 ?_ ?_ ?_ ?_ ?_
   all_goals simp only[sN,seval,h5,I,F,sA]
theorem ahT(O:Q.spec 216=some Bn)(a9:Q.spec 31=some im)(P:Q.spec 214=some mD)(R:Q.spec 130=some nj)(M:Q.spec 299=some tH)(F:No Q 298)(G:No Q 217)(H:No Q 124)(b2:No Q 57)(E:au 6 Obj.val ov l)(hg: ∀o∈l,o.AL)(hf:mB l=true)(ht: ∀o∈l,o.uP.length<=1000000){rl:List aB}(w:au 8 aB.val rv rl)(ok: ∀x∈rl,x.Ok)(a2:rl.length<=1000000)(hm:s.gE<=s.aL):
 ∃v s',aq Q 57 [.agg [ov],rv] s v s'/\fU s'.heap v (zK l rl):=by
 have a6:l.length<=900:=(oW.1 hf).len;have a4:=qN (oW.1 hf).valid;have J:=E.cs;have a5:=E.lenS eO;have a0:=w.ge;obtain⟨S,A⟩:=bZ ((bif ou rl then pH l 0 rl else []));have a7:S.length<=900000:=by
  rw[<-A];cases hr:ou rl with
  |false=>simp
  |true=>
   have a3:rl.length<=200:=by
    unfold ou at hr;simp only[bq,dE] at hr;exact hr.1
   have:=eL (NG l rl 0) (rC a3 a6);rw[cT];omega
 have a8: ∀f∈S,f.1<rl.length:=fun f h=>by
  grind [JD]
 obtain⟨z,Y⟩:=bZ (s.new (.map [] 0));have zn:z.aL=s.aL+1:=by rw[<-Y];rfl
 have zm:z.gE<=z.aL:=by rw[<-Y];exact bW hm
 have za:bM aa.str z s.aL []:=by rw[<-Y];exact cH
 have T:=akn O a9 P R M F G H E hg hf ht w ok a2 zm;refine aq.ofNRZ aq0 (bP ?_);simp only[go_sem,seval,J,a0,mJ,Y,bf,aZ,aW,aY,evc];refine co.ex T (by decide) ?_;rintro fv s1 ⟨t,m1,n1,o1⟩;rw[A] at t;have b1:=t.ge;have b0:=t.lenS KC;have a1:bM aa.str s1 s.aL []:=(o1 _ (by omega)).trans za;simp only[go_sem,seval,b1,b0];refine avM w ok t a7 a8 (a:=s.aL) (s0:=s1) (ov:=ov) ?_ S [] _ _ s1 [] rfl (.refl m1) a1 (fun k=>rfl) ?_ ?_ ?_ ?_ ?_ ?_ ?_ ?_
 ·intro e lc s2 B r2 l2 g2 h5 hb hM hB
  have n2:=hb.aL;simp only[go_sem,seval,r2,l2,g2,J,a5];refine awu E (by omega) (g:=wH rl S) (a:=s.aL) (lo:=s2.aL) (by omega) (s0:=s2) hM hB ?_ l [] _ _ s2 .Ge rfl (.inl ⟨rfl,rfl⟩) (fun _ _=>rfl) (bj _) hb.mw ?_ ?_ ?_ ?_ ?_;intro e3 b3 s3 tv hO h8;have Z:=hO.ge;have I:(l.filter fun o=>wH rl S o.id)=l.filter (tj l rl):=List.filter_congr fun o E=>by rw[<-A];exact agD a4 E
  rw[I] at hO;simp only[go_sem,seval,h8,Z];refine⟨_,rfl,4,AF hO fun v hv=>?_⟩;obtain⟨i,_,rfl⟩:=cw.1 hv;exact EM _ _ _
  all_goals simp_all [sN]
 all_goals simp only[aV,nY,ai,bH,ct]
 all_goals rfl
def T7:df:=[(216,Bn),(31,im),(214,mD),(130,nj),(299,tH)]
def afE:dl T7:=.cons awG (.cons tT (.cons W3 (.cons MY (.cons an3 .nil))))
theorem ayv(h:cM l=true): ∀o∈l,o.uP.length<=1000000:=fun o t=>by
 grind [cM,QE,lZ]
def zt:Sp
 | [v,r]=>(jO v).bind fun l=>(qx r).bind fun rl=>bif mB l then some (zK l rl) else none
 |_=>none
def awD:cL ah 57 zt:=by
 intro args u t G h w R S Y;unfold zt at t;split at t;rename_i v0 r;simp only[ak] at t;obtain⟨l,J,rl,z,t⟩:=t;obtain⟨P,t⟩:=bc t;have t:=sI t;subst t;obtain⟨v,rfl,J,O,hs⟩:=nX J;obtain⟨z,M,H⟩:=BT z;obtain⟨Z,T,E,I⟩:=o9 J O;obtain⟨F,A⟩:=Kr z M;have E:dj [.agg [v],r]=[.agg [T],cu r]:=by simp only[dj,E]
 refine iu afE (W:=[]) .nil (args:=[.agg [v],r]) (by simp only[dK,Z,F,bX]) (fun ch=>?_) G h w R S Y;rw[E];exact ahT (Q:=QW T7 [] ch) rfl rfl rfl rfl rfl ⟨rfl,rfl⟩ ⟨rfl,rfl⟩ ⟨rfl,rfl⟩ ⟨rfl,rfl⟩ I O P (ayv (oW.1 P).valid) A M H (by decide);cases t
def sB(o:Obj):ae×Bool:=match gI zz o.uP with|some v=>(v,jA v)|none=>([],false)
def abW(h:gI zz o.uP=none):sB o=([],false):=by unfold sB;rw[h]
def abX{v:ae}(h:gI zz o.uP=some v):sB o=(v,jA v):=by unfold sB;rw[h]
def anX(name:ae)(o:Obj):yH name o=(!(sB o).2||(sB o).1==name):=by
 unfold yH aes;cases h:gI zz o.uP with
 |none=>rw[abW h];rfl
 |some v=>
  rw[abX h];simp only[bk];cases jA v<;>simp
def aec: ∀ {l:List fO} {last:ae},uf last l=true-> ∀ {k v:ae},gI k l=some v->v.length<=200
 | [],_,_,_,_,hq=>by cases hq
 |t::r,last,h,k,v,hq=>by
  simp only[uf] at h;cases hb:qd last t with
  |true=>rw[hb] at h;cases h
  |false=>
   rw[hb] at h;simp only[gI] at hq;cases hk:t.1==k with
   |true=>
    rw[hk] at hq;simp only[cT,aM] at hq;subst hq;simp only[qd,zN,decide_eq_false_iff_not,Nat.not_lt] at hb;exact hb.2
   |false=>
    rw[hk] at hq;exact aec (l:=r) (last:=t.1) h hq
def ays{l:List fO}(h:lZ l=true){k v:ae}(t:gI k l=some v):v.length<=200:=by
 unfold lZ at h;simp only[bq] at h;exact aec h.1 t
def ayp{l:List fO}(h:lZ l=true):l.length<=1000000:=by
 unfold lZ at h;simp only[bq,dE] at h;omega
def avj(t:Q.spec 214=some mD)(z:Q.spec 163=some kY)(G:No Q 159)(go:o.AL)(I:lZ o.uP=true)(s:St):aq Q 159 [o.val] s (.tup [.str (sB o).1,.bool (sB o).2]) s:=by
 have H:=go.all;have M:=gV;have w:mD [o.tagsV,.str [118,105,101,119]]=some (yD (gI zz o.uP)):=NX go.uP (ayp I) zz;have E: ∃v A,aq Q 159 [o.val] s v A/\(v= .tup [.str (sB o).1,.bool (sB o).2]/\A=s):=by
  refine aq.ofNRZ aoW (bP ?_);cases hq:gI zz o.uP with
  |none=>
   rw[hq] at w;simp only[yD] at w;have F:=abW hq;simp only[go_sem,seval,Obj.val,Obj.cells,H,t,w,F];exact⟨_,rfl,rfl⟩
  |some v=>
   rw[hq] at w;simp only[yD] at w;have J:=A8 (s:=v) (by have:=ays I hq;omega);have F:=abX hq;simp only[go_sem,seval,Obj.val,Obj.cells,H,t,w,z,J,F];exact⟨_,rfl,rfl⟩
 obtain⟨v,A,h,rfl,rfl⟩:=E;exact h
variable{nb:Nat}
def at0(t:No Q 73){name:ae}(w:s.get [] nb=some (.cells [.str name]))(v:ae)(d:Bool):aq Q 73 [.str v,.bool d,.ptr nb 0] s (.bool (!d||v==name)) s:=by
 refine aq.ofNZ arm (bP ?_);cases d with
 |false=>simp only[go_sem,seval,Bool.not_false,Bool.true_or]
 |true=>simp only[go_sem,seval,w,aP,aQ,Bool.not_true,jV]
variable{wb:Nat}
def atN(z:Q.spec 214=some mD)(A:Q.spec 163=some kY)(w:No Q 159)(E:No Q 73)(H:No Q 158)(go:o.AL)(M:lZ o.uP=true){name:ae}(F:s.gE<=s.aL)(J:s.get [] wb=some (.cells [.func (.func 73) [] [.ptr nb 0]]))(O:s.get [] nb=some (.cells [.str name])):aq Q 158 [o.val,.ptr wb 0] s (.bool (yH name o)) s:=by
 have I:=go.all;have t:=avj z A w go M s.top;have G:=at0 E (s:=s.top) O (sB o).1 (sB o).2;simp only[Obj.val,Obj.cells] at t;refine aq.ofNZ aoV ?_;refine WE.sound ?_;simp only[go_sem,seval,Obj.val,Obj.cells,I];refine gi F ?_;simp only[go_sem,It,seval,aP,J,aQ,I];refine jR.quiet t (by decide) (by simp[eh,l8]) ?_;simp only[go_sem,It,seval];refine jR.quiet G (by decide) (by simp[eh,l8]) ?_;simp only[go_sem,It,seval,anX]
def akm(a0:Q.spec 214=some mD)(a8:Q.spec 163=some kY)(O:No Q 159)(a9:No Q 73)(P:No Q 158)(ho:au 6 Obj.val ov l)(hg: ∀o∈l,o.AL)(ht: ∀o∈l,lZ o.uP=true)(hl:l.length<=900000){name:ae}{s0:St}(hw:s0.get [] wb=some (.cells [.func (.func 73) [] [.ptr nb 0]]))(hn:s0.get [] nb=some (.cells [.str name]))(wl:wb<lo)(nl:nb<lo)(hx: ∀e lc s G,cI 6 lo s G ((fN l name).map Obj.val)->s.gE<=s.aL->lo<=s.aL->(∀k,k<lo->s.get [] k=s0.get [] k)->ac e 5=G->K (.exit 0) ⟨e,23,lc⟩ s):
 ∀(z w:List Obj) (e:aw) (lc:Ag.Loc) (s:St) (G:aa),l=w++z->cI 6 lo s G ((fN w name).map Obj.val)->(∀k,k<lo->s.get [] k=s0.get [] k)->lo<=s.aL->s.gE<=s.aL->ac e 1= .func (.func 158) [] [.ptr wb 0]->ac e 5=G->ac e 8=ov->ac e 9=aI l.length->ac e 10=aI w.length->W Q 157 (.loop OJ) ⟨e,23,lc⟩ s K:=by
 intro z
 induction z with
 |nil=>
  intro w e lc s G J M A H E r1 h5 h8 Z F;have b3:w.length=l.length:=by rw[J];simp
  have b1:w=l:=by rw[J];simp
  refine bm ?_;simp only[go_sem,seval,OJ,Z,F,b3,cq];rw[b1] at M;exact hx _ _ _ G M E H A (by simp only[sN,seval,h5])
 |cons o z ih=>
  intro w e lc s G J M A H E r1 h5 h8 Z F;have b2:w.length<l.length:=by rw[J];simp
  have Y:l[w.length]? =some o:=by rw[J];simp
  have T:=dM Y;have go:=hg o T;have rc:=go.all;have b4:=fun lc k=>ho.at eO.2.2.1 Y lc k;have S:=da (n:=w.length) (by omega);have I:=atN a0 a8 O a9 P go (ht o T) (s:=s) E ((A wb wl).trans hw) ((A nb nl).trans hn);simp only[Obj.val,Obj.cells] at I;have R:=M.ge;refine bm ?_;simp only[go_sem,seval,OJ,r1,h8,Z,F,b2,b4,Obj.val,Obj.cells,rc];refine co.of I (by decide) ?_;cases hb:yH name o with
  |false=>
   simp only[go_sem,seval,F,S];refine ih (w++[o]) _ _ s G (by rw[J];simp) (by unfold fN;rw[qJ hb];exact M) A H E ?_ ?_ ?_ ?_ ?_
   all_goals simp only[sN,seval,r1,h5,h8,Z,sA]
  |true=>
   obtain⟨b0,s1,a1,a2,a3,a4,a5,a6,a7⟩:=BS (t:=22) eO.1 rfl (by decide) (s:=s) (y:=.list 6 [o.val] .GT) (x:=o.val) M (by simp only[fc,ee]) (by
    rw[bU]
    have:=kA (yH name) w;unfold fN;omega) H E
   simp only[Obj.val,Obj.cells] at a1;simp only[go_sem,seval,h5,R,rc,bf,aZ,aW,aY,evc];simp only[go_sem,seval,h5,F,S,R,a1,a3,rc,bf,aZ,aW,aY,evc];refine ih (w++[o]) _ _ s1 b0 (by rw[J];simp) (by
    have e:fN (w++[o]) name=fN w name++[o]:=by
     show List.filter (yH name) _=List.filter (yH name) _++_;exact wE hb
    rw[e,eK];exact a2) (fun k hk=>(a7 k hk).trans (A k hk)) (by omega) a5 ?_ ?_ ?_ ?_ ?_
   all_goals simp only[sN,seval,r1,h8,Z,sA]
def akk(A:Q.spec 214=some mD)(E:Q.spec 163=some kY)(w:No Q 159)(F:No Q 73)(z:No Q 158)(O:No Q 157)(H:au 6 Obj.val ov l)(hg: ∀o∈l,o.AL)(ht: ∀o∈l,lZ o.uP=true)(hl:l.length<=900000){name:ae}(I:s.gE<=s.aL)(hw:s.get [] wb=some (.cells [.func (.func 73) [] [.ptr nb 0]]))(hn:s.get [] nb=some (.cells [.str name]))(R:wb<s.aL)(T:nb<s.aL):
 ∃v t,aq Q 157 [ov,.func (.func 158) [] [.ptr wb 0]] s v t/\(cI 6 s.aL t v ((fN l name).map Obj.val)/\t.gE<=t.aL/\s.aL<=t.aL/\ ∀k,k<s.aL->t.get [] k=s.get [] k):=by
 have M:=H.ge;have J:=H.lenS eO;refine aq.ofNRZ aoU (bP ?_);simp only[go_sem,seval,M,J,Ar];refine akm A E w F z H hg ht hl (lo:=s.aL) (name:=name) (s0:=s) hw hn R T ?_ l [] _ _ s .Ge rfl (.inl ⟨rfl,rfl⟩) (fun _ _=>rfl) (bj _) I ?_ ?_ ?_ ?_ ?_;intro e lc s1 tv P Z Y S h5;have G:=P.ge;simp only[go_sem,seval,h5,G];exact⟨_,rfl,P,Z,Y,S⟩
 all_goals simp only[sN,seval,ct]
 all_goals rfl
def tY(l:List Obj)(name:ae):List Obj:=bif cM l then fN l name else []
def qW(l:List Obj):aa:=gw 6 (l.map Obj.val)
def abd: ∀l:List Obj,au 6 Obj.val (qW l) l
 | []=>.inl ⟨rfl,rfl⟩
 |_::_=>.inr ⟨_,rfl⟩
def zJ(l:List Obj)(name:ae):(fN l name).Sublist l:=List.filter_sublist
def at4(l:List Obj)(name:ae):(tY l name).Sublist l:=by
 unfold tY;cases cM l with
 |false=>exact List.nil_sublist _
 |true=>exact zJ l name
variable{h:aD aJ}
def WU(A:cI 6 lo s ov (l.map Obj.val))(z: ∀o∈l,o.AL):fU h (.agg [ov]) (.agg [qW l]):=by
 have e:=AF (h:=h) A (k:=4) fun v t=>by
  obtain⟨o,w,rfl⟩:=cw.1 t;exact akQ h (z o w) 0
 refine⟨6,?_⟩;show(dt (cG h 5) [ov]).bind (fun r=>some (aa.agg r))=_;simp only[dt,e,bk];rfl
def atV(F:Q.spec 31=some im)(G:Q.spec 214=some mD)(H:Q.spec 163=some kY)(t:No Q 159)(J:No Q 73)(w:No Q 158)(z:No Q 157)(T:No Q 72)(A:au 6 Obj.val ov l)(R: ∀o∈l,o.AL)(hl:l.length<=900000){name:ae}(O:s.gE<=s.aL)(hn:s.get [] nb=some (.cells [.str name]))(Z:nb<s.aL):
 ∃v P,aq Q 72 [.agg [ov],.func (.func 73) [] [.ptr nb 0]] s v P/\cI 6 (s.aL+1) P v ((tY l name).map Obj.val):=by
 have a0:=gV;have E:=A.cs;have I:=wT A R (by omega);refine aq.ofNRZ arl (bP ?_);cases hv:cM l with
 |false=>
  rw[hv] at I;simp only[go_sem,seval,E,Ar,B4,F,I];exact⟨_,rfl,.inl ⟨rfl,by unfold tY;rw[hv];rfl⟩⟩
 |true=>
  rw[hv] at I;have nn:(s.new (.cells [.func (.func 73) [] [.ptr nb 0]])).aL=s.aL+1:=rfl;have M:(s.new (.cells [.func (.func 73) [] [.ptr nb 0]])).get [] nb=some (.cells [.str name]):=by rw[cr Z];exact hn
  have ht: ∀o∈l,lZ o.uP=true:=fun o A=>by
   simp only[cM,bq] at hv;exact QE l [] hv.1 o A
  simp only[go_sem,seval,E,Ar,B4,F,I];refine co.ex (akk G H t J w z A R ht hl (wb:=s.aL) (nb:=nb) (name:=name) (s:=s.new (.cells [.func (.func 73) [] [.ptr nb 0]])) (bW O) cH M (by omega) (by omega)) (by decide) ?_;rintro v s1 ⟨S,m1,n1,o1⟩;have Y:=S.ge;simp only[go_sem,seval,Y];have e:tY l name=fN l name:=by unfold tY;rw[hv];rfl
  rw[e];exact⟨_,rfl,S⟩
def atZ(O:Q.spec 31=some im)(A:Q.spec 214=some mD)(E:Q.spec 163=some kY)(t:No Q 159)(G:No Q 73)(w:No Q 158)(z:No Q 157)(H:No Q 72)(S:No Q 28)(F:au 6 Obj.val ov l)(R: ∀o∈l,o.AL)(Y:l.length<=900000)(name:ae)(I:s.gE<=s.aL):
 ∃v P,aq Q 28 [.agg [ov],.str name] s v P/\fU P.heap v (.agg [qW (tY l name)]):=by
 have J:=F.cs;refine aq.ofNRZ ap2 (bP ?_);simp only[go_sem,seval,J,bf,aZ,aW,aY,evc];refine co.ex (atV O A E t G w z H F R Y (nb:=s.aL) (name:=name) (s:=s.new (.cells [.str name])) (bW I) cH (jX _)) (by decide) ?_;rintro v Z M;have T:=M.ge;have vs:v.cells=[v]:=by rcases M with⟨rfl,_⟩|⟨_,k,rfl,_⟩<;>rfl
 simp only[go_sem,seval,T,vs,bf,aZ,aW,aY,evc];exact⟨_,rfl,WU M fun o F=>R o ((at4 l name).subset F)⟩
def TV:df:=[(31,im),(214,mD),(163,kY)]
def afx:dl TV:=.cons tT (.cons W3 (.cons Qq .nil))
def Bz:Sp
 | [v,.str name]=>(jO v).bind fun l=>bif decide (l.length<=900000) then some (.agg [qW (tY l name)]) else none
 |_=>none
variable{v:aa}
def azj(h:au 6 Obj.val v l)(z: ∀o∈l,o.AL)(w:l.length<=900000)(name:ae):Bz [.agg [v],.str name]=some (.agg [qW (tY l name)]):=by
 have t:=gV;simp only[dX,Bz,qv h z (by omega),w,dT]
def azk:cL ah 28 Bz:=by
 intro args u t G h w I J O;unfold Bz at t;split at t;rename_i S name;simp only[ak] at t;obtain⟨l,E,t⟩:=t;obtain⟨H,t⟩:=bc t;simp only[dE] at H;have t:=sI t;subst t;obtain⟨v,rfl,E,F,T⟩:=nX E;obtain⟨P,M,z,A⟩:=o9 E F;have z:dj [.agg [v],.str name]=[.agg [M],.str name]:=by simp only[dj,z];rfl
 refine iu afx (W:=[]) .nil (args:=[.agg [v],.str name]) (by show(dy (.agg [v])&&_)=true;rw[P];rfl) (fun R=>?_) G h w I J O;rw[z];exact atZ (Q:=QW TV [] R) rfl rfl rfl ⟨rfl,rfl⟩ ⟨rfl,rfl⟩ ⟨rfl,rfl⟩ ⟨rfl,rfl⟩ ⟨rfl,rfl⟩ ⟨rfl,rfl⟩ A F H name (by decide);cases t
def ri(l:List Obj):Nat:=(l.map fun o=>o.gT.length).sum
structure vZ (l:List Obj):Prop where
 valid:cM l=true
 len:l.length<=900
 gT:ri l<=999
def HQ(l:List Obj):Bool:=cM l&&(decide (l.length<=900)&&decide (ri l<=999))
def Wx:HQ l=true↔vZ l:=by
 unfold HQ;simp only[bq,dE];exact⟨fun⟨a,b,c⟩=>⟨a,b,c⟩,fun⟨a,b,c⟩=>⟨a,b,c⟩⟩
def av8{r:List Obj}(h:r.Sublist l):ri r<=ri l:=by
 induction h with
 |slnil=>exact bj _
 |cons a _ t=>simp only[ri,eT,List.sum_cons] at t ⊢;omega
 |cons_cons a _ t=>simp only[ri,eT,List.sum_cons] at t ⊢;omega
def acP: ∀ {l:List Obj} {o:Obj},o∈l->o.gT.length<=ri l
 |a::l,o,h=>by
  simp only[ri,eT,List.sum_cons];rcases dG.1 h with rfl|h
  omega
  have:=acP h;unfold ri at this;omega
def aaa(l:List Obj): ∀r:List Obj,(r.flatMap (fB l)).length<=ri r
 | []=>bj _
 |o::r=>by
  rw[D5,de];have w:=Z9 l o;have t:=aaa l r;simp only[ri,eT,List.sum_cons] at t ⊢;omega
def JC{r:List Obj}(h:cM l=true)(t:r.Sublist l):cM r=true:=by
 simp only[cM,bq,dE] at h ⊢;obtain⟨E,A⟩:=CA l [] h.1;exact⟨abe r [] (fun q w=>JP l [] h.1 q (t.subset w)) (fun k z=>E k ((t.map _).subset z)) (A.sublist (t.map _)),eL t.length_le h.2⟩
def vZ.sub{r:List Obj}(h:vZ l)(t:r.Sublist l):vZ r:=⟨JC h.valid t,eL t.length_le h.len,eL (av8 t) h.gT⟩
def vZ.fine(h:vZ l):Tr l:=by
 refine⟨h.valid,h.len,fun o t=>eL (acP t) h.gT,?_⟩;unfold fZ;rw[(DK _).length_eq];have A:=abY l;have z:=aaa l l;have w:=h.gT;omega
def Mq(P:Program)(mk:aH)(t w:TypeId)(z:Bool)(x y:aa)(s:St):jg P mk .copy [t,w] z [x,y] s=rR P mk t x y s:=rfl
def azP(w:Array Operand)(t:Array TypeId):gH (.call ⟨.builtin .copy,w,t⟩)=1:=rfl
def alE(h:Tmp->Nat)(d:Option Tmp)(e:aw)(w:Array Operand)(t:Array TypeId):bD h d e (.call ⟨.builtin .copy,w,t⟩)= .all:=rfl
variable{lc:Ag.Loc}{f:FuncId}{sz:Nat}{d:Option Tmp}{g:SG}{mk:aH}{e:aw}
def Q0{Q:aF}(w t:TypeId)(x:Operand):cy Q f ⟨d,.convert w t x,g⟩ mk ⟨e,sz,lc⟩ s=(evc e x).bind fun a=>eX (uM Q.P w t a) lc s:=rfl
def Q6{Q:aF}(t:TypeId)(l c:Operand):cy Q f ⟨d,.makeSlice t l c,g⟩ mk ⟨e,sz,lc⟩ s=(ev e l).bind fun l=>(ev e c).bind fun c=>f9 (og Q.P t l c (aK (oX (Q.hint f) d) 2) s) lc:=rfl
def Jw(mk:aH)(sz m o l c:Nat)(s:St):iM ah mk 26 (.arr sz m o l c) s=some (aI l):=by kernel_rfl
theorem aaL(l c:aa)(t:Bool)(s:St):og ah 26 l c t s=(dv l).bind fun l=>(dv c).bind fun c=>bif bu l c&&bu (c*8) 1099511627776&&bu c 1099511627776 then
 bif aK l 0&& !t then some (.list 1 [] (.own s.aL),s.new .tok)
 else some (.arr 1 s.aL 0 l l,s.new (.cells (aW [ag 0] l)))
 else none:=by kernel_rfl
variable{j m n:Nat}{x:Operand}
def axn(z:j<=n)(w:ev e x=some (aI j))(mk:aH)(s:St):jd ah mk 26 (.arr 1 m 0 n n) (some x) none none e s=some (.arr 1 m j (n-j) (n-j)):=by
 have A: ∀(lo t:Option Operand),jd ah mk 26 (.arr 1 m 0 n n) lo t none e s=(eV e t n).bind fun h=>(eV e lo 0).bind fun l=>bif aK 1 1&&bu l h&&bu h n&&true then some (.arr 1 m (0+l*1) (h-l) (n-l)) else none:=by intro lo t;kernel_rfl
 have F:bu j n=true:=cN z;have E:bu n n=true:=cN (bj _);rw[A,Qs,Qt,w];show(bif aK 1 1&&bu j n&&bu n n&&true then some (aa.arr 1 m (0+j*1) (n-j) (n-j)) else none)=_;rw[F,E,eM,Nat.mul_one];rfl
def axm(z:j<=n)(w:ev e x=some (aI j))(mk:aH)(s:St):jd ah mk 26 (.arr 1 m 0 n n) none (some x) none e s=some (.arr 1 m 0 j n):=by
 have A: ∀(lo t:Option Operand),jd ah mk 26 (.arr 1 m 0 n n) lo t none e s=(eV e t n).bind fun h=>(eV e lo 0).bind fun l=>bif aK 1 1&&bu l h&&bu h n&&true then some (.arr 1 m (0+l*1) (h-l) (n-l)) else none:=by intro lo t;kernel_rfl
 have F:bu j n=true:=cN z;have E:bu 0 j=true:=cN (jY _);rw[A,Qs,Qt,w];show(bif aK 1 1&&bu 0 j&&bu j n&&true then some (aa.arr 1 m (0+0*1) (j-0) (n-0)) else none)=_;rw[F,E];rfl
def Sx(f:Nat->Bool)(h:(List.range 1000).all f=true)(t:n<1000):f n=true:=fD.1 h n (List.mem_range.2 t)
def aem(t:n<1000):IntKind.u64.wrap (n:Int)=n:=by
 have:=Sx (fun n=>an (IntKind.u64.wrap (n:Int)) n) (by kernel_rfl) t;exact of_decide_eq_true this
def ayV(t:n<1000):dz ah .and 389 (.int .u64 (n:Int)) (.int .u64 4294967295)=some (.int .u64 (n:Int)):=by
 have:=Sx (fun n=>an (IntKind.u64.wrap (((BitVec.ofInt IntKind.u64.bits (n:Int)) &&& (BitVec.ofInt IntKind.u64.bits 4294967295)).toNat:Nat)) n) (by kernel_rfl) t;have h:IntKind.u64.wrap (((BitVec.ofInt IntKind.u64.bits (n:Int)) &&& (BitVec.ofInt IntKind.u64.bits 4294967295)).toNat:Nat)=(n:Int):=of_decide_eq_true this;show some (aa.int .u64 (IntKind.u64.wrap _))=_;rw[h]
def ay6(t:n<1000):dz ah .shr 389 (.int .u64 (n:Int)) (.int .u64 32)=some (.int .u64 0):=by
 have:=Sx (fun n=>an ((n:Int).fdiv (2 ^ (min (32:Int).toNat IntKind.u64.bits))) 0) (by kernel_rfl) t;have h:((n:Int).fdiv (2 ^ (min (32:Int).toNat IntKind.u64.bits)))=0:=of_decide_eq_true this;show some (aa.int .u64 ((n:Int).fdiv _))=_;rw[h]
def ay5(t:n<1000):dz ah .mul 389 (.int .u64 1) (.int .u64 (n:Int))=some (.int .u64 (n:Int)):=by
 show some (aa.int .u64 (IntKind.u64.wrap (1*(n:Int))))=_;rw[Int.one_mul,aem t]
def ay4(n:Nat):dz ah .mul 389 (.int .u64 0) (.int .u64 (n:Int))=some (.int .u64 0):=by
 show some (aa.int .u64 (IntKind.u64.wrap (0*(n:Int))))=_;rw[Int.zero_mul];rfl
def ayW:dz ah .and 389 (.int .u64 1) (.int .u64 4294967295)=some (.int .u64 1):=by kernel_rfl
def ayX:dz ah .shr 389 (.int .u64 1) (.int .u64 32)=some (.int .u64 0):=by kernel_rfl
def ayY:dz ah .add 389 (.int .u64 0) (.int .u64 0)=some (.int .u64 0):=by kernel_rfl
def ayZ:dz ah .and 389 (.int .u64 0) (.int .u64 4294967295)=some (.int .u64 0):=by kernel_rfl
def ay0:dz ah .shr 389 (.int .u64 0) (.int .u64 32)=some (.int .u64 0):=by kernel_rfl
def ay1:dz ah .mul 389 (.int .u64 1) (.int .u64 0)=some (.int .u64 0):=by kernel_rfl
def ay2:dz ah .mul 389 (.int .u64 0) (.int .u64 0)=some (.int .u64 0):=by kernel_rfl
def ael:dz ah .gtr 294 (.int .u64 0) (.int .u64 0)=some (.bool false):=by kernel_rfl
theorem ay3(t:n<1000):dz ah .gtr 294 (.int .u64 (n:Int)) (.int .u64 9223372036854775807)=some (.bool false):=by
 show some (aa.bool (aX 9223372036854775807 (n:Int)))=_
 grind [aX]
def ay7:uM ah 3 294 (ag 1)=some (.int .u64 1):=by kernel_rfl
def ay9(t:n<1000):uM ah 3 294 (ag (n:Int))=some (.int .u64 (n:Int)):=by
 have:uM ah 3 294 (ag (n:Int))=some (.int .u64 (IntKind.u64.wrap (n:Int))):=by kernel_rfl
 rw[this,aem t]
theorem ay8(t:n<1000):uM ah 294 3 (.int .u64 (n:Int))=some (ag (n:Int)):=by
 have:uM ah 294 3 (.int .u64 (n:Int))=some (ag (IntKind.i64.wrap (n:Int))):=by kernel_rfl
 grind [jf]
def kn(k:Int)(j n:Nat):List aa:=gD j (ag k)++gD (n-j) (ag 0)
theorem WB(k:Int): ∀n,aG (gD n (ag k))=gD n (ag k)
 |0=>rfl
 |n+1=>by rw[Lg,aG,WB k n];rfl
theorem VB(k:Int): ∀n,aY false 1 n (gD n (ag k))=some (gD n (ag k))
 |0=>rfl
 |n+1=>by
  rw[Lg];show(aY false 1 n (gD n (ag k))).bind _=_;rw[VB k n];rfl
theorem acT: ∀n,aW [ag 0] n=gD n (ag 0)
 |0=>rfl
 |n+1=>by rw[aW,acT n,Lg];rfl
variable{k:Int}
def aiL{r:lJ}(z:0<n)(A:s.get [] m=some (.cells (gD n (ag 0)))):rR ah [] 26 (.arr 1 m 0 n n) (.list 1 [ag k] r) s=some (ag ((1:Nat):Int),s.put m (some (.cells (kn k 1 n)))):=by
 obtain⟨n,rfl⟩: ∃j,n=j+1:=⟨n-1,by omega⟩;have w:eR (gD (n+1) (ag 0)) 0 [ag k]=some (kn k 1 (n+1)):=by
  have t:bu (0+ [ag k].length) (gD (n+1) (ag 0)).length=true:=cN (by simp);unfold eR;rw[t];rfl
 have e:cQ (n+1) [ag k]=[ag k]:=by simp
 have f:aG [ag k]=[ag k]:=rfl
 simp_all [rR,lf,ee]
theorem aiM(G:j<=n)(H:s.get [] m=some (.cells (kn k j n))):rR ah [] 26 (.arr 1 m j (n-j) (n-j)) (.arr 1 m 0 j n) s=some (ag ((min (n-j) j:Nat):Int),s.put m (some (.cells (kn k (j+min (n-j) j) n)))):=by
 have J:cut (kn k j n) 0 (j*1)=some (gD j (ag k)):=by
  have e:((kn k j n).drop 0).take (j*1)=gD j (ag k):=by simp[kn]
  have b:aK (gD j (ag k)).length (j*1)=true:=by rw[D7,Nat.mul_one,ja];simp
  show(bif aK (((kn k j n).drop 0).take (j*1)).length (j*1) then some (((kn k j n).drop 0).take (j*1)) else none)=_;rw[e,b];rfl
 have I:(gD j (ag k)).take (n-j)=gD (min (n-j) j) (ag k):=List.take_replicate;have F:eR (kn k j n) j (gD (min (n-j) j) (ag k))=some (kn k (j+min (n-j) j) n):=by
  have t:min (n-j) j<=n-j:=Nat.min_le_left _ _;generalize min (n-j) j=w at t ⊢;have E:bu (j+(gD w (ag k)).length) (kn k j n).length=true:=cN (by simp[kn];omega);unfold eR;rw[E,cT];congr 1;have A:(kn k j n).take j=gD j (ag k):=by simp[kn]
  have z:(kn k j n).drop (j+(gD w (ag k)).length)=gD (n-(j+w)) (ag 0):=by
   simp[kn,List.drop_append];omega
  rw[A,z,<-oC];unfold kn;rw[List.replicate_append_replicate]
 grind [rR,lf,ee,ja,VB,WB,D7]
structure uE (s:St) (v:aa) (L:List Int):Prop where
 ge:v.ge=true
 len: ∀mk s',iM ah mk 26 v s'=some (aI L.length)
 cell: ∀ {i:Nat} {k:Int},L[i]? =some k-> ∃p,p.ge=true/\(∀lc,gS ah lc 26 v (aI i)=some p)/\ ∀lc,lS ah [] 3 p lc s=some (ag k)
def uE.ofList(s:St)(L:List Int)(r:lJ):uE s (.list 1 (L.map bF) r) L:=by
 have h:au 1 bF (.list 1 (L.map bF) r) L:=.inr ⟨r,rfl⟩;refine⟨rfl,h.lenS lf,fun {i k} t=>⟨.ro [ag k],rfl,fun lc=>h.at lf.2.2.1 t lc .i64,fun lc=>?_⟩⟩;rw[Jy,jn];rfl
theorem uE.ofRow(F:s.get [] m=some (.cells (kn k n n))):uE s (.arr 1 m 0 n n) (gD n k):=by
 refine⟨rfl,fun mk E=>by rw[Jw,D7],fun {i x} t=>?_⟩;have A:i<n:=by
  have:=(nR.1 t).1;rwa [D7] at this
 have z:k=x:=by
  obtain⟨G,w⟩:=nR.1 t;rw[List.getElem_replicate] at w;exact w
 subst z;refine⟨.ptr m (0+i*1),rfl,fun lc=>?_,fun lc=>?_⟩
 grind [bh,cN,lf,pO,ja]
 grind [aP,aQ,jn,kn]
theorem awk(hn:n<1000){s0:St}(E: ∀e lc s,ac e 7= .arr 1 m 0 n n->s.get [] m=some (.cells (kn k n n))->dr m s0 s->K (.exit 0) ⟨e,48,lc⟩ s):
 ∀(f j:Nat) (e:aw) (lc:Ag.Loc) (s:St),n-j<=f->0<j->j<=n->s.get [] m=some (.cells (kn k j n))->dr m s0 s->ac e 7= .arr 1 m 0 n n->ac e 8=aI j->W Q 218 (.loop Fa) ⟨e,48,lc⟩ s K:=by
 intro f
 induction f with
 |zero=>
  intro j e lc s Y S t M J z A;have w:j=n:=by omega
  subst w;refine kB ?_;simp only[go_sem,cQ,bL,ai,aA,bH,dH,dS,d8,cz,dR,dP,reduceCtorEq,ek,Fa,z,A,Jw,cq]
  simp_all [sN]
 |succ f R=>
  intro j e lc s Y S t M J z A;rcases Nat.lt_or_ge j n with H|T
  ·have I:s.top.get [] m=some (.cells (kn k j n)):=M
   have Z:=aiM (m:=m) (n:=n) (j:=j) (k:=k) (s:=s.top) t I;have G:=J.mw;have F:IntKind.i64.wrap (((j:Nat):Int)+((min (n-j) j:Nat):Int))=((j+min (n-j) j:Nat):Int):=by
    rw[jf (by omega) (by omega)];omega
   have P:=fun(e:aw) (x:Operand) (E:ev e x=some (aI j)) (mk:aH) (s:St)=>axn (m:=m) t E mk s;have O:=fun(e:aw) (x:Operand) (E:ev e x=some (aI j)) (mk:aH) (s:St)=>axm (m:=m) t E mk s;refine kB ?_;simp only[go_sem,cQ,bL,ai,aA,bH,dH,dS,d8,cz,dR,dP,reduceCtorEq,ek,Fa,z,A,Jw,H];refine gi G ?_;simp only[go_sem,Yp,cQ,bL,ai,aA,bH,dH,dS,d8,cz,dR,dP,reduceCtorEq,ek,z,A,P,O,Mq,azP,alE,ii,Z,F,dz,H7];refine R (j+min (n-j) j) _ _ _ (by omega) (by omega) (by omega) ?_ (J.putT _) ?_ ?_
   grind [lR,aU]
   all_goals simp only[sN,ai,bH,z]
  have w:j=n:=by omega
  subst w;refine kB ?_;simp only[go_sem,cQ,bL,ai,aA,bH,dH,dS,d8,cz,dR,dP,reduceCtorEq,ek,Fa,z,A,Jw,cq]
  simp_all [sN]
def as8(A:No Q 408)(z:n<1000)(s:St):aq Q 408 [.int .u64 1,.int .u64 (n:Int)] s (.tup [.int .u64 0,.int .u64 (n:Int)]) s:=by
 have H:=ayV z;have G:=ay6 z;have F:=ay5 z;have E:=ay4 n;have w: ∃v t,aq Q 408 [.int .u64 1,.int .u64 (n:Int)] s v t/\(v= .tup [.int .u64 0,.int .u64 (n:Int)]/\t=s):=by
  refine aq.ofNRZ aqL (bP ?_);simp only[go_sem,cQ,bL,ai,aA,bH,dH,dS,d8,cz,dR,dP,reduceCtorEq,ek,H,G,F,E,ayW,ayX,ayY,ayZ,ay0,ay1,ay2];exact⟨_,rfl,rfl⟩
 obtain⟨v,t,h,rfl,rfl⟩:=w;exact h
def as7(A:No Q 300)(t:No Q 408)(E:n<1000)(s:St):aq Q 300 [.int .u64 1,.int .u64 (n:Int)] s (.tup [.int .u64 0,.int .u64 (n:Int)]) s:=by
 have z: ∃v w,aq Q 300 [.int .u64 1,.int .u64 (n:Int)] s v w/\(v= .tup [.int .u64 0,.int .u64 (n:Int)]/\w=s):=by
  refine aq.ofNRZ aqb (bP ?_);simp only[go_sem,cQ,bL,ai,aA,bH,dH,dS,d8,cz,dR,dP,reduceCtorEq,ek];refine co.of (as8 t E s) (by decide) ?_;simp only[go_sem,cQ,bL,ai,aA,bH,dH,dS,d8,cz,dR,dP,reduceCtorEq,ek];exact⟨_,rfl,rfl⟩
 obtain⟨v,w,h,rfl,rfl⟩:=z;exact h
theorem acS(A:No Q 300)(z:No Q 408)(R:No Q 218)(F:n<1000)(k:Int)(r:lJ)(S:s.gE<=s.aL):
 ∃v w,aq Q 218 [.list 1 [ag k] r,aI n] s v w/\(uE w v (gD n k)/\w.aL=s.aL+1/\w.gE<=w.aL/\ ∀i,i<s.aL->w.get [] i=s.get [] i):=by
 have Z: ∀mk w,iM ah mk 26 (.list 1 [ag k] r) w=some (ag 1):=fun mk w=>by rw[lf.2.2.2.2.2];rfl
 have E:aX ((n:Nat):Int) 0=false:=by
  unfold aX;rw[dN];omega
 have e1:=ay9 F;have Y:=ay8 F;have T:=ay3 F;have b1:bu n n=true:=cN (bj _);have b2:bu (n*8) 1099511627776=true:=cN (by omega);have b3:bu n 1099511627776=true:=cN (by omega);have bb:(bu n n&&bu (n*8) 1099511627776&&bu n 1099511627776)=true:=by rw[b1,b2,b3];rfl
 refine aq.ofNRZ apd (bP ?_);simp only[go_sem,cQ,bL,ai,aA,bH,dH,dS,d8,cz,dR,dP,reduceCtorEq,ek,Q0,Q6,Z,E,ay7,e1];refine co.of (as7 A z F s) (by decide) ?_;rcases Nat.eq_zero_or_pos n with G|G
 subst G;have H: ∀s,og ah 26 (ag ((0:Nat):Int)) (ag ((0:Nat):Int)) false s=some (.list 1 [] (.own s.aL),s.new .tok):=fun s=>by rw[aaL];rfl
 have P: ∀k r t s,rR ah [] 26 (.list 1 [] t) (.list 1 [ag k] r) s=some (ag 0,s):=fun k r t s=>by
  simp only[fc,rR,lf,bk,ee]
 have l0: ∀mk t w,iM ah mk 26 (.list 1 [] t) w=some (ag 0):=fun mk t w=>by rw[lf.2.2.2.2.2];rfl
 simp only[go_sem,cQ,bL,ai,aA,bH,dH,dS,d8,cz,dR,dP,reduceCtorEq,ek,Q0,Q6,ael,Y,T,H,Mq,P];refine kB ?_;have M:aX (0:Int) ((0:Nat):Int)=false:=rfl;have J:aX (0:Int) 0=false:=rfl;simp only[go_sem,cQ,bL,ai,aA,bH,dH,dS,d8,cz,dR,dP,reduceCtorEq,ek,Fa,l0,M,J];refine⟨_,rfl,uE.ofList _ [] _,bW S,fun i I=>cr I⟩
 ·have H: ∀s,og ah 26 (ag ((n:Nat):Int)) (ag ((n:Nat):Int)) false s=some (.arr 1 s.aL 0 n n,s.new (.cells (gD n (ag 0)))):=fun s=>by
   grind [ja,aaL,pO,acT]
  have P:=aiL (s:=s.new (.cells (gD n (ag 0)))) (m:=s.aL) (k:=k) (r:=r) G cH;simp only[go_sem,cQ,bL,ai,aA,bH,dH,dS,d8,cz,dR,dP,reduceCtorEq,ek,Q0,Q6,ael,Y,T,H,Mq,ii,P];refine awk (m:=s.aL) (k:=k) F (s0:=s.new (.cells (gD n (ag 0)))) ?_ (n-1) 1 _ _ _ (bj _) Nat.one_pos G ?_ ((dr.refl (bW S)).put _) ?_ ?_;intro e lc s1 h7 hg O;simp only[go_sem,cQ,bL,ai,aA,bH,dH,dS,d8,cz,dR,dP,reduceCtorEq,ek,h7,ii];exact⟨_,rfl,uE.ofRow hg,O.aL,O.mw,fun i I=>(O.old i (by omega)).trans (cr I)⟩
  all_goals simp_all [aU,sN]
def as4(e:aw)(x:Operand)(s:St):mJ ah 100 e (some x) s=(ev e x).bind fun
 | .int _ _=>some (.map s.aL,s.new (.map [] 0))
 |_=>none:=by kernel_rfl
def vM(o:Obj):List Int:=(List.range o.gT.length).map (kr o.Al)
def azr(h:an o.Al 5=false):vM o=gD o.gT.length (bif an o.Al 4 then 2 else 1):=by
 unfold vM;have e: ∀i,kr o.Al i=bif an o.Al 4 then 2 else 1:=fun i=>by
  unfold kr;rw[h,dL,Bool.or_false]
 rw[BJ (g:=fun _=>bif an o.Al 4 then(2:Int) else 1) fun i _=>e i,List.map_const',D6]
def azs(h:an o.Al 5=true)(t:o.gT.length=3):vM o=[2,1,2]:=by
 have e:o.Al=5:=of_decide_eq_true h;unfold vM;rw[t,e];decide
variable{b:Nat}
def atO(ho:au 6 Obj.val ov l)(hg: ∀o∈l,o.AL)(hl:l.length<=1000000)(H:(l.map Obj.id).Nodup){s0:St}(hx: ∀e lc s,ac e 3= .map b->dr b s0 s->bM aa.str s b (jk l)->K (.exit 0) ⟨e,23,lc⟩ s):
 ∀(w t:List Obj) (e:aw) (lc:Ag.Loc) (s:St),l=t++w->dr b s0 s->bM aa.str s b (jk t)->ac e 3= .map b->ac e 11=ov->ac e 12=aI l.length->ac e 13=aI t.length->W Q 65 (.loop PL) ⟨e,23,lc⟩ s K:=by
 intro w
 induction w with
 |nil=>
  intro t e lc s G hb S M F z E;have Y:t.length=l.length:=by rw[G];simp
  have P:t=l:=by rw[G];simp
  refine bm ?_;simp only[go_sem,seval,PL,z,E,Y,cq];exact hx _ _ _ (by simp only[sN,seval,M]) hb (by rw[<-P];exact S)
 |cons o w ih=>
  intro t e lc s G hb S M F z E;have T:t.length<l.length:=by rw[G];simp
  have J:l[t.length]? =some o:=by rw[G];simp
  have go:=hg o (dM J);have rc:=go.all;have Z:=fun lc k=>ho.at eO.2.2.1 J lc k;have O:=da (n:=t.length) (by omega);have R:cD o.id (jk t)=none:=by
   rw[yQ,yY,sV];intro hc;rw[G,eK] at H;exact(List.nodup_append.1 H).2.2 _ hc o.id (by simp) rfl
  have A:=vK iA vh S o.id o.val;have I:en o.id o.val (jk t)=jk (t++[o]):=by
   rw[u6 R];unfold jk;rw[eK];rfl
  rw[I] at A;simp only[Obj.val,Obj.cells] at A;refine bm ?_;simp only[go_sem,seval,PL,M,F,z,E,T,Z,O,Obj.val,Obj.cells,rc,A];refine ih (t++[o]) _ _ _ (by rw[G];simp) (hb.put _) bM.put ?_ ?_ ?_ ?_
  all_goals simp only[sL,seval,M,F,z,sA]
def aa8(R:No Q 65)(A:au 6 Obj.val ov l)(Y: ∀o∈l,o.AL)(T:l.length<=1000000)(E:(l.map Obj.id).Nodup)(S:s.gE<=s.aL):
 ∃v t,aq Q 65 [.agg [ov]] s v t/\(v= .map s.aL/\bM aa.str t s.aL (jk l)/\t.aL=s.aL+1/\t.gE<=t.aL/\ ∀i,i<s.aL->t.get [] i=s.get [] i):=by
 have H:=A.cs;have F:=A.lenS eO;obtain⟨z,w⟩:=bZ (s.new (.map [] 0));have M:z.aL=s.aL+1:=by rw[<-w];rfl
 have O:z.gE<=z.aL:=by rw[<-w];exact bW S
 have P:bM aa.str z s.aL (jk []):=by rw[<-w];exact cH
 have J: ∀i,i<s.aL->z.get [] i=s.get [] i:=fun i G=>by rw[<-w];exact cr G
 refine aq.ofNRZ aq9 (bP ?_);simp only[go_sem,seval,H,F,as4,w];refine atO A Y T E (b:=s.aL) (s0:=z) ?_ l [] _ _ z rfl (.refl O) P ?_ ?_ ?_ ?_;intro e lc s1 h3 I Z;simp only[go_sem,seval,h3];exact⟨_,rfl,rfl,Z,by rw[I.aL];exact M,I.mw,fun i G=>(I.old i (by omega)).trans (J i G)⟩
 all_goals simp only[aV,nY,ai,bH,ct]
 all_goals rfl
def azq(w:No Q 300)(t:No Q 408)(z:No Q 218)(O:No Q 125)(go:o.AL)(P:o.gT.length<1000)(T:an o.Al 5=true->o.gT.length=3)(M:s.gE<=s.aL):
 ∃v E,aq Q 125 [o.val] s v E/\(uE E v (vM o)/\s.aL<=E.aL/\E.gE<=E.aL/\ ∀i,i<s.aL->E.get [] i=s.get [] i):=by
 have H:=go.all;have F:=go.gT.lenS bT;refine aq.ofNRZ aog (bP ?_);cases e5:an o.Al 5 with
 |true=>
  simp only[go_sem,seval,Obj.val,Obj.cells,H,e5,bf,aZ,aW,aY,evc];rw[azs e5 (T e5)];exact⟨_,rfl,uE.ofList s [2,1,2] _,M,fun _ _=>trivial⟩
 |false=>
  rw[azr e5];cases e4:an o.Al 4 with
  |true=>
   simp only[go_sem,seval,Obj.val,Obj.cells,H,F,e5,e4,bf,aZ,aW,aY,evc];refine co.ex (acS w t z P 2 .GT M) (by decide) ?_;rintro v R ⟨A,S,J,I⟩;have G:=A.ge;simp only[go_sem,seval,G];exact⟨_,rfl,A,by omega,J,I⟩
  |false=>
   simp only[go_sem,seval,Obj.val,Obj.cells,H,F,e5,e4,bf,aZ,aW,aY,evc];refine co.ex (acS w t z P 1 .GT M) (by decide) ?_;rintro v R ⟨A,S,J,I⟩;have G:=A.ge;simp only[go_sem,seval,G];exact⟨_,rfl,A,by omega,J,I⟩
def CS(l:List Obj)(k:Int):Nat->List ae->Bool
 |_,[]=>true
 |i,r::rest=>an (mH l r) (kr k i)&&CS l k (i+1) rest
def Z5(l:List Obj)(k:Int): ∀(rs:List ae) (i:Nat),(((List.range' i rs.length).zip rs).all fun p=>an (mH l p.2) (kr k p.1))=CS l k i rs
 | [],_=>rfl
 |r::rs,i=>by
  rw[cX,List.range'_succ,List.zip_cons_cons,kx,Z5 l k rs (i+1)];rfl
def av7(l:List Obj)(o:Obj):Gn l o=CS l o.Al 0 o.gT:=by
 rw[<-Z5];unfold Gn;rw[List.range_eq_range']
def oK(l:List Obj)(o:Obj):Bool:= !Gn l o
def Rz(l:List Obj):List aa:=(l.filter (oK l)).map fun o=>eJ 1 [o.id]
def GJ(l:List Obj):aa:=gw 3 (Rz l)
def arz(l:List Obj)(r:ae):wD ah 52 (((ck r l).map Obj.val).getD (.agg [(.str []),(ag (0)),(ag (0)),(ag (0)),.Ge,.Ge])) 1=some (ag (mH l r)):=by
 unfold mH;cases ck r l with
 |none=>rw[sV,Option.getD_none,EH,jn];rfl
 |some q=>
  rw[Option.map_some,Option.getD_some];show wD ah 52 (.agg q.cells) 1=_;rw[EH,jn];rfl
def ary(l:List Obj)(r:ae):((((ck r l).map Obj.val).getD (.agg [(.str []),(ag (0)),(ag (0)),(ag (0)),.Ge,.Ge]))).ge=true:=by
 cases ck r l<;>rfl
structure cE (a g6:Nat) (c6:List aa) (ov:aa) (n i:Nat) (e:aw) (lc:Ag.Loc):Prop where
 h3:ac e 3= .map a
 h6:ac e 6= .Gt 6 g6 0
 q6:lc.gen 6=g6
 l6:lc.get 6 g6=some c6
 h12:ac e 12=ov
 h13:ac e 13=aI n
 h14:ac e 14=aI i
variable{i:Nat}
def av3{g6:Nat}(hM:bM aa.str s a (jk l))(T:s.gE<=s.aL)(Y:lo<=s.aL)(go:o.AL)(hr:o.gT.length<1000){wv:aa}(hw:uE s wv (vM o)){tv:aa}{M:List aa}(hO:cI 3 lo s tv M)(b1:M.length<=900000)(hx: ∀e lc O E,cI 3 lo O E (M++(bif oK l o then [eJ 1 [o.id]] else []))->O.gE<=O.aL->lo<=O.aL->(∀k,k<lo->O.get [] k=s.get [] k)->ac e 4=E->cE a g6 o.cells ov n i e lc->K (.exit 2) ⟨e,46,lc⟩ O):
 ∀(z w:List ae) (e:aw) (lc:Ag.Loc),o.gT=w++z->Gn l o=CS l o.Al w.length z->ac e 4=tv->ac e 19=wv->ac e 20=aI o.gT.length->ac e 21=aI w.length->cE a g6 o.cells ov n i e lc->W Q 58 (.loop Jo) ⟨e,46,lc⟩ s K:=by
 intro z
 induction z with
 |nil=>
  intro w e lc h1 h2 h4 I A H F;have a9:w.length=o.gT.length:=by rw[h1];simp
  have hb:oK l o=false:=by unfold oK;rw[h2];rfl
  refine bm ?_;simp only[go_sem,seval,Jo,A,H,a9,cq];refine hx _ _ _ tv (by rw[hb,cF,ky];exact hO) T Y (fun _ _=>rfl) ?_ ⟨?_,?_,F.q6,F.l6,?_,?_,?_⟩
  all_goals simp only[sN,seval,h4,F.h3,F.h6,F.h12,F.h13,F.h14]
 |cons r z ih=>
  intro w e lc h1 h2 h4 I A H F;have J:w.length<o.gT.length:=by rw[h1];simp
  have b0:o.gT[w.length]? =some r:=by rw[h1];simp
  have a8:(vM o)[w.length]? =some (kr o.Al w.length):=by
   unfold vM;rw[List.getElem?_map,List.getElem?_range J];rfl
  obtain⟨p,pc,S,R⟩:=hw.cell a8;have Z:=fun lc k=>go.gT.at bT.2.2.1 b0 lc k;have a0:=da (n:=w.length) (by omega);have G:=qP iA vh BF hM r;rw[yQ] at G;have kf:=arz l r;have kc:=ary l r;obtain⟨q,hq⟩:=bZ (((ck r l).map Obj.val).getD (.agg [(.str []),(ag (0)),(ag (0)),(ag (0)),.Ge,.Ge]));rw[hq] at G kf kc;have wc:=hw.ge;have P:=hO.ge;have rc:=go.gT.ge;have e3:=F.h3;have e6:=F.h6;have eg:=F.q6;have el:=F.l6;simp only[Obj.cells] at el;cases hk:an (mH l r) (kr o.Al w.length) with
  |true=>
   refine bm ?_;simp only[go_sem,seval,Jo,ax,e3,e6,eg,el,I,A,H,J,Z,S,R,pc,wc,rc,G,kc,kf,hk,a0];refine ih (w++[r]) _ _ (by rw[h1];simp) (by rw[h2,CS,hk,eC,de];rfl) ?_ ?_ ?_ ?_ ⟨?_,?_,F.q6,F.l6,?_,?_,?_⟩
   all_goals simp only[sL,seval,h4,I,A,F.h3,F.h6,F.h12,F.h13,F.h14,sA]
  |false=>
   have hb:oK l o=true:=by unfold oK;rw[h2,CS,hk,dL];rfl
   obtain⟨E,s1,a1,a2,a3,a4,a5,a6,a7⟩:=BS (t:=35) iq.1 rfl (by decide) (s:=s) (y:=.list 3 [eJ 1 [o.id]] .GT) (x:=eJ 1 [o.id]) hO (by simp only[fc,ee]) b1 Y T;simp only[eJ,eT,sQ,ax] at a1;refine bm ?_;simp only[go_sem,seval,Jo,ax,h4,e3,e6,eg,el,I,A,H,J,Z,S,R,pc,wc,rc,G,kc,kf,hk,P,bf,aZ,aW,aY,evc];simp only[go_sem,seval,ax,h4,P,e6,eg,el,rc,a1,a3,bf,aZ,aW,aY,evc];refine hx _ _ s1 E (by rw[hb];exact a2) a5 (by omega) a7 ?_ ⟨?_,?_,F.q6,F.l6,?_,?_,?_⟩
   all_goals simp only[sL,seval,F.h3,F.h6,F.h12,F.h13,F.h14]
def awa(S:No Q 300)(R:No Q 408)(T:No Q 218)(Y:No Q 125)(ho:au 6 Obj.val ov l)(hg: ∀o∈l,o.AL)(hl:l.length<=900)(hr: ∀o∈l,o.gT.length<1000)(h5: ∀o∈l,an o.Al 5=true->o.gT.length=3)(al:a<lo){s0:St}(hM:bM aa.str s0 a (jk l))(hx: ∀e lc s z,cI 3 lo s z (Rz l)->ac e 4=z->K (.exit 0) ⟨e,46,lc⟩ s):
 ∀(w t:List Obj) (e:aw) (lc:Ag.Loc) (s:St) (z:aa),l=t++w->cI 3 lo s z ((t.filter (oK l)).map fun o=>eJ 1 [o.id])->(∀k,k<lo->s.get [] k=s0.get [] k)->lo<=s.aL->s.gE<=s.aL->ac e 3= .map a->ac e 4=z->ac e 12=ov->ac e 13=aI l.length->ac e 14=aI t.length->W Q 58 (.loop Pz) ⟨e,46,lc⟩ s K:=by
 intro w
 induction w with
 |nil=>
  intro t e lc s z P hO M a6 Z h3 h4 O I H;have a7:t.length=l.length:=by rw[P];simp
  have a4:t=l:=by rw[P];simp
  refine bm ?_;simp only[go_sem,seval,Pz,I,H,a7,cq];rw[a4] at hO;exact hx _ _ _ z hO (by simp only[sN,seval,h4])
 |cons o w ih=>
  intro t e lc s z P hO M a6 Z h3 h4 O I H;have a5:t.length<l.length:=by rw[P];simp
  have a0:l[t.length]? =some o:=by rw[P];simp
  have E:=dM a0;have go:=hg o E;have rc:=go.all;have a8:=fun lc k=>ho.at eO.2.2.1 a0 lc k;have a2:=da (n:=t.length) (by omega);have a3:(vM o).length=o.gT.length:=by unfold vM;rw[bU,D6]
  have J:=azq S R T Y go (hr o E) (h5 o E) (s:=s) Z;simp only[Obj.val,Obj.cells] at J;refine bm ?_;simp only[go_sem,seval,Pz,O,I,H,a5,a8,Obj.val,Obj.cells,rc];refine co.ex J (by decide) ?_;rintro wv s1 ⟨A,n1,m1,o1⟩;have wc:=A.ge;have wl:=A.len;have b1:bM aa.str s1 a (jk l):=(o1 a (by omega)).trans ((M a al).trans hM);have b0:cI 3 lo s1 z ((t.filter (oK l)).map fun o=>eJ 1 [o.id]):=by
   rcases hO with h|⟨q1,k,q2,q3,q4,q5⟩
   exact .inl h;exact .inr ⟨q1,k,q2,(o1 k q5).trans q3,q4,by omega⟩
  have a9:((t.filter (oK l)).map fun o=>eJ 1 [o.id]).length<=900000:=by
   rw[bU]
   have:=kA (oK l) t;omega
  simp only[go_sem,seval,wc,wl,a3];refine av3 b1 m1 (by omega) go (hr o E) A b0 a9 (ov:=ov) (n:=l.length) (i:=t.length) (g6:=lc.gen 6+1) ?_ o.gT [] _ _ rfl (av7 l o) ?_ ?_ ?_ ?_ ⟨?_,?_,?_,?_,?_,?_,?_⟩
  ·intro e2 b3 s2 a1 G m2 l2 o2 c4 F
   have b2:=F.h14;simp only[go_sem,seval,b2,a2];refine ih (t++[o]) _ _ s2 a1 (by rw[P];simp) ?_ (fun k hk=>(o2 k hk).trans ((o1 k (by omega)).trans (M k hk))) l2 m2 ?_ ?_ ?_ ?_ ?_;cases hb:oK l o with
   |false=>
    rw[hb,cF,ky] at G;rw[qJ hb];exact G
   |true=>
    rw[hb,cT] at G;rw[wE hb,eK];exact G
   all_goals simp only[sN,seval,c4,F.h3,F.h12,F.h13,sA]
  all_goals simp only[sL,seval,h3,h4,O,I,H,ct]
  all_goals rfl
def av5(z:No Q 300)(w:No Q 408)(A:No Q 218)(E:No Q 125)(H:No Q 65)(Z:No Q 58)(t:au 6 Obj.val ov l)(S: ∀o∈l,o.AL)(hl:l.length<=900)(hr: ∀o∈l,o.gT.length<=999)(F:cM l=true)(hm:s.gE<=s.aL):
 ∃v R,aq Q 58 [.agg [ov]] s v R/\fU R.heap v (GJ l):=by
 have G:=t.cs;have O:=t.lenS eO;have h5: ∀o∈l,an o.Al 5=true->o.gT.length=3:=fun o M Y=>by
  simp only[cM,bq] at F;obtain⟨_,_,P⟩:=atT.1 (JP l [] F.1 o M);have e1:an o.Al 1=false:=by
   have:o.Al=5:=of_decide_eq_true Y;rw[this];rfl
  rw[e1,Y] at P;simp only[cF,cT,bq,bE] at P;exact P.1
 refine aq.ofNRZ aq1 (bP ?_);simp only[go_sem,seval,G];refine co.ex (aa8 H t S (by omega) (qN F) hm) (by decide) ?_;rintro v J ⟨rfl,hM,n1,m1,o1⟩;simp only[go_sem,seval,G,O];refine awa z w A E t S hl (fun o t=>by have:=hr o t;omega) h5 (a:=s.aL) (lo:=J.aL) (by omega) (s0:=J) hM ?_ l [] _ _ J .Ge rfl (.inl ⟨rfl,rfl⟩) (fun _ _=>rfl) (bj _) m1 ?_ ?_ ?_ ?_ ?_;intro e lc s2 tv T h4;have I:=T.ge;simp only[go_sem,seval,h4,I];refine⟨_,rfl,4,AF T fun v F=>?_⟩;obtain⟨i,_,rfl⟩:=cw.1 F;exact EM _ _ _
 all_goals simp only[aV,nY,ai,bH,ct]
 all_goals rfl
def Dv:Sp
 | [v]=>(jO v).bind fun l=>bif mB l then some (GJ l) else none
 |_=>none
def av9:cL ah 58 Dv:=by
 intro args u t G h w I J O;unfold Dv at t;split at t;simp only[ak] at t;obtain⟨l,F,t⟩:=t;obtain⟨z,t⟩:=bc t;have t:=sI t;subst t;obtain⟨v,rfl,F,H,S⟩:=nX F;obtain⟨P,M,A,E⟩:=o9 F H;have A:dj [.agg [v]]=[.agg [M]]:=by simp only[dj,A]
 have z:=oW.1 z;refine iu (T:=[]) (W:=[]) .nil .nil (args:=[.agg [v]]) (by simp only[dK,P,bX]) (fun R=>?_) G h w I J O;rw[A];exact av5 (Q:=QW [] [] R) ⟨rfl,rfl⟩ ⟨rfl,rfl⟩ ⟨rfl,rfl⟩ ⟨rfl,rfl⟩ ⟨rfl,rfl⟩ ⟨rfl,rfl⟩ E H z.len z.gT z.valid (by decide);cases t
variable{g:FuncId}
def x9.run{Q:aF}{d:Tmp}{s1:St}{C:Fr->St->Prop}{args:List aa}(t:aq Q g args s v s1)(w:d<sz)(h:C ⟨e.set d (some v),sz,lc⟩ s1):x9 Q d e sz lc s C g args (Q.spec g):=by
 cases hs:Q.spec g with
 |none=>exact⟨v,s1,t,w,h⟩
 |some sp=>
  obtain⟨A,z⟩:=aq.sp_inv hs t;subst z;exact⟨v,lc,s1,by rw[A];rfl,w,h⟩
def Kn(w:n<=1000000000)(t:b<=88):iR n b=true:=by
 unfold iR;apply cN;have:(n*2+1024)*b<=2000001024*88:=rC (by omega) t;omega
def Hl{t:TypeId}{E:EI}(S:lY ah t=some E)(T:E.n=sz)(R:E.b<=88){y x:aa}{xs:List aa}(h:cI sz lo s ov xs)(J:ee [] E.g E.n y s=some [x])(O:xs.length<=900000000)(G:lo<=s.aL)(M:s.gE<=s.aL):
 ∃w z,eU ah [] t ov y false s=some (w,z)/\cI sz lo z w (xs++[x])/\w.cells=[w]/\z.aL=s.aL+1/\z.gE<=z.aL/\(∀n,n<s.aL->s.get [] n≠some .tok->z.get [] n=s.get [] n)/\(∀n,n<lo->z.get [] n=s.get [] n):=by
 subst T;rcases h with⟨rfl,rfl⟩|⟨F,k,rfl,P,Z,Y⟩
 have H:iR [x].length E.b=true:=Kn (by simp) R;refine⟨.list E.n [x] (.own s.aL),s.new .tok,?_,.inr ⟨by simp,s.aL,rfl,by rw[eN,bS];rfl,G,jX _⟩,rfl,rfl,bW M,fun n A _=>?_,fun n A=>?_⟩;simp only[dX,eU,S,J,ju,ki,H,cF];rw[eN,bN.2 (by omega)];rfl;rw[eN,bN.2 (by omega)];rfl;have H:iR (xs.length+ [x].length) E.b=true:=Kn (by simp;omega) R;refine⟨.list E.n (xs++[x]) (.own s.aL),(s.put k none).new .tok,?_,.inr ⟨by simp,s.aL,rfl,by rw[eN,mL,bS];rfl,G,jX _⟩,rfl,rfl,bW (cU s k none M),fun n A I=>?_,fun n A=>?_⟩;simp only[fc,eU,S,bk,J,ju,P,H,bX];have F:n≠k:=fun e=>I (by rw[e];exact P);rw[eN,mL,bN.2 (by omega),cF,aU,bN.2 F];rfl;rw[eN,mL,bN.2 (by omega),cF,aU,bN.2 (by omega)];rfl
abbrev VQ:=Int×List ae×Bool
def ip:Bool->lJ
 |true=>.no
 |false=>.GT
def eI(name:ae)(q:VQ):aa:=.agg [.str name,ag q.1,.list 1 (q.2.1.map ax) (ip q.2.2)]
variable{α:Type}
def w9(n:Nat)(enc:α->aa): ∀l:List α,au n enc (gw n (l.map enc)) l
 | []=>.inl ⟨rfl,rfl⟩
 |_::_=>.inr ⟨_,rfl⟩
def akS(h:aD aJ)(name:ae)(q:VQ):cG h 3 (eI name q)=some (eI name q):=by
 have e:cG h 2 (.list 1 (q.2.1.map ax) (ip q.2.2))=some (.list 1 (q.2.1.map ax) (ip q.2.2)):=HV h (by rw[Bi];cases q.2.2<;>rfl) fun v t=>by
  obtain⟨x,_,rfl⟩:=cw.1 t;rfl
 show(dt (cG h 2) [.str name,ag q.1,.list 1 (q.2.1.map ax) (ip q.2.2)]).bind (fun r=>some (aa.agg r))=_;rw[yA fun v t=>?_];rfl;simp only[dG,xQ,or_false] at t;rcases t with rfl|rfl|rfl
 rfl;rfl;exact e
variable{views:List ae}{vv:aa}
def aaN(F:au 1 ax vv views)(A:views.length<=1000000)(w:s.gE<=s.aL):
 ∃nv t,eU ah [] 25 (.list 1 [.str []] .GT) vv false s=some (nv,t)/\au 1 ax nv ([]::views)/\s.aL<=t.aL/\t.gE<=t.aL/\ ∀i,i<s.aL->t.get [] i=s.get [] i:=by
 rcases F with⟨rfl,rfl⟩|⟨r,rfl⟩
 exact⟨.list 1 ([([]:ae)].map ax) .GT,s,by simp only[dX,eU,bT,ee,AU];rfl,.inr ⟨_,rfl⟩,bj _,w,fun _ _=>rfl⟩;cases views with
 |nil=>exact⟨.list 1 ([([]:ae)].map ax) .GT,s,by simp only[fc,eU,bT,bk,ee,sQ,AU];rfl,.inr ⟨_,rfl⟩,bj _,w,fun _ _=>rfl⟩
 |cons x views=>
  have z:iR ([aa.str []]++(x::views).map ax).length 16=true:=Kn (by simp only[kS,bU] at A ⊢;omega) (by decide);refine⟨.list 1 ([aa.str []]++(x::views).map ax) (.own s.aL),s.new .tok,?_,.inr ⟨_,rfl⟩,jW _,bW w,fun i E=>cr E⟩;rw[eT] at z ⊢;simp only[fc,eU,bT,bk,ee,cF,ju,ki,z]
def fV(c:FuncId×List aa):aa:=.func (.func c.1) [] c.2
structure Ha (g10:Nat) (ov mv nv cv:aa) (nn i nc j:Nat) (name:ae) (e:aw) (lc:Ag.Loc):Prop where
 h2:ac e 2= .Gt 2 1 0
 g2:lc.gen 2=1
 l2:lc.get 2 1=some [ov]
 h6:ac e 6=cv
 h9:ac e 9= .str name
 h10:ac e 10= .Gt 10 g10 0
 q10:lc.gen 10=g10
 l10:lc.get 10 g10=some [mv]
 h24:ac e 24=nv
 h25:ac e 25=aI nn
 h26:ac e 26=aI i
 h33:ac e 33=cv
 h34:ac e 34=aI nc
 h35:ac e 35=aI j
variable{bse:List aa}{g10:Nat}{cv nv:aa}
def azo{name:ae}{L:List VQ}(hV:au 3 (eI []) vv L)(b2:bse.length+L.length<=900000000){mv:aa}{nn nc:Nat}{s0:St}(hx: ∀e lc s G,cI 3 lo s G (bse++L.map (eI name))->oH s0 s->lo<=s.aL->(∀k,k<lo->s.get [] k=s0.get [] k)->ac e 7=G->Ha g10 ov mv nv cv nn i nc j name e lc->K (.exit 4) ⟨e,57,lc⟩ s):
 ∀(z w:List VQ) (e:aw) (lc:Ag.Loc) (s:St) (G:aa),L=w++z->cI 3 lo s G (bse++w.map (eI name))->oH s0 s->lo<=s.aL->(∀k,k<lo->s.get [] k=s0.get [] k)->ac e 7=G->ac e 41=vv->ac e 42=aI L.length->ac e 43=aI w.length->Ha g10 ov mv nv cv nn i nc j name e lc->W Q 18 (.loop ON) ⟨e,57,lc⟩ s K:=by
 intro z
 induction z with
 |nil=>
  intro w e lc s G M R S I H T J E A F;have a9:w.length=L.length:=by rw[M];simp
  have a0:w=L:=by rw[M];simp
  refine bm ?_;simp only[go_sem,seval,ON,E,A,a9,cq];rw[a0] at R;refine hx _ _ _ G R S I H ?_ ⟨?_,F.g2,F.l2,?_,?_,?_,F.q10,F.l10,?_,?_,?_,?_,?_,?_⟩
  all_goals simp only[sN,seval,T,F.h2,F.h6,F.h9,F.h10,F.h24,F.h25,F.h26,F.h33,F.h34,F.h35]
 |cons q z ih=>
  intro w e lc s G M R S I H T J E A F;have a8:w.length<L.length:=by rw[M];simp
  have b1:L[w.length]? =some q:=by rw[M];simp
  have b0:=fun lc k=>hV.at iq.2.2.1 b1 lc k;have Z:=da (n:=w.length) (by omega);have O:=R.ge;have e9:=F.h9;obtain⟨Y,s1,a1,a2,a3,a4,a5,a6,a7⟩:=Hl (t:=35) iq.1 rfl (by decide) (s:=s) (y:=.list 3 [eI name q] .GT) (x:=eI name q) R (by simp only[fc,ee]) (by rw[de,bU];omega) I S.mw;simp only[eI] at a1;refine bm ?_;simp only[go_sem,seval,ON,eI,e9,T,J,E,A,a8,b0,O,bf,aZ,aW,aY,evc];simp only[go_sem,seval,eI,T,A,Z,O,a1,a3,bf,aZ,aW,aY,evc];refine ih (w++[q]) _ _ s1 Y (by rw[M];simp) (by rw[eK,<-oC];exact a2) (S.app a4 a5 a6) (by omega) (fun k P=>(a7 k P).trans (H k P)) ?_ ?_ ?_ ?_ ⟨?_,?_,?_,?_,?_,?_,?_,?_,?_,?_,?_,?_,?_,?_⟩
  all_goals simp only[sL,seval,J,E,F.h2,F.g2,F.l2,F.h6,F.h9,F.h10,F.q10,F.l10,F.h24,F.h25,F.h26,F.h33,F.h34,F.h35,sA]
def pQ(name:ae)(cs:List ((FuncId×List aa)×List VQ)):List aa:=cs.flatMap fun c=>c.2.map (eI name)
def avi(name:ae)(cs:List ((FuncId×List aa)×List VQ))(c:(FuncId×List aa)×List VQ):pQ name (cs++[c])=pQ name cs++c.2.map (eI name):=by
 unfold pQ;rw[List.flatMap_append,D5,List.flatMap_nil,ky]
variable{wc:List aa}{rb:Nat}
def ah3{name:ae}{cs:List ((FuncId×List aa)×List VQ)}(hC:au 1 fV cv (cs.map (·.1)))(b5:cs.length<=1000)(a0:rb<lo){mv:aa}(mc:mv.ge=true)(ms:mv.cells=[mv]){s0:St}(a1:s0.get [] rb=some (.cells wc))(hc: ∀c∈cs, ∀s:St,s.get [] rb=some (.cells wc)-> ∃v,aq Q c.1.1 (.agg [mv]::c.1.2) s v s/\au 3 (eI []) v c.2)(a7:bse.length+(pQ name cs).length<=900000000){nn:Nat}(hx: ∀e lc s z,cI 3 lo s z (bse++pQ name cs)->lo<=s.aL->s.gE<=s.aL->(∀k,k<lo->s.get [] k=s0.get [] k)->ac e 7=z->Ha g10 ov mv nv cv nn i cs.length cs.length name e lc->K (.exit 2) ⟨e,57,lc⟩ s):
 ∀(w t:List ((FuncId×List aa)×List VQ)) (e:aw) (lc:Ag.Loc) (s:St) (z:aa),cs=t++w->cI 3 lo s z (bse++pQ name t)->lo<=s.aL->s.gE<=s.aL->(∀k,k<lo->s.get [] k=s0.get [] k)->ac e 7=z->Ha g10 ov mv nv cv nn i cs.length t.length name e lc->W Q 18 (.loop OO) ⟨e,57,lc⟩ s K:=by
 intro w
 induction w with
 |nil=>
  intro t e lc s z E S H G A h7 F;have O:t.length=cs.length:=by rw[E];simp
  have a2:t=cs:=by rw[E];simp
  have J:=F.h34;have I:=F.h35;refine bm ?_;simp only[go_sem,seval,OO,J,I,O,cq];rw[a2] at S;refine hx _ _ _ z S H G A ?_ ⟨?_,F.g2,F.l2,?_,?_,?_,F.q10,F.l10,?_,?_,?_,?_,?_,?_⟩
  all_goals simp only[sN,seval,h7,O,F.h2,F.h6,F.h9,F.h10,F.h24,F.h25,F.h26,F.h33,F.h34,F.h35]
 |cons c w ih=>
  intro t e lc s z E S H G A h7 F;have a3:t.length<cs.length:=by rw[E];simp
  have a8:(cs.map (·.1))[t.length]? =some c.1:=by rw[E];simp
  have a6:c∈cs:=by rw[E];simp
  have a5:=fun lc k=>hC.at DF.2.2.1 a8 lc k;have Y:=da (n:=t.length) (by omega);have b0:=F.h33;have J:=F.h34;have I:=F.h35;have b1:=F.h10;have eg:=F.q10;have el:=F.l10;have b2:=hC.ge;obtain⟨v,M,Z⟩:=hc c a6 s ((A rb a0).trans a1);have vc:=Z.ge;have vl:=Z.lenS iq;have R:(bse++pQ name t).length+c.2.length<=900000000:=by
   have:pQ name cs=(pQ name t++c.2.map (eI name))++pQ name w:=by
    rw[E];unfold pQ;rw[List.flatMap_append,D5,oC]
   rw[this,de,de,bU] at a7;rw[de];omega
  refine bm ?_;simp only[go_sem,seval,OO,fV,b0,J,I,b1,eg,el,a3,a5,b2,mc,ms,Ar,B4];refine x9.run M (by decide) ?_;simp only[go_sem,seval,vc,vl];refine azo (name:=name) Z (lo:=lo) (bse:=bse++pQ name t) R (s0:=s) (g10:=g10) (ov:=ov) (mv:=mv) (nv:=nv) (cv:=cv) (nn:=nn) (i:=i) (nc:=cs.length) (j:=t.length) ?_ c.2 [] _ _ s z rfl (by rw[sQ,ky];exact S) (.refl G) H (fun _ _=>rfl) ?_ ?_ ?_ ?_ ⟨?_,F.g2,F.l2,?_,?_,?_,F.q10,F.l10,?_,?_,?_,?_,?_,?_⟩
  ·intro e2 b4 s2 T a9 a4 l2 o2 c7 F2
   have b3:=F2.h35;simp only[go_sem,seval,b3,Y];refine ih (t++[c]) _ _ s2 T (by rw[E];simp) (by rw[avi,<-oC];exact a9) l2 a4.mw (fun k P=>(o2 k P).trans (A k P)) ?_ ⟨?_,F2.g2,F2.l2,?_,?_,?_,F2.q10,F2.l10,?_,?_,?_,?_,?_,?_⟩
   all_goals simp only[sN,seval,c7,F2.h2,F2.h6,F2.h9,F2.h10,F2.h24,F2.h25,F2.h26,F2.h33,F2.h34,sA]
  all_goals simp only[sN,seval,h7,F.h2,F.h6,F.h9,F.h10,F.h24,F.h25,F.h26,F.h33,F.h34,F.h35,ct]
  all_goals rfl
def vr(l:List Obj):List VQ:=(l.filter (oK l)).map fun o=>(1,[o.id],false)
def tk(l:List Obj):List VQ:=(rp (th l)).map fun k=>(2,fI k,true)
def wZ(l:List Obj):List VQ:=(wh l).map (fun i=>(3,[i],false))++((nL (iU l)).filter (Ay l)).map fun q=>(4,[q.1,q.2],false)
def w7(l:List Obj):List VQ:=(l.filter (lN l)).map (fun o=>(5,[o.id],false))++(l.filter (kG l)).map fun o=>(6,[o.id],false)
def xu(l:List Obj)(rl:List aB):List VQ:=(l.filter (tj l rl)).map fun o=>(7,[o.id],false)
def av2(l:List Obj):GJ l=gw 3 ((vr l).map (eI [])):=by unfold GJ Rz vr;rw[m9];rfl
def ag4(l:List Obj):BA l=gw 3 ((tk l).map (eI [])):=by unfold BA tk;rw[m9];rfl
def atp(l:List Obj):DW l=gw 3 ((wZ l).map (eI [])):=by unfold DW vi wZ;rw[eK,m9,m9];rfl
def att(l:List Obj):GI l=gw 3 ((w7 l).map (eI [])):=by unfold GI aaV w7;rw[eK,m9,m9];rfl
def awB(l:List Obj)(rl:List aB):zK l rl=gw 3 ((xu l rl).map (eI [])):=by unfold zK Kq xu;rw[m9];rfl
def lP(l:List Obj)(rl:List aB):List (List VQ):=[vr l,tk l,wZ l,w7 l,xu l rl]
def Vz(rb:Nat):List (FuncId×List aa):=[(58,[]),(59,[]),(60,[]),(61,[]),(56,[.ptr rb 0])]
def B5(l:List Obj)(rl:List aB)(rb:Nat):List ((FuncId×List aa)×List VQ):=[((58,[]),vr l),((59,[]),tk l),((60,[]),wZ l),((61,[]),w7 l),((56,[.ptr rb 0]),xu l rl)]
def md(l:List Obj)(rl:List aB)(name:ae):List aa:=(lP (fN l name) rl).flatMap fun L=>L.map (eI name)
theorem abV(l:List Obj)(rl:List aB)(rb:Nat)(name:ae):pQ name (B5 (fN l name) rl rb)=md l rl name:=rfl
def tq(l:List Obj)(views:List ae)(rl:List aB):List aa:=bif cM l then([]::views).flatMap (md l rl) else []
def adE(K:List CK):(rp K).length=K.length:=by
 unfold rp;rw[bU,(vE _ _ _).length_eq,bU]
theorem aet{rl:List aB}{name:ae}(h:l.length<=900):(md l rl name).length<=3000000:=by
 have t:(fN l name).length<=900:=eL (zJ l name).length_le h;generalize hL:fN l name=L at t;have z:L.length*L.length<=900*900:=rC t t;have G:(vr L).length<=L.length:=by unfold vr;rw[bU];exact kA _ _
 have F:(tk L).length<=L.length*L.length:=by unfold tk;rw[bU,adE];exact UO L
 have E:(wh L).length<=L.length:=by unfold wh;rw[bU];exact kA _ _
 have w:(iU L).length<=L.length:=by unfold iU;rw[bU];exact kA _ _
 have A:(iU L).length*(iU L).length<=900*900:=rC (eL w t) (eL w t)
 grind [Ra,wZ,bU,w7,xu,md,lP]
def Sz{l:List Obj}{rl:List aB}(h:l.length<=900): ∀N:List ae,(N.flatMap (md l rl)).length<=N.length*3000000
 | []=>jY _
 |n::N=>by
  rw[D5,de,cX,qo];have w:=aet (rl:=rl) (name:=n) h;have t:=Sz (rl:=rl) h N;omega
def azl(w: ∀o∈l,o.AL)(name:ae): ∀o∈fN l name,o.AL:=fun o t=>w o ((zJ l name).subset t)
def abc(l:List Obj):(qW l).ge=true/\(qW l).cells=[qW l]:=by cases l<;>exact⟨rfl,rfl⟩
def aaX(n:Nat)(l:List aa):(gw n l).ge=true:=by cases l<;>rfl
theorem Wy(t:mB l=true):l.length<small:=by
 have:=(oW.1 t).len
 grind [small]
variable{w0 w1 w2 w3:aa}
def awA(G:Q.spec 57=some zt)(t:No Q 56){mv:aa}{L:List Obj}(J:au 6 Obj.val mv L)(T: ∀o∈L,o.AL)(M:mB L=true)(S:s.get [] rb=some (.cells [w0,w1,w2,w3,vv,rv])){rl:List aB}(z:au 8 aB.val rv rl)(R: ∀x∈rl,x.Ok)(E:rl.length<=1000000):aq Q 56 [.agg [mv],.ptr rb 0] s (zK L rl) s:=by
 have F:=J.cs;have A:=z.ge;have I:zt [.agg [mv],rv]=some (zK L rl):=by
  simp only[dX,zt,qv J T (Wy M),Am z R E,M]
 have O:=aaX 3 (Kq L rl);refine aq.ofW (by rw[Std.P];exact Ji.1) Ji.2 Ji.3 Ji.4 t.s (aaX 3 (Kq L rl)) ?_ (Std.H 56) t.w;refine bP ?_;unfold zK at I ⊢;simp only[go_sem,seval,F,A,S,aP,aQ,G,I,O]
def ah5(I:Q.spec 58=some Dv)(H:Q.spec 59=some BZ)(G:Q.spec 60=some Dc)(F:Q.spec 61=some Dd)(J:Q.spec 57=some zt)(z:No Q 56){mv:aa}{L:List Obj}(M:au 6 Obj.val mv L)(O: ∀o∈L,o.AL)(t:mB L=true){rl:List aB}(A:au 8 aB.val rv rl)(R: ∀x∈rl,x.Ok)(E:rl.length<=1000000):
 ∀c∈B5 L rl rb, ∀s:St,s.get [] rb=some (.cells [w0,w1,w2,w3,vv,rv])-> ∃v,aq Q c.1.1 (.agg [mv]::c.1.2) s v s/\au 3 (eI []) v c.2:=by
 have w:=qv M O (Wy t);intro c P s S;simp only[B5,dG,xQ,or_false] at P;rcases P with rfl|rfl|rfl|rfl|rfl
 exact⟨GJ L,aq.sp I (by simp only[dX,Dv,w,t]),by rw[av2];exact w9 _ _ _⟩;exact⟨BA L,aq.sp H (by simp only[dX,BZ,w,t]),by rw[ag4];exact w9 _ _ _⟩;exact⟨DW L,aq.sp G (by simp only[dX,Dc,w,t]),by rw[atp];exact w9 _ _ _⟩;exact⟨GI L,aq.sp F (by simp only[dX,Dd,w,t]),by rw[att];exact w9 _ _ _⟩;exact⟨zK L rl,awA J z M O t S A R E,by rw[awB];exact w9 _ _ _⟩
theorem azm(a8:Q.spec 28=some Bz)(ho:au 6 Obj.val ov l)(hg: ∀o∈l,o.AL)(O:vZ l){rl:List aB}(a0:rb<lo){N:List ae}(hN:au 1 ax nv N)(b4:N.length<=201)(hC:au 1 fV cv (Vz rb)){s0:St}(a1:s0.get [] rb=some (.cells wc))(hc: ∀name, ∀c∈B5 (fN l name) rl rb, ∀s:St,s.get [] rb=some (.cells wc)-> ∃v,aq Q c.1.1 (.agg [qW (fN l name)]::c.1.2) s v s/\au 3 (eI []) v c.2)(hx: ∀e lc s z,cI 3 lo s z (N.flatMap (md l rl))->ac e 7=z->K (.exit 0) ⟨e,57,lc⟩ s):
 ∀(w t:List ae) (e:aw) (lc:Ag.Loc) (s:St) (z:aa),N=t++w->cI 3 lo s z (t.flatMap (md l rl))->lo<=s.aL->s.gE<=s.aL->(∀k,k<lo->s.get [] k=s0.get [] k)->ac e 2= .Gt 2 1 0->lc.gen 2=1->lc.get 2 1=some [ov]->ac e 6=cv->ac e 7=z->ac e 24=nv->ac e 25=aI N.length->ac e 26=aI t.length->W Q 18 (.loop OP) ⟨e,57,lc⟩ s K:=by
 intro w
 induction w with
 |nil=>
  intro t e lc s z H hO M J I R g2 T h6 h7 G E A;have a4:t.length=N.length:=by rw[H];simp
  have a2:t=N:=by rw[H];simp
  refine bm ?_;simp only[go_sem,seval,OP,E,A,a4,cq];rw[a2] at hO;exact hx _ _ _ z hO (by simp only[sN,seval,h7])
 |cons name w ih=>
  intro t e lc s z H hO M J I R g2 T h6 h7 G E A;have a3:t.length<N.length:=by rw[H];simp
  have a7:N[t.length]? =some name:=by rw[H];simp
  have a5:=fun lc k=>hN.at bT.2.2.1 a7 lc k;have Y:=da (n:=t.length) (by omega);have a6:=ho.ge;have q1:=azj ho hg (by have:=O.len;omega) name;have eo:tY l name=fN l name:=by unfold tY;rw[O.valid];rfl
  rw[eo] at q1;obtain⟨mc,ms⟩:=abc (fN l name);have b0:=hC.ge;have a9: ∀mk s',iM ah mk 98 cv s'=some (ag ((5:Nat):Int)):=hC.lenS DF;have Z:(t.flatMap (md l rl)).length+(md l rl name).length<=900000000:=by
   have a:=Sz (rl:=rl) O.len t;have b:=aet (rl:=rl) (name:=name) O.len;have c:t.length*3000000<=200*3000000:=Nat.mul_le_mul_right _ (by omega);omega
  refine bm ?_;simp only[go_sem,seval,OP,ax,R,g2,T,h6,G,E,A,a3,a5,a6,a8,q1,mc,ms,b0,a9];refine ah3 (name:=name) (cs:=B5 (fN l name) rl rb) hC (by show 5<=1000;decide) (lo:=lo) (rb:=rb) (wc:=wc) a0 (ov:=ov) (mv:=qW (fN l name)) (nv:=nv) mc ms (s0:=s0) a1 (hc name) (bse:=t.flatMap (md l rl)) (by rw[abV];exact Z) (g10:=lc.gen 10+1) (nn:=N.length) (i:=t.length) ?_ (B5 (fN l name) rl rb) [] _ _ s z rfl (by simp_all [pQ]) M J I ?_ ⟨?_,?_,?_,?_,?_,?_,?_,?_,?_,?_,?_,?_,?_,?_⟩
  ·intro e2 b2 s2 P b3 S m2 o2 c7 F
   have b1:=F.h26;simp only[go_sem,seval,b1,Y];refine ih (t++[name]) _ _ s2 P (by rw[H];simp) ?_ S m2 o2 ?_ F.g2 F.l2 ?_ ?_ ?_ ?_ ?_
   grind [abV]
   all_goals simp only[sN,seval,c7,F.h2,F.h6,F.h24,F.h25,sA]
  all_goals simp only[sL,seval,R,g2,T,h6,h7,G,E,A,ct]
  all_goals rfl
def ahS(E:Q.spec 31=some im)(a5:Q.spec 28=some Bz)(a3:Q.spec 58=some Dv)(a2:Q.spec 59=some BZ)(a1:Q.spec 60=some Dc)(a0:Q.spec 61=some Dd)(a4:Q.spec 57=some zt)(H:No Q 56)(a7:No Q 18)(Y:au 6 Obj.val ov l)(Z: ∀o∈l,o.AL)(R:l.length<small)(hw:cM l=true->vZ l)(hV:au 1 ax vv views)(a8:views.length<=200){rl:List aB}(S:au 8 aB.val rv rl)(ok: ∀x∈rl,x.Ok)(T:rl.length<=1000000)(hm:s.gE<=s.aL):
 ∃v F,aq Q 18 [.agg [ov],.agg [w0,w1,w2,w3,vv,rv]] s v F/\fU F.heap v (gw 3 (tq l views rl)):=by
 have A:=Y.cs;have I:=hV.ge;have G:=wT Y Z R;obtain⟨z,t⟩:=bZ (s.new (.cells [w0,w1,w2,w3,vv,rv]));have zg:z.get [] s.aL=some (.cells [w0,w1,w2,w3,vv,rv]):=by rw[<-t];exact cH
 have zm:z.gE<=z.aL:=by rw[<-t];exact bW hm
 have zn:z.aL=s.aL+1:=by rw[<-t];rfl
 refine aq.ofNRZ ao9 (bP ?_);cases hmv:cM l with
 |false=>
  rw[hmv] at G;simp only[go_sem,seval,A,t,E,G];refine⟨_,rfl,?_⟩;have:tq l views rl=[]:=by unfold tq;rw[hmv];rfl
  rw[this];exact⟨1,rfl⟩
 |true=>
  rw[hmv] at G;have W:=hw hmv;obtain⟨nv,M,b1,hN,b3,b4,b5⟩:=aaN hV (by omega) zm;have P:=hN.ge;have O:=hN.lenS bT;have hC:au 1 fV (.list 1 [.func (.func 58) [] [],.func (.func 59) [] [],.func (.func 60) [] [],.func (.func 61) [] [],.func (.func 56) [] [.ptr s.aL 0]] .GT) (Vz s.aL):=.inr ⟨.GT,rfl⟩;have a6:(aa.nilf).cells=[.nilf]:=rfl;simp only[go_sem,seval,a6,A,t,E,G,Ar,B4,zg,aP,aQ,I,b1,P,O,DF,bf,aZ,aW,aY,evc];refine azm a5 Y Z W (rl:=rl) (rb:=s.aL) (lo:=M.aL) (by omega) (wc:=[w0,w1,w2,w3,vv,rv]) hN (by rw[cX];omega) hC (s0:=M) ((b5 _ (by omega)).trans zg) (fun name c hc F hr=>ah5 a3 a2 a1 a0 a4 H (abd _) (azl Z name) (oW.2 (W.sub (zJ l name)).fine) S ok T c hc F hr) ?_ ([]::views) [] _ _ M .Ge rfl (.inl ⟨rfl,rfl⟩) (bj _) b4 (fun _ _=>rfl) ?_ ?_ ?_ ?_ ?_ ?_ ?_ ?_;intro e lc s3 tv hO h7;have J:=hO.ge;simp only[go_sem,seval,h7,J];have e:tq l views rl=([]::views).flatMap (md l rl):=by unfold tq;rw[hmv];rfl
  rw[e];refine⟨_,rfl,4,AF hO fun v w=>?_⟩;obtain⟨name,_,w⟩:=sS.1 w;obtain⟨L,_,w⟩:=sS.1 w;obtain⟨q,_,rfl⟩:=cw.1 w;exact akS _ _ _
  all_goals simp only[aV,nY,ai,bH,ct]
  all_goals rfl
def TG:df:=[(31,im),(28,Bz),(58,Dv),(59,BZ),(60,Dc),(61,Dd),(57,zt)]
def afj:dl TG:=.cons tT (.cons azk (.cons av9 (.cons ag5 (.cons atq (.cons atr (.cons awD .nil))))))
def tZ(l:List Obj):Bool:= !cM l||HQ l
def oM:Sp
 | [m,.agg [a,b,c,d,vv,rv]]=>(jO m).bind fun l=>(dW 1 gG vv).bind fun views=>(qx rv).bind fun rl=>bif tZ l&&(decide (views.length<=200)&&dK [a,b,c,d]) then some (gw 3 (tq l views rl)) else none
 |_=>none
variable{a b c d:aa}
def MI{m:aa}{rl:List aB}(z:jO m=some l)(t:dW 1 gG vv=some views)(w:qx rv=some rl)(F:tZ l=true)(E:views.length<=200)(A:dK [a,b,c,d]=true):oM [m,.agg [a,b,c,d,vv,rv]]=some (gw 3 (tq l views rl)):=by
 simp only[dX,oM,z,t,w,F,E,A,dT,bX]
def Hx:cL ah 18 oM:=by
 intro args u t G h w xs wr hx;unfold oM at t;split at t;rename_i m a b c d vv rv;simp only[ak] at t;obtain⟨l,T,views,A,rl,E,t⟩:=t;obtain⟨hf,t⟩:=bc t;have t:=sI t;subst t;simp only[bq,dE] at hf;obtain⟨F,Y,z⟩:=hf;obtain⟨v,rfl,T,hg,hs⟩:=nX T;obtain⟨E,Z,R⟩:=BT E;have A:=ig (fun _ _ h=>kQ h) A;obtain⟨ht,v',J,S⟩:=o9 T hg;obtain⟨O,I⟩:=Kr E Z;obtain⟨M,H⟩:=nz rq A;have J:dj [.agg [v],.agg [a,b,c,d,vv,rv]]=[.agg [v'],.agg [cu a,cu b,cu c,cu d,cu vv,cu rv]]:=by simp only[dj,cu,J];rw[<-J];simp only[cu,dj]
 have P:cM l=true->vZ l:=fun e=>by
  unfold tZ at F;rw[e] at F;exact Wx.1 (by simpa using F)
 simp only[dK,bq] at z;refine iu afj (W:=[]) .nil (args:=[.agg [v],.agg [a,b,c,d,vv,rv]]) (by
  have:dy (.agg [a,b,c,d,vv,rv])=true:=by
   simp only[dy,dK,z.1,z.2.1,z.2.2.1,z.2.2.2.1,O,M,bX]
  simp only[dK,ht,this,bX]) (fun ch=>?_) G h w xs wr hx
 rw[J];exact ahS (Q:=QW TG [] ch) rfl rfl rfl rfl rfl rfl rfl ⟨rfl,rfl⟩ ⟨rfl,rfl⟩ S hg hs P H Y I Z R (by decide);cases t
abbrev VE:=ae×VQ
def dq(p:VE):aa:=eI p.1 p.2
def Ao:aa->Option VE
 | .agg [.str n,.int .i64 k,.list 1 xs .no]=>(ij gG xs).bind fun l=>some (n,k,l,true)
 | .agg [.str n,.int .i64 k,.list 1 xs .GT]=>(ij gG xs).bind fun l=>some (n,k,l,false)
 |_=>none
def UM(p:VE):Ao (dq p)=some p:=by
 obtain⟨n,k,l,b⟩:=p;have h:=yV kF l;cases b with
 |true=>show(ij gG (l.map ax)).bind _=_;rw[h];rfl
 |false=>show(ij gG (l.map ax)).bind _=_;rw[h];rfl
variable{p:VE}
def Hr(h:Ao v=some p):v=dq p:=by
 unfold Ao at h;split at h;simp only[ak,aM] at h;obtain⟨l,t,rfl⟩:=h
 have:=FI (fun _ _ h=>kQ h) t;rw[this];rfl;simp only[ak,aM] at h;obtain⟨l,t,rfl⟩:=h
 have:=FI (fun _ _ h=>kQ h) t;rw[this];rfl;cases h
def Cg(p:VE):bG (dq p)=true:=by
 obtain⟨n,k,l,b⟩:=p;have h:bG (.list 1 (l.map ax) (ip b))=true:=by rw[Bi];cases b<;>rfl
 show(true&&(true&&(bG (.list 1 (l.map ax) (ip b))&&true)))=true;rw[h];rfl
def uR(p q:VE):Bool:=p.1==q.1&&(an p.2.1 q.2.1&&Cz p.2.2.1 q.2.2.1)
def rj:List VE->List VE->Bool
 | [],[]=>true
 |p::a,q::b=>uR p q&&rj a b
 |_,_=>false
def adb: ∀ {a b:List VE},rj a b=true->a.length=b.length
 | [],[],_=>rfl
 | [],_::_,h=>by cases h
 |_::_,[],h=>by cases h
 |p::a,q::b,h=>by
  simp only[rj,bq] at h;rw[cX,cX,adb h.2]
def Co(l:List VE):Bool:=l.all fun p=>decide (p.2.2.1.length<=1000000)
variable{u:aa}
def awW(P:Q.spec 35=some AM){a b:List VE}(ha:au 3 dq u a)(hb:au 3 dq v b)(hl:a.length=b.length)(a5:a.length<=1000000000)(fa:Co a=true)(fb:Co b=true)(hm:s.gE<=s.aL)(hx: ∀e,rj a b=true->K (.exit 0) ⟨e,55,lc⟩ s)(hr: ∀e,rj a b=false->ac e 4= .bool false->K .ret ⟨e,55,lc⟩ s):
 ∀(I rb pa G:List VE) (e:aw),a=pa++I->b=G++rb->pa.length=G.length->rj a b=rj I rb->ac e 0=u->ac e 1=v->ac e 5=aI pa.length->W Q 17 (.loop CJ) ⟨e,55,lc⟩ s K:=by
 intro I;have A:=ha.lenS iq;have t:=ha.ge;have F:=hb.ge
 induction I with
 |nil=>
  intro rb pa G e S R h3 h4 w J z;have a4:pa.length=a.length:=by rw[S];simp
  have a3:rb=[]:=by
   have:b.length=G.length+rb.length:=by rw[R];simp
   exact vP (by omega)
  subst a3;refine bm ?_;simp only[go_sem,seval,CJ,w,z,t,A,a4,cq];exact hx _ h4
 |cons p I ih=>
  intro rb pa G e S R h3 h4 w J z;have E:pa.length<a.length:=by rw[S];simp
  cases rb with
  |nil=>
   exfalso;have:b.length=G.length:=by rw[R];simp
   omega
  |cons q rb=>
   have O:a[pa.length]? =some p:=by rw[S];simp
   have M:b[pa.length]? =some q:=by rw[R,h3];simp
   have Z:=fun lc k=>ha.at iq.2.2.1 O lc k;have Y:=fun lc k=>hb.at iq.2.2.1 M lc k;have a0:=da (n:=pa.length) (by omega);have f1:p.2.2.1.length<=1000000:=by
    have:=fD.1 fa p (dM O);simpa using this
   have f2:q.2.2.1.length<=1000000:=by
    have:=fD.1 fb q (dM M);simpa using this
   have T:AM [.list 1 (p.2.2.1.map ax) (ip p.2.2.2),.list 1 (q.2.2.1.map ax) (ip q.2.2.2)]=some (.bool (Cz p.2.2.1 q.2.2.1)):=by
    have a1:=Hq (v:=.list 1 (p.2.2.1.map ax) (ip p.2.2.2)) (.inr ⟨_,rfl⟩) (by rw[Bi];cases p.2.2.2<;>rfl);have a2:=Hq (v:=.list 1 (q.2.2.1.map ax) (ip q.2.2.2)) (.inr ⟨_,rfl⟩) (by rw[Bi];cases q.2.2.2<;>rfl);have b1:bu p.2.2.1.length 1000000=true:=cN f1;have b2:bu q.2.2.1.length 1000000=true:=cN f2;simp only[dX,AM,a1,a2,b1,b2,bX]
   have hs:rj a b=(uR p q&&rj I rb):=h4;refine kB ?_;cases e1:p.1==q.1 with
   |false=>
    have H:uR p q=false:=by unfold uR;rw[e1];rfl
    simp only[go_sem,seval,CJ,w,z,t,A,E];refine gi hm ?_;simp only[go_sem,AY,seval,w,J,z,t,F,Z,Y,dq,eI,e1];exact hr _ (by rw[hs,H,dL]) (by simp only[sN,seval])
   |true=>
    cases e2:an p.2.1 q.2.1 with
    |false=>
     have H:uR p q=false:=by unfold uR;rw[e1,e2];rfl
     simp only[go_sem,seval,CJ,w,z,t,A,E];refine gi hm ?_;simp only[go_sem,AY,seval,w,J,z,t,F,Z,Y,dq,eI,e1,e2];exact hr _ (by rw[hs,H,dL]) (by simp only[sN,seval])
    |true=>
     cases e3:Cz p.2.2.1 q.2.2.1 with
     |false=>
      have H:uR p q=false:=by unfold uR;rw[e1,e2,e3];rfl
      rw[e3] at T;simp only[go_sem,seval,CJ,w,z,t,A,E];refine gi hm ?_;simp only[go_sem,AY,seval,w,J,z,t,F,Z,Y,dq,eI,e1,e2];simp only[go_sem,AY,seval,P,T];exact hr _ (by rw[hs,H,dL]) (by simp only[sN,seval])
     |true=>
      have H:uR p q=true:=by unfold uR;rw[e1,e2,e3];rfl
      rw[e3] at T;simp only[go_sem,seval,CJ,w,z,t,A,E];refine gi hm ?_;simp only[go_sem,AY,seval,w,J,z,t,F,Z,Y,dq,eI,e1,e2];simp only[go_sem,AY,seval,P,T,z,a0];refine ih rb (pa++[p]) (G++[q]) _ (by rw[S];simp) (by rw[R];simp) (by simp[h3]) (by rw[hs,H,eC]) ?_ ?_ ?_
      all_goals simp only[sN,seval,w,J,sA]
def awU(I:Q.spec 35=some AM)(J:No Q 17){a b:List VE}(H:au 3 dq u a)(F:au 3 dq v b)(G:a.length<=1000000000)(S:Co a=true)(R:Co b=true)(M:s.gE<=s.aL):aq Q 17 [u,v] s (.bool (rj a b)) s:=by
 have A:=H.lenS iq;have w:=F.lenS iq;have E:=H.ge;have z:=F.ge;refine aq.ofNZ ao8 (bP ?_);cases hn:an ((a.length:Nat):Int) ((b.length:Nat):Int) with
 |false=>
  have t:rj a b=false:=by
   cases h:rj a b with
   |false=>rfl
   |true=>
    rw[adb h] at hn;unfold an at hn;simp at hn
  simp only[go_sem,seval,E,z,A,w,hn,t]
 |true=>
  have O:a.length=b.length:=by
   have:=of_decide_eq_true hn;omega
  simp only[go_sem,seval,E,z,A,w,hn];refine awW I H F O G S R M ?_ ?_ a b [] [] _ rfl rfl rfl rfl ?_ ?_ ?_;intro e t;simp only[go_sem,seval,t];intro e t P;simp only[go_sem,seval,t,P]
  all_goals simp only[sN,seval,ct]
  all_goals rfl
def RM:Sp
 | [u,v]=>(dW 3 Ao u).bind fun a=>(dW 3 Ao v).bind fun b=>bif bu a.length 1000000000&&(Co a&&Co b) then some (.bool (rj a b)) else none
 |_=>none
def Ub:df:=[(35,AM)]
def afI:dl Ub:=.cons anC .nil
def awV:cL ah 17 RM:=by
 intro F x t G P w H I O;unfold RM at t;split at t;rename_i u v;simp only[ak] at t;obtain⟨a,E,b,A,h⟩:=t;obtain⟨z,h⟩:=bc h;have h:=sI h;subst h;simp only[bq] at z;have E:=ig (fun _ _ h=>Hr h) E;have A:=ig (fun _ _ h=>Hr h) A;obtain⟨M,T⟩:=nz Cg E;obtain⟨J,S⟩:=nz Cg A;refine iu afI (W:=[]) .nil (by simp only[dK,M,J,bX]) (fun R=>?_) G P w H I O;exact⟨_,_,awU (Q:=QW Ub [] R) rfl ⟨rfl,rfl⟩ T S (fF z.1) z.2.1 z.2.2 (by decide),⟨1,rfl⟩⟩;cases t
structure aB.OkS (x:aB):Prop where
 vals:au 1 ax x.valuesV x.values
 pv:bG x.valuesV=true
 area:x.area.length<small
 key:x.key.length<small
 ifK:x.ifK.length<small
 len:x.values.length<small
def x5:aa->Option aB
 | .agg [.bool st,.str a,.int .i64 k,.str ik,.str iv,.int .i64 op,.str key,vv]=>(dW 1 gG vv).bind fun vs=>bif bG vv&&(bh a.length small&&(bh key.length small&&(bh ik.length small&&bh vs.length small))) then some ⟨st,a,k,ik,iv,op,key,vv,vs⟩ else none
 |_=>none
variable{x:aB}
def UF(h:x5 v=some x):v=x.val/\x.OkS:=by
 unfold x5 at h;split at h;simp only[ak] at h;obtain⟨vs,w,h⟩:=h;obtain⟨t,h⟩:=bc h;injection h with h;subst h
 simp only[bq] at t;exact⟨rfl,ig (fun _ _ h=>kQ h) w,t.1,fF t.2.1,fF t.2.2.1,fF t.2.2.2.1,fF t.2.2.2.2⟩;cases h
def agu(t:x.OkS):x5 x.val=some x:=by
 have w:=kT kF t.vals;have F:bh x.area.length small=true:=cN t.area;have E:bh x.key.length small=true:=cN t.key;have A:bh x.ifK.length small=true:=cN t.ifK;have z:bh x.values.length small=true:=cN t.len;simp only[dX,x5,aB.val,aB.cells,w,t.pv,F,E,A,z,bX]
def aau: ∀ {xs:List aa} {l:List aB},ij x5 xs=some l-> ∀x∈l,x.OkS
 | [],l,h=>by simp only[ij,aM] at h;subst h;intro o w;cases w
 |x::xs,l,h=>by
  simp only[ij,ak,aM] at h;obtain⟨a,A,r,z,rfl⟩:=h;intro y t;rcases dG.1 t with rfl|t
  exact(UF A).2;exact aau z y t
def aaw: ∀ {l:List aB},(∀x∈l,x.OkS)->ij x5 (l.map aB.val)=some l
 | [],_=>rfl
 |x::l,h=>by
  simp only[eT,ij,agu (h x fE),bk,aaw (l:=l) fun y t=>h y (iw _ t)]
def Ak(v:aa):Option (List aB):=(dW 8 x5 v).bind fun l=>bif bh l.length small then some l else none
variable{l:List aB}
def UH(h:Ak v=some l):au 8 aB.val v l/\(∀x∈l,x.OkS)/\l.length<small:=by
 unfold Ak at h;simp only[ak] at h;obtain⟨A,t,h⟩:=h;obtain⟨z,h⟩:=bc h;injection h with h;subst h
 refine⟨ig (fun v a h=>(UF h).1) t,?_,fF z⟩;unfold dW at t;split at t;injection t with t;subst t;intro o w;cases w
 obtain⟨_,t⟩:=bc t;exact aau t;cases t
def UI(h:au 8 aB.val v l)(t: ∀x∈l,x.OkS)(w:l.length<small):Ak v=some l:=by
 have z:dW 8 x5 v=some l:=by
  rcases h with⟨rfl,rfl⟩|⟨r,rfl⟩
  rfl;simp only[fc,dW,aaw t]
 have b:bh l.length small=true:=cN w;simp only[dX,Ak,z,b]
def RG(h:au 8 aB.val v l)(w: ∀x∈l,x.OkS):dy v=true/\au 8 aB.val (cu v) l:=by
 have t:pures (l.map aB.val)=true:=by
  rw[Bj];intro v A;obtain⟨x,z,rfl⟩:=cw.1 A;simp only[aB.val,aB.cells,bG,pures,(w x z).pv,bX]
 rcases h with⟨rfl,rfl⟩|⟨r,rfl⟩
 exact⟨rfl,.inl ⟨rfl,rfl⟩⟩;exact⟨by simpa[dy] using t,.inr (by
  simp only[cu,kw t];exact⟨_,rfl⟩)⟩
def Gq(x:aB):Int:=IntKind.i64.wrap (IntKind.i64.wrap (IntKind.i64.wrap ((x.area.length:Nat)+(x.key.length:Nat):Int)+(x.ifK.length:Nat))+(x.ifV.length:Nat))
def ws(v:ae):Bool:=aX 300 ((v.length:Nat):Int)
def xy(x:aB):Bool:=aX 300 (Gq x)||aX 65 ((x.values.length:Nat):Int)
def sE(x:aB):Bool:= !xy x&&x.values.all fun v=> !ws v
def uU(l:List aB)(n:Int):Bool:=l.all sE&&b9 ((l.length:Nat):Int) n
def akV(hl:au 8 aB.val rv l)(hi:l[i]? =some x)(P:x.OkS){n:Int}(hx: ∀e,(x.values.all fun v=> !ws v)=true->ac e 0=rv->ac e 1=ag n->ac e 5=aI i->K (.exit 2) ⟨e,76,lc⟩ s)(hr: ∀e,(x.values.all fun v=> !ws v)=false->ac e 4= .bool false->K .ret ⟨e,76,lc⟩ s):
 ∀(w t:List ae) (e:aw),x.values=t++w->(x.values.all fun v=> !ws v)=(w.all fun v=> !ws v)->ac e 0=rv->ac e 1=ag n->ac e 5=aI i->ac e 6=aI t.length->W Q 55 (.loop Jh) ⟨e,76,lc⟩ s K:=by
 intro w;have a2:=gV;have a1:=P.len;have A:=P.vals.lenS bT;have E:=P.vals.ge;have F:=hl.ge;have G:=fun lc k=>hl.at ow.2.2.1 hi lc k
 induction w with
 |nil=>
  intro t e O S H T I R;have Z:t.length=x.values.length:=by rw[O];simp
  refine bm ?_;simp only[go_sem,seval,Jh,H,I,R,F,G,aB.val,aB.cells,E,A,Z,cq];refine hx _ S ?_ ?_ ?_
  all_goals simp only[sN,seval,H,T,I]
 |cons v w ih=>
  intro t e O S H T I R;have J:t.length<x.values.length:=by rw[O];simp
  have a0:x.values[t.length]? =some v:=by rw[O];simp
  have M:=fun lc k=>P.vals.at bT.2.2.1 a0 lc k;have Y:IntKind.i64.wrap (((t.length:Nat):Int)+1)=((t.length+1:Nat):Int):=by rw[jf (by omega) (by omega)];omega
  refine bm ?_;cases hb:ws v with
  |true=>
   have z:=hb;unfold ws at z;simp only[go_sem,seval,Jh,H,I,R,F,G,M,aB.val,aB.cells,ax,E,A,J,vf,z];exact hr _ (by rw[S,kx,hb];rfl) (by simp only[sN,seval])
  |false=>
   have z:=hb;unfold ws at z;simp only[go_sem,seval,Jh,H,I,R,F,G,M,aB.val,aB.cells,ax,E,A,J,vf,z,Y];refine ih (t++[v]) _ (by rw[O];simp) (by rw[S,kx,hb];rfl) ?_ ?_ ?_ ?_
   all_goals simp only[sN,seval,H,T,I,sA]
def akO(Z:au 8 aB.val rv l)(a1: ∀x∈l,x.OkS)(a3:l.length<small){n:Int}(hm:s.gE<=s.aL)(hx: ∀e,l.all sE=true->ac e 0=rv->ac e 1=ag n->K (.exit 0) ⟨e,76,lc⟩ s)(hr: ∀e,l.all sE=false->ac e 4= .bool false->K .ret ⟨e,76,lc⟩ s):
 ∀(z t:List aB) (e:aw),l=t++z->l.all sE=z.all sE->ac e 0=rv->ac e 1=ag n->ac e 5=aI t.length->W Q 55 (.loop Fx) ⟨e,76,lc⟩ s K:=by
 intro z;have hs:=gV;have w:=Z.ge;have I:=Z.lenS ow
 induction z with
 |nil=>
  intro t e T S A r1 G;have a2:t.length=l.length:=by rw[T];simp
  refine kB ?_;simp only[go_sem,seval,Fx,A,G,w,I,a2,cq];refine hx _ S ?_ ?_
  all_goals simp only[sN,seval,A,r1]
 |cons x z ih=>
  intro t e T S A r1 G;have J:t.length<l.length:=by rw[T];simp
  have O:l[t.length]? =some x:=by rw[T];simp
  have ok:=a1 x (dM O);have R:=ok.vals.ge;have P:=ok.vals.lenS bT;have E:=fun lc k=>Z.at ow.2.2.1 O lc k;have a0:IntKind.i64.wrap (((t.length:Nat):Int)+1)=((t.length+1:Nat):Int):=by rw[jf (by omega) (by omega)];omega
  have Y:xy x=true->l.all sE=false:=fun M=>by
   rw[S,kx];have:sE x=false:=by unfold sE;rw[M];rfl
   rw[this,dL]
  cases H:aX 300 (Gq x) with
  |true=>
   have M:xy x=true:=by unfold xy;rw[H,Bool.true_or]
   unfold Gq at H;refine kB ?_;simp only[go_sem,seval,Fx,A,G,w,I,J];refine gi hm ?_;simp only[go_sem,CO,seval,A,G,w,E,aB.val,aB.cells,vf,H];exact hr _ (Y M) (by simp only[sN,seval])
  |false=>
   cases e2:aX 65 ((x.values.length:Nat):Int) with
   |true=>
    have M:xy x=true:=by unfold xy;rw[H,e2];rfl
    unfold Gq at H;refine kB ?_;simp only[go_sem,seval,Fx,A,G,w,I,J];refine gi hm ?_;simp only[go_sem,CO,seval,A,G,w,E,aB.val,aB.cells,vf,H];simp only[go_sem,CO,seval,A,G,w,E,aB.val,aB.cells,R,P,e2];exact hr _ (Y M) (by simp only[sN,seval])
   |false=>
    have M:xy x=false:=by unfold xy;rw[H,e2];rfl
    have hf:sE x=(x.values.all fun v=> !ws v):=by unfold sE;rw[M];rfl
    unfold Gq at H;refine kB ?_;simp only[go_sem,seval,Fx,A,G,w,I,J];refine gi hm ?_;simp only[go_sem,CO,seval,A,G,w,E,aB.val,aB.cells,vf,H];simp only[go_sem,CO,seval,A,G,w,E,aB.val,aB.cells,R,P,e2];refine akV Z O ok (n:=n) ?_ ?_ x.values [] _ rfl rfl ?_ ?_ ?_ ?_
    ·intro H F c0 c1 c5
     simp only[go_sem,seval,c5,a0];refine ih (t++[x]) _ (by rw[T];simp) (by rw[S,kx,hf,F,eC]) ?_ ?_ ?_
     all_goals simp only[sN,seval,c0,c1,sA]
    intro H F c4;exact hr _ (by rw[S,kx,hf,F,dL]) c4
    all_goals simp only[sN,seval,A,r1,G,ct]
    all_goals rfl
def akb(H:No Q 55)(F:au 8 aB.val rv l)(E: ∀x∈l,x.OkS)(A:l.length<small)(n:Int)(M:s.gE<=s.aL):aq Q 55 [rv,ag n] s (.bool (uU l n)) s:=by
 have w:=F.ge;have z:=F.lenS ow;refine aq.ofNZ aqZ (bP ?_);simp only[go_sem,seval,w];refine akO F E A (n:=n) M ?_ ?_ l [] _ rfl rfl ?_ ?_ ?_;intro e t J I;have G:uU l n=b9 ((l.length:Nat):Int) n:=by unfold uU;rw[t];rfl
 simp only[go_sem,seval,J,I,w,z,G];intro e t O;have G:uU l n=false:=by unfold uU;rw[t];rfl
 simp only[go_sem,seval,O,G]
 all_goals simp only[sN,seval,ct]
 all_goals rfl
def Cm:Sp
 | [v,.int .i64 n]=>(Ak v).bind fun l=>some (.bool (uU l n))
 |_=>none
def aj7(h:au 8 aB.val v l)(t: ∀x∈l,x.OkS)(w:l.length<small)(n:Int):Cm [v,ag n]=some (.bool (uU l n)):=by
 simp only[Cm,UI h t w,bk]
def aj8:cL ah 55 Cm:=by
 intro args u t G J w E F H;unfold Cm at t;split at t;rename_i v n;simp only[ak] at t;obtain⟨l,P,h⟩:=t;have h:=sI h;subst h;obtain⟨I,A,z⟩:=UH P;obtain⟨O,M⟩:=RG I A;refine iu (T:=[]) (W:=[]) .nil .nil (args:=[v,ag n]) (by show(dy v&&_)=true;rw[O];rfl) (fun R=>?_) G J w E F H;exact⟨_,_,akb (Q:=QW [] [] R) ⟨rfl,rfl⟩ M A z n (by decide),⟨1,rfl⟩⟩;cases t
def x7(v:ae):Bool:=aX 60 ((v.length:Nat):Int)
def wC(l:List Obj)(views:List ae)(rl:List aB)(n:Int):Bool:=(views.all fun v=> !x7 v)&&(oU l n&&(b9 ((views.length:Nat):Int) 3&&uU rl 5))
def pk(l:List Obj)(rl:List aB)(name:ae):List VE:=(lP (fN l name) rl).flatMap fun L=>L.map fun q=>(name,q)
def aer(l:List Obj)(rl:List aB)(name:ae):md l rl name=(pk l rl name).map dq:=by
 unfold md pk;rw[List.map_flatMap];congr 1;funext L;rw[m9];rfl
def gZ(l:List Obj)(views:List ae)(rl:List aB):List VE:=bif cM l then([]::views).flatMap (pk l rl) else []
def MF(l:List Obj)(views:List ae)(rl:List aB):tq l views rl=(gZ l views rl).map dq:=by
 unfold tq gZ;cases cM l with
 |false=>rfl
 |true=>
  show([]::views).flatMap (md l rl)=(([]::views).flatMap (pk l rl)).map dq;rw[List.map_flatMap];congr 1;funext name;exact aer l rl name
variable{l:List Obj}
def Vw(h:cM l=true->l.length<=900)(views:List ae)(rl:List aB):(gZ l views rl).length<=(views.length+1)*3000000:=by
 unfold gZ;cases hv:cM l with
 |false=>exact jY _
 |true=>
  have w:=Sz (rl:=rl) (h hv) ([]::views);have t:(([]::views).flatMap (pk l rl)).length=(([]::views).flatMap (md l rl)).length:=by
   have:([]::views).flatMap (md l rl)=(([]::views).flatMap (pk l rl)).map dq:=by
    rw[List.map_flatMap];congr 1;funext name;exact aer l rl name
   rw[this,bU]
  show(([]::views).flatMap (pk l rl)).length<=_;rw[t];simpa using w
def akf(Z:au 1 ax vv views)(a0:views.length<small){mv:aa}{n:Int}(R:lc.get 4 1=some [w0,w1,w2,w3,vv,rv])(g4:lc.gen 4=1)(hx: ∀e,(views.all fun v=> !x7 v)=true->ac e 2=ag n->ac e 3= .Gt 3 1 0->ac e 4= .Gt 4 1 0->K (.exit 0) ⟨e,36,lc⟩ s)(hr: ∀e,(views.all fun v=> !x7 v)=false->ac e 6= .bool false->K .ret ⟨e,36,lc⟩ s):
 ∀(w t:List ae) (e:aw),views=t++w->(views.all fun v=> !x7 v)=(w.all fun v=> !x7 v)->ac e 2=ag n->ac e 3= .Gt 3 1 0->ac e 4= .Gt 4 1 0->ac e 7=aI t.length->W Q 16 (.loop Iz) ⟨e,36,lc⟩ s K:=by
 intro w;have hs:=gV;have E:=Z.ge;have A:=Z.lenS bT
 induction w with
 |nil=>
  intro t e I M P O F J;have T:t.length=views.length:=by rw[I];simp
  refine bm ?_;simp only[go_sem,seval,Iz,F,R,g4,J,E,A,T,cq];refine hx _ M ?_ ?_ ?_
  all_goals simp only[sN,seval,P,O,F]
 |cons v w ih=>
  intro t e I M P O F J;have G:t.length<views.length:=by rw[I];simp
  have Y:views[t.length]? =some v:=by rw[I];simp
  have H:=fun lc k=>Z.at bT.2.2.1 Y lc k;have S:IntKind.i64.wrap (((t.length:Nat):Int)+1)=((t.length+1:Nat):Int):=by rw[jf (by omega) (by omega)];omega
  refine bm ?_;cases hb:x7 v with
  |true=>
   have z:=hb;unfold x7 at z;simp only[go_sem,seval,Iz,ax,F,R,g4,J,E,A,G,H,vf,z];exact hr _ (by rw[M,kx,hb];rfl) (by simp only[sN,seval])
  |false=>
   have z:=hb;unfold x7 at z;simp only[go_sem,seval,Iz,ax,F,R,g4,J,E,A,G,H,vf,z,S];refine ih (t++[v]) _ (by rw[I];simp) (by rw[M,kx,hb];rfl) ?_ ?_ ?_ ?_
   all_goals simp only[sN,seval,P,O,F,sA]
variable{rl:List aB}
def aj6(A:Q.spec 33=some Cp)(a0:Q.spec 55=some Cm)(a1:No Q 16)(ho:au 6 Obj.val ov l)(hg: ∀o∈l,o.AL)(S:l.length<small)(Z:au 1 ax vv views)(R:views.length<small)(H:au 8 aB.val rv rl)(ok: ∀x∈rl,x.OkS)(T:rl.length<small)(n:Int)(s:St):aq Q 16 [.agg [ov],.agg [w0,w1,w2,w3,vv,rv],ag n] s (.bool (wC l views rl n)) s:=by
 have z:=ho.cs;have F:=Z.ge;have E:=Z.lenS bT;have I:=H.ge;have G:=akc ho hg S n;have q2:=aj7 H ok T 5;obtain⟨lc,t⟩:=bZ (Ag.Loc.set (Ag.Loc.set [] 3 1 [ov]) 4 1 [w0,w1,w2,w3,vv,rv]);have O:lc.get 4 1=some [w0,w1,w2,w3,vv,rv]:=by rw[<-t];rfl
 have g4:lc.gen 4=1:=by rw[<-t];rfl
 have P:lc.get 3 1=some [ov]:=by rw[<-t];rfl
 have g3:lc.gen 3=1:=by rw[<-t];rfl
 refine aq.ofNZ ao7 (bP ?_);simp only[go_sem,seval,z,t];refine akf Z R (mv:=ov) (n:=n) O g4 ?_ ?_ views [] _ rfl rfl ?_ ?_ ?_ ?_;intro e w M J r4;have Y:wC l views rl n=(oU l n&&(b9 ((views.length:Nat):Int) 3&&uU rl 5)):=by unfold wC;rw[w,eC]
 rw[Y];cases e1:oU l n with
 |false=>
  rw[e1] at G;simp only[go_sem,seval,M,J,P,g3,z,A,G,dL]
 |true=>
  rw[e1] at G;cases e2:b9 ((views.length:Nat):Int) 3 with
  |false=>
   simp only[go_sem,seval,M,J,r4,P,g3,O,g4,z,F,E,A,G,e2,dL,Bool.and_false]
  |true=>
   simp only[go_sem,seval,M,J,r4,P,g3,O,g4,z,F,E,I,A,G,e2,a0,q2,eC]
 intro e w h6;have Y:wC l views rl n=false:=by unfold wC;rw[w,dL]
 simp only[go_sem,seval,h6,Y]
 all_goals simp only[sG,seval,ct]
 all_goals rfl
def Cn:Sp
 | [m,.agg [a,b,c,d,vv,rv],.int .i64 n]=>(jO m).bind fun l=>(dW 1 gG vv).bind fun views=>(Ak rv).bind fun rl=>bif bh views.length small&&dK [a,b,c,d] then some (.bool (wC l views rl n)) else none
 |_=>none
def TJ:df:=[(33,Cp),(55,Cm)]
def afm:dl TJ:=.cons akd (.cons aj8 .nil)
def aj9{m:aa}(z:jO m=some l)(t:dW 1 gG vv=some views)(w:Ak rv=some rl)(E:views.length<small)(A:dK [a,b,c,d]=true)(n:Int):Cn [m,.agg [a,b,c,d,vv,rv],ag n]=some (.bool (wC l views rl n)):=by
 have q:bh views.length small=true:=cN E;simp only[dX,Cn,z,t,w,q,A,bX]
def aka:cL ah 16 Cn:=by
 intro args u t G h w xs wr hx;unfold Cn at t;split at t;rename_i m a b c d vv rv n;simp only[ak] at t;obtain⟨l,R,views,A,rl,E,t⟩:=t;obtain⟨Z,t⟩:=bc t;have t:=sI t;subst t;simp only[bq] at Z;obtain⟨S,z⟩:=Z;obtain⟨v,rfl,R,Y,hs⟩:=nX R;obtain⟨E,T,O⟩:=UH E;have A:=ig (fun _ _ h=>kQ h) A;obtain⟨ht,v',I,P⟩:=o9 R Y;obtain⟨M,H⟩:=RG E T;obtain⟨J,F⟩:=nz rq A;have I:dj [.agg [v],.agg [a,b,c,d,vv,rv],ag n]=[.agg [v'],.agg [cu a,cu b,cu c,cu d,cu vv,cu rv],ag n]:=by simp only[dj,cu,I];rw[<-I];simp only[cu,dj]
 simp only[dK,bq] at z;refine iu afm (W:=[]) .nil (args:=[.agg [v],.agg [a,b,c,d,vv,rv],ag n]) (by
  have:dy (.agg [a,b,c,d,vv,rv])=true:=by
   simp only[dy,dK,z.1,z.2.1,z.2.2.1,z.2.2.2.1,M,J,bX]
  show(dy (.agg [v])&&(dy (.agg [a,b,c,d,vv,rv])&&_))=true;rw[ht,this];rfl) (fun ch=>?_) G h w xs wr hx
 rw[I];exact⟨_,_,aj6 (Q:=QW TJ [] ch) rfl rfl ⟨rfl,rfl⟩ P Y hs F (fF S) H T O n _,⟨1,rfl⟩⟩;cases t
def uX:aa->Bool
 | .agg _=>false
 | .tup _=>false
 | .list _ xs _=>pures xs
 |v=>bG v
def HS(h:uX v=true):dy v=true:=by
 cases v<;>first|exact h|(cases h;done)
def HT(h:uX v=true):uX (cu v)=true:=by
 cases v with
 |list n t r=>
  have h:pures t=true:=h;simp only[cu,kw h];cases r<;>exact h
 |agg cs=>cases h
 |tup cs=>cases h
 |_=>rw[DX h];exact h
def mC(a b c d:aa):Bool:=uX a&&(uX b&&(uX c&&uX d))
def Cr(h:mC a b c d=true):dK [a,b,c,d]=true:=by
 simp only[mC,bq] at h;simp only[dK,HS h.1,HS h.2.1,HS h.2.2.1,HS h.2.2.2,bX]
def WD(h:mC a b c d=true):mC (cu a) (cu b) (cu c) (cu d)=true:=by
 simp only[mC,bq] at h ⊢;exact⟨HT h.1,HT h.2.1,HT h.2.2.1,HT h.2.2.2⟩
variable{q:VQ}
def ah1{L:List VQ}(w:L∈lP l rl)(t:q∈L):q.2.1.length<=2:=by
 simp only[lP,dG,xQ,or_false] at w;rcases w with rfl|rfl|rfl|rfl|rfl
 obtain⟨o,_,rfl⟩:=cw.1 t;exact jW 1;obtain⟨k,_,rfl⟩:=cw.1 t;show(fI k).length<=2;unfold fI;cases k.1==k.2;exact bj 2;exact jW 1;rcases hQ.1 t with t|t
 obtain⟨o,_,rfl⟩:=cw.1 t;exact jW 1;obtain⟨o,_,rfl⟩:=cw.1 t;exact bj 2;rcases hQ.1 t with t|t
 obtain⟨o,_,rfl⟩:=cw.1 t;exact jW 1;obtain⟨o,_,rfl⟩:=cw.1 t;exact jW 1;obtain⟨o,_,rfl⟩:=cw.1 t;exact jW 1
def azh{name:ae}(h:p∈pk l rl name):p.2.2.1.length<=2:=by
 obtain⟨L,z,w⟩:=sS.1 h;obtain⟨q,t,rfl⟩:=cw.1 w;exact ah1 z t
def Vv(h:p∈gZ l views rl):p.2.2.1.length<=2:=by
 unfold gZ at h;cases hv:cM l with
 |false=>rw[hv] at h;cases h
 |true=>
  rw[hv] at h;obtain⟨n,_,t⟩:=sS.1 h;exact azh t
structure eG (C l:List Obj):Prop where
 sub:C.Sublist l
 val:cM l=true
 at_: ∀o∈C, ∀r∈o.gT,ck r C=ck r l
theorem L0{p q:α->Bool}: ∀ {l:List α},(∀x∈l,p x=q x)->l.all p=l.all q
 | [],_=>rfl
 |a::l,h=>by grind
def yX(t:cM l=true)(h:o∈l):ck o.id l=some o:=De (qN t) h
theorem JO{p:Obj->Bool}{r:ae}: ∀ {l:List Obj},(l.map Obj.id).Nodup->ck r (l.filter p)=(ck r l).bind fun q=>bif p q then some q else none
 | [],_=>rfl
 |a::l,nd=>by
  have t:=List.nodup_cons.1 nd;have w:=JO (p:=p) (r:=r) (l:=l) t.2;cases e:r==a.id with
  |true=>
   have A:ck r (a::l)=some a:=by simp only[ck,e,cT]
   have z:ck r (l.filter p)=none:=yY fun h=>by
    grind
   grind [ck]
  |false=>
   grind [ck]
variable{area:ae}
namespace eG
variable{C l:List Obj}
def valC(P:eG C l):cM C=true:=JC P.val P.sub
def mem(P:eG C l)(h:o∈C):o∈l:=P.sub.subset h
def up(P:eG C l){r:ae}(h:ck r C=some o):ck r l=some o:=by
 obtain⟨t,rfl⟩:=kJ h;exact yX P.val (P.mem t)
def Al(P:eG C l)(w:o∈C){r:ae}(t:r∈o.gT):mH C r=mH l r:=by
 unfold mH;rw[P.at_ o w r t]
def node(P:eG C l)(w:o∈C){r:ae}(t:r∈o.gT):di C r=di l r:=by
 unfold di;rw[P.Al w t]
def pt(P:eG C l)(w:o∈C){r:ae}(t:r∈o.gT):ep C r=ep l r:=by
 unfold ep;rw[P.at_ o w r t]
def nodes(P:eG C l)(w:o∈C):o.gT.all (di C)=o.gT.all (di l):=L0 fun _ t=>P.node w t
def view(P:eG C l)(name:ae):eG (fN C name) (fN l name) where
 sub:=P.sub.filter _
 val:=JC P.val (zJ l name)
 at_ o ho r hr:=by
  unfold fN;rw[JO (qN P.valC),JO (qN P.val),P.at_ o ((zJ C name).subset ho) r hr]
def badRef_eq(P:eG C l)(w:o∈C):oK C o=oK l o:=by
 unfold oK Gn;congr 1;exact L0 fun p t=>by rw[P.Al w (G3 t).2]
def lines_eq(P:eG C l)(t:o∈C):fB C o=fB l o:=by
 unfold fB se;rw[P.nodes t]
def ring_eq(P:eG C l)(t:o∈C):t8 C o=t8 l o:=by
 unfold t8;rw[P.nodes t,BJ fun r w=>P.pt t w]
def proper_eq(P:eG C l)(t:o∈C):pR C o=pR l o:=by
 unfold pR;rw[P.ring_eq t]
def isProper_eq(P:eG C l)(t:o∈C):mG C o=mG l o:=by
 unfold mG;rw[P.proper_eq t]
def badRing_eq(P:eG C l)(t:o∈C):mq C o=mq l o:=by
 unfold mq;rw[P.ring_eq t]
def properAt_eq(P:eG C l)(t:o∈C):kK C o.id=kK l o.id:=by
 unfold kK;rw[yX P.valC t,yX P.val (P.mem t),bk,bk,P.proper_eq t]
theorem properAt_up(P:eG C l){k:ae}{r:List Pt}(h:kK C k=some r):kK l k=some r:=by
 unfold kK at h;cases e:ck k C with
 |none=>rw[e] at h;cases h
 |some o=>
  obtain⟨t,rfl⟩:=kJ e;rw[<-P.properAt_eq t]
  grind [kK]
def crossMs_eq(P:eG C l){q:ae×ae}(E:q.1∈iU C)(A:q.2∈iU C):Ay C q=Ay l q:=by
 have t: ∀ {k:ae},k∈iU C->Bl C k=Bl l k:=fun {k} z=>by
  obtain⟨o,w,rfl⟩:=cw.1 z;unfold Bl;rw[P.properAt_eq (jp.1 w).1]
 unfold Ay;rw[t E,t A]
def way_eq(P:eG C l){r:ae}(h:ck r C=ck r l):je C r=je l r:=by
 unfold je;rw[<-h];cases e:ck r C with
 |none=>rfl
 |some q=>
  rw[bk,bk,P.nodes (kJ e).1]
def sound_eq(P:eG C l)(w:o∈C):pZ C o=pZ l o:=by
 unfold pZ;exact L0 fun p t=>by rw[P.node w (G3 t).2,P.way_eq (P.at_ o w _ (G3 t).2)]
def conn_eq(P:eG C l)(w:o∈C):yi C o=yi l o:=by
 unfold yi;rw[BJ fun r t=>by rw[P.way_eq (P.at_ o w r t)]]
def no_empty{l:List Obj}(t:cM l=true):ck [] l=none:=yY fun h=>by
 simp only[cM,bq] at t;have w:=(CA l [] t.1).1 [] h;exact absurd w (by decide)
def ref_eq(P:eG C l)(t:o∈C)(i:Nat):ck (o.gT.getD i []) C=ck (o.gT.getD i []) l:=by
 rw[m8];cases e:o.gT[i]? with
 |none=>rw[Option.getD_none,no_empty P.valC,no_empty P.val]
 |some r=>exact P.at_ o t r (dM e)
def turn_eq(P:eG C l)(t:o∈C):zG C o=zG l o:=by
 unfold zG;rw[P.way_eq (P.ref_eq t 0),P.way_eq (P.ref_eq t 2)]
def badRoute_eq(P:eG C l)(t:o∈C):lN C o=lN l o:=by
 unfold lN;rw[P.sound_eq t,P.conn_eq t]
def badTurn_eq(P:eG C l)(t:o∈C):kG C o=kG l o:=by
 unfold kG;rw[P.sound_eq t,P.turn_eq t]
theorem refSeq_eq(P:eG C l){f g:Obj->List (Pt×Bool)}(w: ∀q∈C,f q=g q){k:Int}: ∀ {rs:List ae} {i:Nat},(∀r∈rs,ck r C=ck r l)->pS C f k i rs=pS l g k i rs
 | [],_,_=>rfl
 |r::rs,i,h=>by
  have A:=h r fE;have z:=refSeq_eq P w (k:=k) (rs:=rs) (i:=i+1) fun x t=>h x (iw _ t)
  grind [pS,kJ]
def seq_eq(P:eG C l): ∀(n:Nat) {o:Obj},o∈C->o7 C n o=o7 l n o
 |0,_,_=>rfl
 |n+1,o,ho=>by
  unfold o7;rw[P.refSeq_eq (g:=o7 l n) (fun q t=>P.seq_eq n t) (P.at_ o ho)]
def inside_up(P:eG C l)(t:o∈C)(h:lQ C o.id area=true):lQ l o.id area=true:=by
 unfold lQ at h ⊢;rw[yX P.valC t] at h;rw[yX P.val (P.mem t)];cases e:kK C area with
 |none=>rw[e] at h;cases h
 |some r=>
  rw[e] at h;rw[P.properAt_up e];simp only at h ⊢;rw[<-P.seq_eq 3 t];exact h
def inside_eq(P:eG C l)(t:o∈C)(w: ∀a,ck area l=some a->a∈C):lQ C o.id area=lQ l o.id area:=by
 have e:kK C area=kK l area:=by
  cases e:ck area l with
  |some a=>
   obtain⟨_,rfl⟩:=kJ e;exact P.properAt_eq (w a e)
  |none=>
   cases e2:ck area C with
   |none=>unfold kK;rw[e,e2];rfl
   |some a=>rw[P.up e2] at e;cases e
 unfold lQ;rw[yX P.valC t,yX P.val (P.mem t),e];cases kK l area with
 |none=>rfl
 |some r=>simp only[P.seq_eq 3 t]
def broken_up(P:eG C l)(t:o∈C)(h:j6 C x o=true):j6 l x o=true:=by
 unfold j6 at h ⊢;simp only[bq,uj] at h ⊢;exact⟨h.1,h.2.1,h.2.2.imp id (P.inside_up t)⟩
def badRule_up(P:eG C l)(w:o∈C)(h:tj C rl o=true):tj l rl o=true:=by
 unfold tj at h ⊢;simp only[bq,BG] at h ⊢;obtain⟨E,x,t,A,z⟩:=h;exact⟨E,x,t,A,P.broken_up w z⟩
def badRule_eq(P:eG C l)(w:o∈C)(z: ∀x∈rl, ∀a,ck x.area l=some a->a∈C):tj C rl o=tj l rl o:=by
 rw[GN];refine⟨P.badRule_up w,fun h=>?_⟩;unfold tj j6 at h ⊢;simp only[bq,uj,BG] at h ⊢;obtain⟨H,x,t,G,F,E,A⟩:=h;exact⟨H,x,t,G,F,E,A.imp id fun h=>by rw[P.inside_eq w (z x t)];exact h⟩
end eG
def BQ(t:List CK×(CK->List ae)):Prop:= ∀k y,y∈t.2 k->k∈t.1
structure z8 (st st':List CK×(CK->List ae)):Prop where
 keys: ∀k,k∈st.1->k∈st'.1
 own: ∀k y,y∈st.2 k->y∈st'.2 k
def z8.trans{a b c:List CK×(CK->List ae)}(h:z8 a b)(k:z8 b c):z8 a c:=⟨fun x w=>k.keys x (h.keys x w),fun x y t=>k.own x y (h.own x y t)⟩
theorem agb(id:ae)(j:CK)(t:List CK×(CK->List ae))(I:BQ t):BQ (fy id t j)/\z8 t (fy id t j)/\j∈(fy id t j).1/\id∈(fy id t j).2 j:=by
 unfold fy;cases e:(t.2 j).contains id with
 |true=>
  have h:id∈t.2 j:=K7.1 e;exact⟨I,⟨fun _ h=>h,fun _ _ h=>h⟩,I j id h,h⟩
 |false=>
  refine⟨fun k y w=>?_,⟨fun k z=>nD.2 (.inr z),fun k y w=>?_⟩,nD.2 (.inl rfl),?_⟩;by_cases z:k=j;exact nD.2 (.inl z);have w:y∈kq t.2 j (t.2 j++[id]) k:=w;rw[kN _ _ z] at w;exact nD.2 (.inr (I k y w))
  all_goals grind [kq]
def adl(id:ae): ∀(w:List CK) (t:List CK×(CK->List ae)),BQ t->BQ (w.foldl (fy id) t)/\z8 t (w.foldl (fy id) t)/\ ∀k∈w,k∈(w.foldl (fy id) t).1/\id∈(w.foldl (fy id) t).2 k
 | [],_,I=>⟨I,⟨fun _ h=>h,fun _ _ h=>h⟩,fun _ h=>by cases h⟩
 |j::w,t,I=>by
  obtain⟨M,J,H,G⟩:=agb id j t I;obtain⟨F,A,E⟩:=adl id w (fy id t j) M;refine⟨F,J.trans A,fun k z=>?_⟩;rcases dG.1 z with rfl|z
  exact⟨A.keys _ H,A.own _ _ G⟩;exact E k z
def aa9(l:List Obj): ∀(os:List Obj) (t:List CK×(CK->List ae)),BQ t->BQ (os.foldl (fq l) t)/\z8 t (os.foldl (fq l) t)/\ ∀o∈os, ∀k∈fB l o,k∈(os.foldl (fq l) t).1/\o.id∈(os.foldl (fq l) t).2 k
 | [],_,I=>⟨I,⟨fun _ h=>h,fun _ _ h=>h⟩,fun _ h=>by cases h⟩
 |o::os,t,I=>by
  obtain⟨J,H,E⟩:=adl o.id (fB l o) t I;obtain⟨G,A,F⟩:=aa9 l os (fq l t o) J;refine⟨G,H.trans A,fun q w k z=>?_⟩;rcases dG.1 w with rfl|w
  exact⟨A.keys _ (E k z).1,A.own _ _ (E k z).2⟩;exact F q w k z
def ab0(l:List Obj): ∀o∈l, ∀k∈fB l o,k∈(ff l).1/\o.id∈(ff l).2 k:=(aa9 l l ([],fun _=>[]) fun _ _ h=>by cases h).2.2
variable{k:CK}
def Qf:k∈fZ l↔ ∃o∈l,k∈fB l o:=by
 unfold fZ;rw[(DK _).mem_iff];exact⟨abZ,fun⟨o,t,w⟩=>(ab0 l o t k w).1⟩
variable{y:ae}
theorem JE:y∈(ff l).2 k↔ ∃o∈l,y=o.id/\k∈fB l o:=
 ⟨QY,fun⟨o,t,e,w⟩=>e▸(ab0 l o t k w).2⟩
def Q9{α:Type}{a b:α}(t:a≠b): ∀ {K:List α},a∈K->b∈K->(a,b)∈nL K\/(b,a)∈nL K
 | [],h,_=>by cases h
 |c::K,h1,h2=>by
  rcases dG.1 h1 with E|A
  rcases dG.1 h2 with z|w
  exact(t (E.trans z.symm)).elim;exact .inl (sR _ (cw.2 ⟨b,w,by rw[E]⟩));rcases dG.1 h2 with z|w
  exact .inr (sR _ (cw.2 ⟨a,A,by rw[z]⟩));exact(Q9 t A w).imp (GY _) (GY _)
theorem Oj(f:CK->bK){y:cP}: ∀ {K:List CK} {j:Nat},y∈iz j (K.map f)↔ ∃(i:Nat) (b:CK),K[i]? =some b/\y=(((j+i:Nat):Int),f b)
 | [],j=>by simp[iz]
 |c::K,j=>by
  rw[eT,iz,dG,Oj f (K:=K)];constructor;rintro(rfl|⟨i,b,h,rfl⟩);exact⟨0,c,rfl,rfl⟩;exact⟨i+1,b,h,by grind⟩
  grind
theorem aaD(f:CK->bK)(d:CK)(R:CK->CK->Int->Prop): ∀(K t:List CK),(∃x∈jb fM (iz t.length (K.map f)),R ((t++K).getD x.1.toNat d) ((t++K).getD x.2.1.toNat d) x.2.2)↔ ∃p∈nL K, ¬jj (f p.1) (f p.2)=0/\R p.1 p.2 (jj (f p.1) (f p.2))
 | [],t=>by simp[iz,jb,nL]
 |c::K,t=>by
  have G:=aaD f d R K (t++[c]);rw[de,cX,ct,eM,oC,List.cons_append,vR] at G;have one: ∀i b,K[i]? =some b-> ∀x,fM (((t.length:Nat):Int),f c) (((t.length+1+i:Nat):Int),f b)=some x↔ ¬jj (f c) (f b)=0/\x=(((t.length:Nat):Int),((t.length+1+i:Nat):Int),jj (f c) (f b)):=fun i b _ x=>by
   grind [fM,an]
  have O:(t++c::K).getD t.length d=c:=by simp[m8]
  have M: ∀i b,K[i]? =some b->(t++c::K).getD (t.length+1+i) d=b:=fun i b h=>by
   grind
  rw[eT,iz,jb,nL];constructor;rintro⟨x,w,E⟩;rcases hQ.1 w with w|w
  obtain⟨y,J,H⟩:=Ld.1 w;obtain⟨i,b,A,rfl⟩:=(Oj f).1 J;obtain⟨F,rfl⟩:=(one i b A x).1 H;simp only[Int.toNat_natCast,O,M i b A] at E;exact⟨(c,b),sR _ (cw.2 ⟨b,dM A,rfl⟩),F,E⟩;obtain⟨p,z,h⟩:=G.1 ⟨x,w,E⟩
  grind
  rintro⟨p,z,F,E⟩;rcases hQ.1 z with z|z
  obtain⟨b,A,rfl⟩:=cw.1 z;obtain⟨i,I⟩:=uu A;refine⟨_,sR _ (Ld.2 ⟨_,(Oj f).2 ⟨i,b,I,rfl⟩,(one i b I _).2 ⟨F,rfl⟩⟩),?_⟩
  grind [Int.toNat_natCast]
  obtain⟨x,w,h⟩:=G.2 ⟨p,z,F,E⟩
  grind
theorem axl(a b:CK)(k:Int):mQ a b k=mQ b a k:=by
 grind [Hw,Ey,mQ]
theorem Qe:k∈Ax l↔ ∃a b,a∈fZ l/\b∈fZ l/\ ¬jj (kp l a) (kp l b)=0/\mQ a b (jj (kp l a) (kp l b))=false/\ ∃u∈(ff l).2 a, ∃y∈(ff l).2 b,k=du u y:=by
 have h:=aaD (kp l) ([],[]) (fun a b z=>mQ a b z=false/\ ∃u∈(ff l).2 a, ∃y∈(ff l).2 b,k=du u y) (fZ l) [];rw[vR] at h;unfold Ax;rw[sS];refine Iff.trans ?_ (h.trans ?_);refine exists_congr fun x=>and_congr_right fun _=>?_
 grind
 ·constructor
  rintro⟨p,t,G,F⟩
  grind [FM]
  ·rintro⟨a,b,I,H,G,F,u,E,y,A,e⟩
   have w:a≠b:=fun e=>by
    grind [mQ,Hw]
   rcases Q9 w I H with t|t
   exact⟨_,t,G,F,u,E,y,A,e⟩
   ·refine⟨_,t,?_,?_,y,A,u,E,e.trans (ZR _ _)⟩
    all_goals grind [aaB,axl]
theorem R0{K:List CK}:k∈rp K↔k∈K:=by
 grind [rp,vE]
theorem P4(h:k∈fB l o):k.1∈o.gT/\k.2∈o.gT:=by
 grind [fB,adq]
namespace eG
variable{C l:List Obj}
theorem mem_viewE{l:List Obj}{name:ae}:p∈pk l rl name↔p.1=name/\p.2∈(lP (fN l name) rl).flatten:=by
 grind [pk]
end eG
def Kb{α:Type}{R:α->α->Prop}{q:α×α}: ∀ {K:List α},K.Pairwise R->q∈nL K->R q.1 q.2
 | [],_,h=>by cases h
 |a::K,.cons h1 h2,h=>by
  rcases hQ.1 h with h|h
  obtain⟨b,t,rfl⟩:=cw.1 h;exact h1 b t;exact Kb h2 h
def L3(t:cM l=true):(iU l).Pairwise fun a b=>fh a b=true:=by
 simp only[cM,bq] at t;exact(CA l [] t.1).2.sublist (List.filter_sublist.map _)
def QF:k.1∈fI k/\k.2∈fI k:=by
 unfold fI;cases e:k.1==k.2 with
 |true=>rw[<-eq_of_beq e];exact⟨fE,fE⟩
 |false=>exact⟨fE,iw _ fE⟩
def Jv(x y:ae):x∈fI (du x y)/\y∈fI (du x y):=by
 rw[CQ];split;exact QF (k:=(x,y));exact⟨(QF (k:=(y,x))).2,(QF (k:=(y,x))).1⟩
def arT(h:k∈fB l o):o.Al=2\/o.Al=3:=by
 unfold fB at h;cases e:se l o with
 |false=>rw[e] at h;cases h
 |true=>
  unfold se at e;simp only[bq,uj] at e;exact e.1.imp of_decide_eq_true of_decide_eq_true
def VA(h:q∈(lP l rl).flatten):q∈vr l\/q∈tk l\/q∈wZ l\/q∈w7 l\/q∈xu l rl:=by
 simpa only[lP,List.flatten_cons,List.flatten_nil,ky,hQ] using h
def ah4(h:q∈vr l\/q∈tk l\/q∈wZ l\/q∈w7 l\/q∈xu l rl):q∈(lP l rl).flatten:=by
 simpa only[lP,List.flatten_cons,List.flatten_nil,ky,hQ] using h
namespace eG
variable{D L:List Obj}
def key_down(P:eG D L)(t:o∈D){a:CK}(h:a∈fB L o):a∈fZ D/\o.id∈(ff D).2 a/\kp D a=kp L a:=by
 have w:=P4 h;rw[<-P.lines_eq t] at h;exact⟨Qf.2 ⟨o,t,h⟩,JE.2 ⟨o,t,rfl,h⟩,by unfold kp;rw[P.pt t w.1,P.pt t w.2]⟩
def bor_down(P:eG D L)(h:k∈th L)(hid: ∀o∈L,o.id∈fI k->o∈D)(H: ∀o∈L,o.Al=2\/o.Al=3->(∃r∈o.gT,r∈fI k)->o∈D):k∈th D:=by
 rcases C0.1 h with h|h
 obtain⟨x,y,hx,E,F,he,rfl⟩:=FL.1 h;have w: ∀ {z:ae},z∈tx L->z∈fI (du x y)->z∈tx D/\ep D z=ep L z:=fun {z} hz hm=>by
  obtain⟨a,J,t⟩:=sS.1 hz;obtain⟨o,ho,G⟩:=Qf.1 J;have I:=P4 G;have A:z∈o.gT:=by
   simp only[dG,xQ,or_false] at t;rcases t with rfl|rfl
   exact I.1;exact I.2
  have M:=H o ho (arT G) ⟨z,A,hm⟩;exact⟨sS.2 ⟨a,(P.key_down M G).1,t⟩,P.pt M A⟩
 obtain⟨Z,Y⟩:=w hx (Jv x y).1;obtain⟨T,S⟩:=w E (Jv x y).2;exact C0.2 (.inl (FL.2 ⟨x,y,Z,T,F,by rw[Y,S];exact he,rfl⟩));obtain⟨a,b,J,hb,h1,h2,u,hu,y,E,rfl⟩:=Qe.1 h;obtain⟨o1,g1,rfl,k1⟩:=JE.1 hu;obtain⟨o2,g2,rfl,k2⟩:=JE.1 E;obtain⟨a1,a2,R⟩:=P.key_down (hid o1 g1 (Jv _ _).1) k1;obtain⟨b1,b2,O⟩:=P.key_down (hid o2 g2 (Jv _ _).2) k2;exact C0.2 (.inr (Qe.2 ⟨a,b,a1,b1,by rw[R,O];exact h1,by rw[R,O];exact h2,_,a2,_,b2,rfl⟩))
def chk_down(P:eG D L)(h:q∈(lP L rl).flatten)(hid: ∀o∈L,o.id∈q.2.1->o∈D)(J:q.1=7-> ∀x∈rl, ∀o∈L,o.id=x.area->o∈D)(I:q.1=2-> ∀o∈L,o.Al=2\/o.Al=3->(∃r∈o.gT,r∈q.2.1)->o∈D):q∈(lP D rl).flatten:=by
 refine ah4 ?_;rcases VA h with h|h|h|h|h
 refine .inl ?_;obtain⟨o,z,rfl⟩:=cw.1 h;obtain⟨w,A⟩:=jp.1 z;have t:=hid o w fE;exact cw.2 ⟨o,jp.2 ⟨t,by rw[P.badRef_eq t];exact A⟩,rfl⟩;refine .inr (.inl ?_);obtain⟨k,Z,rfl⟩:=cw.1 h;exact cw.2 ⟨k,R0.2 (P.bor_down (R0.1 Z) hid (I rfl)),rfl⟩;refine .inr (.inr (.inl ?_));rcases hQ.1 h with h|h
 refine sR _ ?_;obtain⟨i,H,rfl⟩:=cw.1 h;obtain⟨o,z,rfl⟩:=cw.1 H;obtain⟨w,A⟩:=jp.1 z;have t:=hid o w fE;exact cw.2 ⟨o.id,cw.2 ⟨o,jp.2 ⟨t,by rw[P.badRing_eq t];exact A⟩,rfl⟩,rfl⟩;refine GY _ ?_;obtain⟨p,F,rfl⟩:=cw.1 h;obtain⟨w,A⟩:=jp.1 F;have R:=FM w;have T: ∀ {i:ae},i∈iU L->i∈ [p.1,p.2]->i∈iU D:=fun {i} H F=>by
  obtain⟨o,z,rfl⟩:=cw.1 H;obtain⟨g1,g2⟩:=jp.1 z;have t:=hid o g1 F;exact cw.2 ⟨o,jp.2 ⟨t,by rw[P.isProper_eq t];exact g2⟩,rfl⟩
 have O:=T R.1 fE;have M:=T R.2 (iw _ fE);have lt:=Kb (L3 P.val) w;have G:p.1≠p.2:=fun e=>by
  rw[e,PZ] at lt;cases lt
 have E:p∈nL (iU D):=by
  rcases Q9 G O M with h|h
  exact h;have S:=Kb (L3 P.valC) h;rw[Z8 lt] at S;cases S
 exact cw.2 ⟨p,jp.2 ⟨E,by rw[P.crossMs_eq O M];exact A⟩,rfl⟩;refine .inr (.inr (.inr (.inl ?_)));rcases hQ.1 h with h|h
 refine sR _ ?_;obtain⟨o,z,rfl⟩:=cw.1 h;obtain⟨w,A⟩:=jp.1 z;have t:=hid o w fE;exact cw.2 ⟨o,jp.2 ⟨t,by rw[P.badRoute_eq t];exact A⟩,rfl⟩;refine GY _ ?_;obtain⟨o,z,rfl⟩:=cw.1 h;obtain⟨w,A⟩:=jp.1 z;have t:=hid o w fE;exact cw.2 ⟨o,jp.2 ⟨t,by rw[P.badTurn_eq t];exact A⟩,rfl⟩;refine .inr (.inr (.inr (.inr ?_)));obtain⟨o,z,rfl⟩:=cw.1 h;obtain⟨w,A⟩:=jp.1 z;have t:=hid o w fE;have ha: ∀x∈rl, ∀a,ck x.area L=some a->a∈D:=fun x Y a e=>J rfl x Y a (kJ e).1 (kJ e).2;exact cw.2 ⟨o,jp.2 ⟨t,by rw[P.badRule_eq t ha];exact A⟩,rfl⟩
end eG
variable{Q:aF}[Std Q]
def sD(l:List Obj)(x:ae):List ae:=(A9 (ck x l)).gT
inductive nU (l:List Obj) (ids:List ae):ae->Prop
 |base {x:ae}:x∈ids->nU l ids x
 |step {x r:ae}:nU l ids x->r∈sD l x->nU l ids r
variable{ids:List ae}{x:ae}
def nU.sub{t:List ae}(h: ∀x∈ids,nU l t x)(z:nU l ids x):nU l t x:=by
 induction z with
 |base E=>exact h _ E
 |step _ A w=>exact .step w A
def Ei(pin pof pad:Nat):aa:=.func (.func 66) [] [.ptr pin 0,.ptr pof 0,.ptr pad 0]
structure sW (s:St) (pin pof pad mi mo:Nat) (l:List Obj) (B:List (ae×aa)) (seen:List ae):Prop where
 hin:s.get [] pin=some (.cells [.map mi])
 hof:s.get [] pof=some (.cells [.map mo])
 had:s.get [] pad=some (.cells [Ei pin pof pad])
 hB:bM aa.str s mi B
 hS: ∀k,(cD k B).getD (.bool false)= .bool (seen.contains k)
 hM:bM aa.str s mo (jk l)
 d1:pin≠mi
 d2:pof≠mi
 d3:pad≠mi
 d4:mo≠mi
variable{seen:List ae}{mi mo pad pin pof:Nat}
theorem sW.after(A:sW s pin pof pad mi mo l B seen)(id:ae):sW (s.put mi (some (.map (cY aa.str 0 (en id (.bool true) B)) (en id (.bool true) B).length))) pin pof pad mi mo l (en id (.bool true) B) (id::seen) where
 hin:=by rw[aU,bN.2 A.d1];exact A.hin
 hof:=by rw[aU,bN.2 A.d2];exact A.hof
 had:=by rw[aU,bN.2 A.d3];exact A.had
 hB:=bM.put
 hS k:=by
  rw[P8,List.contains_cons];by_cases e:k=id
  grind
  rw[iN e,bN.2 e,jV];exact A.hS k
 hM:=by
  have h:=A.hM;unfold bM at h ⊢;rw[aU,bN.2 A.d4];exact h
 d1:=A.d1
 d2:=A.d2
 d3:=A.d3
 d4:=A.d4
def tR(U seen:List ae):Nat:=(U.filter fun x=> !seen.contains x).length
variable{b:List ae}
theorem Z6(U:List ae){a:List ae}(h: ∀x∈a,x∈b):tR U b<=tR U a:=by
 induction U with
 |nil=>exact bj _
 |cons u U t=>
  grind [tR]
theorem arL(U:List ae){k:ae}(w:k∈U)(A:seen.contains k=false):tR U (k::seen)<tR U seen:=by
 induction U with
 |nil=>cases w
 |cons u U z=>
  have E:=Z6 U (a:=seen) (b:=k::seen) fun x t=>iw _ t
  grind [tR]
structure Lh (l:List Obj) (seen:List ae) (ids seen':List ae):Prop where
 sub: ∀x∈seen,x∈seen'
 self: ∀x∈ids,x∈seen'
 reach: ∀x∈seen',x∈seen\/nU l ids x
 closed: ∀x∈seen',x∈seen\/ ∀r∈sD l x,r∈seen'
def S8(Q:aF)(pin pof pad mi mo:Nat)(l:List Obj)(s:St)(seen:List ae)(id:ae):Prop:=
 ∃v w,aq Q 66 [.str id,.ptr pin 0,.ptr pof 0,.ptr pad 0] s v w/\(v= .tup []/\dr mi s w/\ ∃z t,sW w pin pof pad mi mo l z t/\Lh l seen [id] t)
def atQ(t: ∀o∈l,o.AL)(id:ae):(A9 (ck id l)).AL:=by
 cases e:ck id l with
 |none=>exact az8
 |some o=>exact t o (kJ e).1
variable{U:List ae}
theorem af8(a7:Q.spec 66=none)(go:o.AL){id:ae}(hid:sD l id=o.gT)(hU: ∀r∈o.gT,r∈U)(a4:tR U (id::seen)<n)(IH: ∀s B seen id,sW s pin pof pad mi mo l B seen->id∈U->tR U seen<n->s.gE<=s.aL->S8 Q pin pof pad mi mo l s seen id){s0:St}(E: ∀e lc s B' F,sW s pin pof pad mi mo l B' F->dr mi s0 s->Lh l seen [id] F->K (.exit 0) ⟨e,25,lc⟩ s):
 ∀(A w:List ae) (e:aw) (lc:Ag.Loc) (s1:St) (Z:List (ae×aa)) (t:List ae),o.gT=w++A->sW s1 pin pof pad mi mo l Z t->dr mi s0 s1->(∀x∈id::seen,x∈t)->(∀x∈t,x∈seen\/nU l [id] x)->(∀x∈t,x∈seen\/x=id\/ ∀r∈sD l x,r∈t)->(∀r∈w,r∈t)->
  ac e 3= .ptr pad 0->ac e 15=o.refsV->ac e 16=aI o.gT.length->ac e 17=aI w.length->W Q 66 (.loop PN) ⟨e,25,lc⟩ s1 K:=by
 intro A;have a9:=go.reflen;have a8:=gV
 induction A with
 |nil=>
  intro w e lc s1 Z t R A1 hb z M Y S h3 O H G;have a3:w.length=o.gT.length:=by rw[R];simp
  refine bm ?_;simp only[go_sem,seval,PN,H,G,a3,cq];refine E _ _ _ Z t A1 hb ⟨fun x E=>z x (iw _ E),fun x E=>by grind,M,fun x E=>?_⟩
  grind
 |cons r A ih=>
  intro w e lc s1 Z t R A1 hb z M Y S h3 O H G;have a1:w.length<o.gT.length:=by rw[R];simp
  have a6:o.gT[w.length]? =some r:=by rw[R];simp
  have I:r∈o.gT:=by rw[R];simp
  have a5:=fun lc k=>go.gT.at bT.2.2.1 a6 lc k;have a0:IntKind.i64.wrap (((w.length:Nat):Int)+1)=((w.length+1:Nat):Int):=by rw[jf (by omega) (by omega)];omega
  have T:=A1.had;simp only[Ei] at T;obtain⟨v,s2,hr,rfl,b2,B2,J,a2,P⟩:=IH s1 Z t r A1 (hU r I) (Nat.lt_of_le_of_lt (Z6 U z) a4) hb.mw;refine bm ?_;simp only[go_sem,seval,PN,h3,O,H,G,a1,a5,ax,T,aP,aQ,a7];refine co.of hr (by decide) ?_;simp only[go_sem,seval,G,a0];refine ih (w++[r]) _ _ s2 B2 J (by rw[R];simp) a2 (hb.trans b2) (fun x E=>P.sub x (z x E)) ?_ ?_ ?_ ?_ ?_ ?_ ?_;intro x E;rcases P.reach x E with h|h
  exact M x h;refine .inr (h.sub fun y hy=>?_);rw[vQ.1 hy];exact .step (.base (vQ.2 rfl)) (by rw[hid];exact I);intro x E;rcases P.closed x E with h|h
  rcases Y x h with h|h|h
  exact .inl h;exact .inr (.inl h);exact .inr (.inr fun r hr=>P.sub r (h r hr));exact .inr (.inr h);intro x E;rcases hQ.1 E with h|h
  exact P.sub x (S x h);exact P.self x h
  all_goals simp only[sN,seval,h3,O,H,sA]
theorem af9(M:No Q 66)(hg: ∀o∈l,o.AL)(hU: ∀x, ∀r∈sD l x,r∈U): ∀(n:Nat) (s:St) (B:List (ae×aa)) (seen:List ae) (id:ae),sW s pin pof pad mi mo l B seen->id∈U->tR U seen<n->s.gE<=s.aL->S8 Q pin pof pad mi mo l s seen id:=by
 intro n
 induction n with
 |zero=>intro s B seen id _ _ h;omega
 |succ n O=>
  intro s B seen id A hid a1 I;have t:=qP iA wX D1 A.hB id;rw[A.hS] at t;have J:=A.hin;have a0:=A.hof;refine aq.ofNRZ ara (bP ?_);cases hs:seen.contains id with
  |true=>
   rw[hs] at t;simp only[go_sem,seval,J,aP,aQ,t];have R:id∈seen:=K7.1 hs;exact⟨_,rfl,rfl,.refl I,B,seen,A,fun _ h=>h,fun x P=>by rw[vQ.1 P];exact R,fun _ h=>.inl h,fun _ h=>.inl h⟩
  |false=>
   rw[hs] at t;have G:=vK iA wX A.hB id (.bool true);have A1:=A.after id;have Y:dr mi s (s.put mi (some (.map (cY aa.str 0 (en id (.bool true) B)) (en id (.bool true) B).length))):=(dr.refl I).put _;generalize s.put mi (some (.map (cY aa.str 0 (en id (.bool true) B)) (en id (.bool true) B).length))=w at G A1 Y;have F:=qP iA vh BF A1.hM id;have e:(cD id (jk l)).getD (.agg [(.str []),(ag (0)),(ag (0)),(ag (0)),.Ge,.Ge])=(A9 (ck id l)).val:=by
    rw[yQ];cases ck id l<;>rfl
   rw[e] at F;have go:=atQ hg id;have z:sD l id=(A9 (ck id l)).gT:=rfl;have T:tR U (id::seen)<n:=by have:=arL U hid hs;omega
   generalize A9 (ck id l)=o at F go z;have Z:=go.all;have S:=go.gT.lenS bT;have H:=A1.hof;simp only[go_sem,seval,J,H,aP,aQ,t,G,F,Obj.val,Obj.cells,Z,S];refine af8 M.s go z (fun r hr=>hU id r (by rw[z];exact hr)) T (fun s B seen id A hi hl R=>O s B seen id A hi hl R) (s0:=w) ?_ o.gT [] _ _ w _ (id::seen) rfl A1 (.refl Y.mw) (fun _ h=>h) ?_ ?_ (fun _ h=>by cases h) ?_ ?_ ?_ ?_;intro e lc s2 B' E A2 b2 r2;simp only[go_sem,seval];exact⟨_,rfl,rfl,Y.trans b2,B',E,A2,r2⟩;intro x P;rcases dG.1 P with rfl|h
   exact .inr (.base (vQ.2 rfl));exact .inl h
   grind
   all_goals simp only[aV,nY,ai,bH]
   all_goals rfl
noncomputable def jh(l:List Obj)(ids:List ae):List Obj:=by classical exact bif cM l then l.filter (fun o=>decide (nU l ids o.id)) else []
theorem MN(l:List Obj)(ids:List ae):(jh l ids).Sublist l:=by
 grind [jh,List.filter_sublist]
theorem aaE(t:cM l=true):o∈jh l ids↔o∈l/\nU l ids o.id:=by
 grind [jh]
def av6(t:cM l=true)(h:o∈l):sD l o.id=o.gT:=by
 simp_all [sD,A9,yX]
def aie(t:cM l=true)(ids:List ae):eG (jh l ids) l where
 sub:=MN l ids
 val:=t
 at_ o ho r hr:=by
  obtain⟨w,h2⟩:=(aaE t).1 ho;have h3:nU l ids r:=.step h2 (by rw[av6 t w];exact hr);have e:jh l ids=l.filter (fun o=>by classical exact decide (nU l ids o.id)):=by
   unfold jh;rw[t];rfl
  rw[e,JO (qN t)];cases e2:ck r l with
  |none=>rfl
  |some q=>
   have:nU l ids q.id:=by rw[(kJ e2).2];exact h3
   simp[this]
variable{iv:aa}
theorem aic(S:No Q 66)(hg: ∀o∈l,o.AL)(hi:au 1 ax iv ids)(a7:ids.length<small)(hU: ∀x, ∀r∈sD l x,r∈U)(hI: ∀x∈ids,x∈U){s0:St}(z: ∀e lc s B' E,sW s pin pof pad mi mo l B' E->dr mi s0 s->Lh l [] ids E->ac e 2= .Gt 2 1 0->lc.gen 2=1->lc.get 2 1=some [ov]->ac e 4= .Gt 4 1 0->lc.gen 4=1->lc.get 4 1=some [.Ge]->ac e 6= .ptr pin 0->K (.exit 0) ⟨e,50,lc⟩ s):
 ∀(w t:List ae) (e:aw) (lc:Ag.Loc) (s:St) (B:List (ae×aa)) (seen:List ae),ids=t++w->sW s pin pof pad mi mo l B seen->dr mi s0 s->(∀x∈seen,nU l ids x)->(∀x∈seen, ∀r∈sD l x,r∈seen)->(∀x∈t,x∈seen)->
  ac e 2= .Gt 2 1 0->lc.gen 2=1->lc.get 2 1=some [ov]->ac e 4= .Gt 4 1 0->lc.gen 4=1->lc.get 4 1=some [.Ge]->ac e 6= .ptr pin 0->ac e 7= .ptr pad 0->ac e 21=iv->ac e 22=aI ids.length->ac e 23=aI t.length->W Q 21 (.loop OT) ⟨e,50,lc⟩ s K:=by
 intro w;have a6:=gV
 induction w with
 |nil=>
  intro t e lc s B seen J A R T cl Y h2 g2 l2 h4 g4 Z h6 h7 I G F;have a3:t.length=ids.length:=by rw[J];simp
  refine bm ?_;simp only[go_sem,seval,OT,G,F,a3,cq];refine z _ _ _ B seen A R ⟨(fun _ h=>by cases h),fun x z=>Y x (by rw[J] at z;simpa using z),fun x z=>.inr (T x z),fun x z=>.inr (cl x z)⟩ ?_ g2 l2 ?_ g4 Z ?_
  all_goals simp_all [sN]
 |cons r w ih=>
  intro t e lc s B seen J A R T cl Y h2 g2 l2 h4 g4 Z h6 h7 I G F;have a1:t.length<ids.length:=by rw[J];simp
  have a5:ids[t.length]? =some r:=by rw[J];simp
  have O:r∈ids:=by rw[J];simp
  have a4:=fun lc k=>hi.at bT.2.2.1 a5 lc k;have a0:IntKind.i64.wrap (((t.length:Nat):Int)+1)=((t.length+1:Nat):Int):=by rw[jf (by omega) (by omega)];omega
  have P:=A.had;simp only[Ei] at P;obtain⟨v,s2,hr,rfl,b2,B2,H,a2,M⟩:=af9 S hg hU (tR U seen+1) s B seen r A (hI r O) (jX _) R.mw;refine bm ?_;simp only[go_sem,seval,OT,h7,I,G,F,a1,a4,ax,P,aP,aQ];refine co.of hr (by decide) ?_;simp only[go_sem,seval,F,a0];refine ih (t++[r]) _ _ s2 B2 H (by rw[J];simp) a2 (R.trans b2) ?_ ?_ ?_ ?_ g2 l2 ?_ g4 Z ?_ ?_ ?_ ?_ ?_;intro x z;rcases M.reach x z with h|h
  exact T x h;exact h.sub fun y hy=>.base (by grind);intro x z;rcases M.closed x z with h|h
  exact fun r hr=>M.sub r (cl x h r hr);exact h;intro x z;rcases hQ.1 z with h|h
  exact M.sub x (Y x h);exact M.self x h
  all_goals simp only[sN,seval,h2,h4,h6,h7,I,G,sA]
theorem aid(ho:au 6 Obj.val ov l)(hg: ∀o∈l,o.AL)(hl:l.length<=900000){n10:Nat}{s0:St}(hin:s0.get [] pin=some (.cells [.map mi]))(hB:bM aa.str s0 mi B)(hS: ∀k,(cD k B).getD (.bool false)= .bool (seen.contains k))(pl:pin<lo)(ml:mi<lo)(hx: ∀e lc s bv,cI 6 lo s bv ((l.filter fun o=>seen.contains o.id).map Obj.val)->s.gE<=s.aL->ac e 4= .Gt 4 1 0->lc.gen 4=1->lc.get 4 1=some [.Ge]->ac e 10= .Gt 10 n10 0->lc.gen 10=n10->lc.get 10 n10=some [bv]->K (.exit 2) ⟨e,50,lc⟩ s):
 ∀(z w:List Obj) (e:aw) (lc:Ag.Loc) (s:St) (bv:aa),l=w++z->cI 6 lo s bv ((w.filter fun o=>seen.contains o.id).map Obj.val)->(∀k,k<lo->s.get [] k=s0.get [] k)->lo<=s.aL->s.gE<=s.aL->
  ac e 4= .Gt 4 1 0->lc.gen 4=1->lc.get 4 1=some [.Ge]->ac e 6= .ptr pin 0->ac e 10= .Gt 10 n10 0->lc.gen 10=n10->lc.get 10 n10=some [bv]->ac e 32=ov->ac e 33=aI l.length->ac e 34=aI w.length->W Q 21 (.loop IC) ⟨e,50,lc⟩ s K:=by
 intro z
 induction z with
 |nil=>
  intro w e lc s bv R T E O H h4 g4 l4 h6 J g10 G P I F;have b4:w.length=l.length:=by rw[R];simp
  have b3:w=l:=by rw[R];simp
  refine bm ?_;simp only[go_sem,seval,IC,I,F,b4,cq];rw[b3] at T;refine hx _ _ _ bv T H ?_ g4 l4 ?_ g10 G
  all_goals simp only[sN,seval,h4,J]
 |cons o z ih=>
  intro w e lc s bv R T E O H h4 g4 l4 h6 J g10 G P I F;have Z:w.length<l.length:=by rw[R];simp
  have a8:l[w.length]? =some o:=by rw[R];simp
  have go:=hg o (dM a8);have rc:=go.all;have a0:=fun lc k=>ho.at eO.2.2.1 a8 lc k;have Y:=da (n:=w.length) (by omega);have M:s.get [] pin=some (.cells [.map mi]):=(E pin pl).trans hin;have b5:bM aa.str s mi B:=(E mi ml).trans hB;have A:=qP iA wX D1 b5 o.id;rw[hS] at A;have b2:=T.ge;have b0:bv.cells=[bv]:=by rcases T with⟨rfl,_⟩|⟨_,k,rfl,_⟩<;>rfl
  cases hs:seen.contains o.id with
  |false=>
   rw[hs] at A;refine bm ?_;simp only[go_sem,seval,IC,h6,P,I,F,Z,a0,Obj.val,Obj.cells,rc,M,aP,aQ,A,Y];refine ih (w++[o]) _ _ s bv (by rw[R];simp) (by grind) E O H ?_ ?_ ?_ ?_ ?_ ?_ ?_ ?_ ?_ ?_
   all_goals simp_all [sL]
  |true=>
   rw[hs] at A;obtain⟨S,s1,a1,a2,a3,a4,a5,a6,a7⟩:=Hl (t:=22) eO.1 rfl (by decide) (s:=s) (y:=.list 6 [o.val] .GT) (x:=o.val) T (by simp only[fc,ee]) (by
    grind) O H
   have b1:=a2.ge;have a9:S.cells=[S]:=by rcases a2 with⟨rfl,_⟩|⟨_,k,rfl,_⟩<;>rfl
   simp only[Obj.val,Obj.cells] at a1;refine bm ?_;simp only[go_sem,seval,IC,h6,J,g10,G,P,I,F,Z,a0,Obj.val,Obj.cells,rc,M,aP,aQ,A,b2,b0,bf,aZ,aW,aY,evc];simp only[go_sem,seval,Obj.val,Obj.cells,J,g10,G,F,rc,b2,b0,b1,a9,a1,a3,Y,bf,aZ,aW,aY,evc];refine ih (w++[o]) _ _ s1 S (by rw[R];simp) (by grind) (fun k hk=>(a7 k hk).trans (E k hk)) (by omega) a5 ?_ ?_ ?_ ?_ ?_ ?_ ?_ ?_ ?_ ?_
   all_goals simp_all [sL]
theorem aif(I:Q.spec 31=some im)(S:No Q 65)(R:No Q 66)(b0:No Q 21)(F:au 6 Obj.val ov l)(P: ∀o∈l,o.AL)(hl:l.length<=900000)(hi:au 1 ax iv ids)(a6:ids.length<small)(hm:s.gE<=s.aL):
 ∃v s',aq Q 21 [.agg [ov],iv] s v s'/\ ∃M lo,v= .agg [M]/\cI 6 lo s' M ((jh l ids).map Obj.val):=by
 have b1:=gV;have t:=F.cs;have H:=CC F;have a3:=hi.ge;have a5:=F.lenS eO;have a2:=hi.lenS bT;have O:=wT F P (by omega);refine aq.ofNRZ apf (bP ?_);cases hv:cM l with
 |false=>
  rw[hv] at O;simp only[go_sem,seval,t,H,I,O,bf,aZ,aW,aY,evc];have e:jh l ids=[]:=by unfold jh;rw[hv];rfl
  exact⟨_,rfl,_,0,rfl,.inl ⟨rfl,by rw[e];rfl⟩⟩
 |true=>
  rw[hv] at O;simp only[go_sem,seval,t,H,I,O];refine co.ex (aa8 S F P (by omega) (qN hv) hm) (by decide) ?_;rintro v s1 ⟨rfl,M1,n1,m1,o1⟩;have box: ∀(z:St) (a b:aa),z.gE<=z.aL-> ∃y,(z.new (.cells [a])).put z.aL (some (.cells [b]))=y/\y.aL=z.aL+1/\y.gE<=y.aL/\(∀k,k<z.aL->y.get [] k=z.get [] k)/\y.get [] z.aL=some (.cells [b]):=fun z a b hz=>
   ⟨_,rfl,rfl,cU _ _ _ (bW hz),fun k hk=>by grind [aU,cr],by rw[aU,bS];rfl⟩
  have a7: ∀(z:St) (a:aa),(z.new (.cells [a])).get [] z.aL=some (.cells [a]):=fun z a=>cH;obtain⟨E,e2,n2,m2,o2,k2⟩:=box s1 .nilm (.map s.aL) m1;obtain⟨w,J⟩:=bZ (E.new (.map [] 0));have n3:w.aL=E.aL+1:=by rw[<-J];rfl
  have m3:w.gE<=w.aL:=by rw[<-J];exact bW m2
  have o3: ∀k,k<E.aL->w.get [] k=E.get [] k:=fun k hk=>by rw[<-J];exact cr hk
  have k3:bM aa.str w E.aL ([]:List (ae×aa)):=by rw[<-J];exact cH
  obtain⟨G,e4,n4,m4,o4,k4⟩:=box w .nilm (.map E.aL) m3;obtain⟨Z,e5,n5,m5,o5,k5⟩:=box G .nilf (Ei w.aL s1.aL G.aL) m4;simp only[Ei] at e5;have nn:(G.new (.cells [.nilf])).aL=G.aL+1:=rfl;have A:sW Z w.aL s1.aL G.aL E.aL s.aL l [] []:=by
   refine⟨?_,?_,k5,?_,fun _=>rfl,?_,by omega,by omega,by omega,by omega⟩;rw[o5 _ (by omega)];exact k4
   grind
   exact(o5 _ (by omega)).trans ((o4 _ (by omega)).trans k3);exact(o5 _ (by omega)).trans ((o4 _ (by omega)).trans ((o3 _ (by omega)).trans ((o2 _ (by omega)).trans M1)))
  have hU: ∀x, ∀r∈sD l x,r∈ids++l.flatMap Obj.gT:=fun x r hr=>by
   unfold sD A9 at hr;cases e:ck x l with
   |none=>rw[e] at hr;cases hr
   |some o=>grind [kJ]
  have cm:aa.nilm.cells=[.nilm]:=rfl;have cf:aa.nilf.cells=[.nilf]:=rfl;simp only[go_sem,seval,t,a3,a2,mJ,uI,B4,nC,cm,cf,cS,a7,cV,e2,J,e4,nn,e5];refine aic R P hi a6 hU (fun x hx=>sR _ hx) (ov:=ov) (s0:=Z) ?_ ids [] _ _ Z [] [] rfl A (.refl m5) (fun _ h=>by cases h) (fun _ h=>by cases h) (fun _ h=>by cases h) ?_ ?_ ?_ ?_ ?_ ?_ ?_ ?_ ?_ ?_ ?_
  ·intro e lc Y B seen A6 b6 r6 h2 g2 l2 h4 g4 l4 h6
   have a4: ∀x,seen.contains x=true↔nU l ids x:=fun x=>by
    rw[K7];constructor;intro h;rcases r6.reach x h with h|h
    cases h;exact h;intro h
    induction h with
    |base h=>exact r6.self _ h
    |step _ h ih=>
     rcases r6.closed _ ih with h'|h'
     cases h';exact h' _ h
   have hf:jh l ids=l.filter fun o=>seen.contains o.id:=by
    classical
    grind [jh]
   have n6:=b6.aL;simp only[go_sem,seval,h2,g2,l2,t,a5];refine aid F P hl A6.hin A6.hB A6.hS (lo:=Y.aL) (n10:=lc.gen 10+1) (s0:=Y) (by omega) (by omega) ?_ l [] _ _ Y .Ge rfl (.inl ⟨rfl,rfl⟩) (fun _ _=>rfl) (bj _) b6.mw ?_ ?_ ?_ ?_ ?_ ?_ ?_ ?_ ?_ ?_;intro e lc s7 M hO m7 q4 r4 t4 a1 a0 T;have a9:=hO.ge;have a8:M.cells=[M]:=by rcases hO with⟨rfl,_⟩|⟨_,k,rfl,_⟩<;>rfl
   simp only[go_sem,seval,q4,r4,t4,a1,a0,T,a9,a8]
   grind
   all_goals simp only[sG,seval,h2,g2,l2,h4,g4,l4,h6,ct]
   all_goals rfl
  all_goals simp only[sG,seval,ct]
  all_goals rfl
def TH:df:=[(31,im)]
def afk:dl TH:=.cons tT .nil
noncomputable def B8:Sp
 | [m,u]=>(jO m).bind fun l=>(dW 1 gG u).bind fun ids=>bif decide (l.length<=900000)&&bh ids.length small then some (.agg [qW (jh l ids)]) else none
 |_=>none
def aia(A:au 6 Obj.val ov l)(G: ∀o∈l,o.AL)(E:l.length<=900000)(F:au 1 ax iv ids)(t:ids.length<small):B8 [.agg [ov],iv]=some (.agg [qW (jh l ids)]):=by
 have z:=gV;have w:bh ids.length small=true:=cN t;simp only[dX,B8,qv A G (by omega),kT kF F,dQ E,w,bX]
def aib:cL ah 21 B8:=by
 intro args x t G h w J M P;unfold B8 at t;split at t;rename_i a b;simp only[ak] at t;obtain⟨l,h1,ids,h2,t⟩:=t;obtain⟨I,t⟩:=bc t;simp only[bq,dE] at I;have t:=sI t;subst t;obtain⟨v,rfl,Y,H,hs⟩:=nX h1;have Z:=ig (fun v a=>kQ) h2;obtain⟨R,O,z,E⟩:=o9 Y H;obtain⟨A,F⟩:=nz rq Z;have z:dj [.agg [v],b]=[.agg [O],cu b]:=by simp only[dj,z]
 refine iu afk (W:=[]) .nil (args:=[.agg [v],b]) (by simp only[dK,R,A,bX]) (fun ch=>?_) G h w J M P;rw[z];obtain⟨y,s',S,bv,lo,rfl,hO⟩:=aif (Q:=QW TH [] ch) rfl ⟨rfl,rfl⟩ ⟨rfl,rfl⟩ ⟨rfl,rfl⟩ E H I.1 F (fF I.2) (s:=s0) (by decide);exact⟨_,_,S,WU hO fun o T=>H o ((MN l ids).subset T)⟩;cases t
def abb: ∀ {l:List Obj},o8 l=true-> ∀o∈l,xe o=false
 | [],_,o,h=>by cases h
 |a::l,h,o,t=>by
  simp only[o8] at h;cases e1:xe a with
  |true=>rw[e1] at h;cases h
  |false=>
   rw[e1] at h;rcases dG.1 t with rfl|t
   exact e1;have h:(bif vt a.gT then bif vG a.uP then o8 l else false else false)=true:=h;cases e2:vt a.gT with
   |false=>rw[e2] at h;cases h
   |true=>
    rw[e2] at h;cases e3:vG a.uP with
    |false=>rw[e3] at h;cases h
    |true=>rw[e3] at h;exact abb h o t
def ake(h:oU l (n:Int)=true):l.length<=n/\ ∀o∈l,o.gT.length<=12/\o.uP.length<=20:=by
 unfold oU at h;cases e:aX (n:Int) ((l.length:Nat):Int) with
 |true=>rw[e] at h;cases h
 |false=>
  rw[e] at h;refine⟨?_,fun o t=>?_⟩;unfold aX at e
  have:=of_decide_eq_false e;omega
  have:=abb h o t;unfold xe at this;simp only[zN,decide_eq_false_iff_not,Nat.not_lt] at this;exact⟨this.1.1,this.1.2⟩
def acO{k:Nat}: ∀ {l:List Obj},(∀o∈l,o.gT.length<=k)->ri l<=l.length*k
 | [],_=>jY _
 |a::l,h=>by
  have z:=h a fE;have w:=acO (k:=k) (l:=l) fun o t=>h o (iw _ t);unfold ri at w ⊢;simp only[eT,List.sum_cons,cX,qo];omega
def abm(A:l.length<=40)(w: ∀o∈l,o.gT.length<=12):tZ l=true:=by
 unfold tZ;cases hv:cM l with
 |false=>rfl
 |true=>
  have z:=acO w;have t:HQ l=true:=Wx.2 ⟨hv,by omega,by omega⟩;rw[t];rfl
def awH(h:rl.all sE=true)(A: ∀x∈rl,x.OkS): ∀x∈rl,x.Ok:=fun x w=>by
 have t:=fD.1 h x w;have o:=A x w;unfold sE xy at t;simp only[bq,Bool.not_eq_true',zN] at t;have z:=t.1.2;unfold aX at z;have E:=of_decide_eq_false z;exact⟨o.vals,o.pv,o.area,o.key,o.ifK,by omega⟩
def ER:Sp
 | []=>some (.bool true)
 |_=>none
def adC:List CK->List CK
 | []=>[]
 | [k]=>[k]
 |K=>rp K
def axA: ∀K,adC K=rp K
 | []=>(vP (adE [])).symm
 | [k]=>by
   show [k]=rp [k];have t:(rp [k]).Perm [k]:=by
    unfold rp;exact(vE _ _ _).map _
   exact(List.perm_singleton.1 t).symm
 |_::_::_=>rfl
def Ms(l:List Obj):List VQ:=(adC (th l)).map fun k=>(2,fI k,true)
def ag3(l:List Obj):Ms l=tk l:=by unfold Ms tk;rw[axA]
def KS(l:List Obj)(rl:List aB)(name:ae):List aa:=[vr (fN l name),Ms (fN l name),wZ (fN l name),w7 (fN l name),xu (fN l name) rl].flatMap fun L=>L.map (eI name)
def azi(l:List Obj)(rl:List aB)(name:ae):KS l rl name=md l rl name:=by unfold KS md lP;rw[ag3]
def MG(l:List Obj)(views:List ae)(rl:List aB):List aa:=bif cM l then([]::views).flatMap (KS l rl) else []
def ahX(l:List Obj)(views:List ae)(rl:List aB):MG l views rl=tq l views rl:=by
 have:KS l rl=md l rl:=funext fun n=>azi l rl n;unfold MG tq;rw[this]
def MH:Sp
 | [m,.agg [a,b,c,d,vv,rv]]=>(jO m).bind fun l=>(dW 1 gG vv).bind fun views=>(qx rv).bind fun rl=>bif tZ l&&(decide (views.length<=200)&&dK [a,b,c,d]) then some (gw 3 (MG l views rl)) else none
 |_=>none
def ahY:MH=oM:=by
 funext l;unfold MH oM;split;simp only[ahX];rename_i h
 first|rfl|(split;rename_i m a b c d vv rv;exact absurd rfl (h m a b c d vv rv);rfl)
def TA:df:=[(18,MH),(17,RM),(31,im)]
def afe:dl TA:=.cons (ahY▸Hx) (.cons awV (.cons tT .nil))
def al0:oa TA 200 15 []=some (.bool true,0):=by kernel_rfl
def al1:cL ah 15 ER:=by
 intro z u t G h w A E F;unfold ER at t;split at t;injection t with t;subst t
 exact qb afe al0 (args':=[]) rfl rfl G h w A E F;cases t
def pN(a b:List ae):Bool:=a.any fun x=>b.contains x
def iX(l:List Obj)(rl:List aB)(p:VE):List ae:=p.2.2.1++bif an p.2.1 7 then rl.map aB.area else bif an p.2.1 2 then(l.filter fun o=>pN o.gT p.2.2.1&&(an o.Al 2||an o.Al 3)).map Obj.id else []
def rk(p q:VE):Bool:=q.1==p.1&&(an q.2.1 p.2.1&&(q.2.2.1==p.2.2.1))
noncomputable def Ky(l:List Obj)(views:List ae)(rl:List aB)(p:VE):Bool:=(gZ (jh l (iX l rl p)) views rl).any (rk p)
theorem Qd(t:cM l=true):p∈gZ l views rl↔p.1∈ []::views/\p.2∈(lP (fN l p.1) rl).flatten:=by
 grind [gZ,eG.mem_viewE]
theorem Vx(h:p∈gZ l views rl):cM l=true:=by
 grind [gZ]
theorem aw8(h:p∈gZ l views rl):Ky l views rl p=true:=by
 have E:=Vx h;obtain⟨J,I⟩:=(Qd E).1 h;have P:=aie E (iX l rl p);have sub: ∀ {o:Obj},o∈fN l p.1->o.id∈iX l rl p->o∈fN (jh l (iX l rl p)) p.1:=fun {o} w z=>by
  obtain⟨O,M⟩:=jp.1 w;exact jp.2 ⟨(aaE E).2 ⟨O,.base z⟩,M⟩
 have A:p.2∈(lP (fN (jh l (iX l rl p)) p.1) rl).flatten:=by
  refine(P.view p.1).chk_down I (fun o w z=>sub w (sR _ z)) (fun F x T o w e=>sub w ?_) fun F o w t ⟨r,G,z⟩=>sub w ?_
  grind [iX,an]
  unfold iX;have R:an p.2.1 7=false:=by rw[F];rfl
  have S:an p.2.1 2=true:=by rw[F];rfl
  rw[R,cF,S,cT];refine GY _ (D8 (jp.2 ⟨(jp.1 w).1,?_⟩));have H:pN o.gT p.2.2.1=true:=BG.2 ⟨r,G,K7.2 z⟩;rw[H,eC];rcases t with t|t
  rw[t];rfl;rw[t];rfl
 refine BG.2 ⟨p,(Qd P.valC).2 ⟨J,A⟩,?_⟩
 grind [EW,rk]
structure qt (k:Int) (B:List VQ):Prop where
 ord:B.Pairwise fun a b=>a.1<=b.1
 low: ∀q∈B,k<=q.1
variable{k:Int}
theorem qt.app{k2:Int}{A B:List VQ}(h:qt k2 B)(E: ∀q∈A,q.1=k)(F:k<=k2):qt k (A++B) where
 ord:=List.pairwise_append.2 ⟨List.pairwise_of_forall_mem_list fun a z b w=>by grind,h.ord,fun a z b w=>by have:=h.low b w;rw[E a z];omega⟩
 low q t:=by
  rcases hQ.1 t with t|t
  rw[E q t];exact Int.le_refl _
  have:=h.low q t;omega
def qt.nil(k:Int):qt k []:=⟨.nil,fun _ h=>by cases h⟩
theorem A4{f:α->VQ}{l:List α}(h: ∀a,(f a).1=k): ∀q∈l.map f,q.1=k:=fun q t=>by
 grind
def ah6(l:List Obj)(rl:List aB):qt 1 (lP l rl).flatten:=by
 simp only[lP,List.flatten_cons,List.flatten_nil,vr,tk,wZ,w7,xu,oC];refine qt.app (k2:=2) ?_ (A4 fun _=>rfl) (by decide);refine qt.app (k2:=3) ?_ (A4 fun _=>rfl) (by decide);refine qt.app (k2:=4) ?_ (A4 fun _=>rfl) (by decide);refine qt.app (k2:=5) ?_ (A4 fun _=>rfl) (by decide);refine qt.app (k2:=6) ?_ (A4 fun _=>rfl) (by decide);refine qt.app (k2:=7) ?_ (A4 fun _=>rfl) (by decide);exact qt.app (k2:=7) (.nil 7) (A4 fun _=>rfl) (by decide)
def azg(l:List Obj)(rl:List aB)(name:ae):pk l rl name=((lP (fN l name) rl).flatten).map fun q=>(name,q):=by
 unfold pk;rw[List.map_flatten,List.flatMap_def]
def ah0(l:List Obj)(rl:List aB):(gZ l [] rl).Pairwise fun a b=>a.2.1<=b.2.1:=by
 unfold gZ;cases cM l with
 |false=>exact .nil
 |true=>
  show(pk l rl []++[]).Pairwise _;rw[ky,azg,List.pairwise_map];exact(ah6 _ _).ord
theorem arx(h:x≠y):fh (du x y).1 (du x y).2=true:=by
 rw[CQ];have t:=ye x y
 grind [arS,ye,Au]
def z9(l:List Obj)(ids:List ae):Prop:= ∃i,i∈l.map Obj.id/\(ids=[i]\/ ∃j,ids=[i,j]/\fh i j=true)
theorem arU{k:CK}(h:k∈fB l o){r:ae}(w:r∈o.gT):r∈l.map Obj.id:=by
 unfold fB at h;cases e:se l o with
 |false=>rw[e] at h;cases h
 |true=>
  unfold se at e;simp only[bq] at e;have t:=fD.1 e.2 r w;unfold di mH at t;cases e3:ck r l with
  |none=>rw[e3] at t;cases t
  |some q=>
   obtain⟨A,z⟩:=kJ e3;exact z▸D8 A
theorem ZV(w:x∈l.map Obj.id)(A:y∈l.map Obj.id):z9 l (fI (du x y)):=by
 by_cases h:x=y;subst h;have:du x x=(x,x):=by rw[CQ];split<;>rfl
 refine⟨x,w,.inl ?_⟩
 grind [fI]
 ·have t:=arx h
  have z:(du x y).1≠(du x y).2:=fun e=>by rw[e,PZ] at t;cases t
  refine⟨(du x y).1,?_,.inr ⟨(du x y).2,?_,t⟩⟩
  all_goals grind [CQ,fI]
theorem ah2(J:cM l=true)(h:q∈(lP l rl).flatten):(1<=q.1/\q.1<=7)/\z9 l q.2.1:=by
 have one: ∀ {o:Obj},o∈l->z9 l [o.id]:=fun {o} t=>⟨o.id,D8 t,.inl rfl⟩;rcases VA h with h|h|h|h|h
 obtain⟨o,t,rfl⟩:=cw.1 h
 grind
 obtain⟨k,A,rfl⟩:=cw.1 h;refine⟨⟨by simp,by simp⟩,?_⟩;rcases C0.1 (R0.1 A) with h|h
 obtain⟨x,y,I,H,_,_,rfl⟩:=FL.1 h;have w: ∀ {z:ae},z∈tx l->z∈l.map Obj.id:=fun {z} G=>by
  obtain⟨a,P,F⟩:=sS.1 G;obtain⟨o,_,A⟩:=Qf.1 P;have R:=P4 A
  grind [arU]
 exact ZV (w I) (w H)
 grind [Qe,JE,ZV]
 rcases hQ.1 h with h|h
 obtain⟨i,O,rfl⟩:=cw.1 h;obtain⟨o,t,rfl⟩:=cw.1 O
 grind
 obtain⟨p,M,rfl⟩:=cw.1 h;obtain⟨E,_⟩:=jp.1 M;obtain⟨o,t,e⟩:=cw.1 (FM E).1;exact⟨⟨by simp,by simp⟩,p.1,e▸D8 (jp.1 t).1,.inr ⟨p.2,rfl,Kb (L3 J) E⟩⟩
 ·rcases hQ.1 h with h|h
  all_goals grind
 obtain⟨o,t,rfl⟩:=cw.1 h
 grind
def Vy(h:p∈gZ l views rl):(1<=p.2.1/\p.2.1<=7)/\z9 l p.2.2.1:=by
 have t:=Vx h;obtain⟨A,i,w,z⟩:=ah2 (JC t (zJ l p.1)) ((Qd t).1 h).2;exact⟨A,i,((zJ l p.1).map Obj.id).subset w,z⟩
def rm(name:ae):List ae->Nat->Nat
 | [],n=>n
 |v::V,n=>bif v==name then n else rm name V (n+1)
theorem adt(name:ae): ∀(V:List ae) (n:Nat),rm name V n<=n+V.length
 | [],n=>bj _
 |v::V,n=>by
  unfold rm;cases v==name with
  |true=>exact Nat.le_add_right _ _
  |false=>
   have:=adt name V (n+1)
   grind
def yE(V:List ae)(oU:Bool):Nat->List VE->Prop
 |_,[]=>True
 |a,p::r=>(oU=true->rm p.1 (V.drop a) a<V.length)/\yE V oU (min (rm p.1 (V.drop a) a) (V.length-1)) r
theorem W8(V:List ae): ∀(r:List VE) (a:Nat),yE V false a r
 | [],_=>trivial
 |_::r,_=>⟨fun h=>(by cases h),W8 V r _⟩
theorem NZ(V:List ae){t:List VE}(h:yE ([]::V) true 0 t): ∀(r:List VE),(∀p∈r,p.1=[])->yE ([]::V) true 0 (r++t)
 | [],_=>h
 |p::r,hp=>by
  have e:rm p.1 (([]::V).drop 0) 0=0:=by rw[hp p fE];rfl
  refine⟨fun _=>by rw[e];exact Nat.succ_pos _,?_⟩;rw[e,Nat.zero_min];exact NZ V h r fun q w=>hp q (iw _ w)
theorem W9(v:ae): ∀(r:List VE) (a:Nat),a<=1->(∀p∈r,p.1=v)->yE [[],v] true a r
 | [],_,_,_=>trivial
 |p::r,a,ha,hp=>by
  have e:rm p.1 ([[],v].drop a) a<=1:=by
   rw[hp p fE];rcases Nat.le_one_iff_eq_zero_or_eq_one.1 ha with rfl|rfl
   grind [rm]
   grind [rm]
  refine⟨fun _=>by show _<2;omega,W9 v r _ ?_ fun q t=>hp q (iw _ t)⟩;show min _ 1<=1;omega
theorem ahZ(l:List Obj)(views:List ae)(rl:List aB):yE ([]::views) (decide (views.length<2)) 0 (gZ l views rl):=by
 match views with
 | []=>
   grind [gZ,yE,pk,NZ]
 | [v]=>
   unfold gZ;cases cM l with
   |false=>exact trivial
   |true=>
    simp_all [pk,NZ,W9]
 |u::v::views=>
  grind [dN,W8]
variable{c:Nat}
def ajl(t:No Q 77){id:ae}(z:s.get [] c=some (.cells [.str id]))(go:o.AL):aq Q 77 [o.val,.ptr c 0] s (.bool (o.id==id)) s:=by
 have w:=go.all;refine aq.ofNZ art (bP ?_);simp only[go_sem,seval,z,aP,aQ,Obj.val,Obj.cells,w]
variable{cap:List aa}
theorem anK(ho:au 6 Obj.val ov l)(P:l.length<=1000000)(M:Q.spec g=none){p:Obj->Bool}(hg: ∀x∈l,aq Q g (x.val::cap) s (.bool (p x)) s){r:Int}(Z: ∀e,r= -1->K (.exit 0) ⟨e,19,lc⟩ s)(hr: ∀e,ac e 4=ag r->K .ret ⟨e,19,lc⟩ s):
 ∀(w t:List Obj) (e:aw),l=t++w->r=fp p w t.length->ac e 0=ov->ac e 1= .func (.func g) [] cap->ac e 7=aI l.length->ac e 8=aI t.length->W Q 76 (.loop PS) ⟨e,19,lc⟩ s K:=by
 intro w
 induction w with
 |nil=>
  intro t e E S T R O F;have I:t.length=l.length:=by rw[E];simp
  refine bm ?_;simp only[go_sem,seval,PS,O,F,I,cq];exact Z _ S
 |cons x w Y=>
  intro t e E S T R O F;have H:t.length<l.length:=by rw[E];simp
  have A:l[t.length]? =some x:=by rw[E];simp
  have J:=fun lc k=>ho.at eO.2.2.1 A lc k;have G:=da (n:=t.length) (by omega);have z:=hg x (dM A);simp only[Obj.val,Obj.cells] at z;refine bm ?_;simp only[go_sem,seval,PS,T,R,O,F,H,J,Obj.val,Obj.cells,M];refine co.of z (by decide) ?_;cases hd:p x with
  |true=>
   simp only[go_sem,seval]
   simp_all [sN,fp]
  |false=>
   simp only[go_sem,seval,F,G];refine Y (t++[x]) _ (by rw[E];simp) (by grind [fp]) ?_ ?_ ?_ ?_
   all_goals simp_all [sN]
def akq(J:No Q 32)(I:No Q 76)(t:No Q 77)(E:au 6 Obj.val ov l)(R: ∀o∈l,o.AL)(w:l.length<=1000000)(id:ae):
 ∃v M,aq Q 32 [.agg [ov],.str id] s v M/\v=bF (fp (fun o:Obj=>o.id==id) l 0):=by
 have A:=E.cs;have F:=E.lenS eO;obtain⟨z,G⟩:=bZ (s.new (.cells [.str id]));have H:z.get [] s.aL=some (.cells [.str id]):=by rw[<-G];exact cH
 have h:aq Q 76 [ov,.func (.func 77) [] [.ptr s.aL 0]] z (bF (fp (fun o:Obj=>o.id==id) l 0)) z:=by
  refine aq.ofNZ ars (bP ?_);simp only[go_sem,seval,F,A];refine anK E w t.s (p:=fun o=>o.id==id) (fun x O=>ajl t H (R x O)) (r:=fp (fun o:Obj=>o.id==id) l 0) ?_ ?_ l [] _ rfl rfl (by simp only[sG,seval, *]) (by simp only[sG,seval, *]) (by simp only[sG,seval, *]) (by simp only[sN,seval];rfl);intro e P;simp only[go_sem,seval,P];rfl;intro e S;simp only[go_sem,seval,S];rfl
 refine aq.ofNRZ aqt (bP ?_);simp only[go_sem,seval,A,nC,G];refine co.of h (by decide) ?_;simp only[go_sem,seval,bF];exact⟨_,rfl,rfl⟩
variable{ys:aa}
def ah7(t:Q.spec 130=some nj)(A:No Q 257)(E:au 1 ax ys b)(z:b.length<=1000000)(F:s.get [] c=some (.cells [ys]))(x:ae):aq Q 257 [.str x,.ptr c 0] s (.bool (b.contains x)) s:=by
 have q:=HD E z x;have w:=E.ge;refine aq.ofNZ apZ (bP ?_);simp only[go_sem,seval,F,aP,aQ,t,q,w]
def asK(E:Q.spec 130=some nj)(O:No Q 155)(t:No Q 257)(w:No Q 261)(A:No Q 167){xs:aa}{a:List ae}(R:au 1 ax xs a)(J:a.length<=1000000)(I:au 1 ax ys b)(H:b.length<=1000000):
 ∃v T,aq Q 155 [xs,ys] s v T/\v= .bool (pN a b):=by
 have M:=R.ge;have G:=I.ge;have F:ys.cells=[ys]:=by rcases I with⟨rfl,_⟩|⟨r,rfl⟩<;>rfl
 obtain⟨z,P⟩:=bZ (s.new (.cells [ys]));have S:z.get [] s.aL=some (.cells [ys]):=by rw[<-P];exact cH
 have h:=H2 w A R J (cap:=[.ptr s.aL 0]) t.s (s:=z) (p:=fun x=>b.contains x) fun x _=>ah7 E t I H S x;refine aq.ofNRZ aoT (bP ?_);simp only[go_sem,seval,M,G,F,nC,P];refine co.of h (by decide) ?_;simp only[go_sem,seval];exact⟨_,rfl,rfl⟩
def an7(R:Q.spec 18=some oM)(G:Q.spec 31=some im)(a0:No Q 23)(P:au 6 Obj.val ov l)(Z: ∀o∈l,o.AL)(A:l.length<small)(O:tZ l=true)(hV:au 1 ax vv views)(I:views.length<=200)(E:au 8 aB.val rv rl)(ok: ∀x∈rl,x.Ok)(M:rl.length<=1000000)(J:dK [w0,w1,w2,w3]=true):
 ∃v s',aq Q 23 [.agg [ov],.agg [w0,w1,w2,w3,vv,rv]] s v s'/\v= .bool (cM l&&an (((gZ l views rl).length:Nat):Int) 0):=by
 have F:=P.cs;have w:=hV.cs;have z:=E.cs;have t:=wT P Z A;have H:oM [.agg [ov],.agg [w0,w1,w2,w3,vv,rv]]=some (gw 3 ((gZ l views rl).map dq)):=by
  rw[<-MF];exact MI (qv P Z A) (kT kF hV) (Am E ok M) O I J
 have Y:=w9 3 dq (gZ l views rl);have T:=Y.ge;have S:=Y.lenS iq;refine aq.ofNRZ apY (bP ?_);cases hv:cM l with
 |false=>
  rw[hv] at t;simp only[go_sem,seval,F,w,z,G,t,bf,aZ,aW,aY,evc];exact⟨_,rfl,rfl⟩
 |true=>
  rw[hv] at t;simp only[go_sem,seval,F,w,z,G,t,R,H,T,S,bf,aZ,aW,aY,evc];exact⟨_,rfl,rfl⟩
def uV:Sp
 | [m,.str id]=>(jO m).bind fun l=>bif decide (l.length<=1000000) then some (bF (fp (fun o:Obj=>o.id==id) l 0)) else none
 |_=>none
def ako(w:au 6 Obj.val ov l)(A: ∀o∈l,o.AL)(z:l.length<=1000000)(id:ae):uV [.agg [ov],.str id]=some (bF (fp (fun o:Obj=>o.id==id) l 0)):=by
 have t:=gV;simp only[dX,uV,qv w A (by omega),dQ z]
def akp:cL ah 32 uV:=by
 intro args x t G h w I J O;unfold uV at t;split at t;rename_i m id;simp only[ak] at t;obtain⟨l,E,t⟩:=t;obtain⟨H,t⟩:=bc t;simp only[dE] at H;have t:=sI t;subst t;obtain⟨v,rfl,E,F,Z⟩:=nX E;obtain⟨P,M,z,A⟩:=o9 E F;have z:dj [.agg [v],.str id]=[.agg [M],.str id]:=by simp only[dj,z];rfl
 refine iu (T:=[]) (W:=[]) .nil .nil (args:=[.agg [v],.str id]) (by show(dy (.agg [v])&&(dy (.str id)&&true))=true;rw[P];rfl) (fun S=>?_) G h w I J O;rw[z];obtain⟨y,Y,R,rfl⟩:=akq (Q:=QW [] [] S) ⟨rfl,rfl⟩ ⟨rfl,rfl⟩ ⟨rfl,rfl⟩ A F H id (s:=s0);exact⟨_,_,R,⟨1,rfl⟩⟩;cases t
def TT:df:=[(130,nj)]
def afv:dl TT:=.cons MY .nil
def A5:Sp
 | [u,v]=>(dW 1 gG u).bind fun a=>(dW 1 gG v).bind fun b=>bif decide (a.length<=1000000)&&decide (b.length<=1000000) then some (.bool (pN a b)) else none
 |_=>none
def asM{a:List ae}(A:au 1 ax u a)(z:au 1 ax v b)(w:a.length<=1000000)(t:b.length<=1000000):A5 [u,v]=some (.bool (pN a b)):=by
 simp only[dX,A5,kT kF A,kT kF z,dQ w,dQ t,bX]
def asN:cL ah 155 A5:=by
 intro F x t G h w H I O;unfold A5 at t;split at t;simp only[ak] at t;obtain⟨a,A,b,z,t⟩:=t;obtain⟨E,t⟩:=bc t;simp only[bq,dE] at E;have t:=sI t;subst t;have A:=ig (fun _ _ h=>kQ h) A;have z:=ig (fun _ _ h=>kQ h) z;obtain⟨M,T⟩:=nz rq A;obtain⟨J,S⟩:=nz rq z;refine iu afv (W:=[]) .nil (by simp only[dK,M,J,bX]) (fun R=>?_) G h w H I O;obtain⟨y,Y,P,rfl⟩:=asK (Q:=QW TT [] R) rfl ⟨rfl,rfl⟩ ⟨rfl,rfl⟩ ⟨rfl,rfl⟩ ⟨rfl,rfl⟩ T E.1 S E.2 (s:=s0);exact⟨_,_,P,⟨1,rfl⟩⟩;cases t
def TR:df:=[(18,oM),(31,im)]
def aft:dl TR:=.cons Hx (.cons tT .nil)
def CD:Sp
 | [m,.agg [a,b,c,d,vv,rv]]=>(jO m).bind fun l=>(dW 1 gG vv).bind fun views=>(qx rv).bind fun rl=>bif tZ l&&(decide (views.length<=200)&&mC a b c d) then some (.bool (cM l&&an (((gZ l views rl).length:Nat):Int) 0)) else none
 |_=>none
variable{b:aa}
theorem an8{m c:aa}(z:jO m=some l)(t:dW 1 gG vv=some views)(w:qx rv=some rl)(F:tZ l=true)(E:views.length<=200)(A:mC a b c d=true):CD [m,.agg [a,b,c,d,vv,rv]]=some (.bool (cM l&&an (((gZ l views rl).length:Nat):Int) 0)):=by
 grind [CD]
def SM{c:aa}(I:au 6 Obj.val v l)(J: ∀o∈l,o.AL)(P:au 1 ax vv views)(w:au 8 aB.val rv rl)(E: ∀x∈rl,x.Ok)(O:mC a b c d=true):
 dy (.agg [v])=true/\dy (.agg [a,b,c,d,vv,rv])=true/\ ∃t,cu (.agg [v])= .agg [t]/\au 6 Obj.val t l/\cu (.agg [a,b,c,d,vv,rv])= .agg [cu a,cu b,cu c,cu d,cu vv,cu rv]/\au 1 ax (cu vv) views/\au 8 aB.val (cu rv) rl/\mC (cu a) (cu b) (cu c) (cu d)=true:=by
 obtain⟨S,t,R,H⟩:=o9 I J;obtain⟨G,A⟩:=Kr w E;obtain⟨F,z⟩:=nz rq P;have M:=Cr O
 simp_all [dK,WD,dy,cu,dj]
def an9:cL ah 23 CD:=by
 intro args u t G h w Z wr hx;unfold CD at t;split at t;rename_i m a b c d vv rv;simp only[ak] at t;obtain⟨l,J,views,z,rl,A,t⟩:=t;obtain⟨Y,t⟩:=bc t;have t:=sI t;subst t;simp only[bq,dE] at Y;obtain⟨P,O,M⟩:=Y;obtain⟨v,rfl,J,T,hs⟩:=nX J;obtain⟨A,S,H⟩:=BT A;have z:=ig (fun _ _ h=>kQ h) z;obtain⟨t1,t2,v',e1,I,e2,E,F,R⟩:=SM J T z A S M;refine iu aft (W:=[]) .nil (args:=[.agg [v],.agg [a,b,c,d,vv,rv]]) (by simp only[dK,t1,t2,bX]) (fun ch=>?_) G h w Z wr hx;have hw:dj [.agg [v],.agg [a,b,c,d,vv,rv]]=[cu (.agg [v]),cu (.agg [a,b,c,d,vv,rv])]:=rfl;rw[hw,e1,e2];obtain⟨y,s',hr,rfl⟩:=an7 (Q:=QW TR [] ch) rfl rfl ⟨rfl,rfl⟩ I T hs P E O F S H (Cr R) (s:=s0);exact⟨_,_,hr,⟨1,rfl⟩⟩;cases t
def ajo(xs:List aa)(r:lJ):dz ah .eql 25 (.list 1 xs r) .Ge=some (.bool false):=by kernel_rfl
def ah9(A:No Q 154){r:lJ}(w:ids≠ [])(F:ids.length<=1000000)(G:(aa.list 1 (ids.map ax) r).ge=true)(E:s.gE<=s.aL):
 ∃v t,aq Q 154 [.list 1 (ids.map ax) r] s v t/\(cI 1 s.aL t v (ids.map ax)/\s.aL<=t.aL/\t.gE<=t.aL):=by
 have I:eU ah [] 25 (.list 1 [] .GT) (.list 1 (ids.map ax) r) false s=some (.list 1 (ids.map ax) (.own s.aL),s.new .tok):=by
  obtain⟨x,ids,rfl⟩:=List.exists_cons_of_ne_nil w;have z:iR ([]++(x::ids).map ax).length 16=true:=Kn (by simp only[vR,bU,cX] at F ⊢;omega) (by decide);rw[eT] at z ⊢;simp only[fc,eU,bT,bk,ee,cF,ju,ki,z,vR];simp only[vR] at z;rw[z];rfl
 have H:=ajo (ids.map ax) r;refine aq.ofNRZ aoS (bP ?_);simp only[go_sem,seval,G,H,I,bf,aZ,aW,aY,evc];refine⟨_,rfl,.inr ⟨by simpa using w,s.aL,rfl,by rw[eN,bS];rfl,bj _,jX _⟩,bW E⟩
def aiV(Z:au 8 aB.val rv rl)(ok: ∀x∈rl,x.Ok)(b1:rl.length<=1000000)(b2:ids.length<=1000000)(hx: ∀e lc s E,cI 1 lo s E ((ids++rl.map aB.area).map ax)->ac e 7=E->K (.exit 1) ⟨e,65,lc⟩ s):
 ∀(z w:List aB) (e:aw) (lc:Ag.Loc) (s:St) (E:aa),rl=w++z->cI 1 lo s E ((ids++w.map aB.area).map ax)->lo<=s.aL->s.gE<=s.aL->
  ac e 7=E->ac e 21=rv->ac e 22=aI rl.length->ac e 23=aI w.length->W Q 68 (.loop PO) ⟨e,65,lc⟩ s K:=by
 intro z
 induction z with
 |nil=>
  intro w e lc s E H O J hm h7 G A F;have a9:w.length=rl.length:=by rw[H];simp
  have a0:w=rl:=by rw[H];simp
  subst a0;refine bm ?_;simp only[go_sem,seval,PO,A,F,a9,cq];exact hx _ _ _ E O (by simp only[sN,seval,h7])
 |cons x z ih=>
  intro w e lc s E H O J hm h7 G A F;have a8:w.length<rl.length:=by rw[H];simp
  have M:rl[w.length]? =some x:=by rw[H];simp
  have xk:=ok x (dM M);have R:=xk.vals.ge;have P:=xk.vals.scal;have b0:=fun lc k=>Z.at ow.2.2.1 M lc k;have Y:=da (n:=w.length) (by omega);have S:=O.ge;obtain⟨T,s1,a1,a2,a3,a4,a5,a6,a7⟩:=Hl (t:=25) bT.1 rfl (by decide) (s:=s) (y:=.list 1 [.str x.area] .GT) (x:=.str x.area) O (by simp only[fc,ee]) (by rw[bU,de,bU];omega) J hm;have I:=a2.ge;refine bm ?_;simp only[go_sem,seval,PO,h7,G,A,F,a8,b0,aB.val,aB.cells,R,P,S,I,a1,Y,bf,aZ,aW,aY,evc];refine ih (w++[x]) _ _ s1 T (by rw[H];simp) (by rw[show ids++(w++[x]).map aB.area=ids++w.map aB.area++[x.area] by simp,eK];exact a2) (by omega) a5 ?_ ?_ ?_ ?_
  all_goals simp only[sN,seval,G,A,sA]
def aiU(Y:Q.spec 155=some A5)(ho:au 6 Obj.val ov l)(hg: ∀o∈l,o.AL)(hl:l.length<=1000000)(hr: ∀o∈l,o.gT.length<=1000000)(b2:ids.length<=1000000){nm:ae}{Z:lJ}(pc:(aa.list 1 (ids.map ax) Z).ge=true)(hx: ∀e lc s E,cI 1 lo s E ((ids++(l.filter fun o=>pN o.gT ids&&(an o.Al 2||an o.Al 3)).map Obj.id).map ax)->ac e 7=E->K (.exit 3) ⟨e,65,lc⟩ s):
 ∀(A w:List Obj) (e:aw) (lc:Ag.Loc) (s:St) (E:aa),l=w++A->cI 1 lo s E ((ids++(w.filter fun o=>pN o.gT ids&&(an o.Al 2||an o.Al 3)).map Obj.id).map ax)->lo<=s.aL->s.gE<=s.aL->
  ac e 7=E->ac e 36=ov->ac e 37=aI l.length->ac e 38=aI w.length->ac e 5= .Gt 5 1 0->lc.gen 5=1->lc.get 5 1=some [.str nm,ag k,.list 1 (ids.map ax) Z]->W Q 68 (.loop PP) ⟨e,65,lc⟩ s K:=by
 intro A
 induction A with
 |nil=>
  intro w e lc s E O S J hm T H F M h5 g5 l5;have b1:w.length=l.length:=by rw[O];simp
  have a9:w=l:=by rw[O];simp
  subst a9;refine bm ?_;simp only[go_sem,seval,PP,F,M,b1,cq];exact hx _ _ _ E S (by simp only[sN,seval,T])
 |cons o A ih=>
  intro w e lc s E O S J hm T H F M h5 g5 l5;have b0:w.length<l.length:=by rw[O];simp
  have R:l[w.length]? =some o:=by rw[O];simp
  have I:=dM R;have go:=hg o I;have rc:=go.all;have b3:=fun lc k=>ho.at eO.2.2.1 R lc k;have a8:=da (n:=w.length) (by omega);have a0:=S.ge;have qm:=asM go.gT (.inr ⟨Z,rfl⟩:au 1 ax (.list 1 (ids.map ax) Z) ids) (hr o I) b2;have done:(pN o.gT ids&&(an o.Al 2||an o.Al 3))=false->cI 1 lo s E ((ids++((w++[o]).filter fun o=>pN o.gT ids&&(an o.Al 2||an o.Al 3)).map Obj.id).map ax):=fun hp=>by
   rw[BH,List.filter_cons_of_neg (by simp[hp]),List.filter_nil,ky];exact S
  have app: ∃z G,eU ah [] 25 E (.list 1 [.str o.id] .GT) false s=some (z,G)/\((pN o.gT ids&&(an o.Al 2||an o.Al 3))=true->cI 1 lo G z ((ids++((w++[o]).filter fun o=>pN o.gT ids&&(an o.Al 2||an o.Al 3)).map Obj.id).map ax))/\z.ge=true/\lo<=G.aL/\G.gE<=G.aL:=by
   obtain⟨z,G,a1,a2,a3,a4,a5,a6,a7⟩:=Hl (t:=25) bT.1 rfl (by decide) (s:=s) (y:=.list 1 [.str o.id] .GT) (x:=.str o.id) S (by simp only[fc,ee]) (by
    have:=kA (fun o:Obj=>pN o.gT ids&&(an o.Al 2||an o.Al 3)) w;rw[bU,de,bU];omega) J hm
   refine⟨z,G,a1,fun hp=>?_,a2.ge,by omega,a5⟩;rw[BH,List.filter_cons_of_pos (by simpa using hp),List.filter_nil,eK (f:=Obj.id),<-oC,eK];exact a2
  obtain⟨z,G,a1,a2,P,a4,a5⟩:=app;refine bm ?_;cases hmt:pN o.gT ids<;>cases hk2:an o.Al 2<;>cases hk3:an o.Al 3<;>rw[hmt] at qm<;>simp only[go_sem,seval,PP,T,H,F,M,h5,g5,l5,b0,b3,Obj.val,Obj.cells,rc,pc,Y,qm,hk2,hk3,a0,P,a1,a8,bf,aZ,aW,aY,evc]<;>first
   |(refine ih (w++[o]) _ _ G z (by rw[O];simp) (a2 (by rw[hmt,hk2,hk3];rfl)) a4 a5 ?_ ?_ ?_ ?_ ?_ ?_ ?_<;>simp only[aV,fQ,f7,ai,T,H,F,h5,g5,l5,sA])
   |(refine ih (w++[o]) _ _ s E (by rw[O];simp) (done (by rw[hmt,hk2,hk3];rfl)) J hm ?_ ?_ ?_ ?_ ?_ ?_ ?_<;>simp only[aV,fQ,f7,ai,T,H,F,h5,g5,l5,sA])
def aiR(I:Q.spec 155=some A5)(F:No Q 154)(a0:No Q 68)(T:au 6 Obj.val ov l)(hg: ∀o∈l,o.AL)(hl:l.length<=1000000)(hr: ∀o∈l,o.gT.length<=1000000)(hV:au 1 ax vv views)(A:au 8 aB.val rv rl)(ok: ∀x∈rl,x.Ok)(S:rl.length<=1000000)(Y:p.2.2.1≠ [])(E:p.2.2.1.length<=1000000)(hm:s.gE<=s.aL):
 ∃v s',aq Q 68 [.agg [ov],.agg [w0,w1,w2,w3,vv,rv],dq p] s v s'/\ ∃lo,cI 1 lo s' v ((iX l rl p).map ax):=by
 have H:=T.cs;have M:=hV.cs;have G:=A.cs;have Z:=T.lenS eO;have P:=A.lenS ow;obtain⟨nm,k,ids,b⟩:=p;have R:(aa.list 1 (ids.map ax) (ip b)).ge=true:=by cases b<;>rfl
 have ps:(aa.list 1 (ids.map ax) (ip b)).scal=true:=rfl;refine aq.ofNRZ arc (bP ?_);simp only[go_sem,seval,H,M,G,R,ps,dq,eI,bf,aZ,aW,aY,evc];refine co.ex (ah9 F Y E R hm) (by decide) ?_;rintro tv s1 ⟨J,n1,m1⟩;have z:=J.ge;cases e7:an k 7 with
 |true=>
  simp only[go_sem,seval,z,e7,G,P];refine aiV A ok S E (lo:=s.aL) ?_ rl [] _ _ s1 tv rfl (by rw[sQ,ky];exact J) n1 m1 ?_ ?_ ?_ ?_;intro e lc s2 O w h7;have t:=w.ge;simp only[go_sem,seval,h7,t];refine⟨_,rfl,s.aL,?_⟩;simp only[iX,e7,cT];exact w
  all_goals simp only[sN,seval,ct]
  all_goals rfl
 |false=>
  cases e2:an k 2 with
  |true=>
   simp only[go_sem,seval,z,e7,e2,H,Z];refine aiU I T hg hl hr E (nm:=nm) (k:=k) R (lo:=s.aL) ?_ l [] _ _ s1 tv rfl (by rw[List.filter_nil,sQ,ky];exact J) n1 m1 ?_ ?_ ?_ ?_ ?_ ?_ ?_;intro e lc s2 O w h7;have t:=w.ge;simp only[go_sem,seval,h7,t];refine⟨_,rfl,s.aL,?_⟩;simp only[iX,e7,e2,cT,cF];exact w
   all_goals simp only[sG,seval,ct]
   all_goals rfl
  |false=>
   simp only[go_sem,seval,z,e7,e2];refine⟨_,rfl,s.aL,?_⟩;simp only[iX,e7,e2,cF,ky];exact J
def TI:df:=[(155,A5)]
def afl:dl TI:=.cons asN .nil
def RS(l:List Obj):Bool:=l.all fun o=>decide (o.gT.length<=1000000)
def ady:RS l=true↔ ∀o∈l,o.gT.length<=1000000:=by
 unfold RS;rw[fD];exact forall_congr' fun o=>imp_congr_right fun _=>decide_eq_true_iff
def Cc:Sp
 | [m,.agg [a,b,c,d,vv,rv],v]=>(jO m).bind fun l=>(dW 1 gG vv).bind fun _=>(qx rv).bind fun rl=>(Ao v).bind fun p=>bif decide (l.length<=1000000)&&(RS l&&(mC a b c d&&(!p.2.2.1.isEmpty&&decide (p.2.2.1.length<=1000000)))) then some (gw 1 ((iX l rl p).map ax)) else none
 |_=>none
def aiS{c:aa}(H:au 6 Obj.val ov l)(J: ∀o∈l,o.AL)(I:l.length<=1000000)(G: ∀o∈l,o.gT.length<=1000000)(O:au 1 ax vv views)(t:au 8 aB.val rv rl)(E: ∀x∈rl,x.Ok)(w:rl.length<=1000000)(M:mC a b c d=true)(z:p.2.2.1≠ [])(A:p.2.2.1.length<=1000000):Cc [.agg [ov],.agg [a,b,c,d,vv,rv],dq p]=some (gw 1 ((iX l rl p).map ax)):=by
 have F:=gV;have e:(!p.2.2.1.isEmpty)=true:=by simpa using z
 simp only[dX,Cc,qv H J (by omega),kT kF O,Am t E w,UM,dQ I,ady.2 G,M,e,dQ A,bX]
def akP{xs:List ae}(w:cI 1 lo s v (xs.map ax)):fU h v (gw 1 (xs.map ax)):=
 ⟨4,AF w fun v t=>by
   obtain⟨x,_,rfl⟩:=cw.1 t;rfl⟩
def aiT:cL ah 68 Cc:=by
 intro args u t G h w xs wr hx;unfold Cc at t;split at t;rename_i m a b c d vv rv v;simp only[ak] at t;obtain⟨l,O,views,z,rl,A,p,H,t⟩:=t;obtain⟨hf,t⟩:=bc t;have t:=sI t;subst t;simp only[bq,dE] at hf;obtain⟨Y,T,S,R,P⟩:=hf;have I:p.2.2.1≠ []:=by simpa using R
 obtain⟨v,rfl,O,hg,hs⟩:=nX O;obtain⟨A,Z,J⟩:=BT A;have H:=Hr H;subst H;have z:=ig (fun _ _ h=>kQ h) z;obtain⟨t1,t2,v',e1,M,e2,E,F,a0⟩:=SM O hg z A Z S;refine iu afl (W:=[]) .nil (args:=[.agg [v],.agg [a,b,c,d,vv,rv],dq p]) (by simp only[dK,t1,t2,Sw (Cg p),bX]) (fun ch=>?_) G h w xs wr hx;have hw:dj [.agg [v],.agg [a,b,c,d,vv,rv],dq p]=[cu (.agg [v]),cu (.agg [a,b,c,d,vv,rv]),dq p]:=by simp only[dj,DX (Cg p)]
 rw[hw,e1,e2];obtain⟨y,s',hr,lo,hO⟩:=aiR (Q:=QW TI [] ch) rfl ⟨rfl,rfl⟩ ⟨rfl,rfl⟩ M hg Y (ady.1 T) E F Z J I P (s:=s0) (by decide);exact⟨_,_,hr,akP hO⟩;cases t
def azX(f:Fn)(a b:Array Operand):gH (.makeFunc f a b)=3:=rfl
def alN(h:Tmp->Nat)(d:Option Tmp)(e:aw)(f:Fn)(a b:Array Operand):bD h d e (.makeFunc f a b)= .none:=rfl
variable{q:VE}
def ah8(A:Q.spec 70=some wz)(F:No Q 69)(z:s.get [] c=some (.cells [.str p.1,ag p.2.1,.list 1 (p.2.2.1.map ax) (ip p.2.2.2)]))(I:q.2.2.1.length<=1000000):aq Q 69 [dq q,.ptr c 0] s (.bool (rk p q)) s:=by
 have H:=gV;have G:(aa.list 1 (p.2.2.1.map ax) (ip p.2.2.2)).ge=true:=by cases p.2.2.2<;>rfl
 have w:(aa.list 1 (q.2.2.1.map ax) (ip q.2.2.2)).ge=true:=by cases q.2.2.2<;>rfl
 have E:=ajg (v:=.list 1 (q.2.2.1.map ax) (ip q.2.2.2)) (u:=.list 1 (p.2.2.1.map ax) (ip p.2.2.2)) (.inr ⟨_,rfl⟩) (.inr ⟨_,rfl⟩) (by rw[Bi];cases q.2.2.2<;>rfl) (by rw[Bi];cases p.2.2.2<;>rfl) (l:=q.2.2.1) (r:=p.2.2.1) (by omega);refine aq.ofNZ ard (bP ?_);cases e1:q.1==p.1 with
 |false=>
  have t:rk p q=false:=by unfold rk;rw[e1];rfl
  simp only[go_sem,seval,dq,eI,w,z,aP,aQ,e1,t]
 |true=>
  cases e2:an q.2.1 p.2.1 with
  |false=>
   have t:rk p q=false:=by unfold rk;rw[e1,e2];rfl
   simp only[go_sem,seval,dq,eI,w,z,aP,aQ,e1,e2,t]
  |true=>
   have t:rk p q=(q.2.2.1==p.2.2.1):=by unfold rk;rw[e1,e2];rfl
   simp only[go_sem,seval,dq,eI,w,G,z,aP,aQ,e1,e2,t,A,E]
variable{av:aa}
theorem anQ{l:List VE}(ha:au 3 dq av l)(P:l.length<=12000000)(M:Q.spec g=none){p:VE->Bool}(hg: ∀x∈l,aq Q g (dq x::cap) s (.bool (p x)) s){r:Int}(hx: ∀e,r= -1->K (.exit 0) ⟨e,19,lc⟩ s)(hr: ∀e,ac e 4=ag r->K .ret ⟨e,19,lc⟩ s):
 ∀(w t:List VE) (e:aw),l=t++w->r=fp p w t.length->ac e 0=av->ac e 1= .func (.func g) [] cap->ac e 7=aI l.length->ac e 8=aI t.length->W Q 153 (.loop OH) ⟨e,19,lc⟩ s K:=by
 intro w
 induction w with
 |nil=>
  intro t e E S T R O F;have I:t.length=l.length:=by rw[E];simp
  refine bm ?_;simp only[go_sem,seval,OH,O,F,I,cq];exact hx _ S
 |cons x w Z=>
  intro t e E S T R O F;have H:t.length<l.length:=by rw[E];simp
  have A:l[t.length]? =some x:=by rw[E];simp
  have J:=fun lc k=>ha.at iq.2.2.1 A lc k;have G:=da (n:=t.length) (by omega);have z:=hg x (dM A);have Y:(aa.list 1 (x.2.2.1.map ax) (ip x.2.2.2)).ge=true:=by cases x.2.2.2<;>rfl
  simp only[dq,eI] at z;refine bm ?_;simp only[go_sem,seval,OH,T,R,O,F,H,J,dq,eI,Y,M];refine co.of z (by decide) ?_;cases hd:p x with
  |true=>
   simp only[go_sem,seval]
   simp_all [sN,fp]
  |false=>
   simp only[go_sem,seval,F,G];refine Z (t++[x]) _ (by rw[E];simp) (by grind [fp]) ?_ ?_ ?_ ?_
   all_goals simp_all [sN]
def alX(F:Q.spec 70=some wz)(t:No Q 69)(G:No Q 153)(H:No Q 67){l:List VE}(E:au 3 dq av l)(w:l.length<=12000000)(M: ∀q∈l,q.2.2.1.length<=1000000)(O:s.get [] c=some (.cells [.str p.1,ag p.2.1,.list 1 (p.2.2.1.map ax) (ip p.2.2.2)])):aq Q 67 [av,.func (.func 69) [] [.ptr c 0]] s (.bool (l.any (rk p))) s:=by
 have z:=E.ge;have A:=E.lenS iq;have h:aq Q 153 [av,.func (.func 69) [] [.ptr c 0]] s (bF (fp (rk p) l 0)) s:=by
  refine aq.ofNZ aoR (bP ?_);simp only[go_sem,seval,A,z];refine anQ E w t.s (p:=rk p) (fun x I=>ah8 F t O (M x I)) (r:=fp (rk p) l 0) ?_ ?_ l [] _ rfl rfl (by simp only[sG,seval, *]) (by simp only[sG,seval, *]) (by simp only[sG,seval, *]) (by simp only[sN,seval];rfl);intro e J;simp only[go_sem,seval,J];rfl;intro e P;simp only[go_sem,seval,P];rfl
 refine aq.ofNZ arb (bP ?_);simp only[go_sem,seval,z];refine co.of h (by decide) ?_;simp only[go_sem,seval,bF,ni,AG]
theorem aw5(a4:Q.spec 18=some oM)(a3:Q.spec 21=some B8)(a2:Q.spec 68=some Cc)(a1:Q.spec 70=some wz)(R:No Q 69)(E:No Q 153)(S:No Q 67)(a9:No Q 25)(w:au 6 Obj.val ov l)(hg: ∀o∈l,o.AL)(hl:l.length<=40)(hr: ∀o∈l,o.gT.length<=12)(hV:au 1 ax vv views)(b0:views.length<=3)(A:au 8 aB.val rv rl)(ok: ∀x∈rl,x.Ok)(b2:rl.length<=5)(hf:mC w0 w1 w2 w3=true)(a0:p.2.2.1≠ [])(b3:p.2.2.1.length<=1000)(hm:s.gE<=s.aL):
 ∃v s',aq Q 25 [.agg [ov],.agg [w0,w1,w2,w3,vv,rv],dq p] s v s'/\v= .bool (Ky l views rl p):=by
 have b1:=gV;have M:=w.cs;have F:=hV.cs;have G:=A.cs;have pc:(aa.list 1 (p.2.2.1.map ax) (ip p.2.2.2)).ge=true:=by cases p.2.2.2<;>rfl
 have ps:(aa.list 1 (p.2.2.1.map ax) (ip p.2.2.2)).scal=true:=rfl;have H:=aiS w hg (by omega) (fun o w=>by have:=hr o w;omega) hV A ok (by omega) hf a0 (by omega);have a5:(iX l rl p).length<small:=by
  have h1:=kA (fun o:Obj=>pN o.gT p.2.2.1&&(an o.Al 2||an o.Al 3)) l;unfold iX;rw[de];cases an p.2.1 7 with
  |true=>
   rw[cT,bU];omega
  |false=>
   grind
 have P:au 1 ax (gw 1 ((iX l rl p).map ax)) (iX l rl p):=w9 1 ax _;have a6:=P.ge;have T:=aia w hg (by omega) P a5;have t:=MN l (iX l rl p);have Z:tZ (jh l (iX l rl p))=true:=abm (by have:=t.length_le;omega) fun o w=>hr o (t.subset w);have I:=abc (jh l (iX l rl p));have a7:=qv (abd (jh l (iX l rl p))) (fun o w=>hg o (t.subset w)) (by have:=t.length_le;omega);have Y:oM [.agg [qW (jh l (iX l rl p))],.agg [w0,w1,w2,w3,vv,rv]]=some (gw 3 ((gZ (jh l (iX l rl p)) views rl).map dq)):=by
  rw[<-MF];exact MI a7 (kT kF hV) (Am A ok (by omega)) Z (by omega) (Cr hf)
 have O:(gZ (jh l (iX l rl p)) views rl).length<=12000000:=by
  have:=Vw (fun _=>by have:=t.length_le;omega:cM (jh l (iX l rl p))=true->(jh l (iX l rl p)).length<=900) views rl;omega
 have ic:=w9 3 dq (gZ (jh l (iX l rl p)) views rl);have a8:=ic.ge;obtain⟨z,hz⟩:=bZ (s.new (.cells [.str p.1,ag p.2.1,.list 1 (p.2.2.1.map ax) (ip p.2.2.2)]));have zg:z.get [] s.aL=some (.cells [.str p.1,ag p.2.1,.list 1 (p.2.2.1.map ax) (ip p.2.2.2)]):=by rw[<-hz];exact cH
 have zm:z.gE<=z.aL:=by rw[<-hz];exact bW hm
 have J:=alX a1 R E S ic O (fun q hq=>by have:=Vv hq;omega) (p:=p) (s:=z.top) (c:=s.aL) zg;simp only[dq,eI] at H;refine aq.ofNRZ ap0 ?_;refine WE.sound ?_;simp only[go_sem,seval,M,F,G,dq,eI,pc,ps,hz,bf,aZ,aW,aY,evc];refine gi zm ?_;simp only[go_sem,O9,seval,M,F,G,pc,ps,zg,aP,aQ,a2,H,a6,a3,T,I.1,I.2,a4,Y,a8,nC,azX,alN];refine jR.calm zm J (by decide) (by simp[eh,l8]) ?_;simp only[go_sem,O9,seval];exact⟨_,rfl,rfl⟩
def TSh:df:=[(18,oM),(68,Cc),(70,wz)]
noncomputable def Ua:df:=(21,B8)::TSh
def afH:dl Ua:=.cons aib (.cons Hx (.cons aiT (.cons ajh .nil)))
def NC(l:List Obj)(views:List ae)(rl:List aB):Bool:=decide (l.length<=40)&&(l.all (fun o=>decide (o.gT.length<=12))&&(decide (views.length<=3)&&decide (rl.length<=5)))
noncomputable def ua:Sp
 | [m,.agg [a,b,c,d,vv,rv],v]=>(jO m).bind fun l=>(dW 1 gG vv).bind fun views=>(qx rv).bind fun rl=>(Ao v).bind fun p=>bif NC l views rl&&(mC a b c d&&(!p.2.2.1.isEmpty&&decide (p.2.2.1.length<=1000))) then some (.bool (Ky l views rl p)) else none
 |_=>none
def aw6{c:aa}(A:au 6 Obj.val ov l)(M: ∀o∈l,o.AL)(J:l.length<=40)(I: ∀o∈l,o.gT.length<=12)(P:au 1 ax vv views)(t:views.length<=3)(w:au 8 aB.val rv rl)(G: ∀x∈rl,x.Ok)(z:rl.length<=5)(O:mC a b c d=true)(E:p.2.2.1≠ [])(F:p.2.2.1.length<=1000):ua [.agg [ov],.agg [a,b,c,d,vv,rv],dq p]=some (.bool (Ky l views rl p)):=by
 have H:=gV;have e:(!p.2.2.1.isEmpty)=true:=by simpa using E
 have R:l.all (fun o=>decide (o.gT.length<=12))=true:=fD.2 fun o A=>dQ (I o A);simp only[dX,ua,NC,qv A M (by omega),kT kF P,Am w G (by omega),UM,dQ J,R,dQ t,dQ z,O,e,dQ F,bX]
def aw7:cL ah 25 ua:=by
 intro args u t G h w xs wr hx;unfold ua at t;split at t;rename_i m a b c d vv rv v;simp only[ak] at t;obtain⟨l,M,views,z,rl,A,p,H,t⟩:=t;obtain⟨hf,t⟩:=bc t;have t:=sI t;subst t;unfold NC at hf;simp only[bq,dE,fD] at hf;obtain⟨⟨Z,Y,P,O⟩,T,S,R⟩:=hf;have I:p.2.2.1≠ []:=by simpa using S
 obtain⟨v,rfl,M,hg,hs⟩:=nX M;obtain⟨A,ok,a1⟩:=BT A;have H:=Hr H;subst H;have z:=ig (fun _ _ h=>kQ h) z;obtain⟨t1,t2,v',e1,J,e2,E,F,a0⟩:=SM M hg z A ok T;refine iu afH (W:=[]) .nil (args:=[.agg [v],.agg [a,b,c,d,vv,rv],dq p]) (by simp_all [dK,Sw,Cg]) (fun ch=>?_) G h w xs wr hx;have hw:dj [.agg [v],.agg [a,b,c,d,vv,rv],dq p]=[cu (.agg [v]),cu (.agg [a,b,c,d,vv,rv]),dq p]:=by simp only[dj,DX (Cg p)]
 rw[hw,e1,e2];obtain⟨y,s',hr,rfl⟩:=aw5 (Q:=QW Ua [] ch) rfl rfl rfl rfl ⟨rfl,rfl⟩ ⟨rfl,rfl⟩ ⟨rfl,rfl⟩ ⟨rfl,rfl⟩ J hg Z Y E P F ok O a0 I R (s:=s0) (by decide);exact⟨_,_,hr,⟨1,rfl⟩⟩;cases t
def UR{a b:Bool}:dz ah .eql 4 (.bool a) (.bool b)=some (.bool (a==b)):=by cases a<;>cases b<;>kernel_rfl
def as1(a b:Nat):min (a:Int) (b:Int)=((min a b:Nat):Int):=by omega
structure qq (av nv:aa) (a i:Nat) (e:aw):Prop where
 h2:ac e 2= .Gt 2 1 0
 h3:ac e 3= .Gt 3 1 0
 h5:ac e 5= .bool true
 h6:ac e 6=av
 h7:ac e 7=aI a
 h8:ac e 8=nv
 h9:ac e 9=aI i
variable{a:Nat}
def qq.mv(F:qq av nv a i e){a' w:Nat}{t:aw}(h:ac t 2=ac e 2/\ac t 3=ac e 3/\ac t 5=ac e 5/\ac t 6=ac e 6/\ac t 7=aI a'/\ac t 8=ac e 8/\ac t 9=aI w):qq av nv a' w t:=
 ⟨h.1.trans F.h2,h.2.1.trans F.h3,h.2.2.1.trans F.h5,h.2.2.2.1.trans F.h6,h.2.2.2.2.1,h.2.2.2.2.2.1.trans F.h8,h.2.2.2.2.2.2⟩
variable{N:Fr->St->Prop}
def avz(F:qq av nv a i e)(T:au 1 ax vv views)(g3:lc.gen 3=1)(l3:lc.get 3 1=some [w0,w1,w2,w3,vv,rv]){L:List VE}(M:au 3 dq av L)(hL:L.length<=12000000)(t:L[i]? =some q)(ho:views=[]->L.Pairwise fun a b=>a.2.1<=b.2.1)(Y: ∀R,qq av nv a i R->ac R 64= .bool false->N ⟨R,192,lc⟩ s):Ag.WX Q 6 0 [] sa arf ⟨e,192,lc⟩ s N:=by
 have h6:=F.h6;have z:=F.h9;have h3:=F.h3;have S:=M.ge;have E:=T.ge;have A:=T.lenS bT;have i1:=fun lc k=>M.at iq.2.2.1 t lc k;have w:=(nR.1 t).1;have Z:=F.h7;cases i with
 |zero=>
  have P:aX 0 0=false:=rfl;simp only[go_sem,sa,tM,sb,sd,tN,seval,z,P];exact Y _ (F.mv (by simp only[sN,seval,Z,z,and_self])) (by simp only[sN,seval])
 |succ j=>
  have P:aX 0 (((j+1:Nat)):Int)=true:=dQ (by omega);have J:j<L.length:=by omega
  obtain⟨p,H⟩: ∃p,L[j]? =some p:=⟨_,gB J⟩;have i2:=fun lc k=>M.at iq.2.2.1 H lc k;have G:IntKind.i64.wrap (((j+1:Nat):Int)-1)=((j:Nat):Int):=by rw[jf (by omega) (by omega)];omega
  have I:aX q.2.1 p.2.1=true->an ((views.length:Nat):Int) 0=false:=fun O=>by
   cases views with
   |cons v views=>
    unfold an;exact dN (by rw[cX];omega)
   |nil=>
    have h1:=List.pairwise_iff_getElem.1 (ho rfl) j (j+1) J w (jX _);rw[gB J] at H;rw[gB w] at t;rw[sI H,sI t] at h1
    have:=of_decide_eq_true O;omega
  cases e1:q.1==p.1<;>cases O:aX q.2.1 p.2.1<;>simp only[go_sem,sa,tM,sb,sd,tN,seval,h3,g3,l3,h6,z,P,G,S,E,A,i1,i2,dq,eI,e1,O,I]<;>exact Y _ (F.mv (by simp only[sN,seval,h3,h6,Z,z,and_self])) (by simp only[sN,seval])
variable{V:List ae}
def agA(T:au 1 ax nv V)(a0:V.length<=1000){L:List VE}(hA:au 3 dq av L)(S:L[i]? =some q)(hm:s.gE<=s.aL){r:Nat}(hx: ∀e,qq av nv r i e->K (.exit 2) ⟨e,192,lc⟩ s):
 ∀(t:List ae) (a:Nat) (e:aw),V.drop a=t->a<=V.length->rm q.1 t a=r->qq av nv a i e->W Q 6 (.loop PQ) ⟨e,192,lc⟩ s K:=by
 intro t;have M:=hA.ge;have A:=T.ge;have z:=T.lenS bT;have Z:=fun lc k=>hA.at iq.2.2.1 S lc k
 induction t with
 |nil=>
  intro a e O ha w F;have J:=F.h6;have G:=F.h7;have E:=F.h8;have H:=F.h9;have R:a=V.length:=by
   have:=congrArg List.length O;rw[GW,ct] at this;omega
  subst R;have w:V.length=r:=w;subst w;refine kB ?_;simp only[go_sem,seval,PQ];refine gi hm ?_;simp only[go_sem,sa,tM,sb,sd,tN,seval,G,E,A,z,cq];exact hx _ (F.mv (by simp only[sN,seval,G,E,H,and_self]))
 |cons v t ih=>
  intro a e O ha w F;have J:=F.h6;have G:=F.h7;have E:=F.h8;have H:=F.h9;have hv:V[a]? =some v:=by
   have:=congrArg List.head? O;rw[List.head?_drop] at this;exact this
  have I:a<V.length:=(nR.1 hv).1;have Y:=fun lc k=>T.at bT.2.2.1 hv lc k;have P:=da (n:=a) (by omega);have hd:V.drop (a+1)=t:=by
   rw[<-List.drop_drop,O];rfl
  unfold rm at w;refine kB ?_;simp only[go_sem,seval,PQ];refine gi hm ?_;cases e1:v==q.1 with
  |true=>
   rw[e1] at w;have w:a=r:=w;subst w;simp only[go_sem,sa,tM,sb,sd,tN,seval,J,G,E,H,M,A,z,I,Z,Y,ax,dq,eI,e1];exact hx _ (F.mv (by simp only[sN,seval,J,G,E,H,and_self]))
  |false=>
   rw[e1] at w;simp only[go_sem,sa,tM,sb,sd,tN,seval,J,G,E,H,M,A,z,I,Z,Y,ax,dq,eI,e1];simp only[go_sem,seval,G,P];exact ih (a+1) _ hd (by omega) w (F.mv (by simp only[sN,seval,J,E,H,and_self]))
set_option maxRecDepth 100000 in
set_option maxHeartbeats 4000000 in
def avA(F:qq av nv a i e)(hV:au 1 ax vv views)(hN:au 1 ax nv V)(g3:lc.gen 3=1)(l3:lc.get 3 1=some [w0,w1,w2,w3,vv,rv]){L:List VE}(hA:au 3 dq av L)(Y:L[i]? =some q)(ha:an (a:Int) (V.length:Nat)=true->aX ((views.length:Nat):Int) 2=false)(hk:1<=q.2.1/\q.2.1<=7)(hi:z9 l q.2.2.1)(hx: ∀Z,qq av nv a i Z->ac Z 152= .bool false->N ⟨Z,192,lc⟩ s):Ag.WX Q 6 0 [] sb arh ⟨e,192,lc⟩ s N:=by
 have R:=F.h3;have P:=F.h6;have O:=F.h7;have M:=F.h8;have J:=F.h9;have I:=hA.ge;have A:=hV.ge;have H:=hN.ge;have z:=hV.lenS bT;have G:=hN.lenS bT;have i1:=fun lc k=>hA.at iq.2.2.1 Y lc k;have k1:aX q.2.1 1=false:=dN (by omega);have k2:aX 7 q.2.1=false:=dN (by omega);have qc:(aa.list 1 (q.2.2.1.map ax) (ip q.2.2.2)).ge=true:=by cases q.2.2.2<;>rfl
 have w:au 1 ax (.list 1 (q.2.2.1.map ax) (ip q.2.2.2)) q.2.2.1:=.inr ⟨_,rfl⟩;have E:=w.lenS bT;obtain⟨x,_,t⟩:=hi;have n1:aX ((q.2.2.1.length:Nat):Int) 1=false/\aX 2 ((q.2.2.1.length:Nat):Int)=false:=by rcases t with h|⟨y,h,_⟩<;>rw[h]<;>exact⟨rfl,rfl⟩
 rcases t with t|⟨y,t,T⟩
 have S:an ((q.2.2.1.length:Nat):Int) 2=false:=by rw[t];rfl
 cases e1:an (a:Int) (V.length:Nat)<;>simp only[go_sem,sa,tM,sb,sd,tN,seval,R,g3,l3,P,O,M,J,I,A,H,z,G,qc,E,i1,dq,eI,e1,ha,k1,k2,n1,S]<;>exact hx _ (F.mv (by simp only[sN,seval,R,P,O,M,J,and_self])) (by simp only[sN,seval]);have S:an ((q.2.2.1.length:Nat):Int) 2=true:=by rw[t];rfl
 have j0: ∀lc,gS ah lc 25 (.list 1 (q.2.2.1.map ax) (ip q.2.2.2)) (ag 0)=some (.ro [.str x]):=fun lc=>w.at bT.2.2.1 (i:=0) (by rw[t];rfl) lc .i64;have j1: ∀lc,gS ah lc 25 (.list 1 (q.2.2.1.map ax) (ip q.2.2.2)) (ag 1)=some (.ro [.str y]):=fun lc=>w.at bT.2.2.1 (i:=1) (by rw[t];rfl) lc .i64;cases e1:an (a:Int) (V.length:Nat)<;>simp only[go_sem,sa,tM,sb,sd,tN,seval,R,g3,l3,P,O,M,J,I,A,H,z,G,qc,E,i1,dq,eI,e1,ha,k1,k2,n1,S,j0,j1,ax,aha,T]<;>exact hx _ (F.mv (by simp only[sN,seval,R,P,O,M,J,and_self])) (by simp only[sN,seval])
def avB(O:Q.spec 32=some uV)(P:Q.spec 25=some ua)(F:qq av nv a i e)(I:au 6 Obj.val ov l)(g2:lc.gen 2=1)(l2:lc.get 2 1=some [ov])(g3:lc.gen 3=1)(l3:lc.get 3 1=some wc)(wl:wc.length=6){L:List VE}(Y:au 3 dq av L)(M:L[i]? =some q)(A: ∀id,uV [.agg [ov],.str id]=some (bF (fp (fun o:Obj=>o.id==id) l 0)))(w:ua [.agg [ov],.agg wc,dq q]=some (.bool true))(hi:z9 l q.2.2.1)(hx: ∀R,qq av nv a i R->ac R 177= .bool false->N ⟨R,192,lc⟩ s):Ag.WX Q 6 0 [] sd ari ⟨e,192,lc⟩ s N:=by
 obtain⟨w0,w1,w2,w3,vv,rv,rfl⟩: ∃w0 w1 w2 w3 vv rv,wc=[w0,w1,w2,w3,vv,rv]:=by
  match wc,wl with
  | [a,b,c,d,e,f],_=>exact⟨a,b,c,d,e,f,rfl⟩
 have z:=F.h2;have h3:=F.h3;have h6:=F.h6;have Z:=F.h9;have J:=I.cs;have S:=Y.ge;have i1:=fun lc k=>Y.at iq.2.2.1 M lc k;have qc:(aa.list 1 (q.2.2.1.map ax) (ip q.2.2.2)).ge=true:=by cases q.2.2.2<;>rfl
 have E:au 1 ax (.list 1 (q.2.2.1.map ax) (ip q.2.2.2)) q.2.2.1:=.inr ⟨_,rfl⟩;obtain⟨x,G,t⟩:=hi;have H:q.2.2.1[0]? =some x:=by
  rcases t with t|⟨y,t,_⟩<;>rw[t]<;>rfl
 have j0: ∀lc,gS ah lc 25 (.list 1 (q.2.2.1.map ax) (ip q.2.2.2)) (ag 0)=some (.ro [.str x]):=fun lc=>E.at bT.2.2.1 (i:=0) H lc .i64;have T:=A x;have hf:aX (fp (fun o:Obj=>o.id==x) l 0) 0=false:=by
  have h1:=AG (fun o:Obj=>o.id==x) l 0;have z:l.any (fun o=>o.id==x)=true:=by
   obtain⟨o,I,e⟩:=cw.1 G;exact BG.2 ⟨o,I,by rw[e,bS]⟩
  rw[z] at h1
  have:=of_decide_eq_true h1;exact dN (by omega)
 simp only[bF] at T;simp only[dq,eI] at w;simp only[go_sem,sa,tM,sb,sd,tN,seval,z,g2,l2,h3,g3,l3,h6,Z,J,S,qc,i1,dq,eI,j0,ax,O,T,hf,P,w];exact hx _ (F.mv (by simp only[sN,seval,z,h3,h6,Z,F.h7,and_self])) (by simp only[sN,seval])
def aw9(b0:Q.spec 32=some uV)(b1:Q.spec 25=some ua)(ho:au 6 Obj.val ov l)(hV:au 1 ax vv views)(b2:views.length<=3)(g2:lc.gen 2=1)(l2:lc.get 2 1=some [ov])(g3:lc.gen 3=1)(l3:lc.get 3 1=some [w0,w1,w2,w3,vv,rv]){L:List VE}(I:au 3 dq av L)(hL:L.length<=12000000)(hN:au 1 ax nv ([]::views))(a5:views=[]->L.Pairwise fun a b=>a.2.1<=b.2.1)(a0: ∀id,uV [.agg [ov],.str id]=some (bF (fp (fun o:Obj=>o.id==id) l 0)))(a1: ∀q∈L,ua [.agg [ov],.agg [w0,w1,w2,w3,vv,rv],dq q]=some (.bool true))(hg: ∀q∈L,(1<=q.2.1/\q.2.1<=7)/\z9 l q.2.2.1)(Z:s.gE<=s.aL)(hx: ∀a i e,qq av nv a i e->K (.exit 0) ⟨e,192,lc⟩ s):
 ∀(w t:List VE) (a:Nat) (e:aw),L=t++w->a<=views.length->yE ([]::views) (decide (views.length<2)) a w->qq av nv a t.length e->W Q 6 (.loop PR) ⟨e,192,lc⟩ s K:=by
 intro w;have Y:=I.ge;have T:=I.lenS iq;have a3:=hN.ge;have a2:=hN.lenS bT
 induction w with
 |nil=>
  intro t a e S ha _ F;have O:=F.h6;have M:=F.h9;have a8:t.length=L.length:=by rw[S];simp
  refine kB ?_;simp only[go_sem,seval,PR,O,M,Y,T,a8,cq];exact hx a t.length _ (F.mv (by simp only[sN,seval,O,M,F.h7,and_self]))
 |cons q w ih=>
  intro t a e S ha ⟨G,H⟩ F;have O:=F.h6;have M:=F.h9;have a6:t.length<L.length:=by rw[S];simp
  have E:L[t.length]? =some q:=by rw[S];simp
  have z:=dM E;have a4:=da (n:=t.length) (by omega);have a7:rm q.1 (([]::views).drop a) a<=views.length+1:=by
   have:=adt q.1 (([]::views).drop a) a;rw[GW,cX] at this;omega
  obtain⟨r,hr⟩:=bZ (rm q.1 (([]::views).drop a) a);rw[hr] at G H a7;have A:(([]:ae)::views).length=views.length+1:=rfl;rw[A] at G H;refine kB ?_;simp only[go_sem,seval,PR,O,M,Y,T,a6];refine gi Z ?_;refine avz (av:=av) (nv:=nv) (a:=a) (i:=t.length) (F.mv (by simp only[sN,seval,O,M,F.h7,and_self])) hV g3 l3 I hL E a5 fun e1 F1 a9=>?_;simp only[go_sem,seval,a9];refine agA hN (by rw[A];omega) I E Z (fun e2 F2=>?_) _ a e1 rfl (by rw[A];omega) hr F1;have h7:=F2.h7;simp only[go_sem,seval];refine gi Z ?_;refine avA F2 hV hN g3 l3 I E (fun h=>?_) (hg q z).1 (hg q z).2 fun e3 F3 R=>?_;have h:=of_decide_eq_true h;rw[A] at h;refine dN fun h2=>?_
  have:=G (dQ (by omega));omega;have k7:=F3.h7;have k8:=F3.h8;have J:IntKind.i64.wrap (((views.length+1:Nat):Int)-1)=((views.length:Nat):Int):=by rw[jf (by omega) (by omega)];omega
  simp only[go_sem,seval,R,k7,k8,a3,a2,J,rN,as1];refine gi Z ?_;refine avB b0 b1 (av:=av) (nv:=nv) (a:=min r views.length) (i:=t.length) (F3.mv (by simp only[sN,seval,k7,k8,F3.h9,and_self])) ho g2 l2 g3 l3 rfl I E a0 (a1 q z) (hg q z).2 fun e4 F4 P=>?_;have p9:=F4.h9;simp only[go_sem,seval,P,p9,a4];exact ih (t++[q]) (min r views.length) _ (by rw[S];simp) (Nat.min_le_right _ _) H (F4.mv (by simp only[sN,seval,p9,F4.h7,sA,and_self]))
def arF(a4:Q.spec 15=some ER)(a3:Q.spec 16=some Cn)(c2:Q.spec 18=some oM)(a2:Q.spec 23=some CD)(c1:Q.spec 25=some ua)(a1:Q.spec 31=some im)(c0:Q.spec 32=some uV)(w6:No Q 6)(t:au 6 Obj.val ov l)(hg: ∀o∈l,o.AL)(Z:l.length<small)(I:mC w0 w1 w2 w3=true)(hV:au 1 ax vv views)(b0:views.length<small)(H:au 8 aB.val rv rl)(T: ∀x∈rl,x.OkS)(b2:rl.length<small)(hm:s.gE<=s.aL):
 ∃v s',aq Q 6 [.agg [ov],.agg [w0,w1,w2,w3,vv,rv]] s v s'/\v= .bool true:=by
 have c5:=gV;have M:=t.cs;have w:=hV.cs;have z:=H.cs;have am:=qv t hg Z;have P:=kT kF hV;have qh:ER []=some (.bool true):=rfl;have G:=aj9 am P (UI H T b2) b0 (Cr I) 24;refine aq.ofNRZ are ?_;cases hf:wC l views rl 24 with
 |false=>
  rw[hf] at G;refine bP ?_;simp only[go_sem,seval,M,w,z,a4,qh,a3,G];exact⟨_,rfl,rfl⟩
 |true=>
  rw[hf] at G;unfold wC at hf;simp only[bq] at hf;obtain⟨_,b8,a0,J⟩:=hf;obtain⟨c4,O⟩:=ake (n:=24) b8;have Y:views.length<=3:=by
   unfold b9 at a0
   have:=of_decide_eq_true a0;omega
  unfold uU at J;simp only[bq] at J;have ok:=awH J.1 T;have b6:rl.length<=5:=by
   have h:=J.2;unfold b9 at h
   have:=of_decide_eq_true h;omega
  have ar:=Am H ok (by omega);have S:tZ l=true:=abm (by omega) fun o t=>(O o t).1;have a8:oM [.agg [ov],.agg [w0,w1,w2,w3,vv,rv]]=some (gw 3 ((gZ l views rl).map dq)):=by
   rw[<-MF];exact MI am P ar S (by omega) (Cr I)
  have E:=an8 am P ar S (by omega:views.length<=200) I;have A:=wT t hg Z;have a6:=ako t hg (by omega:l.length<=1000000);have a5:(gZ l views rl).length<=12000000:=by
   have:=Vw (fun _=>by omega:cM l=true->l.length<=900) views rl;omega
  have ia:=w9 3 dq (gZ l views rl);have R:=ia.ge;have c3:=ia.lenS iq;have a7: ∀q∈gZ l views rl,ua [.agg [ov],.agg [w0,w1,w2,w3,vv,rv],dq q]=some (.bool true):=fun q hq=>by
   have h1:=(Vy hq).2;have b7:q.2.2.1≠ []:=by
    obtain⟨x,_,h|⟨y,h,_⟩⟩:=h1<;>rw[h]<;>exact List.cons_ne_nil _ _
   rw[<-aw8 hq];exact aw6 t hg (by omega) (fun o t=>(O o t).1) hV Y H ok b6 I b7 (by have:=Vv hq;omega)
  obtain⟨nv,s1,b1,hN,b3,b4,b5⟩:=aaN hV (by omega) hm;have a9:=hN.ge;refine WE.sound ?_;simp only[go_sem,seval,M,w,z,a4,qh,a3,G,c2,a8,R,b1,a9,bf,aZ,aW,aY,evc];refine aw9 c0 c1 (l:=l) (w0:=w0) (w1:=w1) (w2:=w2) (w3:=w3) (rv:=rv) t hV Y ?_ ?_ ?_ ?_ ia a5 hN (fun e=>by subst e;exact ah0 l rl) a6 a7 (fun q hq=>Vy hq) b4 (fun a i e F=>?_) (gZ l views rl) [] 0 _ rfl (jY _) (ahZ l views rl) ⟨?_,?_,?_,?_,?_,?_,?_⟩
  rotate_left 4
  have e2:=F.h2;have e3:=F.h3;have e5:=F.h5;have e6:=F.h6;simp only[go_sem,seval];refine gi b4 ?_;cases hv:cM l with
  |false=>
   rw[hv] at A E;simp only[go_sem,sa,tM,sb,sd,tN,seval,e2,e3,e5,e6,M,w,z,R,a2,E,a1,A,dL,UR];exact⟨_,rfl,rfl⟩
  |true=>
   rw[hv] at A E;simp only[go_sem,sa,tM,sb,sd,tN,seval,e2,e3,e5,e6,M,w,z,R,c3,a2,E,a1,A,eC,UR];exact⟨_,rfl,rfl⟩
  all_goals simp only[sG,seval,ct]
  all_goals rfl
def LT6:df:=[(15,ER),(16,Cn),(18,oM),(23,CD),(31,im),(32,uV)]
noncomputable def Ts:df:=(25,ua)::LT6
def ae9:dl Ts:=.cons aw7 (.cons al1 (.cons aka (.cons Hx (.cons an9 (.cons tT (.cons akp .nil))))))
def arE{x:aa}(hl:au 6 Obj.val x l)(hg: ∀o∈l,o.AL)(hs:l.length<small)(H:mC w0 w1 w2 w3=true)(hV:au 1 ax vv views)(J:views.length<small)(P:au 8 aB.val rv rl)(z: ∀x∈rl,x.OkS)(R:rl.length<small)(G:Gh)(h:aD aJ)(w:World)(xs:List Value)(wr:WR G h w)(hx:bV G [.agg [x],.agg [w0,w1,w2,w3,vv,rv]] xs):
 mj ah 6 ⟨xs⟩ w fun r Z=> ∃Y,WR Y h Z/\cO G h w Y h Z 0 0/\VR Y (.bool true) r:=by
 obtain⟨ht,x',I,S⟩:=o9 hl hg;obtain⟨O,F⟩:=RG P z;obtain⟨M,A⟩:=nz rq hV;have T:=WD H;have I:dj [.agg [x],.agg [w0,w1,w2,w3,vv,rv]]=[.agg [x'],.agg [cu w0,cu w1,cu w2,cu w3,cu vv,cu rv]]:=by simp only[dj,cu,I];rw[<-I];simp only[cu,dj]
 have t:=Cr H;simp only[dK,bq] at t;refine iu ae9 (W:=[]) .nil (args:=[.agg [x],.agg [w0,w1,w2,w3,vv,rv]]) (by
  have:dy (.agg [w0,w1,w2,w3,vv,rv])=true:=by
   simp only[dy,dK,t.1,t.2.1,t.2.2.1,t.2.2.2.1,O,M,bX]
  show(dy (.agg [x])&&(dy (.agg [w0,w1,w2,w3,vv,rv])&&_))=true;rw[ht,this];rfl) (fun ch=>?_) G h w xs wr hx
 rw[I];obtain⟨v,s',E,rfl⟩:=arF (Q:=QW Ts [] ch) rfl rfl rfl rfl rfl rfl rfl ⟨rfl,rfl⟩ S hg hs T A J F z R (s:=s0) (by decide);exact⟨_,_,E,⟨1,rfl⟩⟩
