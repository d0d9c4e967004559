/- Lemmas for ValidViews. -/
import Derived.Test.YtnnppcoplinajaaGreatB8
import Derived.Test.YtnnppcoplinajaaGreatB13
import Derived.Test.YtnnppcoplinajaaGreatB9
import Derived.Test.YtnnppcoplinajaaGreatB10
import Derived.ProofKit
set_option linter.all false
open Bool renaming and_eq_true→bu,and_false→gN,and_self→cw,false_and→dW,false_or→kg,not_eq_true'→nu,not_false→hG,not_true→fp,or_eq_false_iff→v9,true_and→eH,true_or→iR
open List renaming all_cons→ju,all_eq_true→f8,append_assoc→ny,append_nil→kC,drop_succ_cons→oO,drop_zero→nz,drop→bP,eq_nil_of_length_eq_zero→uv,flatMap_cons→uy,getElem?_append_left→BA,getElem?_append_right→wd,getElem?_cons_succ→jO,getElem?_cons_zero→iw,getElem?_eq_getElem→gn,getElem?_eq_none→DT,getElem?_eq_some_iff→nY,getElem?_map→jf,getElem?_of_mem→we,length_append→cJ,length_cons→bH,length_filter_le→kT,length_map→ce,length_nil→bn,length_range→DU,length_replicate→DV,map_append→ff,map_congr_left→DW,map_cons→fy,map_map→mI,map_nil→uB,mem_append→lj,mem_cons_of_mem→iE,mem_cons_self→iL,mem_cons→fc,mem_filter→DX,mem_flatMap→uC,mem_map→dy,mem_of_getElem?→eP,not_mem_nil→zT,replicate_succ→Ld,replicate→iy,take_succ_cons→lZ,take_zero→wg,take→df
open List.cons renaming injEq→mH
open Nat renaming add_assoc→wq,beq→aQ,ble_eq_true_of_le→cP,ble→bw,blt→bm,eq_zero_or_pos→BD,le_of_ble_eq_true→fW,le_refl→br,le_succ_of_le→cq,le_succ→jQ,le_trans→fA,lt_irrefl→cD,lt_or_ge→nZ,lt_succ_self→kU,mul_le_mul_right→uG,mul_le_mul→rf,mul_one→xU,reduceAdd→bQ,reduceBEq→ah,reduceDiv→eR,reduceEqDiff→eI,reduceLT→aB,reduceLeDiff→cK,reduceMod→ep,reduceMul→ee,reducePow→ew,reduceSub→ey,succ_mul→mJ,zero_le→ki
open Option renaming bind_eq_some_iff→ak,bind_some→au,getD_none→Hc,getD_some→wt,map_none→sF,map_some→kn,none_or→zX
open Option.some renaming injEq→aJ
open Go.Proofs.Tryz renaming prog→ae
open Go.Ag.W renaming drawX→iT,loopC→bG,loopE→lk,rfun→oS
open Go.Ag.WC renaming sound→co
namespace Go.Proofs.YtnnppcoplinajaaGreat
open Go.Ag
variable{k:Int}{l:List Obj}{rs:List ag}{i:Nat}{f:Obj->List (Pt×Bool)}
def apv{r:ag}(h: ∀q,dP r l=some q->an q.uP (kR k i)=false):t7 l f k i (r::rs)=[((0,0),false)]:=by
 unfold t7;cases e:dP r l with
 |none=>rfl
 |some q=>simp only[h q e,cF]
def apw{r:ag}{q:Obj}(e:dP r l=some q)(h:an q.uP (kR k i)=true):t7 l f k i (r::rs)=f q++t7 l f k (i+1) rs:=by
 conv=>lhs;unfold t7
 rw[e];simp only[h,cT]
def H8:tz ae 473=true:=by kernel_rfl
variable{K:Ex->Fr->St->Prop}{b lo n p:Nat}{o:Obj}
section
variable{Q:aH}(hP:Q.P=ae)(hh:Q.hint=ai)(hH: ∀f,Q.specH f=none)
include hP hh hH
theorem am4(d7:Q.spec 473=none)(d6:Q.specW 473=none)(a3:Q.spec 405=none)(b4:Q.specW 405=none)(T:Q.spec 474=none)(b3:Q.specW 474=none)(hg: ∀o∈l,o.Al)(go:o.Al)(e0:o.gE.length<=900000)(IH: ∀(i:Nat) (r:ag) (q:Obj),o.gE[i]? =some r->dP r l=some q->an q.uP (kR o.uP i)=true->Lk Q l p b f q){bo bp bz:Nat}{O:Nat->Prop}{seq:List (Pt×Bool)}{P:Nat->St->Prop}{D:St->Prop}(C:D2 Q n lo O seq P D)(k1:O bo\/lo<=bo)(k2:O bp\/lo<=bp)(k3:O p\/lo<=p)(k4:O b\/lo<=b){s0:St}(N0:z7 l p b bo bp o s0)(d5:s0.get [] bz=some (.cells [.yld n]))(zl:lo<=bz)(c1:bz<s0.aL)(e1:lo<=s0.aL)(hx: ∀e lc s,P seq.length s->kV lo O s0 s->K (.exit 0) ⟨e,58,lc⟩ s)(hr: ∀e lc s,(P seq.length s\/D s)->kV lo O s0 s->K .ret ⟨e,58,lc⟩ s):
 ∀(A w:List ag) (e:ax) (lc:Ag.Loc) (s:St) (done:List (Pt×Bool)),o.gE=w++A->seq=done++t7 l f o.uP w.length A->P done.length s->kV lo O s0 s->ac e 1= .ptr bo 0->ac e 2= .ptr bp 0->ac e 3= .ptr bz 0->ac e 18=o.refsV->ac e 19= .int .i64 (o.gE.length:Nat)->ac e 20= .int .i64 (w.length:Nat)->e.all jY=true->W Q 473 (.loop CF) ⟨e,58,lc⟩ s K:=by
 have rn:jY o.refsV=true:=by rcases go.gE with⟨e,_⟩|⟨k,e⟩<;>rw[e]<;>rfl
 intro A
 induction A with
 |nil=>
  intro w e lc s done h1 hq hp K1 r1 r2 r3 U J I hE;have d0:w.length=o.gE.length:=by rw[h1];simp
  refine bG ?_;simp only[go_sem,hP,hh,seval,CF,J,I,d0,cD];have hl:seq.length=done.length:=by rw[hq];simp[t7]
  exact hx _ _ _ (by rw[hl];exact hp) K1
 |cons r A ih=>
  intro w e lc s done h1 hq hp K1 r1 r2 r3 U J I hE;have a8:w.length<o.gE.length:=by rw[h1];simp
  have b6:o.gE[w.length]? =some r:=by rw[h1];simp
  have a9:=fun lc k=>go.gE.at cH.2.2.1 b6 lc k;have c7:=dB (n:=w.length) (by omega);have rc:=go.gE.ge;have tc:=go.gT.ge;have rs:=go.gE.scal;have ts:=go.gT.scal;have N:=N0.kept K1 k1 k2 k3 k4;have nx:=K1.nx;have c9:=K1.mw;have b1:s.get [] bz=some (.cells [.yld n]):=(K1.get bz (.inr zl) c1).trans d5;obtain⟨av,bv,a1⟩:=N.hp;have ho:=N.o;have a0:=N.q;have c5:=N.lo;have c3:=N.lq;have c4:=N.lp;have c6:=N.lm;simp only[Obj.cells] at ho;have F:=yW jA yY zP N.m r;rw[AX] at F;have b0:(s.new (.cells [.str [],.int .i64 0,.int .i64 0,.int .i64 0,.AL,.AL])).get [] s.aL=some (.cells [.str [],.int .i64 0,.int .i64 0,.int .i64 0,.AL,.AL]):=cW;have box: ∀cs, ∃z,(s.new (.cells [.str [],.int .i64 0,.int .i64 0,.int .i64 0,.AL,.AL])).put s.aL (some (.cells cs))=z/\z.aL=s.aL+1/\z.gt<=z.aL/\(∀k,k<s.aL->z.get [] k=s.get [] k)/\z.get [] s.aL=some (.cells cs):=fun cs=>
   ⟨_,rfl,rfl,dh _ _ _ (cq c9),fun k G=>by rw[aX,bN.2 (by omega:k≠s.aL),cF,cz G],by rw[aX,bS];rfl⟩
  have b8: ∀(z:St),(∀q,dP r l=some q->an q.uP (kR o.uP w.length)=false)->z.aL=s.aL+1->z.gt<=z.aL->(∀k,k<s.aL->z.get [] k=s.get [] k)-> ∃v s1,ji Q n [.agg [.int .i64 0,.int .i64 0],.bool false] z v s1/\((P seq.length s1\/D s1)/\kV lo O s0 s1):=fun z hb zn Z R=>by
   have S:seq=done++[((0,0),false)]:=by rw[hq,apv hb]
   obtain⟨v,s1,M,K2,hv⟩:=C.step done.length ((0,0),false) z (by rw[S];simp) (C.grow _ _ _ hp fun k G=>R k (by omega)) (by omega) Z;refine⟨v,s1,M,?_,K1.trans ((kV.all R (by omega) Z).trans K2)⟩;have hl:seq.length=done.length+1:=by rw[S];simp
   rw[hl];rcases hv with⟨_,h⟩|⟨_,h⟩
   exact .inl h;exact .inr h
  cases hob:dP r l with
  |none=>
   rw[hob] at F;simp only[sF,oB] at F;obtain⟨z,hz,zn,Z,R,zk⟩:=box [.str [],.int .i64 0,.int .i64 0,.int .i64 0,.AL,.AL];obtain⟨v,s1,M,hv,K2⟩:=b8 z (fun q hq=>by rw[hob] at hq;cases hq) zn Z R;have zb:=(R bz (by omega)).trans b1;refine bG ?_;simp only[go_sem,hP,hh,seval,CF,aG,r2,U,J,I,a8,a9,a0,a1,aW,aY,F,fh,dn,b0,dp,hz];simp only[go_sem,hP,hh,seval,r3,Z,zb,aW,aY,bj,bg,aZ,bf,evc];refine zN.of M (by decide) ?_;simp only[go_sem,hP,hh,seval];exact hr _ _ _ hv K2
  |some q=>
   have gq:=hg q (tS hob).1;have a7:=gq.gE.ge;have a5:=gq.gT.ge;have a6:=gq.gE.scal;have a4:=gq.gT.scal;rw[hob] at F;simp only[kn,oB,Obj.val,Obj.cells] at F;obtain⟨z,hz,zn,Z,R,zk⟩:=box q.cells;have zb:=(R bz (by omega)).trans b1;have b2:=(R bo c5).trans ho;have c0:=(R bp c3).trans a0;simp only[Obj.cells] at hz zk;have V:=alq hP hh hH T b3 go w.length z.top;simp only[Obj.val,Obj.cells,cd] at V;cases G:an q.uP (kR o.uP w.length) with
   |false=>
    obtain⟨v,s1,M,hv,K2⟩:=b8 z (fun q' c8=>by have e:q=q':=sI (hob.symm.trans c8);rw[<-e];exact G) zn Z R;refine lk ?_;simp only[go_sem,hP,hh,seval,CF,aG,r2,U,J,I,a8,a9,a0,a1,aW,aY,F,fh,dn,b0,dp,hz,Obj.val,Obj.cells,a7,a5,a6,a4];refine iT Z ?_;simp only[go_sem,hP,hh,CE,seval,r1,zk,b2,aW,aY,rc,tc,rs,ts,T];refine kY.quiet V (by decide) (by simp[fo,pD]) ?_;simp only[go_sem,hP,hh,CE,seval,G];simp only[go_sem,hP,hh,seval,r3,zb,aW,aY,bj,bg,aZ,bf,evc];refine zN.of M (by decide) ?_;simp only[go_sem,hP,hh,seval];exact hr _ _ _ hv K2
   |true=>
    have S:seq=(done++f q)++t7 l f o.uP (w.length+1) A:=by rw[hq,apw hob G,ny]
    have Y:=Ya hP hh hH a3 b4 gq p z;obtain⟨y,M⟩:=ct ((z.new (.cells [.ptr p 0])).new (.cells q.cells));have nn:(z.new (.cells [.ptr p 0])).aL=z.aL+1:=rfl;have yn:y.aL=z.aL+2:=by rw[<-M];rfl
    have yo: ∀k,k<z.aL->y.get [] k=z.get [] k:=fun k G=>by rw[<-M,cz (by omega),cz G]
    have yq:y.get [] z.aL=some (.cells [.ptr p 0]):=by rw[<-M,cz (by omega)];exact cW
    have c2:y.get [] (z.aL+1)=some (.cells q.cells):=by rw[<-M,<-nn];exact cW
    have ym:y.gt<=y.aL:=by rw[<-M];exact cq (cq Z)
    rw[M] at Y;simp only[Obj.val,Obj.cells] at Y;refine lk ?_;simp only[go_sem,hP,hh,seval,CF,aG,r2,U,J,I,a8,a9,a0,a1,aW,aY,F,fh,dn,b0,dp,hz,Obj.val,Obj.cells,a7,a5,a6,a4];refine iT Z ?_;simp only[go_sem,hP,hh,CE,seval,r1,zk,b2,aW,aY,rc,tc,rs,ts,T];refine kY.quiet V (by decide) (by simp[fo,pD]) ?_;simp only[go_sem,hP,hh,CE,seval,G];simp only[go_sem,hP,hh,seval,r2,c0,zk,aW,aY,a7,a5,a6,a4,a3];refine cG.of Y (by decide) ?_;simp only[go_sem,hP,hh,seval];have b5: ∀(E:ax) (lc:Ag.Loc) (K':Ex->Fr->St->Prop),ac E 3= .ptr bz 0->ac E 49= .func (.func 473) [] [.ptr (z.aL+1) 0,.ptr z.aL 0]->E.all jY=true->(∀s2,P (done++f q).length s2->kV lo O s0 s2->K' .normal ⟨E,58,lc⟩ s2)->(∀s2,D s2->kV lo O s0 s2->K' .ret ⟨E,58,lc⟩ s2)->W Q 473 (.rfun (.tmp 49) [50,51] Fo Fp) ⟨E,58,lc⟩ y K':=by
     intro E lc K' e3 b7 hE k5 k6;obtain⟨u,hu⟩:=ct (y.new (JD E none));have un:u.aL=y.aL+1:=by rw[<-hu];rfl
     have uo: ∀k,k<y.aL->u.get [] k=y.get [] k:=fun k G=>by rw[<-hu,cz G]
     have ul:u.get [] y.aL=some (JD E none):=by rw[<-hu];exact cW
     have um:u.gt<=u.aL:=by rw[<-hu];exact cq ym
     have uz: ∀k,k<s.aL->u.get [] k=s.get [] k:=fun k G=>(uo k (by omega)).trans ((yo k (by omega)).trans (R k G));have CI:=ahk hP hh C (m:=y.aL) (base:=done.length) (seqI:=f q) (fun i x hx=>by
      rw[S,ny,wd (by omega),show done.length+i-done.length=i by omega];exact BA (nY.1 hx).1▸hx) e3 zl (by omega)
     have NI:z7 l p b (z.aL+1) z.aL q u:=by
      refine⟨(uo _ (by omega)).trans c2,(uo _ (by omega)).trans yq,⟨av,bv,(uz p c4).trans a1⟩,(uz b c6).trans N.m,by omega,by omega,by omega,by omega⟩
     obtain⟨v,s1,a2,rfl,K2,hv⟩:=IH w.length r q b6 hob G y.aL (y.aL+1) (z.aL+1) z.aL _ _ _ u CI (.inl (.inr ⟨by omega,by omega⟩)) (.inl (.inr ⟨by omega,by omega⟩)) (by rcases k3 with h|h;exact .inl (.inl h);exact .inl (.inr ⟨h,by omega⟩)) (by rcases k4 with h|h;exact .inl (.inl h);exact .inl (.inr ⟨h,by omega⟩)) NI (by omega) um ⟨C.grow _ _ _ hp fun k G=>uz k (by omega),ul,(uz bz (by omega)).trans b1⟩;have n2:=K2.nx;have K3: ∀o',kV lo O s0 (s1.put y.aL o'):=fun o'=>by
      refine K1.trans ⟨fun k d4 hl=>?_,by show s.aL<=s1.aL;omega,dh _ _ _ K2.mw⟩;rw[aX,bN.2 (by omega:k≠y.aL)];refine(K2.get k ?_ (by omega)).trans (uz k hl);rcases d4 with h|h
      exact .inl (.inl h);exact .inl (.inr ⟨h,by omega⟩)
     have same: ∀o' k,k<lo->(s1.put y.aL o').get [] k=s1.get [] k:=fun o' k G=>by rw[aX,bN.2 (by omega:k≠y.aL)];rfl
     rcases hv with⟨p1,m1,_⟩|⟨d1,m1⟩
     refine oS (h:=473) (first:=[]) (captured:=[.ptr (z.aL+1) 0,.ptr z.aL 0]) (v:=.tup []) (s1:=s1) (by simp only[aA,b7]) (by rw[hP,H8,WZ,hE];rfl) (by rw[hu];exact a2) m1 (k5 _ (C.grow _ _ _ ?_ (same _)) (K3 _));rw[cJ];exact p1;exact oS (h:=473) (first:=[]) (captured:=[.ptr (z.aL+1) 0,.ptr z.aL 0]) (v:=.tup []) (s1:=s1) (by simp only[aA,b7]) (by rw[hP,H8,WZ,hE];rfl) (by rw[hu];exact a2) m1 (k6 _ (C.growD _ _ d1 (same _)) (K3 _))
    refine b5 _ _ _ ?_ ?_ ?_ ?_ ?_;simp only[sN,seval,r3];simp only[sN,seval]
    ·repeat' (first|exact hE|refine aC.all_set ?_ (by first|exact rfl|exact rn))
    ·intro s2 p2 K2
     simp only[go_sem,hP,hh,seval,I,c7];refine ih (w++[r]) _ _ s2 (done++f q) (by rw[h1];simp) (by rw[S];simp) p2 K2 ?_ ?_ ?_ ?_ ?_ ?_ ?_
     all_goals first
      |(simp only[sN,seval,r1,r2,r3,U,J,sA];done)
      |(repeat' (first|exact hE|refine aC.all_set ?_ (by first|exact rfl|exact rn)))
    intro s2 d2 K2;simp only[go_sem,hP,hh,seval];exact hr _ _ _ (.inr d2) K2
end
def Ta(n:Nat):(aa.yld n).cells=[.yld n]:=rfl
def o8(k:Int):Nat:=bif an k 1 then 1 else bif an k 2||an k 3 then 2 else 3
def aeI(h:an k 1=false):o8 (kR k i)<o8 k:=by
 have A:o8 1=1:=rfl;have C:o8 2=2:=rfl;have z:o8 k=bif an k 2||an k 3 then 2 else 3:=by unfold o8;rw[h];rfl
 rw[z];unfold kR;cases w:an k 4 with
 |true=>
  have w:k=4:=by simpa[an] using w
  subst w;show o8 2<_;decide
 |false=>
  cases q:an k 5 with
  |true=>
   have q:k=5:=by simpa[an] using q
   subst q;cases i==1;show o8 2<_;decide;show o8 1<_;decide
  |false=>
   show o8 1<_;rw[A];cases an k 2||an k 3<;>decide
section
variable{Q:aH}(hP:Q.P=ae)(hh:Q.hint=ai)(hH: ∀f,Q.specH f=none)
include hP hh hH
theorem ahx(z:Q.spec 473=none)(w:Q.specW 473=none)(S:Q.spec 405=none)(M:Q.specW 405=none)(R:Q.spec 474=none)(J:Q.specW 474=none)(hg: ∀o∈l,o.Al)(a0: ∀o∈l,o.gE.length<=900000): ∀(fuel:Nat) (o:Obj),o∈l->o8 o.uP<=fuel->Lk Q l p b (tR l fuel) o:=by
 intro fuel
 induction fuel with
 |zero=>
  intro o _ hd;have:0<o8 o.uP:=by unfold o8;cases an o.uP 1<;>cases an o.uP 2||an o.uP 3<;>decide
  omega
 |succ fuel ih=>
  intro o O hd n lo bo bp Kp P D s C k1 k2 k3 k4 N a1 Z hp;have go:=hg o O;have a2:=go.gE.lenS cH;have rc:=go.gE.ge;have rn:jY o.refsV=true:=by rcases go.gE with⟨e,_⟩|⟨k,e⟩<;>rw[e]<;>rfl
  have Y:=N.lo;have a3:=N.lq;have a4:=N.lp;have a5:=N.lm;obtain⟨u,G⟩:=ct (s.new (.cells [.yld n]));have un:u.aL=s.aL+1:=by rw[<-G];rfl
  have U: ∀k,k<s.aL->u.get [] k=s.get [] k:=fun k I=>by rw[<-G,cz I]
  have uz:u.get [] s.aL=some (.cells [.yld n]):=by rw[<-G];exact cW
  have V:u.gt<=u.aL:=by rw[<-G];exact cq Z
  have K0:kV lo Kp s u:=.all U (by omega) V;have A:=(U bo Y).trans N.o;have NU:=N.kept K0 k1 k2 k3 k4;have pu:=C.grow _ _ _ hp fun k I=>U k (by omega);simp only[Obj.cells] at A;refine aq.ofWZ hP hH akT z w ?_;refine co ?_;cases h1:an o.uP 1 with
  |true=>
   have F:tR l (fuel+1) o=[((o.x,o.y),true)]:=by unfold tR;rw[h1];rfl
   rw[F] at C ⊢;obtain⟨v,s1,hy,T,hv⟩:=C.step 0 ((o.x,o.y),true) u rfl pu (by omega) V;simp only[aU] at hy;simp only[go_sem,hP,hh,seval,Tt,Ta,G,A,uz,h1,aW,aY,bj,bg,aZ,bf,evc];refine zN.of hy (by decide) ?_;simp only[go_sem,hP,hh,seval];refine⟨_,rfl,rfl,K0.trans T,?_⟩;rcases hv with⟨_,h⟩|⟨_,h⟩
   exact .inl h;exact .inr h
  |false=>
   have F:tR l (fuel+1) o=t7 l (tR l fuel) o.uP 0 o.gE:=by(conv=>lhs;unfold tR);rw[h1];rfl
   rw[F] at C ⊢;have IH: ∀(i:Nat) (r:ag) (q:Obj),o.gE[i]? =some r->dP r l=some q->an q.uP (kR o.uP i)=true->Lk Q l p b (tR l fuel) q:=fun i r q _ hq I=>by
    have I:q.uP=kR o.uP i:=by simpa[an] using I
    have:=aeI (i:=i) h1;exact ih q (tS hq).1 (by rw[I];omega)
   simp only[go_sem,hP,hh,seval,Tt,Ta,G,A,h1,aW,aY,rc,a2,bj,bg,aZ,bf,evc];refine am4 hP hh hH z w S M R J hg go (a0 o O) IH C k1 k2 k3 k4 (s0:=u) (bz:=s.aL) NU uz a1 (by omega) (by omega) ?_ ?_ o.gE [] _ _ u [] rfl rfl pu (.refl V) ?_ ?_ ?_ ?_ ?_ ?_ ?_;intro e lc s1 h T;simp only[go_sem,hP,hh,seval];exact⟨_,rfl,rfl,K0.trans T,.inl h⟩;intro e lc s1 h T;simp only[go_sem,hP,hh,seval];exact⟨_,rfl,rfl,K0.trans T,h⟩
   all_goals first
    |(simp only[sN,seval,bn];done)
    |(simp only[sN,seval,bn];rfl)
    |(repeat' (first|exact rfl|refine aC.all_set ?_ (by first|exact rfl|exact rn)))
end
noncomputable abbrev JC(E:ax)(x:Option Ex):aR:=.loop 299 E 55 [45,46] Ff Fg x
def vi(r:List Pt)(q:Pt×Bool):Bool:=q.2&& !bc (sn r q.1) 0
def qH(l:List Obj)(id area:ag):Bool:=match dP id l,vD l area with
 |some o,some r=>(tR l 3 o).all (vi r)
 |_,_=>false
variable{a:Nat}{s:St}
def ZS{w:List Obj}(A:w=l)(G:(l.map Obj.id).Nodup){s0:St}{L:List (ag×aa)}{bv:aa}(I:wz l w p a b lo s0 s L bv)(k:ag):(cI k L=none/\vD l k=none)\/ ∃v r,cI k L=some v/\vD l k=some r/\ay 2 aU v r:=by
 subst A;cases e:cI k L with
 |some v=>
  obtain⟨o,C,J,r,V,U⟩:=I.rings _ (CM e);have J:k=o.id:=J;refine .inr ⟨v,r,rfl,?_,U⟩;unfold vD;rw[J,FR G C];exact V
 |none=>
  refine .inl ⟨rfl,?_⟩;cases z:vD w k with
  |none=>rfl
  |some r=>
   exfalso;unfold vD at z;cases C:dP k w with
   |none=>rw[C] at z;cases z
   |some o=>
    rw[C] at z;have z:tY w o=some r:=z;obtain⟨S,hid⟩:=tS C;have T:k∈L.map (·.1):=by
     rw[I.ids];refine dy.2 ⟨o,DX.2 ⟨S,?_⟩,hid⟩;unfold ph;rw[z];rfl
    obtain⟨x,R,F⟩:=dy.1 T;have: ∀ {M:List (ag×aa)},x∈M->cI k M≠none:=by
     intro M
     induction M with
     |nil=>intro h;cases h
     |cons y M O=>
      intro h D;obtain⟨a,u⟩:=y;simp only[cI] at D;by_cases q:k=a;rw[iP q] at D;cases D;rw[iN q] at D;rcases fc.1 h with h|h
      subst h;exact q F.symm;exact O h D
    exact this R e
variable{m rb:Nat}{rv:aa}
section
variable{Q:aH}(hP:Q.P=ae)(hh:Q.hint=ai)
include hP hh
theorem ahj(F:Q.spec 406=some Bi){q1:Nat}{r:List Pt}(hr:ay 2 aU rv r){seq:List (Pt×Bool)}{E:ax}(e6:ac E 6= .ptr q1 0)(T:ac E 10= .ptr rb 0)(a4:q1<m)(a3:rb<m)(M:rb≠q1):
 D2 Q m (m+1) (fun k=>k<m/\k≠q1) seq (fun i s=>s.get [] m=some (JC E none)/\s.get [] q1=some (.cells [.bool false])/\s.get [] rb=some (.cells [rv])/\(seq.take i).all (vi r)=true) (fun s=>s.get [] m=some (JC E (some .ret))/\s.get [] q1=some (.cells [.bool false])/\seq.all (vi r)=false):=by
 have R:=hr.ge;refine⟨fun i x s hx ⟨O,q,hb,S⟩ a5 a0=>?_,fun i s s' ⟨O,q,hb,S⟩ I=>⟨(I m (by omega)).trans O,(I q1 (by omega)).trans q,(I rb (by omega)).trans hb,S⟩,fun s s' ⟨O,q,S⟩ I=>⟨(I m (by omega)).trans O,(I q1 (by omega)).trans q,S⟩,fun k hk=>by omega⟩;have A:Bi [rv,aU x.1]=some (cd (sn r x.1)):=by simp only[Bi,qx hr,au,wB]
 refine ji.any (ca:=NX) (cb:=Fe) O rfl rfl ajF ajG ?_;refine co ?_;obtain⟨w,Y⟩:=ct (s.put m none);have wn:w.aL=s.aL:=by rw[<-Y];rfl
 obtain⟨z,J⟩:=ct ((w.new (.cells [.int .i64 0,.int .i64 0])).put w.aL (some (.cells [.int .i64 x.1.1,.int .i64 x.1.2])));have zn:z.aL=s.aL+1:=by rw[<-J];show w.aL+1=_;omega
 have U: ∀k,k<s.aL->k≠m->z.get [] k=s.get [] k:=fun k hk M=>by rw[<-J,aX,bN.2 (by omega:k≠w.aL),cF,cz (by omega),<-Y,aX,bN.2 M];rfl
 have zw:z.gt<=z.aL:=by
  rw[<-J];refine dh _ _ _ (cq ?_);rw[<-Y];exact dh _ _ _ a0
 have zk:z.get [] w.aL=some (.cells [.int .i64 x.1.1,.int .i64 x.1.2]):=by rw[<-J,aX,bS];rfl
 have Z:z.get [] rb=some (.cells [rv]):=(U rb (by omega) (by omega)).trans hb;have V:z.get [] q1=some (.cells [.bool false]):=(U q1 (by omega) (by omega)).trans q;have a2:(w.new (.cells [.int .i64 0,.int .i64 0])).get [] w.aL=some (.cells [.int .i64 0,.int .i64 0]):=cW;have fin: ∀(u:St) (o:Option aR),(∀k,k<s.aL->k≠m->k≠q1->u.get [] k=s.get [] k)->s.aL<=u.aL->u.gt<=u.aL->kV (m+1) (fun k=>k<m/\k≠q1) s (u.put m o):=fun u o C hn a1=>by
  refine⟨fun k hk hl=>?_,hn,dh _ _ _ a1⟩;rw[aX,bN.2 (by omega:k≠m)];exact C k hl (by omega) (by omega)
 simp only[go_sem,hP,hh,seval,NX,Y,aU,dn,a2,dp,J,bj,bg,aZ,bf,evc];refine co ?_;cases hin:vi r x with
 |false=>
  have D:seq.all (vi r)=false:=by
   cases hc:seq.all (vi r) with
   |false=>rfl
   |true=>
    have:=f8.1 hc x (eP hx);rw[hin] at this;cases this
  obtain⟨u,C⟩:=ct (z.put q1 (some (.cells [.bool false])));have un:u.aL=s.aL+1:=by rw[<-C];exact zn
  have um:u.gt<=u.aL:=by rw[<-C];exact dh _ _ _ zw
  have uo: ∀k,k<s.aL->k≠m->k≠q1->u.get [] k=s.get [] k:=fun k q G h3=>by rw[<-C,aX,bN.2 h3];exact U k q G
  have u1:u.get [] q1=some (.cells [.bool false]):=by rw[<-C,aX,bS];rfl
  cases G:x.2 with
  |false=>
   simp only[go_sem,hP,hh,seval,Fe,e6,V,dn,dp,C,G,jI,jL];refine⟨fin u _ uo (by omega) um,.inr ⟨?_,?_,D⟩⟩;rw[aX,bS];rfl;rw[aX,bN.2 (by omega:q1≠m)];exact u1
  |true=>
   have hs:bc (sn r x.1) 0=true:=by
    unfold vi at hin;rw[G,eH] at hin;simpa using hin
   have h:=A;simp only[aU,cd] at h;simp only[go_sem,hP,hh,seval,Fe,e6,T,V,Z,zk,aW,aY,R,dn,dp,C,G,F,h,hs,jI,jL];refine⟨fin u _ uo (by omega) um,.inr ⟨?_,?_,D⟩⟩;rw[aX,bS];rfl;rw[aX,bN.2 (by omega:q1≠m)];exact u1
 |true=>
  unfold vi at hin;simp only[bu,nu] at hin;have h:=A;simp only[aU,cd] at h;simp only[go_sem,hP,hh,seval,Fe,e6,T,V,Z,zk,aW,aY,R,F,h,hin.1,hin.2,jI,jL];refine⟨fin z _ (fun k q G _=>U k q G) (by omega) zw,.inl ⟨?_,?_,?_,?_⟩⟩;rw[aX,bS];rfl;rw[aX,bN.2 (by omega:q1≠m)];exact V;rw[aX,bN.2 (by omega:rb≠m)];exact Z;rw[List.take_add_one,hx,List.all_append,S];simp only[Option.toList_some,ju,List.all_nil,vi,hin.1,hin.2,hG,cw]
end
def aeJ(k:Int):o8 k<=3:=by unfold o8;cases an k 1<;>cases an k 2||an k 3<;>decide
variable{area:ag}
def ahs{id:ag}(h:dP id l=none):qH l id area=false:=by unfold qH;rw[h]
def aht{id:ag}(h:vD l area=none):qH l id area=false:=by
 unfold qH;rw[h];cases dP id l<;>rfl
def ahu{id:ag}{r:List Pt}(h:dP id l=some o)(q:vD l area=some r):qH l id area=(tR l 3 o).all (vi r):=by unfold qH;rw[h,q]
variable{ov:aa}
section
variable{Q:aH}(hP:Q.P=ae)(hh:Q.hint=ai)(hH: ∀f,Q.specH f=none)
include hP hh hH
theorem ahp(d6:Q.spec 31=some jK)(c5:Q.spec 229=some qe)(a3:Q.spec 137=none)(b3:Q.specW 137=none)(c3:Q.spec 406=some Bi)(c2:Q.spec 473=none)(b0:Q.specW 473=none)(S:Q.spec 405=none)(a1:Q.specW 405=none)(c1:Q.spec 474=none)(a9:Q.specW 474=none)(c4:Q.spec 299=none)(b1:Q.specW 299=none)(ho:ay 6 Obj.val ov l)(hg: ∀o∈l,o.Al)(hl:l.length<=900000)(c0: ∀o∈l,o.gE.length<=900000)(hv:dD l=true)(id area:ag)(hm:s.gt<=s.aL):
 ∃v s',aq Q 299 [.agg [ov],.str id,.str area] s v s'/\v= .bool (qH l id area):=by
 have d4:=ho.ge;have d2:=ho.scal;have d5:=ER ho;have b8:=yK hv;obtain⟨G,O⟩:=ct ((s.new (.cells [ov])).new (.cells [.bool false]));have b4:(s.new (.cells [ov])).aL=s.aL+1:=rfl;have e0:G.aL=s.aL+2:=by rw[<-O];rfl
 have c7:G.gt<=G.aL:=by rw[<-O];exact cq (cq hm)
 have c9:G.get [] s.aL=some (.cells [ov]):=by rw[<-O,cz (by omega)];exact cW
 have c8:G.get [] (s.aL+1)=some (.cells [.bool false]):=by rw[<-O,<-b4];exact cW
 refine aq.ofWZ hP hH ajH c4 b1 ?_;refine co ?_;simp only[go_sem,hP,hh,seval,ol,d4,d2,d5,b4,O,c9,aW,aY,Ke,a3,bj,bg,aZ,bf,evc];refine cG.ex (Yp hP hh hH d6 c5 a3 b3 ho hg hl c0 hv c7) (by decide) ?_;rintro v s1 ⟨rfl,e1,L,bv,I,b6⟩;have nx:=I.nx;have D:=I.hp;have J:s1.get [] (s.aL+1)=some (.cells [.bool false]):=(I.old _ (by omega) (by omega) (by omega)).trans ((b6 _ (by omega)).trans c8);have C:=yW jA yY zP I.mb id;rw[AX] at C;have Z:(s1.new (.cells [.str [],.int .i64 0,.int .i64 0,.int .i64 0,.AL,.AL])).get [] s1.aL=some (.cells [.str [],.int .i64 0,.int .i64 0,.int .i64 0,.AL,.AL]):=cW;have box: ∀cs, ∃z,(s1.new (.cells [.str [],.int .i64 0,.int .i64 0,.int .i64 0,.AL,.AL])).put s1.aL (some (.cells cs))=z/\z.aL=s1.aL+1/\z.gt<=z.aL/\(∀k,k<s1.aL->z.get [] k=s1.get [] k)/\z.get [] s1.aL=some (.cells cs):=fun cs=>
  ⟨_,rfl,rfl,dh _ _ _ (cq I.mw),fun k R=>by rw[aX,bN.2 (by omega:k≠s1.aL),cF,cz R],by rw[aX,bS];rfl⟩
 have F: ∀(z:St) (v:aa),z.gt<=z.aL-> ∃y,(z.new (.cells [.AL])).put z.aL (some (.cells [v]))=y/\y.aL=z.aL+1/\y.gt<=y.aL/\(∀k,k<z.aL->y.get [] k=z.get [] k)/\y.get [] z.aL=some (.cells [v]):=fun z v hz=>
  ⟨_,rfl,rfl,dh _ _ _ (cq hz),fun k R=>by rw[aX,bN.2 (by omega:k≠z.aL),cF,cz R],by rw[aX,bS];rfl⟩
 have a0: ∀z:St,(z.new (.cells [.AL])).get [] z.aL=some (.cells [.AL]):=fun z=>cW;cases hob:dP id l with
 |none=>
  rw[hob] at C;simp only[sF,oB] at C;obtain⟨z,hz,zn,zm,U,zk⟩:=box [.str [],.int .i64 0,.int .i64 0,.int .i64 0,.AL,.AL];have M:=(U _ (by omega)).trans D;have a6:bR aa.str z G.aL L:=(U _ (by omega)).trans I.ma;have q:=yW jA CU GX a6 area;have A:=ahs (area:=area) hob;have e2: ∀Y b2,oB .AL (cI area L)= .tup [Y,.bool b2]->Y.cells=[Y]->Y.ge=true-> ∃w,w=oB .AL (cI area L):=fun _ _ _ _ _=>⟨_,rfl⟩;rcases ZS rfl b8 I area with⟨g1,g2⟩|⟨Y,r,g1,g2,g3⟩
  rw[g1] at q;simp only[oB] at q;obtain⟨y,hy,yn,ym,V,yk⟩:=F z .AL zm;have y1:=(V (s.aL+1) (by omega)).trans ((U _ (by omega)).trans J);simp only[go_sem,hP,hh,seval,ol,Gf,D,aW,aY,C,fh,dn,Z,dp,hz];simp only[go_sem,hP,hh,seval,ol,M,aW,aY,q,fh,Ei,dn,a0,dp,hy];simp only[go_sem,hP,hh,seval,ol,y1,aW,aY,dn,dp,aX];exact⟨_,rfl,by rw[A]⟩;rw[g1] at q;simp only[oB] at q;have a4:=g3.ge;have a5:=ER g3;obtain⟨y,hy,yn,ym,V,yk⟩:=F z Y zm;have y1:=(V (s.aL+1) (by omega)).trans ((U _ (by omega)).trans J);simp only[go_sem,hP,hh,seval,ol,Gf,D,aW,aY,C,fh,dn,Z,dp,hz];simp only[go_sem,hP,hh,seval,ol,M,aW,aY,q,fh,a4,a5,dn,a0,dp,hy];simp only[go_sem,hP,hh,seval,ol,y1,aW,aY,dn,dp,aX];exact⟨_,rfl,by rw[A]⟩
 |some o=>
  have b7:=(tS hob).1;have go:=hg o b7;have rc:=go.gE.ge;have tc:=go.gT.ge;have rs:=go.gE.scal;have ts:=go.gT.scal;rw[hob] at C;simp only[kn,oB,Obj.val,Obj.cells] at C;obtain⟨z,hz,zn,zm,U,zk⟩:=box o.cells;simp only[Obj.cells] at hz zk;have M:=(U _ (by omega)).trans D;have a6:bR aa.str z G.aL L:=(U _ (by omega)).trans I.ma;have q:=yW jA CU GX a6 area;rcases ZS rfl b8 I area with⟨g1,g2⟩|⟨Y,r,g1,g2,g3⟩
  have A:=aht (id:=id) g2;rw[g1] at q;simp only[oB] at q;obtain⟨y,hy,yn,ym,V,yk⟩:=F z .AL zm;have y1:=(V (s.aL+1) (by omega)).trans ((U _ (by omega)).trans J);simp only[go_sem,hP,hh,seval,ol,Gf,D,aW,aY,C,fh,rc,tc,rs,ts,dn,Z,dp,hz];simp only[go_sem,hP,hh,seval,ol,M,aW,aY,q,fh,Ei,dn,a0,dp,hy];simp only[go_sem,hP,hh,seval,ol,y1,aW,aY,dn,dp,aX];exact⟨_,rfl,by rw[A]⟩
  ·have A:=ahu hob g2
   rw[g1] at q;simp only[oB] at q;have a4:=g3.ge;have a5:=ER g3;obtain⟨y,hy,yn,ym,V,yk⟩:=F z Y zm;have y1:=(V (s.aL+1) (by omega)).trans ((U _ (by omega)).trans J);have yz:=(V s1.aL (by omega)).trans zk;have T:=Ya hP hh hH S a1 go (G.aL+2) y;obtain⟨x,hx⟩:=ct ((y.new (.cells [.ptr (G.aL+2) 0])).new (.cells o.cells));have d1:(y.new (.cells [.ptr (G.aL+2) 0])).aL=y.aL+1:=rfl;have xn:x.aL=y.aL+2:=by rw[<-hx];rfl
   have xo: ∀k,k<y.aL->x.get [] k=y.get [] k:=fun k R=>by rw[<-hx,cz (by omega),cz R]
   have xq:x.get [] y.aL=some (.cells [.ptr (G.aL+2) 0]):=by rw[<-hx,cz (by omega)];exact cW
   have d0:x.get [] (y.aL+1)=some (.cells o.cells):=by rw[<-hx,<-d1];exact cW
   have xm:x.gt<=x.aL:=by rw[<-hx];exact cq (cq ym)
   rw[hx] at T;simp only[Obj.val,Obj.cells] at T;simp only[go_sem,hP,hh,seval,ol,Gf,D,aW,aY,C,fh,rc,tc,rs,ts,dn,Z,dp,hz];simp only[go_sem,hP,hh,seval,ol,M,aW,aY,q,fh,a4,a5,dn,a0,dp,hy];simp only[go_sem,hP,hh,seval,ol,yz,aW,aY,rc,tc,rs,ts,S];refine cG.of T (by decide) ?_;simp only[go_sem,hP,hh,seval,ol];have b5: ∀(E:ax) (lc:Ag.Loc) (K':Ex->Fr->St->Prop),ac E 6= .ptr (s.aL+1) 0->ac E 10= .ptr z.aL 0->ac E 44= .func (.func 473) [] [.ptr (y.aL+1) 0,.ptr y.aL 0]->E.all jY=true->(∀s2,qH l id area=true->s2.get [] (s.aL+1)=some (.cells [.bool false])->K' .normal ⟨E,55,lc⟩ s2)->(∀s2,qH l id area=false->s2.get [] (s.aL+1)=some (.cells [.bool false])->K' .ret ⟨E,55,lc⟩ s2)->W Q 299 (.rfun (.tmp 44) [45,46] Ff Fg) ⟨E,55,lc⟩ x K':=by
    intro E lc K' e6 d7 c6 hE k5 k6;obtain⟨u,hu⟩:=ct (x.new (JC E none));have un:u.aL=x.aL+1:=by rw[<-hu];rfl
    have uo: ∀k,k<x.aL->u.get [] k=x.get [] k:=fun k R=>by rw[<-hu,cz R]
    have ul:u.get [] x.aL=some (JC E none):=by rw[<-hu];exact cW
    have um:u.gt<=u.aL:=by rw[<-hu];exact cq xm
    have uz: ∀k,k<y.aL->u.get [] k=y.get [] k:=fun k R=>(uo k (by omega)).trans (xo k R);have us: ∀k,k<s1.aL->u.get [] k=s1.get [] k:=fun k R=>(uz k (by omega)).trans ((V k (by omega)).trans (U k R));have CI:=ahj hP hh c3 (m:=x.aL) (q1:=s.aL+1) (rb:=z.aL) g3 (seq:=tR l 3 o) e6 d7 (by omega) (by omega) (by omega);have NI:z7 l (G.aL+2) (G.aL+1) (y.aL+1) y.aL o u:=by
     refine⟨(uo _ (by omega)).trans d0,(uo _ (by omega)).trans xq,⟨_,bv,(us _ (by omega)).trans D⟩,(us _ (by omega)).trans I.mb,by omega,by omega,by omega,by omega⟩
    obtain⟨v,s3,a2,rfl,K2,hv⟩:=ahx hP hh hH c2 b0 S a1 c1 a9 hg c0 3 o b7 (aeJ _) x.aL (x.aL+1) (y.aL+1) y.aL _ _ _ u CI (.inl ⟨by omega,by omega⟩) (.inl ⟨by omega,by omega⟩) (.inl ⟨by omega,by omega⟩) (.inl ⟨by omega,by omega⟩) NI (by omega) um ⟨ul,(us _ (by omega)).trans J,(uz _ (by omega)).trans yk,rfl⟩;rcases hv with⟨m1,p1,_,ha⟩|⟨m1,p1,ha⟩
    refine oS (h:=473) (first:=[]) (captured:=[.ptr (y.aL+1) 0,.ptr y.aL 0]) (v:=.tup []) (s1:=s3) (by simp only[aA,c6]) (by rw[hP,H8,Wg,hE];rfl) (by rw[hu];exact a2) m1 (k5 _ ?_ ?_);rw[A,<-ha,List.take_of_length_le (br _)];rw[aX,bN.2 (by omega:s.aL+1≠x.aL)];exact p1;refine oS (h:=473) (first:=[]) (captured:=[.ptr (y.aL+1) 0,.ptr y.aL 0]) (v:=.tup []) (s1:=s3) (by simp only[aA,c6]) (by rw[hP,H8,Wg,hE];rfl) (by rw[hu];exact a2) m1 (k6 _ ?_ ?_);rw[A,ha];rw[aX,bN.2 (by omega:s.aL+1≠x.aL)];exact p1
   have rn:jY Y=true:=by rcases g3 with⟨e,_⟩|⟨k,e⟩<;>rw[e]<;>rfl
   refine b5 _ _ _ ?_ ?_ ?_ ?_ ?_ ?_;simp only[sN,seval];simp only[sN,seval];simp only[sN,seval]
   ·repeat' (first|exact rfl|refine aC.all_set ?_ (by first|exact rfl|exact rn))
   intro s2 a7 a8;simp only[go_sem,hP,hh,seval,ol,a8,aW,aY,dn,dp,aX];exact⟨_,rfl,by rw[a7]⟩;intro s2 a7 a8;simp only[go_sem,hP,hh,seval,ol,a8,aW,aY];exact⟨_,rfl,by rw[a7]⟩
end
def RD:dX:=[(31,jK),(229,qe),(406,Bi)]
def ab3:dR RD:=.cons xd (.cons Kz (.cons aqy .nil))
def tD:Sp
 | [v,.str id,.str area]=>(lz v).bind fun l=>bif mU l then some (.bool (qH l id area)) else none
 |_=>none
def ahr:db ae 299 tD:=by
 intro args u q G h w xs J O;unfold tD at q;split at q;rename_i U id area;simp only[ak] at q;obtain⟨l,F,q⟩:=q;obtain⟨A,q⟩:=bh q;have q:=sI q;subst q;obtain⟨v,rfl,F,I,Y⟩:=rk F;obtain⟨R,M,C,D⟩:=qQ F I;have C:en [.agg [v],.str id,.str area]=[.agg [M],.str id,.str area]:=by simp only[en,C];rfl
 have A:=pf.1 A;refine j9 ab3 (W:=[]) .nil (args:=[.agg [v],.str id,.str area]) (by show(d8 (.agg [v])&&_)=true;rw[R];rfl) (fun T=>?_) G h w xs J O;rw[C];obtain⟨v,V,z,rfl⟩:=ahp (Q:=QW RD [] T) rfl rfl (fun _=>rfl) rfl rfl rfl rfl rfl rfl rfl rfl rfl rfl rfl rfl rfl D I (by have:=A.len;omega) (fun o S=>by have:=A.gE o S;omega) A.valid id area (s:=s0) (by decide);exact⟨_,_,z,1,rfl⟩;cases q
def mo(l:List Obj)(x:aI)(o:Obj):Bool:=Mv x o&&(!vk x o&&((x.area== [])||qH l o.id x.area))
def cA(x:aI)(o:Obj):Bool:= !(an x.uP 0)&& !(an x.uP o.uP)
def cB(x:aI)(o:Obj):Bool:= !(x.ifK== [])&& !(dM x.ifK o.gT==some x.ifV)
def aet(x:aI)(o:Obj):Mv x o=(!cA x o&& !cB x o):=by
 unfold Mv cA cB;cases an x.uP 0<;>cases an x.uP o.uP<;>cases x.ifK== []<;>cases dM x.ifK o.gT==some x.ifV<;>rfl
variable{v:aa}
def ahq(h:ay 6 Obj.val v l)(A: ∀o∈l,o.Al)(q:mU l=true)(id area:ag):tD [.agg [v],.str id,.str area]=some (.bool (qH l id area)):=by
 have z:l.length<small:=by
  have:=(pf.1 q).len;have w:=ajJ;omega
 simp only[adz,tD,uQ h A z,q]
def UY(g:Option ag): ∃v b,yI g= .tup [.str v,.bool b]/\((∃w,g=some w/\v=w/\b=true)\/(g=none/\v=[]/\b=false)):=by
 cases g with
 |none=>exact⟨_,_,rfl,.inr ⟨rfl,rfl,rfl⟩⟩
 |some v=>exact⟨_,_,rfl,.inl ⟨v,rfl,rfl,rfl⟩⟩
def aqS(a b:ag):(some a==some b)=(a==b):=rfl
variable{lc:Ag.Loc}{N:Fr->St->Prop}{mb xb:Nat}{e:ax}
section
variable{Q:aH}(hP:Q.P=ae)(hh:Q.hint=ai)(hH: ∀f,Q.specH f=none)
include hP hh
theorem apk{x:aI}(q:ac e 1= .ptr xb 0)(A:ac e 3= .Ge 3 1 0)(C:lc.get 3 1=some o.cells)(g3:lc.gen 3=1)(w:s.get [] xb=some (.cells x.cells))(z: ∀h,ac h 19= .bool (cA x o)->ac h 1= .ptr xb 0->ac h 2=ac e 2->ac h 3= .Ge 3 1 0->N ⟨h,84,lc⟩ s):WV Q 298 ajC ⟨e,84,lc⟩ s N:=by
 unfold cA at z;simp only[aI.cells] at w;simp only[Obj.cells] at C;cases hz:an x.uP 0 with
 |true=>
  simp only[go_sem,hP,hh,seval,ajC,Wf,ajD,q,w,aW,aY,hz];refine z _ ?_ ?_ ?_ ?_
  all_goals simp only[sN,seval,q,A,hz,fp,dW]
 |false=>
  simp only[go_sem,hP,hh,seval,ajC,Wf,ajD,q,A,C,g3,w,aW,aY,hz];refine z _ ?_ ?_ ?_ ?_
  all_goals simp only[sN,seval,q,A,hz,hG,eH]
theorem apm{x:aI}(h:ac e 1= .ptr xb 0)(G:ac e 3= .Ge 3 1 0)(D:(∃v,dM x.ifK o.gT=some v/\ac e 5= .str v/\ac e 6= .bool true)\/(dM x.ifK o.gT=none/\ac e 5= .str []/\ac e 6= .bool false))(w:s.get [] xb=some (.cells x.cells))(z: ∀q,ac q 43= .bool (cB x o)->ac q 1= .ptr xb 0->ac q 2=ac e 2->ac q 3= .Ge 3 1 0->N ⟨q,84,lc⟩ s):WV Q 298 ajD ⟨e,84,lc⟩ s N:=by
 unfold cB at z;simp only[aI.cells] at w;cases hz:x.ifK== [] with
 |true=>
  simp only[go_sem,hP,hh,seval,ajC,Wf,ajD,h,w,aW,aY,hz];refine z _ ?_ ?_ ?_ ?_
  all_goals simp only[sN,seval,h,G,hz,fp,dW]
 |false=>
  rcases D with⟨v,A,F,C⟩|⟨A,F,C⟩
  ·simp only[go_sem,hP,hh,seval,ajC,Wf,ajD,h,F,C,w,aW,aY,hz]
   refine z _ ?_ ?_ ?_ ?_
   all_goals simp only[sN,seval,h,G,hz,A,aqS,hG,eH]
  ·simp only[go_sem,hP,hh,seval,ajC,Wf,ajD,h,F,C,w,aW,aY,hz]
   refine z _ ?_ ?_ ?_ ?_
   all_goals simp only[sN,seval,h,G,hz,A,hG,eH]
   all_goals rfl
theorem apl(h:Q.spec 299=some tD)(F:ay 6 Obj.val ov l)(M: ∀o∈l,o.Al)(O:mU l=true){x:aI}{k:Bool}(G:ac e 1= .ptr xb 0)(S:ac e 2= .ptr mb 0)(R:ac e 3= .Ge 3 1 0)(D:lc.get 3 1=some o.cells)(g3:lc.gen 3=1)(C:ac e 9= .bool k)(w:s.get [] xb=some (.cells x.cells))(J:s.get [] mb=some (.cells [ov]))(A: ∀I,ac I 4= .bool (!k&&((x.area== [])||qH l o.id x.area))->N ⟨I,84,lc⟩ s):WV Q 298 Wf ⟨e,84,lc⟩ s N:=by
 simp only[aI.cells] at w;simp only[Obj.cells] at D;have z:=F.ge;have q:=ahq F M O o.id x.area;cases k with
 |true=>
  simp only[go_sem,hP,hh,seval,ajC,Wf,ajD,C];refine A _ ?_;simp only[aj,ah,cT,fp,dW]
 |false=>
  cases hz:x.area== [] with
  |true=>
   simp only[go_sem,hP,hh,seval,ajC,Wf,ajD,G,C,w,aW,aY,hz];refine A _ ?_;simp only[aj,ah,cT,hz,hG,eH,iR]
  |false=>
   simp only[go_sem,hP,hh,seval,ajC,Wf,ajD,G,S,R,D,g3,C,w,J,aW,aY,Ke,hz,z,h,q];refine A _ ?_;simp only[aj,ah,cT,hz,hG,eH,kg]
variable(hH: ∀f,Q.specH f=none)
include hH
theorem adq(h:Q.spec 214=some mV)(a6:Q.spec 130=some pP)(a4:Q.spec 299=some tD)(a5:Q.spec 298=none)(V:Q.specW 298=none)(ho:ay 6 Obj.val ov l)(hg: ∀o∈l,o.Al)(hf:mU l=true){x:aI}(ok:x.Ok)(go:o.Al)(ht:o.gT.length<=1000000)(hx:s.get [] xb=some (.cells x.cells))(hm:s.get [] mb=some (.cells [ov])):aq Q 298 [o.val,.ptr xb 0,.ptr mb 0] s (.bool (mo l x o)) s:=by
 have rc:=go.gE.ge;have T:=go.gT.ge;have rs:=go.gE.scal;have ts:=go.gT.scal;have vc:=ok.vals.ge;have q1:=M3 go.gT ht x.ifK;have Y:=M3 go.gT ht x.key;have O:=aet x o;have l1:Ag.Loc.get (Ag.Loc.set [] 3 1 o.cells) 3 1=some o.cells:=rfl;have J:Ag.Loc.gen (Ag.Loc.set [] 3 1 o.cells) 3=1:=rfl;obtain⟨lc,M⟩:=ct (Ag.Loc.set [] 3 1 o.cells);rw[M] at l1 J;have z:=l1;simp only[Obj.cells] at M z;have A:=hx;simp only[aI.cells] at A;refine aq.ofZ hP hH ajB a5 V rfl ?_;refine co ?_;simp only[go_sem,hP,hh,seval,Obj.val,Obj.cells,rc,T,rs,ts,M];refine apk hP hh (x:=x) (o:=o) ?_ ?_ l1 J hx ?_;simp only[sN,seval];simp only[sN,seval];intro R I a1 a2 a3;simp only[sN,seval] at a2;cases bA:cA x o with
 |true=>
  have hb:mo l x o=false:=by unfold mo;rw[O,bA];rfl
  rw[bA] at I;simp only[go_sem,hP,hh,seval,I,hb]
 |false=>
  rw[bA] at I;obtain⟨v5,b6,a8,a9⟩:=UY (dM x.ifK o.gT);rw[a8] at q1;simp only[go_sem,hP,hh,seval,I,a1,a3,z,J,A,aW,aY,T,h,q1,fh,iw,jO];refine apm hP hh (x:=x) (o:=o) ?_ ?_ ?_ hx ?_;simp only[sN,seval,a1];simp only[sN,seval,a3];rcases a9 with⟨w,R,rfl,rfl⟩|⟨R,rfl,rfl⟩
  exact .inl ⟨_,R,by simp only[sN,seval],by simp only[sN,seval]⟩;exact .inr ⟨R,by simp only[sN,seval],by simp only[sN,seval]⟩;intro e2 q D S C;simp only[sN,seval,a2] at S;cases bB:cB x o with
  |true=>
   have hb:mo l x o=false:=by unfold mo;rw[O,bB,fp,gN];rfl
   rw[bB] at q;simp only[go_sem,hP,hh,seval,q,hb]
  |false=>
   rw[bB] at q;have fin: ∀U,ac U 1= .ptr xb 0->ac U 2= .ptr mb 0->ac U 3= .Ge 3 1 0-> ∀k,k=vk x o->ac U 9= .bool k-> ∀N:Fr->St->Prop,(∀e2,ac e2 4= .bool (mo l x o)->N ⟨e2,84,lc⟩ s)->WV Q 298 Wf ⟨U,84,lc⟩ s N:=fun U D S C k F c9 N hN=>by
    refine apl hP hh a4 ho hg hf D S C l1 J c9 hx hm fun e2 G=>hN e2 ?_;rw[G,F];unfold mo;rw[O,bA,bB];rfl
   obtain⟨v7,b8,a7,a0⟩:=UY (dM x.key o.gT);rw[a7] at Y;have Z:(dM x.key o.gT).isNone= !b8/\(dM x.key o.gT).isSome=b8:=by
    rcases a0 with⟨w,R,rfl,rfl⟩|⟨R,rfl,rfl⟩<;>rw[R]<;>exact⟨rfl,rfl⟩
   cases e3:an x.op 3 with
   |true=>
    have F:(!b8)=vk x o:=by unfold vk;rw[e3,cT,Z.1]
    simp only[go_sem,hP,hh,seval,q,D,C,z,J,A,aW,aY,T,h,Y,fh,e3,iw,jO];refine fin _ ?_ ?_ ?_ _ F ?_ _ ?_
    any_goals simp only[sN,seval,D,S,C]
    intro e4 G;simp only[go_sem,hP,hh,seval,G]
   |false=>
    cases e2':an x.op 2 with
    |false=>
     have F:b8=vk x o:=by unfold vk;rw[e3,e2',cF,cF,Z.2]
     simp only[go_sem,hP,hh,seval,q,D,C,z,J,A,aW,aY,T,h,Y,fh,e3,e2',iw,jO];refine fin _ ?_ ?_ ?_ _ F ?_ _ ?_
     any_goals simp only[sN,seval,D,S,C]
     intro e4 G;simp only[go_sem,hP,hh,seval,G]
    |true=>
     rcases a0 with⟨w,f1,rfl,rfl⟩|⟨f1,rfl,rfl⟩
     ·have F:x.values.contains v7=vk x o:=by unfold vk;rw[e3,e2',cF,cT,f1]
      have q3:=Mu ok.vals ok.len v7;simp only[go_sem,hP,hh,seval,q,D,C,z,J,A,aW,aY,T,vc,h,Y,fh,e3,e2',a6,q3,iw,jO];refine fin _ ?_ ?_ ?_ _ F ?_ _ ?_
      any_goals simp only[sN,seval,D,S,C]
      intro e4 G;simp only[go_sem,hP,hh,seval,G]
     ·have F:true=vk x o:=by unfold vk;rw[e3,e2',cF,cT,f1]
      simp only[go_sem,hP,hh,seval,q,D,C,z,J,A,aW,aY,T,h,Y,fh,e3,e2',iw,jO];refine fin _ ?_ ?_ ?_ _ F ?_ _ ?_
      any_goals simp only[sN,seval,D,S,C]
      intro e4 G;simp only[go_sem,hP,hh,seval,G]
end
def pd(f:Nat×ag):aa:=.agg [.int .i64 (f.1:Nat),.str f.2]
def HV(l:List Obj)(k:Nat)(x:aI):List (Nat×ag):=(l.filter (mo l x)).map fun o=>(k,o.id)
def pR(l:List Obj):Nat->List aI->List (Nat×ag)
 |_,[]=>[]
 |k,x::r=>HV l k x++pR l (k+1) r
def MM(l:List Obj): ∀(r:List aI) (k:Nat),(pR l k r).length<=r.length*l.length
 | [],_=>ki _
 |x::r,k=>by
  have:=MM l r (k+1);have h:=kT (mo l x) l;simp only[pR,HV,cJ,ce,bH,mJ];omega
section
variable{Q:aH}(hP:Q.P=ae)(hh:Q.hint=ai)(hH: ∀f,Q.specH f=none)
include hP hh hH
theorem adp(q:Q.spec 217=none)(h:Q.specW 217=none)(C:ay 6 Obj.val ov l){x:aI}(A:x.Ok)(s:St):aq Q 217 [.agg [ov],x.val] s (.func (.func 298) [] [.ptr (s.aL+1) 0,.ptr s.aL 0]) ((s.new (.cells [ov])).new (.cells x.cells)):=by
 have z:=C.ge;have w:=C.scal;have D:=A.vals.ge;have vs:=A.vals.scal;have F:(s.new (.cells [ov])).aL=s.aL+1:=rfl;refine aq.ofZ hP hH aiB q h rfl ?_;refine co ?_;simp only[go_sem,hP,hh,seval,z,w,aI.val,aI.cells,D,vs,F,bj,bg,aZ,bf,evc]
theorem afT(b2:Q.spec 214=some mV)(b3:Q.spec 130=some pP)(b1:Q.spec 299=some tD)(R:Q.spec 298=none)(U:Q.specW 298=none)(ho:ay 6 Obj.val ov l)(hg: ∀o∈l,o.Al)(hf:mU l=true)(ht: ∀o∈l,o.gT.length<=1000000){x:aI}(ok:x.Ok){k nr:Nat}{bse:List (Nat×ag)}(c3:bse.length+l.length<=900000){s0:St}(Y:s0.get [] xb=some (.cells x.cells))(a8:s0.get [] mb=some (.cells [ov]))(xl:xb<s0.aL)(ml:mb<s0.aL)(hx: ∀e lc s C,cR 2 lo s C ((bse++HV l k x).map pd)->oV s0 s->lo<=s.aL->(∀k,k<lo->s.get [] k=s0.get [] k)->ac e 1=rv->ac e 2= .Ge 2 1 0->lc.get 2 1=some [ov]->lc.gen 2=1->ac e 5=C->ac e 19=rv->ac e 20= .int .i64 (nr:Nat)->ac e 21= .int .i64 (k:Nat)->K (.exit 2) ⟨e,49,lc⟩ s):
 ∀(q h:List Obj) (e:ax) (lc:Ag.Loc) (s:St) (C:aa),l=h++q->cR 2 lo s C ((bse++(h.filter (mo l x)).map fun o=>(k,o.id)).map pd)->oV s0 s->lo<=s.aL->(∀k,k<lo->s.get [] k=s0.get [] k)->ac e 1=rv->ac e 2= .Ge 2 1 0->lc.get 2 1=some [ov]->lc.gen 2=1->ac e 5=C->ac e 6= .int .i64 (k:Nat)->ac e 8= .func (.func 298) [] [.ptr xb 0,.ptr mb 0]->ac e 19=rv->ac e 20= .int .i64 (nr:Nat)->ac e 21= .int .i64 (k:Nat)->ac e 30=ov->ac e 31= .int .i64 (l.length:Nat)->ac e 32= .int .i64 (h.length:Nat)->W Q 124 (.loop Nn) ⟨e,49,lc⟩ s K:=by
 intro q
 induction q with
 |nil=>
  intro h e lc s C S T A D F r1 r2 l2 g2 h5 h6 h8 M J I G z w;have c0:h.length=l.length:=by rw[S];simp
  have b6:h=l:=by rw[S];simp
  refine bG ?_;simp only[go_sem,hP,hh,seval,Nn,z,w,c0,cD];rw[b6] at T;refine hx _ _ _ C T A D F ?_ ?_ l2 g2 ?_ ?_ ?_ ?_
  all_goals simp only[sN,seval,r1,r2,h5,M,J,I]
 |cons o q ih=>
  intro h e lc s C S T A D F r1 r2 l2 g2 h5 h6 h8 M J I G z w;have b8:h.length<l.length:=by rw[S];simp
  have b0:l[h.length]? =some o:=by rw[S];simp
  have a0:=eP b0;have go:=hg o a0;have rc:=go.gE.ge;have tc:=go.gT.ge;have rs:=go.gE.scal;have ts:=go.gT.scal;have c1:=fun lc k=>ho.at gX.2.2.1 b0 lc k;have c2:l.length<=900:=(pf.1 hf).len;have Z:=dB (n:=h.length) (by omega);have b5:=(A.old xb xl (by rw[Y];simp)).trans Y;have b7:=(A.old mb ml (by rw[a8];simp)).trans a8;have O:=adq hP hh hH b2 b3 b1 R U ho hg hf ok go (ht o a0) (s:=s) b5 b7;simp only[Obj.val,Obj.cells] at O;have V:=T.ge;have a9:(bse++(h.filter (mo l x)).map fun o=>(k,o.id)).length<=900000:=by
   rw[cJ,ce]
   have:=kT (mo l x) h;omega
  refine bG ?_;simp only[go_sem,hP,hh,seval,Nn,h8,G,z,w,b8,c1,Obj.val,Obj.cells,rc,tc,rs,ts,R];refine cG.of O (by decide) ?_;cases hb:mo l x o with
  |false=>
   simp only[go_sem,hP,hh,seval,w,Z];refine ih (h++[o]) _ _ s C (by rw[S];simp) (by rw[o9 hb];exact T) A D F ?_ ?_ ?_ ?_ ?_ ?_ ?_ ?_ ?_ ?_ ?_ ?_ ?_
   all_goals simp only[sL,seval,r1,r2,l2,g2,h5,h6,h8,M,J,I,G,z,sA]
  |true=>
   obtain⟨b4,s1,a1,a2,a3,a4,a5,a6,a7⟩:=BL (t:=184) P7.1 rfl (by decide) (s:=s) (y:=.list 2 [pd (k,o.id)] .GE) (x:=pd (k,o.id)) T (by simp only[afo,eE]) (by rw[ce];exact a9) D A.mw;simp only[pd] at a1;simp only[go_sem,hP,hh,seval,h5,h6,V,bj,bg,aZ,bf,evc];simp only[go_sem,hP,hh,seval,h5,w,Z,V,a1,a3,bj,bg,aZ,bf,evc];refine ih (h++[o]) _ _ s1 b4 (by rw[S];simp) (by
    have e:(bse++((h++[o]).filter (mo l x)).map fun o=>(k,o.id)).map pd=(bse++(h.filter (mo l x)).map fun o=>(k,o.id)).map pd++[pd (k,o.id)]:=by rw[tm hb];simp
    rw[e];exact a2) (A.app a4 a5 a6) (by omega) (fun k A=>(a7 k A).trans (F k A)) ?_ ?_ ?_ ?_ ?_ ?_ ?_ ?_ ?_ ?_ ?_ ?_ ?_
   all_goals simp only[sL,seval,r1,r2,l2,g2,h6,h8,M,J,I,G,z,sA]
theorem af9(a3:Q.spec 214=some mV)(a4:Q.spec 130=some pP)(a1:Q.spec 299=some tD)(a2:Q.spec 298=none)(T:Q.specW 298=none)(J:Q.spec 217=none)(U:Q.specW 217=none)(ho:ay 6 Obj.val ov l)(hg: ∀o∈l,o.Al)(hf:mU l=true)(ht: ∀o∈l,o.gT.length<=1000000){rl:List aI}(a8:ay 8 aI.val rv rl)(ok: ∀x∈rl,x.Ok)(a7:rl.length<=200){s9:St}(hx: ∀e lc s D,cR 2 lo s D ((pR l 0 rl).map pd)->s.gt<=s.aL->lo<=s.aL->(∀k,k<lo->s.get [] k=s9.get [] k)->ac e 5=D->K (.exit 0) ⟨e,49,lc⟩ s):
 ∀(A q:List aI) (e:ax) (lc:Ag.Loc) (s:St) (D:aa) (w:List (Nat×ag)),rl=q++A->w++pR l q.length A=pR l 0 rl->cR 2 lo s D (w.map pd)->lo<=s.aL->s.gt<=s.aL->(∀k,k<lo->s.get [] k=s9.get [] k)->ac e 1=rv->ac e 2= .Ge 2 1 0->lc.get 2 1=some [ov]->lc.gen 2=1->ac e 5=D->ac e 19=rv->ac e 20= .int .i64 (rl.length:Nat)->ac e 21= .int .i64 (q.length:Nat)->W Q 124 (.loop Np) ⟨e,49,lc⟩ s K:=by
 have b2:l.length<=900:=(pf.1 hf).len;have c9:(pR l 0 rl).length<=200*900:=fA (MM l rl 0) (rf a7 b2);have Z:=ho.ge;have b1:=ho.lenS gX;intro A
 induction A with
 |nil=>
  intro q e lc s D w h1 S hO Y M h9 r1 r2 l2 g2 h5 O I G;have b3:q.length=rl.length:=by rw[h1];simp
  refine bG ?_;simp only[go_sem,hP,hh,seval,Np,I,G,b3,cD];have S:w=pR l 0 rl:=by rw[<-S];exact(kC w).symm
  subst S;exact hx _ _ _ D hO M Y h9 (by simp only[sN,seval,h5])
 |cons x A ih=>
  intro q e lc s D w h1 S hO Y M h9 r1 r2 l2 g2 h5 O I G;have b0:q.length<rl.length:=by rw[h1];simp
  have a0:rl[q.length]? =some x:=by rw[h1];simp
  have F:=ok x (eP a0);have vc:=F.vals.ge;have vs:=F.vals.scal;have b5:=fun lc k=>a8.at t9.2.2.1 a0 lc k;have a6:=dB (n:=q.length) (by omega);have b6:w.length+l.length<=900000:=by
   have:=congrArg List.length S;rw[cJ] at this;omega
  have C:=adp hP hh hH J U ho F s;obtain⟨z,R⟩:=ct ((s.new (.cells [ov])).new (.cells x.cells));have nn:(s.new (.cells [ov])).aL=s.aL+1:=rfl;have zn:z.aL=s.aL+2:=by rw[<-R];rfl
  have zo: ∀k,k<s.aL->z.get [] k=s.get [] k:=fun k hk=>by rw[<-R,cz (by omega),cz hk]
  have zm:z.gt<=z.aL:=by rw[<-R];exact cq (cq M)
  have z0:z.get [] s.aL=some (.cells [ov]):=by rw[<-R,cz (by omega)];exact cW
  have z1:z.get [] (s.aL+1)=some (.cells x.cells):=by rw[<-R,<-nn];exact cW
  rw[R] at C;simp only[aI.val,aI.cells] at C;have b8:cR 2 lo z D ((w++(([]:List Obj).filter (mo l x)).map fun o=>(q.length,o.id)).map pd):=by
   have e:(w++(([]:List Obj).filter (mo l x)).map fun o=>(q.length,o.id))=w:=by simp
   rw[e];rcases hO with h|⟨q1,k,q2,q3,q4,q5⟩
   exact .inl h;exact .inr ⟨q1,k,q2,(zo k q5).trans q3,q4,by omega⟩
  refine bG ?_;simp only[go_sem,hP,hh,seval,Np,r2,l2,g2,O,I,G,b0,b5,aI.val,aI.cells,vc,vs,Z,J];refine cG.of C (by decide) ?_;simp only[go_sem,hP,hh,seval,r2,l2,g2,b1,Z];refine afT hP hh hH a3 a4 a1 a2 T ho hg hf ht F (rv:=rv) (xb:=s.aL+1) (mb:=s.aL) (lo:=lo) (k:=q.length) (nr:=rl.length) (bse:=w) b6 (s0:=z) z1 z0 (by omega) (by omega) ?_ l [] _ _ z D rfl b8 (.refl zm) (by omega) (fun _ _=>rfl) ?_ ?_ ?_ ?_ ?_ ?_ ?_ ?_ ?_ ?_ ?_ ?_ ?_
  ·intro e1 c8 s1 a5 b7 b4 V a9 c1 c2 c0 c3 c5 c7 c6 c4
   simp only[go_sem,hP,hh,seval,c4,a6];refine ih (q++[x]) _ _ s1 a5 (w++HV l q.length x) (by rw[h1];simp) ?_ b7 V b4.mw (fun k hk=>(a9 k hk).trans ((zo k (by omega)).trans (h9 k hk))) ?_ ?_ ?_ ?_ ?_ ?_ ?_ ?_;rw[<-S,ny,cJ];rfl
   all_goals simp only[sL,seval,c1,c2,c0,c3,c5,c7,c6,sA]
  all_goals simp only[sL,seval,r1,r2,l2,g2,h5,O,I,G,bn]
  all_goals rfl
theorem afK(q:Q.spec 216=some Bh)(a4:Q.spec 31=some jK)(R:Q.spec 214=some mV)(S:Q.spec 130=some pP)(J:Q.spec 299=some tD)(M:Q.spec 298=none)(w:Q.specW 298=none)(O:Q.spec 217=none)(z:Q.specW 217=none)(T:Q.spec 124=none)(A:Q.specW 124=none)(G:ay 6 Obj.val ov l)(hg: ∀o∈l,o.Al)(hf:mU l=true)(ht: ∀o∈l,o.gT.length<=1000000){rl:List aI}(h:ay 8 aI.val rv rl)(ok: ∀x∈rl,x.Ok)(Z:rl.length<=1000000)(hm:s.gt<=s.aL):
 ∃v C,aq Q 124 [.agg [ov],rv] s v C/\(ay 2 pd v (bif oH rl then pR l 0 rl else [])/\C.gt<=C.aL/\s.aL<=C.aL/\ ∀k,k<s.aL->C.get [] k=s.get [] k):=by
 have a5:=ajJ;have a6:l.length<=900:=(pf.1 hf).len;have hv:dD l=true:=(pf.1 hf).valid;have I:=G.ge;have F:=G.scal;have a7:=ER G;have D:=h.ge;have Y:=h.lenS t9;have U:=ap9 h ok Z;have q2:=A0 G hg (by omega);rw[hv] at q2;refine aq.ofWZ hP hH ahB T A ?_;refine co ?_;cases hr:oH rl with
 |false=>
  rw[hr] at U;simp only[go_sem,hP,hh,seval,I,F,D,q,U];exact⟨_,rfl,.inl ⟨rfl,rfl⟩,hm,fun _ _=>trivial⟩
 |true=>
  have a0:rl.length<=200:=by
   unfold oH at hr;simp only[bu,dE] at hr;exact hr.1
  rw[hr] at U;simp only[go_sem,hP,hh,seval,I,F,D,Y,q,U,a4,q2];refine af9 hP hh hH R S J M w O z G hg hf ht h ok a0 (lo:=s.aL) (s9:=s) ?_ rl [] _ _ s .AL [] rfl rfl (.inl ⟨rfl,rfl⟩) (br _) hm (fun _ _=>rfl) ?_ ?_ ?_ ?_ ?_ ?_ ?_ ?_;intro e lc s1 tv hO a2 a3 a1 h5;have V:=hO.ge;simp only[go_sem,hP,hh,seval,h5,V];exact⟨_,rfl,hO.isL,a2,a3,a1⟩
  all_goals simp only[abc,alb,ah,bQ]
  all_goals rfl
end
def BP(l:List Obj)(rl:List aI)(o:Obj):Bool:=oH rl&&rl.any fun x=>x.strict&&mo l x o
def Ko(l:List Obj)(rl:List aI):List aa:=(l.filter (BP l rl)).map fun o=>fC 7 [o.id]
def zK(l:List Obj)(rl:List aI):aa:=fI 3 (Ko l rl)
theorem JG{l:List Obj}{f:Nat×ag}: ∀ {r:List aI} {k:Nat},f∈pR l k r↔ ∃j x,f.1=k+j/\r[j]? =some x/\ ∃o∈l,o.id=f.2/\mo l x o=true
 | [],k=>by simp[pR]
 |x::r,k=>by
  rw[pR,lj,JG (r:=r)];constructor;rintro(h|⟨j,y,z,q,w⟩);obtain⟨o,D,rfl⟩:=dy.1 h
  grind
  exact⟨j+1,y,by omega,by simpa using q,w⟩;rintro⟨j,y,z,q,o,w,C,A⟩;cases j with
  |zero=>
   simp only[iw,aJ] at q;subst q;refine .inl (dy.2 ⟨o,DX.2 ⟨w,A⟩,?_⟩);rw[C];exact Prod.ext z.symm rfl
  |succ j=>grind
def GM(rl:List aI)(i:Nat):Bool:=match rl[i]? with|some x=>x.strict|none=>false
def wU(rl:List aI)(h:List (Nat×ag))(k:ag):Bool:=h.any fun f=>GM rl f.1&&f.2==k
theorem ac1(h:(l.map Obj.id).Nodup){rl:List aI}(A:o∈l):wU rl (bif oH rl then pR l 0 rl else []) o.id=BP l rl o:=by
 unfold wU BP;cases oH rl with
 |false=>rfl
 |true=>
  rw[cT,eH,Bool.eq_iff_iff];simp only[List.any_eq_true,bu,bE];constructor;rintro⟨f,I,w,z⟩;obtain⟨j,x,D,M,q,G,J,R⟩:=JG.1 I;rw[Nat.zero_add] at D;unfold GM at w;rw[D,M] at w;have O:q=o:=by
   have a:=FR h G;have b:=FR h A;rw[J,z,b] at a;exact(sI a).symm
  grind
  rintro⟨x,F,w,z⟩;obtain⟨j,C⟩:=we F;refine⟨(j,o.id),JG.2 ⟨j,x,by simp,C,o,A,rfl,z⟩,?_,rfl⟩;unfold GM;rw[C];exact w
variable{B:List (ag×aa)}
section
variable{Q:aH}(hP:Q.P=ae)(hh:Q.hint=ai)(hH: ∀f,Q.specH f=none)
include hP hh
theorem aps{fv:aa}{rl:List aI}(J:ay 8 aI.val rv rl)(ok: ∀x∈rl,x.Ok){w:List (Nat×ag)}(a1:ay 2 pd fv w)(a5:w.length<=900000)(a2: ∀f∈w,f.1<rl.length){s0:St}(hx: ∀e lc s B,ac e 2= .Ge 2 1 0->lc.get 2 1=some [ov]->lc.gen 2=1->ac e 5= .map a->eL a s0 s->bR aa.str s a B->(∀k,(cI k B).getD (.bool false)= .bool (wU rl w k))->K (.exit 0) ⟨e,50,lc⟩ s):
 ∀(q h:List (Nat×ag)) (e:ax) (lc:Ag.Loc) (s:St) (B:List (ag×aa)),w=h++q->eL a s0 s->bR aa.str s a B->(∀k,(cI k B).getD (.bool false)= .bool (wU rl h k))->
  ac e 1=rv->ac e 2= .Ge 2 1 0->lc.get 2 1=some [ov]->lc.gen 2=1->ac e 5= .map a->ac e 14=fv->ac e 15= .int .i64 (w.length:Nat)->ac e 16= .int .i64 (h.length:Nat)->W Q 57 (.loop Jp) ⟨e,50,lc⟩ s K:=by
 intro q
 induction q with
 |nil=>
  intro h e lc s B D T U hB V r2 l2 g2 h5 C A z;have a0:h.length=w.length:=by rw[D];simp
  have Z:h=w:=by rw[D];simp
  refine bG ?_;simp only[go_sem,hP,hh,seval,Jp,A,z,a0,cD];rw[Z] at hB;exact hx _ _ _ B (by simp only[sN,seval,r2]) l2 g2 (by simp only[sN,seval,h5]) T U hB
 |cons f q ih=>
  intro h e lc s B D T U hB V r2 l2 g2 h5 C A z;have M:h.length<w.length:=by rw[D];simp
  have S:w[h.length]? =some f:=by rw[D];simp
  have R:=fun lc k=>a1.at P7.2.2.1 S lc k;have I:=dB (n:=h.length) (by omega);obtain⟨x,G⟩: ∃x,rl[f.1]? =some x:=⟨_,gn (a2 f (eP S))⟩;have O:=fun lc k=>J.at t9.2.2.1 G lc k;have F:=J.ge;have a4:GM rl f.1=x.strict:=by unfold GM;rw[G]
  have a3: ∀k,wU rl (h++[f]) k=(wU rl h k||(x.strict&&f.2==k)):=fun k=>by
   simp_all [wU]
  cases hst:x.strict with
  |false=>
   refine bG ?_;simp only[go_sem,hP,hh,seval,Jp,pd,V,C,A,z,M,R,O,I,F,aI.val,aI.cells,hst];refine ih (h++[f]) _ _ s B (by rw[D];simp) T U (fun k=>by grind) ?_ ?_ ?_ ?_ ?_ ?_ ?_ ?_
   all_goals simp_all [sL]
  |true=>
   have Y:=vU jA yZ U f.2 (.bool true);refine bG ?_;simp only[go_sem,hP,hh,seval,Jp,pd,V,h5,C,A,z,M,R,O,I,F,aI.val,aI.cells,hst,Y];refine ih (h++[f]) _ _ _ (fe f.2 (.bool true) B) (by rw[D];simp) (T.put _) bR.put (fun k=>?_) ?_ ?_ ?_ ?_ ?_ ?_ ?_ ?_
   grind [ON]
   all_goals simp_all [sL]
theorem apY(ho:ay 6 Obj.val ov l)(hl:l.length<=900000){g:ag->Bool}(al:a<lo){s0:St}(hM:bR aa.str s0 a B)(hB: ∀k,(cI k B).getD (.bool false)= .bool (g k))(hx: ∀e lc s C,cR 3 lo s C ((l.filter fun o=>g o.id).map fun o=>fC 7 [o.id])->ac e 8=C->K (.exit 2) ⟨e,50,lc⟩ s):
 ∀(q h:List Obj) (e:ax) (lc:Ag.Loc) (s:St) (C:aa),l=h++q->cR 3 lo s C ((h.filter fun o=>g o.id).map fun o=>fC 7 [o.id])->(∀k,k<lo->s.get [] k=s0.get [] k)->lo<=s.aL->s.gt<=s.aL->ac e 5= .map a->ac e 8=C->ac e 31=ov->ac e 32= .int .i64 (l.length:Nat)->ac e 33= .int .i64 (h.length:Nat)->W Q 57 (.loop Jq) ⟨e,50,lc⟩ s K:=by
 intro q
 induction q with
 |nil=>
  intro h e lc s C J T D I G V U F A z;have a0:h.length=l.length:=by rw[J];simp
  have Z:h=l:=by rw[J];simp
  refine bG ?_;simp only[go_sem,hP,hh,seval,Jq,A,z,a0,cD];rw[Z] at T;exact hx _ _ _ C T (by simp only[sN,seval,U])
 |cons o q ih=>
  intro h e lc s C J T D I G V U F A z;have R:h.length<l.length:=by rw[J];simp
  have a8:l[h.length]? =some o:=by rw[J];simp
  have S:=fun lc k=>ho.at gX.2.2.1 a8 lc k;have O:=dB (n:=h.length) (by omega);have a9:bR aa.str s a B:=(D a al).trans hM;have w:=tK jA yZ GY a9 o.id;rw[hB] at w;have M:=T.ge;cases hg:g o.id with
  |false=>
   rw[hg] at w;refine bG ?_;simp only[go_sem,hP,hh,seval,Jq,V,F,A,z,R,S,O,Obj.val,Obj.cells,w];refine ih (h++[o]) _ _ s C (by rw[J];simp) (by grind) D I G ?_ ?_ ?_ ?_ ?_
   all_goals simp_all [sN]
  |true=>
   rw[hg] at w;obtain⟨Y,s1,a1,a2,a3,a4,a5,a6,a7⟩:=BL (t:=35) j6.1 rfl (by decide) (s:=s) (y:=.list 3 [fC 7 [o.id]] .GE) (x:=fC 7 [o.id]) T (by simp only[afo,eE]) (by
    grind) I G
   simp only[fC,fy,uB,aG] at a1;refine bG ?_;simp only[go_sem,hP,hh,seval,Jq,aG,V,U,F,A,z,R,S,Obj.val,Obj.cells,w,M,bj,bg,aZ,bf,evc];simp only[go_sem,hP,hh,seval,aG,U,z,O,M,a1,a3,bj,bg,aZ,bf,evc];refine ih (h++[o]) _ _ s1 Y (by rw[J];simp) (by grind) (fun k hk=>(a7 k hk).trans (D k hk)) (by omega) a5 ?_ ?_ ?_ ?_ ?_
   all_goals simp only[sN,seval,V,F,A,sA]
include hH
theorem adS(T:Q.spec 216=some Bh)(b3:Q.spec 31=some jK)(U:Q.spec 214=some mV)(V:Q.spec 130=some pP)(O:Q.spec 299=some tD)(R:Q.spec 298=none)(F:Q.specW 298=none)(S:Q.spec 217=none)(G:Q.specW 217=none)(w:Q.spec 124=none)(I:Q.specW 124=none)(b2:Q.spec 57=none)(a0:Q.specW 57=none)(C:ay 6 Obj.val ov l)(hg: ∀o∈l,o.Al)(hf:mU l=true)(ht: ∀o∈l,o.gT.length<=1000000){rl:List aI}(A:ay 8 aI.val rv rl)(ok: ∀x∈rl,x.Ok)(a5:rl.length<=1000000)(hm:s.gt<=s.aL):
 ∃v s',aq Q 57 [.agg [ov],rv] s v s'/\fY s'.heap v (zK l rl):=by
 have a9:l.length<=900:=(pf.1 hf).len;have a7:=yK (pf.1 hf).valid;have M:=C.ge;have a4:=C.scal;have a8:=C.lenS gX;have a3:=A.ge;obtain⟨Y,D⟩:=ct ((bif oH rl then pR l 0 rl else []));have b0:Y.length<=900000:=by
  rw[<-D];cases hr:oH rl with
  |false=>simp
  |true=>
   have a6:rl.length<=200:=by
    unfold oH at hr;simp only[bu,dE] at hr;exact hr.1
   have:=fA (MM l rl 0) (rf a6 a9);rw[cT];omega
 have b1: ∀f∈Y,f.1<rl.length:=fun f h=>by
  grind [JG]
 obtain⟨z,hz⟩:=ct (s.new (.map [] 0));have zn:z.aL=s.aL+1:=by rw[<-hz];rfl
 have zm:z.gt<=z.aL:=by rw[<-hz];exact cq hm
 have za:bR aa.str z s.aL []:=by rw[<-hz];exact cW
 have Z:=afK hP hh hH T b3 U V O R F S G w I C hg hf ht A ok a5 zm;refine aq.ofWZ hP hH ak0 b2 a0 ?_;refine co ?_;simp only[go_sem,hP,hh,seval,M,a4,a3,m7,hz,w,bj,bg,aZ,bf,evc];refine cG.ex Z (by decide) ?_;rintro fv s1 ⟨q,m1,n1,o1⟩;rw[D] at q;have b5:=q.ge;have b4:=q.lenS P7;have a1:bR aa.str s1 s.aL []:=(o1 _ (by omega)).trans za;simp only[go_sem,hP,hh,seval,b5,b4];refine aps hP hh A ok q b0 b1 (a:=s.aL) (s0:=s1) (ov:=ov) ?_ Y [] _ _ s1 [] rfl (.refl m1) a1 (fun k=>rfl) ?_ ?_ ?_ ?_ ?_ ?_ ?_ ?_
 ·intro e lc s2 B r2 l2 g2 h5 hb hM hB
  have n2:=hb.aL;simp only[go_sem,hP,hh,seval,r2,l2,g2,M,a8];refine apY hP hh C (by omega) (g:=wU rl Y) (a:=s.aL) (lo:=s2.aL) (by omega) (s0:=s2) hM hB ?_ l [] _ _ s2 .AL rfl (.inl ⟨rfl,rfl⟩) (fun _ _=>rfl) (br _) hb.mw ?_ ?_ ?_ ?_ ?_;intro e3 b6 s3 tv hO h8;have a2:=hO.ge;have J:(l.filter fun o=>wU rl Y o.id)=l.filter (BP l rl):=List.filter_congr fun o C=>by rw[<-D];exact ac1 a7 C
  rw[J] at hO;simp only[go_sem,hP,hh,seval,h8,a2];refine⟨_,rfl,4,AE hO fun v hv=>?_⟩
  obtain⟨i,_,rfl⟩:=List.mem_map.1 hv;exact EF _ _ _
  all_goals simp_all [sN]
 all_goals simp only[abc,alb,ah,bQ]
 all_goals rfl
end
def RP:dX:=[(216,Bh),(31,jK),(214,mV),(130,pP),(299,tD)]
def acf:dR RP:=.cons aqa (.cons xd (.cons UW (.cons TH (.cons ahr .nil))))
theorem arF(h:dD l=true): ∀o∈l,o.gT.length<=1000000:=fun o q=>by
 grind [dD,Pg,mD]
def zy:Sp
 | [v,r]=>(lz v).bind fun l=>(sX r).bind fun rl=>bif mU l then some (zK l rl) else none
 |_=>none
def ap7:db ae 57 zy:=by
 intro args u q G h w xs S U;unfold zy at q;split at q;rename_i Z r;simp only[ak] at q;obtain⟨l,J,rl,z,q⟩:=q;obtain⟨R,q⟩:=bh q;have q:=sI q;subst q;obtain⟨v,rfl,J,O,hs⟩:=rk J;obtain⟨z,M,F⟩:=Ht z;obtain⟨V,T,C,I⟩:=qQ J O;obtain⟨D,A⟩:=Kq z M;have C:en [.agg [v],r]=[.agg [T],de r]:=by simp only[en,C]
 refine j9 acf (W:=[]) .nil (args:=[.agg [v],r]) (by simp only[eO,V,D,cw]) (fun Y=>?_) G h w xs S U;rw[C];exact adS (Q:=QW RP [] Y) rfl rfl (fun _=>rfl) rfl rfl rfl rfl rfl rfl rfl rfl rfl rfl rfl rfl rfl I O R (arF (pf.1 R).valid) A M F (by decide);cases q
def sh(o:Obj):ag×Bool:=match dM lU o.gT with|some v=>(v,gU v)|none=>([],false)
def Y6(h:dM lU o.gT=none):sh o=([],false):=by unfold sh;rw[h]
def Y7{v:ag}(h:dM lU o.gT=some v):sh o=(v,gU v):=by unfold sh;rw[h]
def ahm(name:ag)(o:Obj):tB name o=(!(sh o).2||(sh o).1==name):=by
 unfold tB QE;cases h:dM lU o.gT with
 |none=>rw[Y6 h];rfl
 |some v=>
  rw[Y7 h];simp only[au];cases gU v<;>simp
def aa5: ∀ {l:List fE} {last:ag},uq last l=true-> ∀ {k v:ag},dM k l=some v->v.length<=200
 | [],_,_,_,_,hq=>by cases hq
 |t::r,last,h,k,v,hq=>by
  simp only[uq] at h;cases hb:qi last t with
  |true=>rw[hb] at h;cases h
  |false=>
   rw[hb] at h;simp only[dM] at hq;cases hk:t.1==k with
   |true=>
    rw[hk] at hq;simp only[cT,aJ] at hq;subst hq;simp only[qi,v9,decide_eq_false_iff_not,Nat.not_lt] at hb;exact hb.2
   |false=>
    rw[hk] at hq;exact aa5 (l:=r) (last:=t.1) h hq
def arC{l:List fE}(h:mD l=true){k v:ag}(q:dM k l=some v):v.length<=200:=by
 unfold mD at h;simp only[bu] at h;exact aa5 h.1 q
def arz{l:List fE}(h:mD l=true):l.length<=1000000:=by
 unfold mD at h;simp only[bu,dE] at h;omega
variable{nb wb:Nat}
section
variable{Q:aH}(hP:Q.P=ae)(hh:Q.hint=ai)(hH: ∀f,Q.specH f=none)
include hP hh hH
theorem ao1(q:Q.spec 214=some mV)(A:Q.spec 163=some jq)(C:Q.spec 159=none)(z:Q.specW 159=none)(go:o.Al)(O:mD o.gT=true)(s:St):aq Q 159 [o.val] s (.tup [.str (sh o).1,.bool (sh o).2]) s:=by
 have M:=go.gE.ge;have J:=go.gT.ge;have rs:=go.gE.scal;have I:=go.gT.scal;have S:=ajJ;have w:mV [o.tagsV,.str [118,105,101,119]]=some (yI (dM lU o.gT)):=M3 go.gT (arz O) lU;have F: ∃v D,aq Q 159 [o.val] s v D/\(v= .tup [.str (sh o).1,.bool (sh o).2]/\D=s):=by
  refine aq.ofWZ hP hH aih C z ?_;refine co ?_;cases hq:dM lU o.gT with
  |none=>
   rw[hq] at w;simp only[yI] at w;have G:=Y6 hq;simp only[go_sem,hP,hh,seval,Obj.val,Obj.cells,M,J,rs,I,q,w,G];exact⟨_,rfl,rfl⟩
  |some v=>
   rw[hq] at w;simp only[yI] at w;have R:=y7 (s:=v) (by have:=arC O hq;omega);have G:=Y7 hq;simp only[go_sem,hP,hh,seval,Obj.val,Obj.cells,M,J,rs,I,q,w,A,R,G];exact⟨_,rfl,rfl⟩
 obtain⟨v,D,h,rfl,rfl⟩:=F;exact h
theorem anH(q:Q.spec 73=none)(h:Q.specW 73=none){name:ag}(w:s.get [] nb=some (.cells [.str name]))(v:ag)(d:Bool):aq Q 73 [.str v,.bool d,.ptr nb 0] s (.bool (!d||v==name)) s:=by
 refine aq.ofZ hP hH ala q h rfl ?_;refine co ?_;cases d with
 |false=>simp only[go_sem,hP,hh,seval,hG,iR]
 |true=>simp only[go_sem,hP,hh,seval,w,aW,aY,fp,kg]
theorem anu(C:Q.spec 214=some mV)(D:Q.spec 163=some jq)(h:Q.spec 159=none)(w:Q.specW 159=none)(A:Q.spec 73=none)(G:Q.specW 73=none)(F:Q.spec 158=none)(z:Q.specW 158=none)(go:o.Al)(T:mD o.gT=true){name:ag}(I:s.gt<=s.aL)(S:s.get [] wb=some (.cells [.func (.func 73) [] [.ptr nb 0]]))(U:s.get [] nb=some (.cells [.str name])):aq Q 158 [o.val,.ptr wb 0] s (.bool (tB name o)) s:=by
 have R:=go.gE.ge;have O:=go.gT.ge;have rs:=go.gE.scal;have M:=go.gT.scal;have q:=ao1 hP hh hH C D h w go T s.top;have J:=anH hP hh hH A G (s:=s.top) U (sh o).1 (sh o).2;simp only[Obj.val,Obj.cells] at q;refine aq.ofZ hP hH aif F z rfl ?_;refine WE.sound ?_;simp only[go_sem,hP,hh,seval,Obj.val,Obj.cells,R,O,rs,M];refine iT I ?_;simp only[go_sem,hP,hh,Iw,seval,aW,S,aY,R,O,rs,M,h];refine kY.quiet q (by decide) (by simp[fo,pD]) ?_;simp only[go_sem,hP,hh,Iw,seval,A];refine kY.quiet J (by decide) (by simp[fo,pD]) ?_;simp only[go_sem,hP,hh,Iw,seval,ahm]
theorem afJ(Z:Q.spec 214=some mV)(a0:Q.spec 163=some jq)(a8:Q.spec 159=none)(M:Q.specW 159=none)(b5:Q.spec 73=none)(a9:Q.specW 73=none)(F:Q.spec 158=none)(O:Q.specW 158=none)(ho:ay 6 Obj.val ov l)(hg: ∀o∈l,o.Al)(ht: ∀o∈l,mD o.gT=true)(hl:l.length<=900000){name:ag}{s0:St}(hw:s0.get [] wb=some (.cells [.func (.func 73) [] [.ptr nb 0]]))(hn:s0.get [] nb=some (.cells [.str name]))(wl:wb<lo)(nl:nb<lo)(hx: ∀e lc s C,cR 6 lo s C ((gi l name).map Obj.val)->s.gt<=s.aL->lo<=s.aL->(∀k,k<lo->s.get [] k=s0.get [] k)->ac e 5=C->K (.exit 0) ⟨e,23,lc⟩ s):
 ∀(q h:List Obj) (e:ax) (lc:Ag.Loc) (s:St) (C:aa),l=h++q->cR 6 lo s C ((gi h name).map Obj.val)->(∀k,k<lo->s.get [] k=s0.get [] k)->lo<=s.aL->s.gt<=s.aL->ac e 1= .func (.func 158) [] [.ptr wb 0]->ac e 5=C->ac e 8=ov->ac e 9= .int .i64 (l.length:Nat)->ac e 10= .int .i64 (h.length:Nat)->W Q 157 (.loop ND) ⟨e,23,lc⟩ s K:=by
 intro q
 induction q with
 |nil=>
  intro h e lc s C I J w D z r1 Y h8 V A;have b3:h.length=l.length:=by rw[I];simp
  have b1:h=l:=by rw[I];simp
  refine bG ?_;simp only[go_sem,hP,hh,seval,ND,V,A,b3,cD];rw[b1] at J;exact hx _ _ _ C J z D w (by simp only[sN,seval,Y])
 |cons o q ih=>
  intro h e lc s C I J w D z r1 Y h8 V A;have b2:h.length<l.length:=by rw[I];simp
  have U:l[h.length]? =some o:=by rw[I];simp
  have T:=eP U;have go:=hg o T;have rc:=go.gE.ge;have tc:=go.gT.ge;have rs:=go.gE.scal;have ts:=go.gT.scal;have b4:=fun lc k=>ho.at gX.2.2.1 U lc k;have S:=dB (n:=h.length) (by omega);have G:=anu hP hh hH Z a0 a8 M b5 a9 F O go (ht o T) (s:=s) z ((w wb wl).trans hw) ((w nb nl).trans hn);simp only[Obj.val,Obj.cells] at G;have R:=J.ge;refine bG ?_;simp only[go_sem,hP,hh,seval,ND,r1,h8,V,A,b2,b4,Obj.val,Obj.cells,rc,tc,rs,ts,F];refine cG.of G (by decide) ?_;cases hb:tB name o with
  |false=>
   simp only[go_sem,hP,hh,seval,A,S];refine ih (h++[o]) _ _ s C (by rw[I];simp) (by unfold gi;rw[o9 hb];exact J) w D z ?_ ?_ ?_ ?_ ?_
   all_goals simp only[sN,seval,r1,Y,h8,V,sA]
  |true=>
   obtain⟨b0,s1,a1,a2,a3,a4,a5,a6,a7⟩:=BL (t:=22) gX.1 rfl (by decide) (s:=s) (y:=.list 6 [o.val] .GE) (x:=o.val) J (by simp only[afo,eE]) (by
    rw[ce]
    have:=kT (tB name) h;unfold gi;omega) D z
   simp only[Obj.val,Obj.cells] at a1;simp only[go_sem,hP,hh,seval,Y,R,rc,tc,rs,ts,bj,bg,aZ,bf,evc];simp only[go_sem,hP,hh,seval,Y,A,S,R,a1,a3,rc,tc,rs,ts,bj,bg,aZ,bf,evc];refine ih (h++[o]) _ _ s1 b0 (by rw[I];simp) (by
    have e:gi (h++[o]) name=gi h name++[o]:=by
     show List.filter (tB name) _=List.filter (tB name) _++_;exact tm hb
    rw[e,ff];exact a2) (fun k hk=>(a7 k hk).trans (w k hk)) (by omega) a5 ?_ ?_ ?_ ?_ ?_
   all_goals simp only[sN,seval,r1,h8,V,sA]
theorem afH(A:Q.spec 214=some mV)(C:Q.spec 163=some jq)(D:Q.spec 159=none)(q:Q.specW 159=none)(T:Q.spec 73=none)(I:Q.specW 73=none)(F:Q.spec 158=none)(w:Q.specW 158=none)(G:Q.spec 157=none)(z:Q.specW 157=none)(M:ay 6 Obj.val ov l)(hg: ∀o∈l,o.Al)(ht: ∀o∈l,mD o.gT=true)(hl:l.length<=900000){name:ag}(O:s.gt<=s.aL)(hw:s.get [] wb=some (.cells [.func (.func 73) [] [.ptr nb 0]]))(hn:s.get [] nb=some (.cells [.str name]))(V:wb<s.aL)(Z:nb<s.aL):
 ∃v h,aq Q 157 [ov,.func (.func 158) [] [.ptr wb 0]] s v h/\(cR 6 s.aL h v ((gi l name).map Obj.val)/\h.gt<=h.aL/\s.aL<=h.aL/\ ∀k,k<s.aL->h.get [] k=s.get [] k):=by
 have S:=M.ge;have R:=M.lenS gX;refine aq.ofWZ hP hH aid G z ?_;refine co ?_;simp only[go_sem,hP,hh,seval,S,R,Aq];refine afJ hP hh hH A C D q T I F w M hg ht hl (lo:=s.aL) (name:=name) (s0:=s) hw hn V Z ?_ l [] _ _ s .AL rfl (.inl ⟨rfl,rfl⟩) (fun _ _=>rfl) (br _) O ?_ ?_ ?_ ?_ ?_;intro e lc s1 tv U m1 n1 Y h5;have J:=U.ge;simp only[go_sem,hP,hh,seval,h5,J];exact⟨_,rfl,U,m1,n1,Y⟩
 all_goals simp only[sN,seval,bn]
 all_goals rfl
end
def iA(l:List Obj)(name:ag):List Obj:=bif dD l then gi l name else []
def vp(l:List Obj):aa:=fI 6 (l.map Obj.val)
def Ym: ∀l:List Obj,ay 6 Obj.val (vp l) l
 | []=>.inl ⟨rfl,rfl⟩
 |_::_=>.inr ⟨_,rfl⟩
def DG(l:List Obj)(name:ag):(gi l name).Sublist l:=List.filter_sublist
def FU(l:List Obj)(name:ag):(iA l name).Sublist l:=by
 unfold iA;cases dD l with
 |false=>exact List.nil_sublist _
 |true=>exact DG l name
def agd{h:aC aR}(A:cR 6 lo s ov (l.map Obj.val))(z: ∀o∈l,o.Al):fY h (.agg [ov]) (.agg [vp l]):=by
 have e:=AE (h:=h) A (k:=4) fun v q=>by
  obtain⟨o,w,rfl⟩:=dy.1 q;exact agc h (z o w) 0
 refine⟨6,?_⟩;show(dL (cL h 5) [ov]).bind (fun r=>some (aa.agg r))=_;simp only[dL,e,au];rfl
section
variable{Q:aH}(hP:Q.P=ae)(hh:Q.hint=ai)(hH: ∀f,Q.specH f=none)
include hP hh hH
theorem anB(F:Q.spec 31=some jK)(G:Q.spec 214=some mV)(I:Q.spec 163=some jq)(J:Q.spec 159=none)(w:Q.specW 159=none)(V:Q.spec 73=none)(R:Q.specW 73=none)(M:Q.spec 158=none)(z:Q.specW 158=none)(h:Q.spec 157=none)(A:Q.specW 157=none)(Y:Q.spec 72=none)(S:Q.specW 72=none)(q:ay 6 Obj.val ov l)(hg: ∀o∈l,o.Al)(hl:l.length<=900000){name:ag}(U:s.gt<=s.aL)(hn:s.get [] nb=some (.cells [.str name]))(nl:nb<s.aL):
 ∃v Z,aq Q 72 [.agg [ov],.func (.func 73) [] [.ptr nb 0]] s v Z/\cR 6 (s.aL+1) Z v ((iA l name).map Obj.val):=by
 have a0:=ajJ;have D:=q.ge;have C:=q.scal;have O:=A0 q hg (by omega);refine aq.ofWZ hP hH ak8 Y S ?_;refine co ?_;cases hv:dD l with
 |false=>
  rw[hv] at O;simp only[go_sem,hP,hh,seval,D,C,Aq,HF,F,O];exact⟨_,rfl,.inl ⟨rfl,by unfold iA;rw[hv];rfl⟩⟩
 |true=>
  rw[hv] at O;have nn:(s.new (.cells [.func (.func 73) [] [.ptr nb 0]])).aL=s.aL+1:=rfl;have T:(s.new (.cells [.func (.func 73) [] [.ptr nb 0]])).get [] nb=some (.cells [.str name]):=by rw[cz nl];exact hn
  have ht: ∀o∈l,mD o.gT=true:=fun o q=>by
   simp only[dD,bu] at hv;exact Pg l [] hv.1 o q
  simp only[go_sem,hP,hh,seval,D,C,Aq,HF,F,O,h];refine cG.ex (afH hP hh hH G I J w V R M z h A q hg ht hl (wb:=s.aL) (nb:=nb) (name:=name) (s:=s.new (.cells [.func (.func 73) [] [.ptr nb 0]])) (cq U) cW T (by omega) (by omega)) (by decide) ?_;rintro v s1 ⟨hO,m1,n1,o1⟩;have vc:=hO.ge;simp only[go_sem,hP,hh,seval,vc];have e:iA l name=gi l name:=by unfold iA;rw[hv];rfl
  rw[e];exact⟨_,rfl,hO⟩
theorem anG(Y:Q.spec 31=some jK)(C:Q.spec 214=some mV)(D:Q.spec 163=some jq)(F:Q.spec 159=none)(h:Q.specW 159=none)(V:Q.spec 73=none)(J:Q.specW 73=none)(G:Q.spec 158=none)(q:Q.specW 158=none)(I:Q.spec 157=none)(w:Q.specW 157=none)(A:Q.spec 72=none)(M:Q.specW 72=none)(Z:Q.spec 28=none)(O:Q.specW 28=none)(z:ay 6 Obj.val ov l)(hg: ∀o∈l,o.Al)(hl:l.length<=900000)(name:ag)(S:s.gt<=s.aL):
 ∃v s',aq Q 28 [.agg [ov],.str name] s v s'/\fY s'.heap v (.agg [vp (iA l name)]):=by
 have T:=z.ge;have R:=z.scal;refine aq.ofWZ hP hH ajq Z O ?_;refine co ?_;simp only[go_sem,hP,hh,seval,T,R,A,bj,bg,aZ,bf,evc];refine cG.ex (anB hP hh hH Y C D F h V J G q I w A M z hg hl (nb:=s.aL) (name:=name) (s:=s.new (.cells [.str name])) (cq S) cW (kU _)) (by decide) ?_;rintro v s1 U;have vc:=U.ge;have vs:v.cells=[v]:=by rcases U with⟨rfl,_⟩|⟨_,k,rfl,_⟩<;>rfl
 simp only[go_sem,hP,hh,seval,vc,vs,bj,bg,aZ,bf,evc];exact⟨_,rfl,agd U fun o z=>hg o ((FU l name).subset z)⟩
end
def RG:dX:=[(31,jK),(214,mV),(163,jq)]
def ab6:dR RG:=.cons xd (.cons UW (.cons O3 .nil))
def vW:Sp
 | [v,.str name]=>(lz v).bind fun l=>bif decide (l.length<=900000) then some (.agg [vp (iA l name)]) else none
 |_=>none
def abk(h:ay 6 Obj.val v l)(z: ∀o∈l,o.Al)(w:l.length<=900000)(name:ag):vW [.agg [v],.str name]=some (.agg [vp (iA l name)]):=by
 have q:=ajJ;simp only[adz,vW,uQ h z (by omega),w,dT]
def abl:db ae 28 vW:=by
 intro args u q G h w xs I M;unfold vW at q;split at q;rename_i S name;simp only[ak] at q;obtain⟨l,C,q⟩:=q;obtain⟨F,q⟩:=bh q;simp only[dE] at F;have q:=sI q;subst q;obtain⟨v,rfl,C,D,T⟩:=rk C;obtain⟨O,J,z,A⟩:=qQ C D;have z:en [.agg [v],.str name]=[.agg [J],.str name]:=by simp only[en,z];rfl
 refine j9 ab6 (W:=[]) .nil (args:=[.agg [v],.str name]) (by show(d8 (.agg [v])&&_)=true;rw[O];rfl) (fun R=>?_) G h w xs I M;rw[z];exact anG (Q:=QW RG [] R) rfl rfl (fun _=>rfl) rfl rfl rfl rfl rfl rfl rfl rfl rfl rfl rfl rfl rfl rfl rfl A D F name (by decide);cases q
def qX(l:List Obj):Nat:=(l.map fun o=>o.gE.length).sum
structure wx (l:List Obj):Prop where
 valid:dD l=true
 len:l.length<=900
 gE:qX l<=999
def HW(l:List Obj):Bool:=dD l&&(decide (l.length<=900)&&decide (qX l<=999))
def MN:HW l=true↔wx l:=by
 unfold HW;simp only[bu,dE];exact⟨fun⟨a,b,c⟩=>⟨a,b,c⟩,fun⟨a,b,c⟩=>⟨a,b,c⟩⟩
def apB{r:List Obj}(h:r.Sublist l):qX r<=qX l:=by
 induction h with
 |slnil=>exact br _
 |cons a _ q=>simp only[qX,fy,List.sum_cons] at q ⊢;omega
 |cons_cons a _ q=>simp only[qX,fy,List.sum_cons] at q ⊢;omega
def ZL: ∀ {l:List Obj} {o:Obj},o∈l->o.gE.length<=qX l
 |a::l,o,h=>by
  simp only[qX,fy,List.sum_cons];rcases fc.1 h with rfl|h
  omega
  have:=ZL h;unfold qX at this;omega
def Xn(l:List Obj): ∀r:List Obj,(r.flatMap (jJ l)).length<=qX r
 | []=>br _
 |o::r=>by
  rw[uy,cJ];have q:=Xm l o;have h:=Xn l r;simp only[qX,fy,List.sum_cons] at h ⊢;omega
def JF{r:List Obj}(h:dD l=true)(w:r.Sublist l):dD r=true:=by
 simp only[dD,bu,dE] at h ⊢;obtain⟨D,C⟩:=H9 l [] h.1;exact⟨Yn r [] (fun q z=>JP l [] h.1 q (w.subset z)) (fun k A=>D k ((w.map _).subset A)) (C.sublist (w.map _)),fA w.length_le h.2⟩
def wx.sub{r:List Obj}(h:wx l)(q:r.Sublist l):wx r:=⟨JF h.valid q,fA q.length_le h.len,fA (apB q) h.gE⟩
def wx.fine(h:wx l):Rk l:=by
 refine⟨h.valid,h.len,fun o q=>fA (ZL q) h.gE,?_⟩;unfold iI;rw[(GH _).length_eq];have A:=Y8 l;have z:=Xn l l;have w:=h.gE;omega
def LZ(P:Program)(mk:aK)(t h:TypeId)(q:Bool)(x y:aa)(s:St):jH P mk .copy [t,h] q [x,y] s=rC P mk t x y s:=rfl
def as1(q:Array Operand)(h:Array TypeId):yh (.call ⟨.builtin .copy,q,h⟩)=1:=rfl
def agJ(h:Tmp->Nat)(d:Option Tmp)(e:ax)(w:Array Operand)(q:Array TypeId):cu h d e (.call ⟨.builtin .copy,w,q⟩)= .all:=rfl
variable{f:FuncId}{sz:Nat}{d:Option Tmp}{g:SG}{Q:aH}{mk:aK}
def Pv(q h:TypeId)(x:Operand):cM Q f ⟨d,.convert q h x,g⟩ mk ⟨e,sz,lc⟩ s=(evc e x).bind fun a=>fT (uW Q.P q h a) lc s:=rfl
def Pz(t:TypeId)(l c:Operand):cM Q f ⟨d,.makeSlice t l c,g⟩ mk ⟨e,sz,lc⟩ s=(ev e l).bind fun l=>(ev e c).bind fun c=>gW (ow Q.P t l c (aQ (pg (Q.hint f) d) 2) s) lc:=rfl
def JA(mk:aK)(sz m o l c:Nat)(s:St):jo ae mk 26 (.arr sz m o l c) s=some (.int .i64 (l:Nat)):=by kernel_rfl
theorem XW(l c:aa)(h:Bool)(s:St):ow ae 26 l c h s=(dS l).bind fun l=>(dS c).bind fun c=>bif bw l c&&bw (c*8) 1099511627776&&bw c 1099511627776 then
 bif aQ l 0&& !h then some (.list 1 [] (.own s.aL),s.new .tok)
 else some (.arr 1 s.aL 0 l l,s.new (.cells (aZ [.int .i64 0] l)))
 else none:=by kernel_rfl
variable{j:Nat}{x:Operand}
def aqK(z:j<=n)(w:ev e x=some (.int .i64 (j:Nat)))(mk:aK)(s:St):jE ae mk 26 (.arr 1 m 0 n n) (some x) none none e s=some (.arr 1 m j (n-j) (n-j)):=by
 have A: ∀(lo q:Option Operand),jE ae mk 26 (.arr 1 m 0 n n) lo q none e s=(fR e q n).bind fun h=>(fR e lo 0).bind fun l=>bif aQ 1 1&&bw l h&&bw h n&&true then some (.arr 1 m (0+l*1) (h-l) (n-l)) else none:=by intro lo q;kernel_rfl
 have D:bw j n=true:=cP z;have C:bw n n=true:=cP (br _);rw[A,O5,O6,w];show(bif aQ 1 1&&bw j n&&bw n n&&true then some (aa.arr 1 m (0+j*1) (n-j) (n-j)) else none)=_;rw[D,C,Nat.zero_add,xU];rfl
def aqJ(z:j<=n)(w:ev e x=some (.int .i64 (j:Nat)))(mk:aK)(s:St):jE ae mk 26 (.arr 1 m 0 n n) none (some x) none e s=some (.arr 1 m 0 j n):=by
 have A: ∀(lo q:Option Operand),jE ae mk 26 (.arr 1 m 0 n n) lo q none e s=(fR e q n).bind fun h=>(fR e lo 0).bind fun l=>bif aQ 1 1&&bw l h&&bw h n&&true then some (.arr 1 m (0+l*1) (h-l) (n-l)) else none:=by intro lo q;kernel_rfl
 have D:bw j n=true:=cP z;have C:bw 0 j=true:=cP (ki _);rw[A,O5,O6,w];show(bif aQ 1 1&&bw 0 j&&bw j n&&true then some (aa.arr 1 m (0+0*1) (j-0) (n-0)) else none)=_;rw[D,C];rfl
def QB(f:Nat->Bool)(h:(List.range 1000).all f=true)(q:n<1000):f n=true:=f8.1 h n (List.mem_range.2 q)
def abe(h:n<1000):IntKind.u64.wrap (n:Int)=n:=by
 have:=QB (fun n=>an (IntKind.u64.wrap (n:Int)) n) (by kernel_rfl) h;exact of_decide_eq_true this
def ar6(q:n<1000):eB ae .and 389 (.int .u64 (n:Int)) (.int .u64 4294967295)=some (.int .u64 (n:Int)):=by
 have:=QB (fun n=>an (IntKind.u64.wrap (((BitVec.ofInt IntKind.u64.bits (n:Int)) &&& (BitVec.ofInt IntKind.u64.bits 4294967295)).toNat:Nat)) n) (by kernel_rfl) q;have h:IntKind.u64.wrap (((BitVec.ofInt IntKind.u64.bits (n:Int)) &&& (BitVec.ofInt IntKind.u64.bits 4294967295)).toNat:Nat)=(n:Int):=of_decide_eq_true this;show some (aa.int .u64 (IntKind.u64.wrap _))=_;rw[h]
def ash(q:n<1000):eB ae .shr 389 (.int .u64 (n:Int)) (.int .u64 32)=some (.int .u64 0):=by
 have:=QB (fun n=>an ((n:Int).fdiv (2 ^ (min (32:Int).toNat IntKind.u64.bits))) 0) (by kernel_rfl) q;have h:((n:Int).fdiv (2 ^ (min (32:Int).toNat IntKind.u64.bits)))=0:=of_decide_eq_true this;show some (aa.int .u64 ((n:Int).fdiv _))=_;rw[h]
def asg(h:n<1000):eB ae .mul 389 (.int .u64 1) (.int .u64 (n:Int))=some (.int .u64 (n:Int)):=by
 show some (aa.int .u64 (IntKind.u64.wrap (1*(n:Int))))=_;rw[Int.one_mul,abe h]
def asf(n:Nat):eB ae .mul 389 (.int .u64 0) (.int .u64 (n:Int))=some (.int .u64 0):=by
 show some (aa.int .u64 (IntKind.u64.wrap (0*(n:Int))))=_;rw[Int.zero_mul];rfl
def ar7:eB ae .and 389 (.int .u64 1) (.int .u64 4294967295)=some (.int .u64 1):=by kernel_rfl
def ar8:eB ae .shr 389 (.int .u64 1) (.int .u64 32)=some (.int .u64 0):=by kernel_rfl
def ar9:eB ae .add 389 (.int .u64 0) (.int .u64 0)=some (.int .u64 0):=by kernel_rfl
def asa:eB ae .and 389 (.int .u64 0) (.int .u64 4294967295)=some (.int .u64 0):=by kernel_rfl
def asb:eB ae .shr 389 (.int .u64 0) (.int .u64 32)=some (.int .u64 0):=by kernel_rfl
def asc:eB ae .mul 389 (.int .u64 1) (.int .u64 0)=some (.int .u64 0):=by kernel_rfl
def asd:eB ae .mul 389 (.int .u64 0) (.int .u64 0)=some (.int .u64 0):=by kernel_rfl
def abd:eB ae .gtr 294 (.int .u64 0) (.int .u64 0)=some (.bool false):=by kernel_rfl
theorem ase(h:n<1000):eB ae .gtr 294 (.int .u64 (n:Int)) (.int .u64 9223372036854775807)=some (.bool false):=by
 show some (aa.bool (bc 9223372036854775807 (n:Int)))=_
 grind [bc]
def asi:uW ae 3 294 (.int .i64 1)=some (.int .u64 1):=by kernel_rfl
def asl(h:n<1000):uW ae 3 294 (.int .i64 (n:Int))=some (.int .u64 (n:Int)):=by
 have:uW ae 3 294 (.int .i64 (n:Int))=some (.int .u64 (IntKind.u64.wrap (n:Int))):=by kernel_rfl
 rw[this,abe h]
theorem asj(h:n<1000):uW ae 294 3 (.int .u64 (n:Int))=some (.int .i64 (n:Int)):=by
 have:uW ae 294 3 (.int .u64 (n:Int))=some (.int .i64 (IntKind.i64.wrap (n:Int))):=by kernel_rfl
 grind [iC]
def kO(k:Int)(j n:Nat):List aa:=iy j (.int .i64 k)++iy (n-j) (.int .i64 0)
theorem UD(k:Int): ∀n,aF (iy n (aa.int .i64 k))=iy n (.int .i64 k)
 |0=>rfl
 |n+1=>by rw[Ld,aF,UD k n];rfl
theorem Tg(k:Int): ∀n,bf false 1 n (iy n (aa.int .i64 k))=some (iy n (.int .i64 k))
 |0=>rfl
 |n+1=>by
  rw[Ld];show(bf false 1 n (iy n (aa.int .i64 k))).bind _=_;rw[Tg k n];rfl
theorem ZP: ∀n,aZ [aa.int .i64 0] n=iy n (.int .i64 0)
 |0=>rfl
 |n+1=>by rw[aZ,ZP n,Ld];rfl
def aex{r:oW}(w:0<n)(z:s.get [] m=some (.cells (iy n (.int .i64 0)))):rC ae [] 26 (.arr 1 m 0 n n) (.list 1 [.int .i64 k] r) s=some (.int .i64 ((1:Nat):Int),s.put m (some (.cells (kO k 1 n)))):=by
 obtain⟨n,rfl⟩: ∃j,n=j+1:=⟨n-1,by omega⟩;have q:fL (iy (n+1) (aa.int .i64 0)) 0 [.int .i64 k]=some (kO k 1 (n+1)):=by
  have h:bw (0+ [aa.int .i64 k].length) (iy (n+1) (aa.int .i64 0)).length=true:=cP (by simp);unfold fL;rw[h];rfl
 have e:df (n+1) [aa.int .i64 k]=[.int .i64 k]:=by simp
 have f:aF [aa.int .i64 k]=[.int .i64 k]:=rfl
 simp_all [rC,ng,eE]
theorem aey(D:j<=n)(F:s.get [] m=some (.cells (kO k j n))):rC ae [] 26 (.arr 1 m j (n-j) (n-j)) (.arr 1 m 0 j n) s=some (.int .i64 ((min (n-j) j:Nat):Int),s.put m (some (.cells (kO k (j+min (n-j) j) n)))):=by
 have I:cut (kO k j n) 0 (j*1)=some (iy j (.int .i64 k)):=by
  have e:((kO k j n).drop 0).take (j*1)=iy j (.int .i64 k):=by simp[kO]
  have b:aQ (iy j (aa.int .i64 k)).length (j*1)=true:=by rw[DV,xU,bD];simp
  show(bif aQ (((kO k j n).drop 0).take (j*1)).length (j*1) then some (((kO k j n).drop 0).take (j*1)) else none)=_;rw[e,b];rfl
 have G:(iy j (aa.int .i64 k)).take (n-j)=iy (min (n-j) j) (.int .i64 k):=List.take_replicate;have C:fL (kO k j n) j (iy (min (n-j) j) (aa.int .i64 k))=some (kO k (j+min (n-j) j) n):=by
  have h:min (n-j) j<=n-j:=Nat.min_le_left _ _;generalize min (n-j) j=w at h ⊢;have A:bw (j+(iy w (aa.int .i64 k)).length) (kO k j n).length=true:=cP (by simp[kO];omega);unfold fL;rw[A,cT];congr 1;have z:(kO k j n).take j=iy j (.int .i64 k):=by simp[kO]
  have q:(kO k j n).drop (j+(iy w (aa.int .i64 k)).length)=iy (n-(j+w)) (.int .i64 0):=by
   simp[kO,List.drop_append];omega
  rw[z,q,<-ny];unfold kO;rw[List.replicate_append_replicate]
 grind [rC,ng,eE,bD,Tg,UD,DV]
structure uL (s:St) (v:aa) (L:List Int):Prop where
 ge:v.ge=true
 len: ∀mk s',jo ae mk 26 v s'=some (.int .i64 (L.length:Nat))
 cell: ∀ {i:Nat} {k:Int},L[i]? =some k-> ∃p,p.ge=true/\(∀lc,ja ae lc 26 v (.int .i64 (i:Nat))=some p)/\ ∀lc,mr ae [] 3 p lc s=some (.int .i64 k)
def uL.ofList(s:St)(L:List Int)(r:oW):uL s (.list 1 (L.map cd) r) L:=by
 have h:ay 1 cd (.list 1 (L.map cd) r) L:=.inr ⟨r,rfl⟩;refine⟨rfl,h.lenS ng,fun {i k} q=>⟨.ro [.int .i64 k],rfl,fun lc=>h.at ng.2.2.1 q lc .i64,fun lc=>?_⟩⟩;rw[mZ,j0];rfl
theorem uL.ofRow(C:s.get [] m=some (.cells (kO k n n))):uL s (.arr 1 m 0 n n) (iy n k):=by
 refine⟨rfl,fun mk A=>by rw[JA,DV],fun {i x} h=>?_⟩;have z:i<n:=by
  have:=(nY.1 h).1;rwa [DV] at this
 have w:k=x:=by
  obtain⟨D,q⟩:=nY.1 h;rw[List.getElem_replicate] at q;exact q
 subst w;refine⟨.ptr m (0+i*1),rfl,fun lc=>?_,fun lc=>?_⟩
 grind [bm,cP,ng,oz,bD]
 grind [aW,aY,j0,kO]
section
variable{Q:aH}(hP:Q.P=ae)(hh:Q.hint=ai)(hH: ∀f,Q.specH f=none)
include hP hh
theorem apN(Y:n<1000){s0:St}(A: ∀e lc s,ac e 7= .arr 1 m 0 n n->s.get [] m=some (.cells (kO k n n))->eL m s0 s->K (.exit 0) ⟨e,48,lc⟩ s):
 ∀(f j:Nat) (e:ax) (lc:Ag.Loc) (s:St),n-j<=f->0<j->j<=n->s.get [] m=some (.cells (kO k j n))->eL m s0 s->ac e 7= .arr 1 m 0 n n->ac e 8= .int .i64 (j:Nat)->W Q 218 (.loop E4) ⟨e,48,lc⟩ s K:=by
 intro f
 induction f with
 |zero=>
  intro j e lc s U S h J I w z;have q:j=n:=by omega
  subst q;refine lk ?_;simp only[go_sem,hP,hh,df,bP,ah,aB,bQ,ee,ey,eI,cK,ew,ep,reduceCtorEq,eR,E4,w,z,JA,cD]
  simp_all [sN]
 |succ f R=>
  intro j e lc s U S h J I w z;rcases nZ j n with F|T
  ·have G:s.top.get [] m=some (.cells (kO k j n)):=J
   have V:=aey (m:=m) (n:=n) (j:=j) (k:=k) (s:=s.top) h G;have D:=I.mw;have C:IntKind.i64.wrap (((j:Nat):Int)+((min (n-j) j:Nat):Int))=((j+min (n-j) j:Nat):Int):=by
    rw[iC (by omega) (by omega)];omega
   have O:=fun(e:ax) (x:Operand) (A:ev e x=some (.int .i64 (j:Nat))) (mk:aK) (s:St)=>aqK (m:=m) h A mk s;have M:=fun(e:ax) (x:Operand) (A:ev e x=some (.int .i64 (j:Nat))) (mk:aK) (s:St)=>aqJ (m:=m) h A mk s;refine lk ?_;simp only[go_sem,hP,hh,df,bP,ah,aB,bQ,ee,ey,eI,cK,ew,ep,reduceCtorEq,eR,E4,w,z,JA,F];refine iT D ?_;simp only[go_sem,hP,hh,V4,df,bP,ah,aB,bQ,ee,ey,eI,cK,ew,ep,reduceCtorEq,eR,w,z,O,M,LZ,as1,agJ,iU,V,C,eB,Ic];refine R (j+min (n-j) j) _ _ _ (by omega) (by omega) (by omega) ?_ (I.putT _) ?_ ?_
   grind [mY,aX]
   all_goals simp only[sN,ah,bQ,w]
  have q:j=n:=by omega
  subst q;refine lk ?_;simp only[go_sem,hP,hh,df,bP,ah,aB,bQ,ee,ey,eI,cK,ew,ep,reduceCtorEq,eR,E4,w,z,JA,cD]
  simp_all [sN]
include hH
theorem amQ(w:Q.spec 408=none)(q:Q.specW 408=none)(C:n<1000)(s:St):aq Q 408 [.int .u64 1,.int .u64 (n:Int)] s (.tup [.int .u64 0,.int .u64 (n:Int)]) s:=by
 have I:=ar6 C;have G:=ash C;have F:=asg C;have D:=asf n;have A: ∃v z,aq Q 408 [.int .u64 1,.int .u64 (n:Int)] s v z/\(v= .tup [.int .u64 0,.int .u64 (n:Int)]/\z=s):=by
  refine aq.ofWZ hP hH akB w q ?_;refine co ?_;simp only[go_sem,hP,hh,df,bP,ah,aB,bQ,ee,ey,eI,cK,ew,ep,reduceCtorEq,eR,I,G,F,D,ar7,ar8,ar9,asa,asb,asc,asd];exact⟨_,rfl,rfl⟩
 obtain⟨v,z,h,rfl,rfl⟩:=A;exact h
theorem amP(A:Q.spec 300=none)(z:Q.specW 300=none)(q:Q.spec 408=none)(w:Q.specW 408=none)(F:n<1000)(s:St):aq Q 300 [.int .u64 1,.int .u64 (n:Int)] s (.tup [.int .u64 0,.int .u64 (n:Int)]) s:=by
 have D: ∃v C,aq Q 300 [.int .u64 1,.int .u64 (n:Int)] s v C/\(v= .tup [.int .u64 0,.int .u64 (n:Int)]/\C=s):=by
  refine aq.ofWZ hP hH ajL A z ?_;refine co ?_;simp only[go_sem,hP,hh,df,bP,ah,aB,bQ,ee,ey,eI,cK,ew,ep,reduceCtorEq,eR,q];refine cG.of (amQ hP hh hH q w F s) (by decide) ?_;simp only[go_sem,hP,hh,df,bP,ah,aB,bQ,ee,ey,eI,cK,ew,ep,reduceCtorEq,eR];exact⟨_,rfl,rfl⟩
 obtain⟨v,C,h,rfl,rfl⟩:=D;exact h
theorem ZO(q:Q.spec 300=none)(z:Q.specW 300=none)(F:Q.spec 408=none)(w:Q.specW 408=none)(G:Q.spec 218=none)(A:Q.specW 218=none)(D:n<1000)(k:Int)(r:oW)(U:s.gt<=s.aL):
 ∃v h,aq Q 218 [.list 1 [.int .i64 k] r,.int .i64 (n:Nat)] s v h/\(uL h v (iy n k)/\h.aL=s.aL+1/\h.gt<=h.aL/\ ∀i,i<s.aL->h.get [] i=s.get [] i):=by
 have Z: ∀mk h,jo ae mk 26 (.list 1 [.int .i64 k] r) h=some (.int .i64 1):=fun mk h=>by rw[ng.2.2.2.2.2];rfl
 have C:bc ((n:Nat):Int) 0=false:=by
  unfold bc;rw[dN];omega
 have e1:=asl D;have Y:=asj D;have V:=ase D;have b1:bw n n=true:=cP (br _);have b2:bw (n*8) 1099511627776=true:=cP (by omega);have b3:bw n 1099511627776=true:=cP (by omega);have bb:(bw n n&&bw (n*8) 1099511627776&&bw n 1099511627776)=true:=by rw[b1,b2,b3];rfl
 refine aq.ofWZ hP hH aiC G A ?_;refine co ?_;simp only[go_sem,hP,hh,df,bP,ah,aB,bQ,ee,ey,eI,cK,ew,ep,reduceCtorEq,eR,Pv,Pz,Z,C,asi,e1,q];refine cG.of (amP hP hh hH q z F w D s) (by decide) ?_;rcases BD n with I|I
 subst I;have J: ∀s,ow ae 26 (.int .i64 ((0:Nat):Int)) (.int .i64 ((0:Nat):Int)) false s=some (.list 1 [] (.own s.aL),s.new .tok):=fun s=>by rw[XW];rfl
 have T: ∀k r t s,rC ae [] 26 (.list 1 [] t) (.list 1 [aa.int .i64 k] r) s=some (.int .i64 0,s):=fun k r t s=>by
  simp only[afo,rC,ng,au,eE]
 have l0: ∀mk t h,jo ae mk 26 (.list 1 [] t) h=some (.int .i64 0):=fun mk t h=>by rw[ng.2.2.2.2.2];rfl
 simp only[go_sem,hP,hh,df,bP,ah,aB,bQ,ee,ey,eI,cK,ew,ep,reduceCtorEq,eR,Pv,Pz,abd,Y,V,J,LZ,T];refine lk ?_;have R:bc (0:Int) ((0:Nat):Int)=false:=rfl;have O:bc (0:Int) 0=false:=rfl;simp only[go_sem,hP,hh,df,bP,ah,aB,bQ,ee,ey,eI,cK,ew,ep,reduceCtorEq,eR,E4,l0,R,O];refine⟨_,rfl,uL.ofList _ [] _,cq U,fun i M=>cz M⟩
 ·have J: ∀s,ow ae 26 (.int .i64 ((n:Nat):Int)) (.int .i64 ((n:Nat):Int)) false s=some (.arr 1 s.aL 0 n n,s.new (.cells (iy n (.int .i64 0)))):=fun s=>by
   grind [bD,XW,oz,ZP]
  have T:=aex (s:=s.new (.cells (iy n (.int .i64 0)))) (m:=s.aL) (k:=k) (r:=r) I cW;simp only[go_sem,hP,hh,df,bP,ah,aB,bQ,ee,ey,eI,cK,ew,ep,reduceCtorEq,eR,Pv,Pz,abd,Y,V,J,LZ,iU,T];refine apN hP hh (m:=s.aL) (k:=k) D (s0:=s.new (.cells (iy n (.int .i64 0)))) ?_ (n-1) 1 _ _ _ (br _) Nat.one_pos I ?_ ((eL.refl (cq U)).put _) ?_ ?_;intro e lc s1 h7 hg S;simp only[go_sem,hP,hh,df,bP,ah,aB,bQ,ee,ey,eI,cK,ew,ep,reduceCtorEq,eR,h7,iU];exact⟨_,rfl,uL.ofRow hg,S.aL,S.mw,fun i M=>(S.old i (by omega)).trans (cz M)⟩
  all_goals simp_all [aX,sN]
end
def amM(e:ax)(x:Operand)(s:St):m7 ae 100 e (some x) s=(ev e x).bind fun
 | .int _ _=>some (.map s.aL,s.new (.map [] 0))
 |_=>none:=by kernel_rfl
def vZ(o:Obj):List Int:=(List.range o.gE.length).map (kR o.uP)
def asJ(h:an o.uP 5=false):vZ o=iy o.gE.length (bif an o.uP 4 then 2 else 1):=by
 unfold vZ;have e: ∀i,kR o.uP i=bif an o.uP 4 then 2 else 1:=fun i=>by
  unfold kR;rw[h,dW,Bool.or_false]
 rw[DW (g:=fun _=>bif an o.uP 4 then(2:Int) else 1) fun i _=>e i,List.map_const',DU]
def asK(h:an o.uP 5=true)(q:o.gE.length=3):vZ o=[2,1,2]:=by
 have e:o.uP=5:=of_decide_eq_true h;unfold vZ;rw[q,e];decide
section
variable{Q:aH}(hP:Q.P=ae)(hh:Q.hint=ai)(hH: ∀f,Q.specH f=none)
include hP hh
theorem anv(ho:ay 6 Obj.val ov l)(hg: ∀o∈l,o.Al)(hl:l.length<=1000000)(F:(l.map Obj.id).Nodup){s0:St}(hx: ∀e lc s,ac e 3= .map b->eL b s0 s->bR aa.str s b (kx l)->K (.exit 0) ⟨e,23,lc⟩ s):
 ∀(q h:List Obj) (e:ax) (lc:Ag.Loc) (s:St),l=h++q->eL b s0 s->bR aa.str s b (kx h)->ac e 3= .map b->ac e 11=ov->ac e 12= .int .i64 (l.length:Nat)->ac e 13= .int .i64 (h.length:Nat)->W Q 65 (.loop Ox) ⟨e,23,lc⟩ s K:=by
 intro q
 induction q with
 |nil=>
  intro h e lc s D Y S J C w A;have U:h.length=l.length:=by rw[D];simp
  have O:h=l:=by rw[D];simp
  refine bG ?_;simp only[go_sem,hP,hh,seval,Ox,w,A,U,cD];exact hx _ _ _ (by simp only[sN,seval,J]) Y (by rw[<-O];exact S)
 |cons o q ih=>
  intro h e lc s D Y S J C w A;have T:h.length<l.length:=by rw[D];simp
  have I:l[h.length]? =some o:=by rw[D];simp
  have go:=hg o (eP I);have rc:=go.gE.ge;have tc:=go.gT.ge;have rs:=go.gE.scal;have Z:=go.gT.scal;have V:=fun lc k=>ho.at gX.2.2.1 I lc k;have M:=dB (n:=h.length) (by omega);have R:cI o.id (kx h)=none:=by
   rw[AX,C4,sF];intro hc;rw[D,ff] at F;exact(List.nodup_append.1 F).2.2 _ hc o.id (by simp) rfl
  have z:=vU jA yY S o.id o.val;have G:fe o.id o.val (kx h)=kx (h++[o]):=by
   rw[vj R];unfold kx;rw[ff];rfl
  rw[G] at z;simp only[Obj.val,Obj.cells] at z;refine bG ?_;simp only[go_sem,hP,hh,seval,Ox,J,C,w,A,T,V,M,Obj.val,Obj.cells,rc,tc,rs,Z,z];refine ih (h++[o]) _ _ _ (by rw[D];simp) (Y.put _) bR.put ?_ ?_ ?_ ?_
  all_goals simp only[sL,seval,J,C,w,sA]
include hH
theorem anA(M:Q.spec 65=none)(A:Q.specW 65=none)(w:ay 6 Obj.val ov l)(Y: ∀o∈l,o.Al)(V:l.length<=1000000)(D:(l.map Obj.id).Nodup)(U:s.gt<=s.aL):
 ∃v h,aq Q 65 [.agg [ov]] s v h/\(v= .map s.aL/\bR aa.str h s.aL (kx l)/\h.aL=s.aL+1/\h.gt<=h.aL/\ ∀i,i<s.aL->h.get [] i=s.get [] i):=by
 have I:=w.ge;have C:=w.scal;have F:=w.lenS gX;obtain⟨z,q⟩:=ct (s.new (.map [] 0));have R:z.aL=s.aL+1:=by rw[<-q];rfl
 have S:z.gt<=z.aL:=by rw[<-q];exact cq U
 have T:bR aa.str z s.aL (kx []):=by rw[<-q];exact cW
 have O: ∀i,i<s.aL->z.get [] i=s.get [] i:=fun i G=>by rw[<-q];exact cz G
 refine aq.ofWZ hP hH ak6 M A ?_;refine co ?_;simp only[go_sem,hP,hh,seval,I,C,F,amM,q];refine anv hP hh w Y V D (b:=s.aL) (s0:=z) ?_ l [] _ _ z rfl (.refl S) T ?_ ?_ ?_ ?_;intro e lc s1 h3 J Z;simp only[go_sem,hP,hh,seval,h3];exact⟨_,rfl,rfl,Z,by rw[J.aL];exact R,J.mw,fun i G=>(J.old i (by omega)).trans (O i G)⟩
 all_goals simp only[abc,alb,ah,bQ]
 all_goals rfl
theorem asI(D:Q.spec 300=none)(w:Q.specW 300=none)(C:Q.spec 408=none)(q:Q.specW 408=none)(h:Q.spec 218=none)(z:Q.specW 218=none)(J:Q.spec 125=none)(G:Q.specW 125=none)(go:o.Al)(Y:o.gE.length<1000)(h5:an o.uP 5=true->o.gE.length=3)(V:s.gt<=s.aL):
 ∃v F,aq Q 125 [o.val] s v F/\(uL F v (vZ o)/\s.aL<=F.aL/\F.gt<=F.aL/\ ∀i,i<s.aL->F.get [] i=s.get [] i):=by
 have S:=go.gE.ge;have R:=go.gT.ge;have rs:=go.gE.scal;have O:=go.gT.scal;have I:=go.gE.lenS cH;refine aq.ofWZ hP hH ahD J G ?_;refine co ?_;cases e5:an o.uP 5 with
 |true=>
  simp only[go_sem,hP,hh,seval,Obj.val,Obj.cells,S,R,rs,O,e5,bj,bg,aZ,bf,evc];rw[asK e5 (h5 e5)];exact⟨_,rfl,uL.ofList s [2,1,2] _,V,fun _ _=>trivial⟩
 |false=>
  rw[asJ e5];cases e4:an o.uP 4 with
  |true=>
   simp only[go_sem,hP,hh,seval,Obj.val,Obj.cells,S,R,rs,O,I,e5,e4,h,bj,bg,aZ,bf,evc];refine cG.ex (ZO hP hh hH D w C q h z Y 2 .GE V) (by decide) ?_;rintro v Z ⟨A,n1,U,T⟩;have M:=A.ge;simp only[go_sem,hP,hh,seval,M];exact⟨_,rfl,A,by omega,U,T⟩
  |false=>
   simp only[go_sem,hP,hh,seval,Obj.val,Obj.cells,S,R,rs,O,I,e5,e4,h,bj,bg,aZ,bf,evc];refine cG.ex (ZO hP hh hH D w C q h z Y 1 .GE V) (by decide) ?_;rintro v Z ⟨A,n1,U,T⟩;have M:=A.ge;simp only[go_sem,hP,hh,seval,M];exact⟨_,rfl,A,by omega,U,T⟩
end
def CL(l:List Obj)(k:Int):Nat->List ag->Bool
 |_,[]=>true
 |i,r::rest=>an (pV l r) (kR k i)&&CL l k (i+1) rest
def Xj(l:List Obj)(k:Int): ∀(rs:List ag) (i:Nat),(((List.range' i rs.length).zip rs).all fun p=>an (pV l p.2) (kR k p.1))=CL l k i rs
 | [],_=>rfl
 |r::rs,i=>by
  rw[bH,List.range'_succ,List.zip_cons_cons,ju,Xj l k rs (i+1)];rfl
def apA(l:List Obj)(o:Obj):Kg l o=CL l o.uP 0 o.gE:=by
 rw[<-Xj];unfold Kg;rw[List.range_eq_range']
def rq(l:List Obj)(o:Obj):Bool:= !Kg l o
def PQ(l:List Obj):List aa:=(l.filter (rq l)).map fun o=>fC 1 [o.id]
def GR(l:List Obj):aa:=fI 3 (PQ l)
def alo(l:List Obj)(r:ag):yD ae 52 (((dP r l).map Obj.val).getD (.agg [(.str []),(.int .i64 (0)),(.int .i64 (0)),(.int .i64 (0)),.AL,.AL])) 1=some (.int .i64 (pV l r)):=by
 unfold pV;cases dP r l with
 |none=>rw[sF,Hc,HT,j0];rfl
 |some q=>
  rw[kn,wt];show yD ae 52 (.agg q.cells) 1=_;rw[HT,j0];rfl
def alm(l:List Obj)(r:ag):((((dP r l).map Obj.val).getD (.agg [(.str []),(.int .i64 (0)),(.int .i64 (0)),(.int .i64 (0)),.AL,.AL]))).ge=true:=by
 cases dP r l<;>rfl
structure cN (a g6:Nat) (c6:List aa) (ov:aa) (n i:Nat) (e:ax) (lc:Ag.Loc):Prop where
 h3:ac e 3= .map a
 h6:ac e 6= .Ge 6 g6 0
 q6:lc.gen 6=g6
 l6:lc.get 6 g6=some c6
 h12:ac e 12=ov
 h13:ac e 13= .int .i64 (n:Nat)
 h14:ac e 14= .int .i64 (i:Nat)
section
variable{Q:aH}(hP:Q.P=ae)(hh:Q.hint=ai)(hH: ∀f,Q.specH f=none)
include hP hh
theorem apy{g6:Nat}(hM:bR aa.str s a (kx l))(T:s.gt<=s.aL)(U:lo<=s.aL)(go:o.Al)(hr:o.gE.length<1000){wv:aa}(hw:uL s wv (vZ o)){tv:aa}{J:List aa}(hO:cR 3 lo s tv J)(b1:J.length<=900000)(hx: ∀e lc M A,cR 3 lo M A (J++(bif rq l o then [fC 1 [o.id]] else []))->M.gt<=M.aL->lo<=M.aL->(∀k,k<lo->M.get [] k=s.get [] k)->ac e 4=A->cN a g6 o.cells ov n i e lc->K (.exit 2) ⟨e,46,lc⟩ M):
 ∀(w h:List ag) (e:ax) (lc:Ag.Loc),o.gE=h++w->Kg l o=CL l o.uP h.length w->ac e 4=tv->ac e 19=wv->ac e 20= .int .i64 (o.gE.length:Nat)->ac e 21= .int .i64 (h.length:Nat)->cN a g6 o.cells ov n i e lc->W Q 58 (.loop Jr) ⟨e,46,lc⟩ s K:=by
 intro w
 induction w with
 |nil=>
  intro h e lc Z h2 Y G z D F;have a9:h.length=o.gE.length:=by rw[Z];simp
  have hb:rq l o=false:=by unfold rq;rw[h2];rfl
  refine bG ?_;simp only[go_sem,hP,hh,seval,Jr,z,D,a9,cD];refine hx _ _ _ tv (by rw[hb,cF,kC];exact hO) T U (fun _ _=>rfl) ?_ ⟨?_,?_,F.q6,F.l6,?_,?_,?_⟩
  all_goals simp only[sN,seval,Y,F.h3,F.h6,F.h12,F.h13,F.h14]
 |cons r w ih=>
  intro h e lc Z h2 Y G z D F;have I:h.length<o.gE.length:=by rw[Z];simp
  have b0:o.gE[h.length]? =some r:=by rw[Z];simp
  have a8:(vZ o)[h.length]? =some (kR o.uP h.length):=by
   unfold vZ;rw[jf,List.getElem?_range I];rfl
  obtain⟨p,pc,S,R⟩:=hw.cell a8;have V:=fun lc k=>go.gE.at cH.2.2.1 b0 lc k;have a0:=dB (n:=h.length) (by omega);have C:=tK jA yY zP hM r;rw[AX] at C;have kf:=alo l r;have kc:=alm l r;obtain⟨q,hq⟩:=ct (((dP r l).map Obj.val).getD (.agg [(.str []),(.int .i64 (0)),(.int .i64 (0)),(.int .i64 (0)),.AL,.AL]));rw[hq] at C kf kc;have wc:=hw.ge;have O:=hO.ge;have rc:=go.gE.ge;have e3:=F.h3;have e6:=F.h6;have eg:=F.q6;have el:=F.l6;simp only[Obj.cells] at el;cases hk:an (pV l r) (kR o.uP h.length) with
  |true=>
   refine bG ?_;simp only[go_sem,hP,hh,seval,Jr,aG,e3,e6,eg,el,G,z,D,I,V,S,R,pc,wc,rc,C,kc,kf,hk,a0];refine ih (h++[r]) _ _ (by rw[Z];simp) (by rw[h2,CL,hk,eH,cJ];rfl) ?_ ?_ ?_ ?_ ⟨?_,?_,F.q6,F.l6,?_,?_,?_⟩
   all_goals simp only[sL,seval,Y,G,z,F.h3,F.h6,F.h12,F.h13,F.h14,sA]
  |false=>
   have hb:rq l o=true:=by unfold rq;rw[h2,CL,hk,dW];rfl
   obtain⟨A,s1,a1,a2,a3,a4,a5,a6,a7⟩:=BL (t:=35) j6.1 rfl (by decide) (s:=s) (y:=.list 3 [fC 1 [o.id]] .GE) (x:=fC 1 [o.id]) hO (by simp only[afo,eE]) b1 U T;simp only[fC,fy,uB,aG] at a1;refine bG ?_;simp only[go_sem,hP,hh,seval,Jr,aG,Y,e3,e6,eg,el,G,z,D,I,V,S,R,pc,wc,rc,C,kc,kf,hk,O,bj,bg,aZ,bf,evc];simp only[go_sem,hP,hh,seval,aG,Y,O,e6,eg,el,rc,a1,a3,bj,bg,aZ,bf,evc];refine hx _ _ s1 A (by rw[hb];exact a2) a5 (by omega) a7 ?_ ⟨?_,?_,F.q6,F.l6,?_,?_,?_⟩
   all_goals simp only[sL,seval,F.h3,F.h6,F.h12,F.h13,F.h14]
include hH
theorem apD(a2:Q.spec 300=none)(U:Q.specW 300=none)(a1:Q.spec 408=none)(T:Q.specW 408=none)(a3:Q.spec 218=none)(V:Q.specW 218=none)(J:Q.spec 125=none)(Y:Q.specW 125=none)(ho:ay 6 Obj.val ov l)(hg: ∀o∈l,o.Al)(hl:l.length<=900)(hr: ∀o∈l,o.gE.length<1000)(h5: ∀o∈l,an o.uP 5=true->o.gE.length=3)(al:a<lo){s0:St}(hM:bR aa.str s0 a (kx l))(hx: ∀e lc s z,cR 3 lo s z (PQ l)->ac e 4=z->K (.exit 0) ⟨e,46,lc⟩ s):
 ∀(w q:List Obj) (e:ax) (lc:Ag.Loc) (s:St) (z:aa),l=q++w->cR 3 lo s z ((q.filter (rq l)).map fun o=>fC 1 [o.id])->(∀k,k<lo->s.get [] k=s0.get [] k)->lo<=s.aL->s.gt<=s.aL->ac e 3= .map a->ac e 4=z->ac e 12=ov->ac e 13= .int .i64 (l.length:Nat)->ac e 14= .int .i64 (q.length:Nat)->W Q 58 (.loop Oj) ⟨e,46,lc⟩ s K:=by
 intro w
 induction w with
 |nil=>
  intro q e lc s z S hO O a9 Z h3 h4 R I G;have b0:q.length=l.length:=by rw[S];simp
  have a7:q=l:=by rw[S];simp
  refine bG ?_;simp only[go_sem,hP,hh,seval,Oj,I,G,b0,cD];rw[a7] at hO;exact hx _ _ _ z hO (by simp only[sN,seval,h4])
 |cons o w ih=>
  intro q e lc s z S hO O a9 Z h3 h4 R I G;have a8:q.length<l.length:=by rw[S];simp
  have a0:l[q.length]? =some o:=by rw[S];simp
  have C:=eP a0;have go:=hg o C;have rc:=go.gE.ge;have tc:=go.gT.ge;have rs:=go.gE.scal;have ts:=go.gT.scal;have b1:=fun lc k=>ho.at gX.2.2.1 a0 lc k;have a5:=dB (n:=q.length) (by omega);have a6:(vZ o).length=o.gE.length:=by unfold vZ;rw[ce,DU]
  have M:=asI hP hh hH a2 U a1 T a3 V J Y go (hr o C) (h5 o C) (s:=s) Z;simp only[Obj.val,Obj.cells] at M;refine bG ?_;simp only[go_sem,hP,hh,seval,Oj,R,I,G,a8,b1,Obj.val,Obj.cells,rc,tc,rs,ts,J];refine cG.ex M (by decide) ?_;rintro wv s1 ⟨A,n1,m1,o1⟩;have wc:=A.ge;have wl:=A.len;have b4:bR aa.str s1 a (kx l):=(o1 a (by omega)).trans ((O a al).trans hM);have b3:cR 3 lo s1 z ((q.filter (rq l)).map fun o=>fC 1 [o.id]):=by
   rcases hO with h|⟨q1,k,q2,q3,q4,q5⟩
   exact .inl h;exact .inr ⟨q1,k,q2,(o1 k q5).trans q3,q4,by omega⟩
  have b2:((q.filter (rq l)).map fun o=>fC 1 [o.id]).length<=900000:=by
   rw[ce]
   have:=kT (rq l) q;omega
  simp only[go_sem,hP,hh,seval,wc,wl,a6];refine apy hP hh b4 m1 (by omega) go (hr o C) A b3 b2 (ov:=ov) (n:=l.length) (i:=q.length) (g6:=lc.gen 6+1) ?_ o.gE [] _ _ rfl (apA l o) ?_ ?_ ?_ ?_ ⟨?_,?_,?_,?_,?_,?_,?_⟩
  ·intro e2 b6 s2 a4 D m2 l2 o2 c4 F
   have b5:=F.h14;simp only[go_sem,hP,hh,seval,b5,a5];refine ih (q++[o]) _ _ s2 a4 (by rw[S];simp) ?_ (fun k hk=>(o2 k hk).trans ((o1 k (by omega)).trans (O k hk))) l2 m2 ?_ ?_ ?_ ?_ ?_;cases hb:rq l o with
   |false=>
    rw[hb,cF,kC] at D;rw[o9 hb];exact D
   |true=>
    rw[hb,cT] at D;rw[tm hb,ff];exact D
   all_goals simp only[sN,seval,c4,F.h3,F.h12,F.h13,sA]
  all_goals simp only[sL,seval,h3,h4,R,I,G,bn]
  all_goals rfl
theorem apz(J:Q.spec 300=none)(w:Q.specW 300=none)(I:Q.spec 408=none)(q:Q.specW 408=none)(M:Q.spec 218=none)(z:Q.specW 218=none)(O:Q.spec 125=none)(A:Q.specW 125=none)(G:Q.spec 65=none)(R:Q.specW 65=none)(Z:Q.spec 58=none)(S:Q.specW 58=none)(h:ay 6 Obj.val ov l)(hg: ∀o∈l,o.Al)(hl:l.length<=900)(hr: ∀o∈l,o.gE.length<=999)(C:dD l=true)(hm:s.gt<=s.aL):
 ∃v s',aq Q 58 [.agg [ov]] s v s'/\fY s'.heap v (GR l):=by
 have F:=h.ge;have D:=h.scal;have Y:=h.lenS gX;have h5: ∀o∈l,an o.uP 5=true->o.gE.length=3:=fun o V e5=>by
  simp only[dD,bu] at C;obtain⟨_,_,h3⟩:=anz.1 (JP l [] C.1 o V);have e1:an o.uP 1=false:=by
   have:o.uP=5:=of_decide_eq_true e5;rw[this];rfl
  rw[e1,e5] at h3;simp only[cF,cT,bu,bE] at h3;exact h3.1
 refine aq.ofWZ hP hH ak1 Z S ?_;refine co ?_;simp only[go_sem,hP,hh,seval,F,D,G];refine cG.ex (anA hP hh hH G R h hg (by omega) (yK C) hm) (by decide) ?_;rintro v U ⟨rfl,hM,n1,m1,o1⟩;simp only[go_sem,hP,hh,seval,F,D,Y];refine apD hP hh hH J w I q M z O A h hg hl (fun o h=>by have:=hr o h;omega) h5 (a:=s.aL) (lo:=U.aL) (by omega) (s0:=U) hM ?_ l [] _ _ U .AL rfl (.inl ⟨rfl,rfl⟩) (fun _ _=>rfl) (br _) m1 ?_ ?_ ?_ ?_ ?_;intro e lc s2 tv hO h4;have T:=hO.ge;simp only[go_sem,hP,hh,seval,h4,T];refine⟨_,rfl,4,AE hO fun v C=>?_⟩;obtain⟨i,_,rfl⟩:=dy.1 C;exact EF _ _ _
 all_goals simp only[abc,alb,ah,bQ]
 all_goals rfl
end
def Di:Sp
 | [v]=>(lz v).bind fun l=>bif mU l then some (GR l) else none
 |_=>none
def apC:db ae 58 Di:=by
 intro args u q G h w xs I M;unfold Di at q;split at q;simp only[ak] at q;obtain⟨l,D,q⟩:=q;obtain⟨z,q⟩:=bh q;have q:=sI q;subst q;obtain⟨v,rfl,D,F,S⟩:=rk D;obtain⟨O,J,A,C⟩:=qQ D F;have A:en [.agg [v]]=[.agg [J]]:=by simp only[en,A]
 have z:=pf.1 z;refine j9 (T:=[]) (W:=[]) .nil .nil (args:=[.agg [v]]) (by simp only[eO,O,cw]) (fun R=>?_) G h w xs I M;rw[A];exact apz (Q:=QW [] [] R) rfl rfl (fun _=>rfl) rfl rfl rfl rfl rfl rfl rfl rfl rfl rfl rfl rfl C F z.len z.gE z.valid (by decide);cases q
def yf.run{d:Tmp}{s1:St}{C:Fr->St->Prop}{g:FuncId}{args:List aa}(q:aq Q g args s v s1)(w:d<sz)(h:C ⟨e.set d (some v),sz,lc⟩ s1):yf Q d e sz lc s C g args (Q.spec g):=by
 cases hs:Q.spec g with
 |none=>exact⟨v,s1,q,w,h⟩
 |some sp=>
  obtain⟨A,z⟩:=aq.sp_inv hs q;subst z;exact⟨v,lc,s1,by rw[A];rfl,w,h⟩
def Gq(q:n<=1000000000)(h:b<=88):jc n b=true:=by
 unfold jc;apply cP;have:(n*2+1024)*b<=2000001024*88:=rf (by omega) h;omega
variable{xs:List aa}{t:TypeId}{y:aa}
def LI{E:EI}(R:lV ae t=some E)(S:E.n=sz)(O:E.b<=88){x:aa}(h:cR sz lo s ov xs)(G:eE [] E.g E.n y s=some [x])(J:xs.length<=900000000)(C:lo<=s.aL)(I:s.gt<=s.aL):
 ∃q w,fF ae [] t ov y false s=some (q,w)/\cR sz lo w q (xs++[x])/\q.cells=[q]/\w.aL=s.aL+1/\w.gt<=w.aL/\(∀n,n<s.aL->s.get [] n≠some .tok->w.get [] n=s.get [] n)/\(∀n,n<lo->w.get [] n=s.get [] n):=by
 subst S;rcases h with⟨rfl,rfl⟩|⟨A,k,rfl,M,U,T⟩
 have D:jc [x].length E.b=true:=Gq (by simp) O;refine⟨.list E.n [x] (.own s.aL),s.new .tok,?_,.inr ⟨by simp,s.aL,rfl,by rw[fk,bS];rfl,C,kU _⟩,rfl,rfl,cq I,fun n z _=>?_,fun n z=>?_⟩;simp only[adz,fF,R,G,jG,kL,D,cF];rw[fk,bN.2 (by omega)];rfl;rw[fk,bN.2 (by omega)];rfl;have D:jc (xs.length+ [x].length) E.b=true:=Gq (by simp;omega) O;refine⟨.list E.n (xs++[x]) (.own s.aL),(s.put k none).new .tok,?_,.inr ⟨by simp,s.aL,rfl,by rw[fk,lR,bS];rfl,C,kU _⟩,rfl,rfl,cq (dh s k none I),fun n z F=>?_,fun n z=>?_⟩;simp only[afo,fF,R,au,G,jG,M,D,cw];have A:n≠k:=fun e=>F (by rw[e];exact M);rw[fk,lR,bN.2 (by omega),cF,aX,bN.2 A];rfl;rw[fk,lR,bN.2 (by omega),cF,aX,bN.2 (by omega)];rfl
abbrev VQ:=Int×List ag×Bool
def vG:Bool->oW
 |true=>.no
 |false=>.GE
def g9(name:ag)(q:VQ):aa:=.agg [.str name,.int .i64 q.1,.list 1 (q.2.1.map aG) (vG q.2.2)]
variable{α:Type}
def tQ(n:Nat)(enc:α->aa): ∀l:List α,ay n enc (fI n (l.map enc)) l
 | []=>.inl ⟨rfl,rfl⟩
 |_::_=>.inr ⟨_,rfl⟩
def UR(h:aC aR)(name:ag)(q:VQ):cL h 3 (g9 name q)=some (g9 name q):=by
 have e:cL h 2 (.list 1 (q.2.1.map aG) (vG q.2.2))=some (.list 1 (q.2.1.map aG) (vG q.2.2)):=H1 h (by rw[Gj];cases q.2.2<;>rfl) fun v w=>by
  obtain⟨x,_,rfl⟩:=dy.1 w;rfl
 show(dL (cL h 2) [.str name,.int .i64 q.1,.list 1 (q.2.1.map aG) (vG q.2.2)]).bind (fun r=>some (aa.agg r))=_;rw[yF fun v w=>?_];rfl;simp only[fc,zT,or_false] at w;rcases w with rfl|rfl|rfl
 rfl;rfl;exact e
variable{views:List ag}{vv:aa}
def XY(C:ay 1 aG vv views)(z:views.length<=1000000)(q:s.gt<=s.aL):
 ∃nv h,fF ae [] 25 (.list 1 [.str []] .GE) vv false s=some (nv,h)/\ay 1 aG nv ([]::views)/\s.aL<=h.aL/\h.gt<=h.aL/\ ∀i,i<s.aL->h.get [] i=s.get [] i:=by
 rcases C with⟨rfl,rfl⟩|⟨r,rfl⟩
 exact⟨.list 1 ([([]:ag)].map aG) .GE,s,by simp only[adz,fF,cH,eE,yL];rfl,.inr ⟨_,rfl⟩,br _,q,fun _ _=>rfl⟩;cases views with
 |nil=>exact⟨.list 1 ([([]:ag)].map aG) .GE,s,by simp only[afo,fF,cH,au,eE,uB,yL];rfl,.inr ⟨_,rfl⟩,br _,q,fun _ _=>rfl⟩
 |cons x views=>
  have w:jc ([aa.str []]++(x::views).map aG).length 16=true:=Gq (by simp only[akZ,ce] at z ⊢;omega) (by decide);refine⟨.list 1 ([aa.str []]++(x::views).map aG) (.own s.aL),s.new .tok,?_,.inr ⟨_,rfl⟩,jQ _,cq q,fun i A=>cz A⟩;rw[fy] at w ⊢;simp only[afo,fF,cH,au,eE,cF,jG,kL,w]
def fV(c:FuncId×List aa):aa:=.func (.func c.1) [] c.2
structure Hh (g10:Nat) (ov mv nv cv:aa) (nn i nc j:Nat) (name:ag) (e:ax) (lc:Ag.Loc):Prop where
 h2:ac e 2= .Ge 2 1 0
 g2:lc.gen 2=1
 l2:lc.get 2 1=some [ov]
 h6:ac e 6=cv
 h9:ac e 9= .str name
 h10:ac e 10= .Ge 10 g10 0
 q10:lc.gen 10=g10
 l10:lc.get 10 g10=some [mv]
 h24:ac e 24=nv
 h25:ac e 25= .int .i64 (nn:Nat)
 h26:ac e 26= .int .i64 (i:Nat)
 h33:ac e 33=cv
 h34:ac e 34= .int .i64 (nc:Nat)
 h35:ac e 35= .int .i64 (j:Nat)
variable{bse wc:List aa}{g10:Nat}{cv mv nv:aa}
section
variable{Q:aH}(hP:Q.P=ae)(hh:Q.hint=ai)(hH: ∀f,Q.specH f=none)
include hP hh
theorem asE{name:ag}{L:List VQ}(hV:ay 3 (g9 []) vv L)(b0:bse.length+L.length<=900000000){nn nc:Nat}{s0:St}(hx: ∀e lc s C,cR 3 lo s C (bse++L.map (g9 name))->oV s0 s->lo<=s.aL->(∀k,k<lo->s.get [] k=s0.get [] k)->ac e 7=C->Hh g10 ov mv nv cv nn i nc j name e lc->K (.exit 4) ⟨e,57,lc⟩ s):
 ∀(w h:List VQ) (e:ax) (lc:Ag.Loc) (s:St) (C:aa),L=h++w->cR 3 lo s C (bse++h.map (g9 name))->oV s0 s->lo<=s.aL->(∀k,k<lo->s.get [] k=s0.get [] k)->ac e 7=C->ac e 41=vv->ac e 42= .int .i64 (L.length:Nat)->ac e 43= .int .i64 (h.length:Nat)->Hh g10 ov mv nv cv nn i nc j name e lc->W Q 18 (.loop NG) ⟨e,57,lc⟩ s K:=by
 intro w
 induction w with
 |nil=>
  intro h e lc s C J R S G D T I A z F;have a0:h.length=L.length:=by rw[J];simp
  have Y:h=L:=by rw[J];simp
  refine bG ?_;simp only[go_sem,hP,hh,seval,NG,A,z,a0,cD];rw[Y] at R;refine hx _ _ _ C R S G D ?_ ⟨?_,F.g2,F.l2,?_,?_,?_,F.q10,F.l10,?_,?_,?_,?_,?_,?_⟩
  all_goals simp only[sN,seval,T,F.h2,F.h6,F.h9,F.h10,F.h24,F.h25,F.h26,F.h33,F.h34,F.h35]
 |cons q w ih=>
  intro h e lc s C J R S G D T I A z F;have Z:h.length<L.length:=by rw[J];simp
  have a9:L[h.length]? =some q:=by rw[J];simp
  have a8:=fun lc k=>hV.at j6.2.2.1 a9 lc k;have V:=dB (n:=h.length) (by omega);have M:=R.ge;have e9:=F.h9;obtain⟨U,s1,a1,a2,a3,a4,a5,a6,a7⟩:=LI (t:=35) j6.1 rfl (by decide) (s:=s) (y:=.list 3 [g9 name q] .GE) (x:=g9 name q) R (by simp only[afo,eE]) (by rw[cJ,ce];omega) G S.mw;simp only[g9] at a1;refine bG ?_;simp only[go_sem,hP,hh,seval,NG,g9,e9,T,I,A,z,Z,a8,M,bj,bg,aZ,bf,evc];simp only[go_sem,hP,hh,seval,g9,T,z,V,M,a1,a3,bj,bg,aZ,bf,evc];refine ih (h++[q]) _ _ s1 U (by rw[J];simp) (by rw[ff,<-ny];exact a2) (S.app a4 a5 a6) (by omega) (fun k O=>(a7 k O).trans (D k O)) ?_ ?_ ?_ ?_ ⟨?_,?_,?_,?_,?_,?_,?_,?_,?_,?_,?_,?_,?_,?_⟩
  all_goals simp only[sL,seval,I,A,F.h2,F.g2,F.l2,F.h6,F.h9,F.h10,F.q10,F.l10,F.h24,F.h25,F.h26,F.h33,F.h34,F.h35,sA]
def pZ(name:ag)(cs:List ((FuncId×List aa)×List VQ)):List aa:=cs.flatMap fun c=>c.2.map (g9 name)
omit hP hh in
theorem ao0(name:ag)(cs:List ((FuncId×List aa)×List VQ))(c:(FuncId×List aa)×List VQ):pZ name (cs++[c])=pZ name cs++c.2.map (g9 name):=by
 unfold pZ;rw[List.flatMap_append,uy,List.flatMap_nil,kC]
theorem ad0{name:ag}{cs:List ((FuncId×List aa)×List VQ)}(hC:ay 1 fV cv (cs.map (·.1)))(b3:cs.length<=1000)(Y:rb<lo)(mc:mv.ge=true)(ms:mv.cells=[mv]){s0:St}(Z:s0.get [] rb=some (.cells wc))(hc: ∀c∈cs, ∀s:St,s.get [] rb=some (.cells wc)-> ∃v,aq Q c.1.1 (.agg [mv]::c.1.2) s v s/\ay 3 (g9 []) v c.2)(a5:bse.length+(pZ name cs).length<=900000000){nn:Nat}(hx: ∀e lc s w,cR 3 lo s w (bse++pZ name cs)->lo<=s.aL->s.gt<=s.aL->(∀k,k<lo->s.get [] k=s0.get [] k)->ac e 7=w->Hh g10 ov mv nv cv nn i cs.length cs.length name e lc->K (.exit 2) ⟨e,57,lc⟩ s):
 ∀(q h:List ((FuncId×List aa)×List VQ)) (e:ax) (lc:Ag.Loc) (s:St) (w:aa),cs=h++q->cR 3 lo s w (bse++pZ name h)->lo<=s.aL->s.gt<=s.aL->(∀k,k<lo->s.get [] k=s0.get [] k)->ac e 7=w->Hh g10 ov mv nv cv nn i cs.length h.length name e lc->W Q 18 (.loop NH) ⟨e,57,lc⟩ s K:=by
 intro q
 induction q with
 |nil=>
  intro h e lc s w A S D C z h7 F;have M:h.length=cs.length:=by rw[A];simp
  have a0:h=cs:=by rw[A];simp
  have I:=F.h34;have G:=F.h35;refine bG ?_;simp only[go_sem,hP,hh,seval,NH,I,G,M,cD];rw[a0] at S;refine hx _ _ _ w S D C z ?_ ⟨?_,F.g2,F.l2,?_,?_,?_,F.q10,F.l10,?_,?_,?_,?_,?_,?_⟩
  all_goals simp only[sN,seval,h7,M,F.h2,F.h6,F.h9,F.h10,F.h24,F.h25,F.h26,F.h33,F.h34,F.h35]
 |cons c q ih=>
  intro h e lc s w A S D C z h7 F;have a1:h.length<cs.length:=by rw[A];simp
  have a6:(cs.map (·.1))[h.length]? =some c.1:=by rw[A];simp
  have a4:c∈cs:=by rw[A];simp
  have a3:=fun lc k=>hC.at GD.2.2.1 a6 lc k;have U:=dB (n:=h.length) (by omega);have a8:=F.h33;have I:=F.h34;have G:=F.h35;have a9:=F.h10;have eg:=F.q10;have el:=F.l10;have b0:=hC.ge;obtain⟨v,J,V⟩:=hc c a4 s ((z rb Y).trans Z);have vc:=V.ge;have vl:=V.lenS j6;have R:(bse++pZ name h).length+c.2.length<=900000000:=by
   have:pZ name cs=(pZ name h++c.2.map (g9 name))++pZ name q:=by
    rw[A];unfold pZ;rw[List.flatMap_append,uy,ny]
   rw[this,cJ,cJ,ce] at a5;rw[cJ];omega
  refine bG ?_;simp only[go_sem,hP,hh,seval,NH,fV,a8,I,G,a9,eg,el,a1,a3,b0,mc,ms,Aq,HF];refine yf.run J (by decide) ?_;simp only[go_sem,hP,hh,seval,vc,vl];refine asE hP hh (name:=name) V (lo:=lo) (bse:=bse++pZ name h) R (s0:=s) (g10:=g10) (ov:=ov) (mv:=mv) (nv:=nv) (cv:=cv) (nn:=nn) (i:=i) (nc:=cs.length) (j:=h.length) ?_ c.2 [] _ _ s w rfl (by rw[uB,kC];exact S) (.refl C) D (fun _ _=>rfl) ?_ ?_ ?_ ?_ ⟨?_,F.g2,F.l2,?_,?_,?_,F.q10,F.l10,?_,?_,?_,?_,?_,?_⟩
  ·intro e2 b2 s2 T a7 a2 l2 o2 c7 F2
   have b1:=F2.h35;simp only[go_sem,hP,hh,seval,b1,U];refine ih (h++[c]) _ _ s2 T (by rw[A];simp) (by rw[ao0,<-ny];exact a7) l2 a2.mw (fun k O=>(o2 k O).trans (z k O)) ?_ ⟨?_,F2.g2,F2.l2,?_,?_,?_,F2.q10,F2.l10,?_,?_,?_,?_,?_,?_⟩
   all_goals simp only[sN,seval,c7,F2.h2,F2.h6,F2.h9,F2.h10,F2.h24,F2.h25,F2.h26,F2.h33,F2.h34,sA]
  all_goals simp only[sN,seval,h7,F.h2,F.h6,F.h9,F.h10,F.h24,F.h25,F.h26,F.h33,F.h34,F.h35,bn]
  all_goals rfl
end
def zr(l:List Obj):List VQ:=(l.filter (rq l)).map fun o=>(1,[o.id],false)
def sZ(l:List Obj):List VQ:=(so (rp l)).map fun k=>(2,jr k,true)
def A2(l:List Obj):List VQ:=(wF l).map (fun i=>(3,[i],false))++((vC (lK l)).filter (HO l)).map fun q=>(4,[q.1,q.2],false)
def A3(l:List Obj):List VQ:=(l.filter (od l)).map (fun o=>(5,[o.id],false))++(l.filter (mn l)).map fun o=>(6,[o.id],false)
def xD(l:List Obj)(rl:List aI):List VQ:=(l.filter (BP l rl)).map fun o=>(7,[o.id],false)
def apx(l:List Obj):GR l=fI 3 ((zr l).map (g9 [])):=by unfold GR PQ zr;rw[mI];rfl
def adm(l:List Obj):Br l=fI 3 ((sZ l).map (g9 [])):=by unfold Br sZ;rw[mI];rfl
def ana(l:List Obj):DH l=fI 3 ((A2 l).map (g9 [])):=by unfold DH vo A2;rw[ff,mI,mI];rfl
def ane(l:List Obj):GQ l=fI 3 ((A3 l).map (g9 [])):=by unfold GQ X6 A3;rw[ff,mI,mI];rfl
def ap5(l:List Obj)(rl:List aI):zK l rl=fI 3 ((xD l rl).map (g9 [])):=by unfold zK Ko xD;rw[mI];rfl
def tf(l:List Obj)(rl:List aI):List (List VQ):=[zr l,sZ l,A2 l,A3 l,xD l rl]
def Tf(rb:Nat):List (FuncId×List aa):=[(58,[]),(59,[]),(60,[]),(61,[]),(56,[.ptr rb 0])]
def BZ(l:List Obj)(rl:List aI)(rb:Nat):List ((FuncId×List aa)×List VQ):=[((58,[]),zr l),((59,[]),sZ l),((60,[]),A2 l),((61,[]),A3 l),((56,[.ptr rb 0]),xD l rl)]
def mG(l:List Obj)(rl:List aI)(name:ag):List aa:=(tf (gi l name) rl).flatMap fun L=>L.map (g9 name)
theorem Y5(l:List Obj)(rl:List aI)(rb:Nat)(name:ag):pZ name (BZ (gi l name) rl rb)=mG l rl name:=rfl
def te(l:List Obj)(views:List ag)(rl:List aI):List aa:=bif dD l then([]::views).flatMap (mG l rl) else []
def Qg(K:List CK):(so K).length=K.length:=by
 unfold so;rw[ce,(xH _ _ _).length_eq,ce]
theorem QF{rl:List aI}{name:ag}(h:l.length<=900):(mG l rl name).length<=3000000:=by
 have q:(gi l name).length<=900:=fA (DG l name).length_le h;generalize hL:gi l name=L at q;have z:L.length*L.length<=900*900:=rf q q;have F:(zr L).length<=L.length:=by unfold zr;rw[ce];exact kT _ _
 have D:(sZ L).length<=L.length*L.length:=by unfold sZ;rw[ce,Qg];exact Sx L
 have C:(wF L).length<=L.length:=by unfold wF;rw[ce];exact kT _ _
 have w:(lK L).length<=L.length:=by unfold lK;rw[ce];exact kT _ _
 have A:(lK L).length*(lK L).length<=900*900:=rf (fA w q) (fA w q)
 grind [PB,A2,ce,A3,xD,mG,tf]
def QG{l:List Obj}{rl:List aI}(h:l.length<=900): ∀N:List ag,(N.flatMap (mG l rl)).length<=N.length*3000000
 | []=>ki _
 |n::N=>by
  rw[uy,cJ,bH,mJ];have w:=QF (rl:=rl) (name:=n) h;have q:=QG (rl:=rl) h N;omega
def asA(q: ∀o∈l,o.Al)(name:ag): ∀o∈gi l name,o.Al:=fun o h=>q o ((DG l name).subset h)
def Yl(l:List Obj):(vp l).ge=true/\(vp l).cells=[vp l]:=by cases l<;>exact⟨rfl,rfl⟩
def X7(n:Nat)(l:List aa):(fI n l).ge=true:=by cases l<;>rfl
theorem UA(h:mU l=true):l.length<small:=by
 have:=(pf.1 h).len
 grind [small]
variable{N:List ag}{w0 w1 w2 w3:aa}
section
variable{Q:aH}(hP:Q.P=ae)(hh:Q.hint=ai)(hH: ∀f,Q.specH f=none)
include hP hh hH
theorem ap4(F:Q.spec 57=some zy)(G:Q.spec 56=none)(q:Q.specW 56=none){L:List Obj}(C:ay 6 Obj.val mv L)(S: ∀o∈L,o.Al)(J:mU L=true)(R:s.get [] rb=some (.cells [w0,w1,w2,w3,vv,rv])){rl:List aI}(h:ay 8 aI.val rv rl)(O: ∀x∈rl,x.Ok)(A:rl.length<=1000000):aq Q 56 [.agg [mv],.ptr rb 0] s (zK L rl) s:=by
 have D:=C.ge;have z:=C.scal;have w:=h.ge;have I:zy [.agg [mv],rv]=some (zK L rl):=by
  simp only[adz,zy,uQ C S (UA J),BM h O A,J]
 have M:=X7 3 (Ko L rl);refine aq.ofW (by rw[hP];exact Jo.1) Jo.2 Jo.3 Jo.4 G (X7 3 (Ko L rl)) ?_ (hH 56) q;refine co ?_;unfold zK at I ⊢;simp only[go_sem,hP,hh,seval,D,z,w,R,aW,aY,F,I,M]
theorem ad1(G:Q.spec 58=some Di)(F:Q.spec 59=some BV)(D:Q.spec 60=some C2)(C:Q.spec 61=some C3)(I:Q.spec 57=some zy)(J:Q.spec 56=none)(w:Q.specW 56=none){L:List Obj}(M:ay 6 Obj.val mv L)(O: ∀o∈L,o.Al)(h:mU L=true){rl:List aI}(z:ay 8 aI.val rv rl)(S: ∀x∈rl,x.Ok)(A:rl.length<=1000000):
 ∀c∈BZ L rl rb, ∀s:St,s.get [] rb=some (.cells [w0,w1,w2,w3,vv,rv])-> ∃v,aq Q c.1.1 (.agg [mv]::c.1.2) s v s/\ay 3 (g9 []) v c.2:=by
 have q:=uQ M O (UA h);intro c R s T;simp only[BZ,fc,zT,or_false] at R;rcases R with rfl|rfl|rfl|rfl|rfl
 exact⟨GR L,aq.sp G (by simp only[adz,Di,q,h]),by rw[apx];exact tQ _ _ _⟩;exact⟨Br L,aq.sp F (by simp only[adz,BV,q,h]),by rw[adm];exact tQ _ _ _⟩;exact⟨DH L,aq.sp D (by simp only[adz,C2,q,h]),by rw[ana];exact tQ _ _ _⟩;exact⟨GQ L,aq.sp C (by simp only[adz,C3,q,h]),by rw[ane];exact tQ _ _ _⟩;exact⟨zK L rl,ap4 hP hh hH I J w M O h T z S A,by rw[ap5];exact tQ _ _ _⟩
theorem asC(a6:Q.spec 28=some vW)(ho:ay 6 Obj.val ov l)(hg: ∀o∈l,o.Al)(M:wx l){rl:List aI}(Y:rb<lo)(hN:ay 1 aG nv N)(b2:N.length<=201)(hC:ay 1 fV cv (Tf rb)){s0:St}(Z:s0.get [] rb=some (.cells wc))(hc: ∀name, ∀c∈BZ (gi l name) rl rb, ∀s:St,s.get [] rb=some (.cells wc)-> ∃v,aq Q c.1.1 (.agg [vp (gi l name)]::c.1.2) s v s/\ay 3 (g9 []) v c.2)(hx: ∀e lc s w,cR 3 lo s w (N.flatMap (mG l rl))->ac e 7=w->K (.exit 0) ⟨e,57,lc⟩ s):
 ∀(q h:List ag) (e:ax) (lc:Ag.Loc) (s:St) (w:aa),N=h++q->cR 3 lo s w (h.flatMap (mG l rl))->lo<=s.aL->s.gt<=s.aL->(∀k,k<lo->s.get [] k=s0.get [] k)->ac e 2= .Ge 2 1 0->lc.gen 2=1->lc.get 2 1=some [ov]->ac e 6=cv->ac e 7=w->ac e 24=nv->ac e 25= .int .i64 (N.length:Nat)->ac e 26= .int .i64 (h.length:Nat)->W Q 18 (.loop NJ) ⟨e,57,lc⟩ s K:=by
 intro q
 induction q with
 |nil=>
  intro h e lc s w D hO J I G R g2 T h6 h7 C A z;have a2:h.length=N.length:=by rw[D];simp
  have a0:h=N:=by rw[D];simp
  refine bG ?_;simp only[go_sem,hP,hh,seval,NJ,A,z,a2,cD];rw[a0] at hO;exact hx _ _ _ w hO (by simp only[sN,seval,h7])
 |cons name q ih=>
  intro h e lc s w D hO J I G R g2 T h6 h7 C A z;have a1:h.length<N.length:=by rw[D];simp
  have a5:N[h.length]? =some name:=by rw[D];simp
  have a3:=fun lc k=>hN.at cH.2.2.1 a5 lc k;have U:=dB (n:=h.length) (by omega);have a4:=ho.ge;have q1:=abk ho hg (by have:=M.len;omega) name;have eo:iA l name=gi l name:=by unfold iA;rw[M.valid];rfl
  rw[eo] at q1;obtain⟨mc,ms⟩:=Yl (gi l name);have a8:=hC.ge;have a7: ∀mk s',jo ae mk 98 cv s'=some (.int .i64 ((5:Nat):Int)):=hC.lenS GD;have V:(h.flatMap (mG l rl)).length+(mG l rl name).length<=900000000:=by
   have a:=QG (rl:=rl) M.len h;have b:=QF (rl:=rl) (name:=name) M.len;have c:h.length*3000000<=200*3000000:=uG _ (by omega);omega
  refine bG ?_;simp only[go_sem,hP,hh,seval,NJ,aG,R,g2,T,h6,C,A,z,a1,a3,a4,a6,q1,mc,ms,a8,a7];refine ad0 hP hh (name:=name) (cs:=BZ (gi l name) rl rb) hC (by show 5<=1000;decide) (lo:=lo) (rb:=rb) (wc:=wc) Y (ov:=ov) (mv:=vp (gi l name)) (nv:=nv) mc ms (s0:=s0) Z (hc name) (bse:=h.flatMap (mG l rl)) (by rw[Y5];exact V) (g10:=lc.gen 10+1) (nn:=N.length) (i:=h.length) ?_ (BZ (gi l name) rl rb) [] _ _ s w rfl (by simp_all [pZ]) J I G ?_ ⟨?_,?_,?_,?_,?_,?_,?_,?_,?_,?_,?_,?_,?_,?_⟩
  ·intro e2 b0 s2 O b1 S m2 o2 c7 F
   have a9:=F.h26;simp only[go_sem,hP,hh,seval,a9,U];refine ih (h++[name]) _ _ s2 O (by rw[D];simp) ?_ S m2 o2 ?_ F.g2 F.l2 ?_ ?_ ?_ ?_ ?_
   grind [Y5]
   all_goals simp only[sN,seval,c7,F.h2,F.h6,F.h24,F.h25,sA]
  all_goals simp only[sL,seval,R,g2,T,h6,h7,C,A,z,bn]
  all_goals rfl
theorem adR(D:Q.spec 31=some jK)(a6:Q.spec 28=some vW)(a3:Q.spec 58=some Di)(a2:Q.spec 59=some BV)(a1:Q.spec 60=some C2)(a0:Q.spec 61=some C3)(a4:Q.spec 57=some zy)(a5:Q.spec 56=none)(J:Q.specW 56=none)(a7:Q.spec 18=none)(M:Q.specW 18=none)(I:ay 6 Obj.val ov l)(hg: ∀o∈l,o.Al)(V:l.length<small)(hw:dD l=true->wx l)(hV:ay 1 aG vv views)(a9:views.length<=200){rl:List aI}(Y:ay 8 aI.val rv rl)(ok: ∀x∈rl,x.Ok)(Z:rl.length<=1000000)(hm:s.gt<=s.aL):
 ∃v F,aq Q 18 [.agg [ov],.agg [w0,w1,w2,w3,vv,rv]] s v F/\fY F.heap v (fI 3 (te l views rl)):=by
 have C:=I.ge;have A:=I.scal;have O:=hV.ge;have G:=A0 I hg V;obtain⟨z,h⟩:=ct (s.new (.cells [w0,w1,w2,w3,vv,rv]));have zg:z.get [] s.aL=some (.cells [w0,w1,w2,w3,vv,rv]):=by rw[<-h];exact cW
 have zm:z.gt<=z.aL:=by rw[<-h];exact cq hm
 have zn:z.aL=s.aL+1:=by rw[<-h];rfl
 refine aq.ofWZ hP hH aiw a7 M ?_;refine co ?_;cases hmv:dD l with
 |false=>
  rw[hmv] at G;simp only[go_sem,hP,hh,seval,C,A,h,D,G];refine⟨_,rfl,?_⟩;have:te l views rl=[]:=by unfold te;rw[hmv];rfl
  rw[this];exact⟨1,rfl⟩
 |true=>
  rw[hmv] at G;have W:=hw hmv;obtain⟨nv,S,b1,hN,b3,b4,b5⟩:=XY hV (by omega) zm;have U:=hN.ge;have T:=hN.lenS cH;have hC:ay 1 fV (.list 1 [.func (.func 58) [] [],.func (.func 59) [] [],.func (.func 60) [] [],.func (.func 61) [] [],.func (.func 56) [] [.ptr s.aL 0]] .GE) (Tf s.aL):=.inr ⟨.GE,rfl⟩;have a8:(aa.nilf).cells=[.nilf]:=rfl;simp only[go_sem,hP,hh,seval,a8,C,A,h,D,G,Aq,HF,zg,aW,aY,O,b1,U,T,GD,bj,bg,aZ,bf,evc];refine asC hP hh hH a6 I hg W (rl:=rl) (rb:=s.aL) (lo:=S.aL) (by omega) (wc:=[w0,w1,w2,w3,vv,rv]) hN (by rw[bH];omega) hC (s0:=S) ((b5 _ (by omega)).trans zg) (fun name c hc F hr=>ad1 hP hh hH a3 a2 a1 a0 a4 a5 J (Ym _) (asA hg name) (pf.2 (W.sub (DG l name)).fine) Y ok Z c hc F hr) ?_ ([]::views) [] _ _ S .AL rfl (.inl ⟨rfl,rfl⟩) (br _) b4 (fun _ _=>rfl) ?_ ?_ ?_ ?_ ?_ ?_ ?_ ?_;intro e lc s3 tv hO h7;have R:=hO.ge;simp only[go_sem,hP,hh,seval,h7,R];have e:te l views rl=([]::views).flatMap (mG l rl):=by unfold te;rw[hmv];rfl
  rw[e];refine⟨_,rfl,4,AE hO fun v w=>?_⟩;obtain⟨name,_,w⟩:=uC.1 w;obtain⟨L,_,w⟩:=uC.1 w;obtain⟨q,_,rfl⟩:=dy.1 w;exact UR _ _ _
  all_goals simp only[abc,alb,ah,bQ]
  all_goals rfl
end
def Rv:dX:=[(31,jK),(28,vW),(58,Di),(59,BV),(60,C2),(61,C3),(57,zy)]
def abW:dR Rv:=.cons xd (.cons abl (.cons apC (.cons adn (.cons anb (.cons anc (.cons ap7 .nil))))))
def qR(l:List Obj):Bool:= !dD l||HW l
def o4:Sp
 | [m,.agg [a,b,c,d,vv,rv]]=>(lz m).bind fun l=>(eX 1 jl vv).bind fun views=>(sX rv).bind fun rl=>bif qR l&&(decide (views.length<=200)&&eO [a,b,c,d]) then some (fI 3 (te l views rl)) else none
 |_=>none
variable{c d:aa}
def El{m a b:aa}{rl:List aI}(w:lz m=some l)(h:eX 1 jl vv=some views)(q:sX rv=some rl)(C:qR l=true)(A:views.length<=200)(z:eO [a,b,c,d]=true):o4 [m,.agg [a,b,c,d,vv,rv]]=some (fI 3 (te l views rl)):=by
 simp only[adz,o4,w,h,q,C,A,z,dT,cw]
def Mc:db ae 18 o4:=by
 intro args u q G h w xs wr hx;unfold o4 at q;split at q;rename_i m a b c d vv rv;simp only[ak] at q;obtain⟨l,U,views,A,rl,C,q⟩:=q;obtain⟨hf,q⟩:=bh q;have q:=sI q;subst q;simp only[bu,dE] at hf;obtain⟨D,V,z⟩:=hf;obtain⟨v,rfl,U,Z,hs⟩:=rk U;obtain⟨C,Y,S⟩:=Ht C;have A:=kr (fun _ _ h=>pM h) A;obtain⟨ht,v',J,T⟩:=qQ U Z;obtain⟨O,I⟩:=Kq C Y;obtain⟨M,F⟩:=pU vQ A;have J:en [.agg [v],.agg [a,b,c,d,vv,rv]]=[.agg [v'],.agg [de a,de b,de c,de d,de vv,de rv]]:=by simp only[en,de,J];rw[<-J];simp only[de,en]
 have R:dD l=true->wx l:=fun e=>by
  unfold qR at D;rw[e] at D;exact MN.1 (by simpa using D)
 simp only[eO,bu] at z;refine j9 abW (W:=[]) .nil (args:=[.agg [v],.agg [a,b,c,d,vv,rv]]) (by
  have:d8 (.agg [a,b,c,d,vv,rv])=true:=by
   simp only[d8,eO,z.1,z.2.1,z.2.2.1,z.2.2.2.1,O,M,cw]
  simp only[eO,ht,this,cw]) (fun ch=>?_) G h w xs wr hx
 rw[J];exact adR (Q:=QW Rv [] ch) rfl rfl (fun _=>rfl) rfl rfl rfl rfl rfl rfl rfl rfl rfl rfl rfl T Z hs R F V I Y S (by decide);cases q
abbrev VE:=ag×VQ
def dH(p:VE):aa:=g9 p.1 p.2
def Ed:aa->Option VE
 | .agg [.str n,.int .i64 k,.list 1 xs .no]=>(iV jl xs).bind fun l=>some (n,k,l,true)
 | .agg [.str n,.int .i64 k,.list 1 xs .GE]=>(iV jl xs).bind fun l=>some (n,k,l,false)
 |_=>none
def Sv(p:VE):Ed (dH p)=some p:=by
 obtain⟨n,k,l,b⟩:=p;have h:=yX oc l;cases b with
 |true=>show(iV jl (l.map aG)).bind _=_;rw[h];rfl
 |false=>show(iV jl (l.map aG)).bind _=_;rw[h];rfl
variable{p:VE}
def Su(h:Ed v=some p):v=dH p:=by
 unfold Ed at h;split at h;simp only[ak,aJ] at h;obtain⟨l,q,rfl⟩:=h
 have:=FE (fun _ _ h=>pM h) q;rw[this];rfl;simp only[ak,aJ] at h;obtain⟨l,q,rfl⟩:=h
 have:=FE (fun _ _ h=>pM h) q;rw[this];rfl;cases h
def TQ(p:VE):bL (dH p)=true:=by
 obtain⟨n,k,l,b⟩:=p;have h:bL (.list 1 (l.map aG) (vG b))=true:=by rw[Gj];cases b<;>rfl
 show(true&&(true&&(bL (.list 1 (l.map aG) (vG b))&&true)))=true;rw[h];rfl
def tj(p q:VE):Bool:=p.1==q.1&&(an p.2.1 q.2.1&&wV p.2.2.1 q.2.2.1)
def oI:List VE->List VE->Bool
 | [],[]=>true
 |p::a,q::b=>tj p q&&oI a b
 |_,_=>false
def Z7: ∀ {a b:List VE},oI a b=true->a.length=b.length
 | [],[],_=>rfl
 | [],_::_,h=>by cases h
 |_::_,[],h=>by cases h
 |p::a,q::b,h=>by
  simp only[oI,bu] at h;rw[bH,bH,Z7 h.2]
def u7(l:List VE):Bool:=l.all fun p=>decide (p.2.2.1.length<=1000000)
variable{a:List VE}{u:aa}
section
variable{Q:aH}(hP:Q.P=ae)(hh:Q.hint=ai)(hH: ∀f,Q.specH f=none)
include hP hh
theorem aqp(R:Q.spec 35=some AK){b:List VE}(ha:ay 3 dH u a)(hb:ay 3 dH v b)(hl:a.length=b.length)(a5:a.length<=1000000000)(fa:u7 a=true)(fb:u7 b=true)(hm:s.gt<=s.aL)(hx: ∀e,oI a b=true->K (.exit 0) ⟨e,55,lc⟩ s)(hr: ∀e,oI a b=false->ac e 4= .bool false->K .ret ⟨e,55,lc⟩ s):
 ∀(I rb pa F:List VE) (e:ax),a=pa++I->b=F++rb->pa.length=F.length->oI a b=oI I rb->ac e 0=u->ac e 1=v->ac e 5= .int .i64 (pa.length:Nat)->W Q 17 (.loop CB) ⟨e,55,lc⟩ s K:=by
 intro I;have A:=ha.lenS j6;have h:=ha.ge;have D:=hb.ge
 induction I with
 |nil=>
  intro rb pa F e T S h3 h4 w J z;have a4:pa.length=a.length:=by rw[T];simp
  have a3:rb=[]:=by
   have:b.length=F.length+rb.length:=by rw[S];simp
   exact uv (by omega)
  subst a3;refine bG ?_;simp only[go_sem,hP,hh,seval,CB,w,z,h,A,a4,cD];exact hx _ h4
 |cons p I ih=>
  intro rb pa F e T S h3 h4 w J z;have C:pa.length<a.length:=by rw[T];simp
  cases rb with
  |nil=>
   exfalso;have:b.length=F.length:=by rw[S];simp
   omega
  |cons q rb=>
   have O:a[pa.length]? =some p:=by rw[T];simp
   have M:b[pa.length]? =some q:=by rw[S,h3];simp
   have Y:=fun lc k=>ha.at j6.2.2.1 O lc k;have V:=fun lc k=>hb.at j6.2.2.1 M lc k;have a0:=dB (n:=pa.length) (by omega);have f1:p.2.2.1.length<=1000000:=by
    have:=f8.1 fa p (eP O);simpa using this
   have f2:q.2.2.1.length<=1000000:=by
    have:=f8.1 fb q (eP M);simpa using this
   have U:AK [.list 1 (p.2.2.1.map aG) (vG p.2.2.2),.list 1 (q.2.2.1.map aG) (vG q.2.2.2)]=some (.bool (wV p.2.2.1 q.2.2.1)):=by
    have a1:=Hx (v:=.list 1 (p.2.2.1.map aG) (vG p.2.2.2)) (.inr ⟨_,rfl⟩) (by rw[Gj];cases p.2.2.2<;>rfl);have a2:=Hx (v:=.list 1 (q.2.2.1.map aG) (vG q.2.2.2)) (.inr ⟨_,rfl⟩) (by rw[Gj];cases q.2.2.2<;>rfl);have b1:bw p.2.2.1.length 1000000=true:=cP f1;have b2:bw q.2.2.1.length 1000000=true:=cP f2;simp only[adz,AK,a1,a2,b1,b2,cw]
   have Z:oI a b=(tj p q&&oI I rb):=h4;refine lk ?_;cases e1:p.1==q.1 with
   |false=>
    have G:tj p q=false:=by unfold tj;rw[e1];rfl
    simp only[go_sem,hP,hh,seval,CB,w,z,h,A,C];refine iT hm ?_;simp only[go_sem,hP,hh,AV,seval,w,J,z,h,D,Y,V,dH,g9,e1];exact hr _ (by rw[Z,G,dW]) (by simp only[sN,seval])
   |true=>
    cases e2:an p.2.1 q.2.1 with
    |false=>
     have G:tj p q=false:=by unfold tj;rw[e1,e2];rfl
     simp only[go_sem,hP,hh,seval,CB,w,z,h,A,C];refine iT hm ?_;simp only[go_sem,hP,hh,AV,seval,w,J,z,h,D,Y,V,dH,g9,e1,e2];exact hr _ (by rw[Z,G,dW]) (by simp only[sN,seval])
    |true=>
     cases e3:wV p.2.2.1 q.2.2.1 with
     |false=>
      have G:tj p q=false:=by unfold tj;rw[e1,e2,e3];rfl
      rw[e3] at U;simp only[go_sem,hP,hh,seval,CB,w,z,h,A,C];refine iT hm ?_;simp only[go_sem,hP,hh,AV,seval,w,J,z,h,D,Y,V,dH,g9,e1,e2];simp only[go_sem,hP,hh,AV,seval,R,U];exact hr _ (by rw[Z,G,dW]) (by simp only[sN,seval])
     |true=>
      have G:tj p q=true:=by unfold tj;rw[e1,e2,e3];rfl
      rw[e3] at U;simp only[go_sem,hP,hh,seval,CB,w,z,h,A,C];refine iT hm ?_;simp only[go_sem,hP,hh,AV,seval,w,J,z,h,D,Y,V,dH,g9,e1,e2];simp only[go_sem,hP,hh,AV,seval,R,U,z,a0];refine ih rb (pa++[p]) (F++[q]) _ (by rw[T];simp) (by rw[S];simp) (by simp[h3]) (by rw[Z,G,eH]) ?_ ?_ ?_
      all_goals simp only[sN,seval,w,J,sA]
include hH
theorem aqo(J:Q.spec 35=some AK)(M:Q.spec 17=none)(D:Q.specW 17=none){b:List VE}(I:ay 3 dH u a)(F:ay 3 dH v b)(G:a.length<=1000000000)(U:u7 a=true)(T:u7 b=true)(O:s.gt<=s.aL):aq Q 17 [u,v] s (.bool (oI a b)) s:=by
 have A:=I.lenS j6;have w:=F.lenS j6;have C:=I.ge;have z:=F.ge;refine aq.ofZ hP hH aiv M D rfl ?_;refine co ?_;cases hn:an ((a.length:Nat):Int) ((b.length:Nat):Int) with
 |false=>
  have q:oI a b=false:=by
   cases h:oI a b with
   |false=>rfl
   |true=>
    rw[Z7 h] at hn;unfold an at hn;simp at hn
  simp only[go_sem,hP,hh,seval,C,z,A,w,hn,q]
 |true=>
  have R:a.length=b.length:=by
   have:=of_decide_eq_true hn;omega
  simp only[go_sem,hP,hh,seval,C,z,A,w,hn];refine aqp hP hh J I F R G U T O ?_ ?_ a b [] [] _ rfl rfl rfl rfl ?_ ?_ ?_;intro e q;simp only[go_sem,hP,hh,seval,q];intro e q S;simp only[go_sem,hP,hh,seval,q,S]
  all_goals simp only[sN,seval,bn]
  all_goals rfl
end
def vM:Sp
 | [u,v]=>(eX 3 Ed u).bind fun a=>(eX 3 Ed v).bind fun b=>bif bw a.length 1000000000&&(u7 a&&u7 b) then some (.bool (oI a b)) else none
 |_=>none
def P3{b:List VE}(z:ay 3 dH u a)(w:ay 3 dH v b)(h:a.length<=1000000000)(C:u7 a=true)(A:u7 b=true):vM [u,v]=some (.bool (oI a b)):=by
 have q:bw a.length 1000000000=true:=cP h;simp only[adz,vM,mX Sv z,mX Sv w,q,C,A,cw]
def RS:dX:=[(35,AK)]
def ach:dR RS:=.cons ag3 .nil
def Z6:db ae 17 vM:=by
 intro D x q G O w xs F M;unfold vM at q;split at q;rename_i u v;simp only[ak] at q;obtain⟨a,C,b,A,h⟩:=q;obtain⟨z,h⟩:=bh h;have h:=sI h;subst h;simp only[bu] at z;have C:=kr (fun _ _ h=>Su h) C;have A:=kr (fun _ _ h=>Su h) A;obtain⟨J,T⟩:=pU TQ C;obtain⟨I,S⟩:=pU TQ A;refine j9 ach (W:=[]) .nil (by simp only[eO,J,I,cw]) (fun R=>?_) G O w xs F M;exact⟨_,_,aqo (Q:=QW RS [] R) rfl rfl (fun _=>rfl) rfl rfl rfl T S (fW z.1) z.2.1 z.2.2 (by decide),⟨1,rfl⟩⟩;cases q
structure aI.OkS (x:aI):Prop where
 vals:ay 1 aG x.valuesV x.values
 pv:bL x.valuesV=true
 area:x.area.length<small
 key:x.key.length<small
 ifK:x.ifK.length<small
 len:x.values.length<small
def x8:aa->Option aI
 | .agg [.bool st,.str a,.int .i64 k,.str ik,.str iv,.int .i64 op,.str key,vv]=>(eX 1 jl vv).bind fun vs=>bif bL vv&&(bm a.length small&&(bm key.length small&&(bm ik.length small&&bm vs.length small))) then some ⟨st,a,k,ik,iv,op,key,vv,vs⟩ else none
 |_=>none
variable{x:aI}
def Sm(h:x8 v=some x):v=x.val/\x.OkS:=by
 unfold x8 at h;split at h;simp only[ak] at h;obtain⟨vs,w,h⟩:=h;obtain⟨q,h⟩:=bh h;injection h with h;subst h
 simp only[bu] at q;exact⟨rfl,kr (fun _ _ h=>pM h) w,q.1,fW q.2.1,fW q.2.2.1,fW q.2.2.2.1,fW q.2.2.2.2⟩;cases h
def acS(h:x.OkS):x8 x.val=some x:=by
 have q:=mX oc h.vals;have C:bm x.area.length small=true:=cP h.area;have A:bm x.key.length small=true:=cP h.key;have z:bm x.ifK.length small=true:=cP h.ifK;have w:bm x.values.length small=true:=cP h.len;simp only[adz,x8,aI.val,aI.cells,q,h.pv,C,A,z,w,cw]
def XF: ∀ {xs:List aa} {l:List aI},iV x8 xs=some l-> ∀x∈l,x.OkS
 | [],l,h=>by simp only[iV,aJ] at h;subst h;intro o w;cases w
 |x::xs,l,h=>by
  simp only[iV,ak,aJ] at h;obtain⟨a,A,r,z,rfl⟩:=h;intro y q;rcases fc.1 q with rfl|q
  exact(Sm A).2;exact XF z y q
def XH: ∀ {l:List aI},(∀x∈l,x.OkS)->iV x8 (l.map aI.val)=some l
 | [],_=>rfl
 |x::l,h=>by
  simp only[fy,iV,acS (h x iL),au,XH (l:=l) fun y q=>h y (iE _ q)]
def Ah(v:aa):Option (List aI):=(eX 8 x8 v).bind fun l=>bif bm l.length small then some l else none
variable{l:List aI}
def So(h:Ah v=some l):ay 8 aI.val v l/\(∀x∈l,x.OkS)/\l.length<small:=by
 unfold Ah at h;simp only[ak] at h;obtain⟨A,q,h⟩:=h;obtain⟨z,h⟩:=bh h;injection h with h;subst h
 refine⟨kr (fun v a h=>(Sm h).1) q,?_,fW z⟩;unfold eX at q;split at q;injection q with q;subst q;intro o w;cases w
 obtain⟨_,q⟩:=bh q;exact XF q;cases q
def Sq(h:ay 8 aI.val v l)(q: ∀x∈l,x.OkS)(w:l.length<small):Ah v=some l:=by
 have z:eX 8 x8 v=some l:=by
  rcases h with⟨rfl,rfl⟩|⟨r,rfl⟩
  rfl;simp only[afo,eX,XH q]
 have b:bm l.length small=true:=cP w;simp only[adz,Ah,z,b]
def PX(h:ay 8 aI.val v l)(w: ∀x∈l,x.OkS):d8 v=true/\ay 8 aI.val (de v) l:=by
 have q:pures (l.map aI.val)=true:=by
  rw[Bd];intro v A;obtain⟨x,z,rfl⟩:=dy.1 A;simp only[aI.val,aI.cells,bL,pures,(w x z).pv,cw]
 rcases h with⟨rfl,rfl⟩|⟨r,rfl⟩
 exact⟨rfl,.inl ⟨rfl,rfl⟩⟩;exact⟨by simpa[d8] using q,.inr (by
  simp only[de,lh q];exact⟨_,rfl⟩)⟩
def Gr(x:aI):Int:=IntKind.i64.wrap (IntKind.i64.wrap (IntKind.i64.wrap ((x.area.length:Nat)+(x.key.length:Nat):Int)+(x.ifK.length:Nat))+(x.ifV.length:Nat))
def wH(v:ag):Bool:=bc 300 ((v.length:Nat):Int)
def xE(x:aI):Bool:=bc 300 (Gr x)||bc 65 ((x.values.length:Nat):Int)
def sl(x:aI):Bool:= !xE x&&x.values.all fun v=> !wH v
def u6(l:List aI)(n:Int):Bool:=l.all sl&&cr ((l.length:Nat):Int) n
section
variable{Q:aH}(hP:Q.P=ae)(hh:Q.hint=ai)(hH: ∀f,Q.specH f=none)
include hP hh
theorem agk(Z:ay 8 aI.val rv l)(hi:l[i]? =some x)(O:x.OkS){n:Int}(hx: ∀e,(x.values.all fun v=> !wH v)=true->ac e 0=rv->ac e 1= .int .i64 n->ac e 5= .int .i64 (i:Nat)->K (.exit 2) ⟨e,76,lc⟩ s)(hr: ∀e,(x.values.all fun v=> !wH v)=false->ac e 4= .bool false->K .ret ⟨e,76,lc⟩ s):
 ∀(q h:List ag) (e:ax),x.values=h++q->(x.values.all fun v=> !wH v)=(q.all fun v=> !wH v)->ac e 0=rv->ac e 1= .int .i64 n->ac e 5= .int .i64 (i:Nat)->ac e 6= .int .i64 (h.length:Nat)->W Q 55 (.loop Jm) ⟨e,76,lc⟩ s K:=by
 intro q;have a1:=ajJ;have a0:=O.len;have z:=O.vals.lenS cH;have A:=O.vals.ge;have C:=Z.ge;have D:=fun lc k=>Z.at t9.2.2.1 hi lc k
 induction q with
 |nil=>
  intro h e M S F T G R;have V:h.length=x.values.length:=by rw[M];simp
  refine bG ?_;simp only[go_sem,hP,hh,seval,Jm,F,G,R,C,D,aI.val,aI.cells,A,z,V,cD];refine hx _ S ?_ ?_ ?_
  all_goals simp only[sN,seval,F,T,G]
 |cons v q ih=>
  intro h e M S F T G R;have I:h.length<x.values.length:=by rw[M];simp
  have Y:x.values[h.length]? =some v:=by rw[M];simp
  have J:=fun lc k=>O.vals.at cH.2.2.1 Y lc k;have U:IntKind.i64.wrap (((h.length:Nat):Int)+1)=((h.length+1:Nat):Int):=by rw[iC (by omega) (by omega)];omega
  refine bG ?_;cases hb:wH v with
  |true=>
   have w:=hb;unfold wH at w;simp only[go_sem,hP,hh,seval,Jm,F,G,R,C,D,J,aI.val,aI.cells,aG,A,z,I,lC,w];exact hr _ (by rw[S,ju,hb];rfl) (by simp only[sN,seval])
  |false=>
   have w:=hb;unfold wH at w;simp only[go_sem,hP,hh,seval,Jm,F,G,R,C,D,J,aI.val,aI.cells,aG,A,z,I,lC,w,U];refine ih (h++[v]) _ (by rw[M];simp) (by rw[S,ju,hb];rfl) ?_ ?_ ?_ ?_
   all_goals simp only[sN,seval,F,T,G,sA]
theorem aga(V:ay 8 aI.val rv l)(a1: ∀x∈l,x.OkS)(a3:l.length<small){n:Int}(hm:s.gt<=s.aL)(hx: ∀e,l.all sl=true->ac e 0=rv->ac e 1= .int .i64 n->K (.exit 0) ⟨e,76,lc⟩ s)(hr: ∀e,l.all sl=false->ac e 4= .bool false->K .ret ⟨e,76,lc⟩ s):
 ∀(w h:List aI) (e:ax),l=h++w->l.all sl=w.all sl->ac e 0=rv->ac e 1= .int .i64 n->ac e 5= .int .i64 (h.length:Nat)->W Q 55 (.loop Fq) ⟨e,76,lc⟩ s K:=by
 intro w;have hs:=ajJ;have q:=V.ge;have G:=V.lenS t9
 induction w with
 |nil=>
  intro h e T S z Y D;have a2:h.length=l.length:=by rw[T];simp
  refine lk ?_;simp only[go_sem,hP,hh,seval,Fq,z,D,q,G,a2,cD];refine hx _ S ?_ ?_
  all_goals simp only[sN,seval,z,Y]
 |cons x w ih=>
  intro h e T S z Y D;have I:h.length<l.length:=by rw[T];simp
  have M:l[h.length]? =some x:=by rw[T];simp
  have Z:=a1 x (eP M);have R:=Z.vals.ge;have O:=Z.vals.lenS cH;have A:=fun lc k=>V.at t9.2.2.1 M lc k;have a0:IntKind.i64.wrap (((h.length:Nat):Int)+1)=((h.length+1:Nat):Int):=by rw[iC (by omega) (by omega)];omega
  have U:xE x=true->l.all sl=false:=fun J=>by
   rw[S,ju];have:sl x=false:=by unfold sl;rw[J];rfl
   rw[this,dW]
  cases F:bc 300 (Gr x) with
  |true=>
   have J:xE x=true:=by unfold xE;rw[F,iR]
   unfold Gr at F;refine lk ?_;simp only[go_sem,hP,hh,seval,Fq,z,D,q,G,I];refine iT hm ?_;simp only[go_sem,hP,hh,CG,seval,z,D,q,A,aI.val,aI.cells,lC,F];exact hr _ (U J) (by simp only[sN,seval])
  |false=>
   cases e2:bc 65 ((x.values.length:Nat):Int) with
   |true=>
    have J:xE x=true:=by unfold xE;rw[F,e2];rfl
    unfold Gr at F;refine lk ?_;simp only[go_sem,hP,hh,seval,Fq,z,D,q,G,I];refine iT hm ?_;simp only[go_sem,hP,hh,CG,seval,z,D,q,A,aI.val,aI.cells,lC,F];simp only[go_sem,hP,hh,CG,seval,z,D,q,A,aI.val,aI.cells,R,O,e2];exact hr _ (U J) (by simp only[sN,seval])
   |false=>
    have J:xE x=false:=by unfold xE;rw[F,e2];rfl
    have hf:sl x=(x.values.all fun v=> !wH v):=by unfold sl;rw[J];rfl
    unfold Gr at F;refine lk ?_;simp only[go_sem,hP,hh,seval,Fq,z,D,q,G,I];refine iT hm ?_;simp only[go_sem,hP,hh,CG,seval,z,D,q,A,aI.val,aI.cells,lC,F];simp only[go_sem,hP,hh,CG,seval,z,D,q,A,aI.val,aI.cells,R,O,e2];refine agk hP hh V M Z (n:=n) ?_ ?_ x.values [] _ rfl rfl ?_ ?_ ?_ ?_
    ·intro F C c0 c1 c5
     simp only[go_sem,hP,hh,seval,c5,a0];refine ih (h++[x]) _ (by rw[T];simp) (by rw[S,ju,hf,C,eH]) ?_ ?_ ?_
     all_goals simp only[sN,seval,c0,c1,sA]
    intro F C c4;exact hr _ (by rw[S,ju,hf,C,dW]) c4
    all_goals simp only[sN,seval,z,Y,D,bn]
    all_goals rfl
include hH
theorem afy(G:Q.spec 55=none)(w:Q.specW 55=none)(D:ay 8 aI.val rv l)(C: ∀x∈l,x.OkS)(A:l.length<small)(n:Int)(M:s.gt<=s.aL):aq Q 55 [rv,.int .i64 n] s (.bool (u6 l n)) s:=by
 have q:=D.ge;have z:=D.lenS t9;refine aq.ofZ hP hH akY G w rfl ?_;refine co ?_;simp only[go_sem,hP,hh,seval,q];refine aga hP hh D C A (n:=n) M ?_ ?_ l [] _ rfl rfl ?_ ?_ ?_;intro e h J I;have F:u6 l n=cr ((l.length:Nat):Int) n:=by unfold u6;rw[h];rfl
 simp only[go_sem,hP,hh,seval,J,I,q,z,F];intro e h O;have F:u6 l n=false:=by unfold u6;rw[h];rfl
 simp only[go_sem,hP,hh,seval,O,F]
 all_goals simp only[sN,seval,bn]
 all_goals rfl
end
def Cj:Sp
 | [v,.int .i64 n]=>(Ah v).bind fun l=>some (.bool (u6 l n))
 |_=>none
def afu(h:ay 8 aI.val v l)(q: ∀x∈l,x.OkS)(w:l.length<small)(n:Int):Cj [v,.int .i64 n]=some (.bool (u6 l n)):=by
 simp only[Cj,Sq h q w,au]
def afv:db ae 55 Cj:=by
 intro args u q G I w xs C D;unfold Cj at q;split at q;rename_i v n;simp only[ak] at q;obtain⟨l,O,h⟩:=q;have h:=sI h;subst h;obtain⟨F,A,z⟩:=So O;obtain⟨M,J⟩:=PX F A;refine j9 (T:=[]) (W:=[]) .nil .nil (args:=[v,.int .i64 n]) (by show(d8 v&&_)=true;rw[M];rfl) (fun R=>?_) G I w xs C D;exact⟨_,_,afy (Q:=QW [] [] R) rfl rfl (fun _=>rfl) rfl rfl J A z n (by decide),⟨1,rfl⟩⟩;cases q
def yd(v:ag):Bool:=bc 60 ((v.length:Nat):Int)
def wQ(l:List Obj)(views:List ag)(rl:List aI)(n:Int):Bool:=(views.all fun v=> !yd v)&&(rF l n&&(cr ((views.length:Nat):Int) 3&&u6 rl 5))
def kQ(l:List Obj)(rl:List aI)(name:ag):List VE:=(tf (gi l name) rl).flatMap fun L=>L.map fun q=>(name,q)
def QD(l:List Obj)(rl:List aI)(name:ag):mG l rl name=(kQ l rl name).map dH:=by
 unfold mG kQ;rw[List.map_flatMap];congr 1;funext L;rw[mI];rfl
def fQ(l:List Obj)(views:List ag)(rl:List aI):List VE:=bif dD l then([]::views).flatMap (kQ l rl) else []
def Ek(l:List Obj)(views:List ag)(rl:List aI):te l views rl=(fQ l views rl).map dH:=by
 unfold te fQ;cases dD l with
 |false=>rfl
 |true=>
  show([]::views).flatMap (mG l rl)=(([]::views).flatMap (kQ l rl)).map dH;rw[List.map_flatMap];congr 1;funext name;exact QD l rl name
def nR(l:List Obj)(rl:List aI)(name:ag):List VE:=(fQ l [name] rl).drop (fQ l [] rl).length
variable{l:List Obj}
def Td(h:dD l=true->l.length<=900)(views:List ag)(rl:List aI):(fQ l views rl).length<=(views.length+1)*3000000:=by
 unfold fQ;cases hv:dD l with
 |false=>exact ki _
 |true=>
  have w:=QG (rl:=rl) (h hv) ([]::views);have q:(([]::views).flatMap (kQ l rl)).length=(([]::views).flatMap (mG l rl)).length:=by
   have:([]::views).flatMap (mG l rl)=(([]::views).flatMap (kQ l rl)).map dH:=by
    rw[List.map_flatMap];congr 1;funext name;exact QD l rl name
   rw[this,ce]
  show(([]::views).flatMap (kQ l rl)).length<=_;rw[q];simpa using w
variable{rl:List aI}
section
variable{Q:aH}(hP:Q.P=ae)(hh:Q.hint=ai)(hH: ∀f,Q.specH f=none)
include hP hh
theorem afC(V:ay 1 aG vv views)(a0:views.length<small){mv:aa}{n:Int}(R:lc.get 4 1=some [w0,w1,w2,w3,vv,rv])(Y:lc.gen 4=1)(hx: ∀e,(views.all fun v=> !yd v)=true->ac e 2= .int .i64 n->ac e 3= .Ge 3 1 0->ac e 4= .Ge 4 1 0->K (.exit 0) ⟨e,36,lc⟩ s)(hr: ∀e,(views.all fun v=> !yd v)=false->ac e 6= .bool false->K .ret ⟨e,36,lc⟩ s):
 ∀(q h:List ag) (e:ax),views=h++q->(views.all fun v=> !yd v)=(q.all fun v=> !yd v)->ac e 2= .int .i64 n->ac e 3= .Ge 3 1 0->ac e 4= .Ge 4 1 0->ac e 7= .int .i64 (h.length:Nat)->W Q 16 (.loop IJ) ⟨e,36,lc⟩ s K:=by
 intro q;have hs:=ajJ;have A:=V.ge;have z:=V.lenS cH
 induction q with
 |nil=>
  intro h e G J O M C I;have T:h.length=views.length:=by rw[G];simp
  refine bG ?_;simp only[go_sem,hP,hh,seval,IJ,C,R,Y,I,A,z,T,cD];refine hx _ J ?_ ?_ ?_
  all_goals simp only[sN,seval,O,M,C]
 |cons v q Z=>
  intro h e G J O M C I;have D:h.length<views.length:=by rw[G];simp
  have U:views[h.length]? =some v:=by rw[G];simp
  have F:=fun lc k=>V.at cH.2.2.1 U lc k;have S:IntKind.i64.wrap (((h.length:Nat):Int)+1)=((h.length+1:Nat):Int):=by rw[iC (by omega) (by omega)];omega
  refine bG ?_;cases hb:yd v with
  |true=>
   have w:=hb;unfold yd at w;simp only[go_sem,hP,hh,seval,IJ,aG,C,R,Y,I,A,z,D,F,lC,w];exact hr _ (by rw[J,ju,hb];rfl) (by simp only[sN,seval])
  |false=>
   have w:=hb;unfold yd at w;simp only[go_sem,hP,hh,seval,IJ,aG,C,R,Y,I,A,z,D,F,lC,w,S];refine Z (h++[v]) _ (by rw[G];simp) (by rw[J,ju,hb];rfl) ?_ ?_ ?_ ?_
   all_goals simp only[sN,seval,O,M,C,sA]
include hH
theorem aft(A:Q.spec 33=some Cl)(a0:Q.spec 55=some Cj)(a1:Q.spec 16=none)(I:Q.specW 16=none)(Y:ay 6 Obj.val ov l)(hg: ∀o∈l,o.Al)(U:l.length<small)(hV:ay 1 aG vv views)(T:views.length<small)(G:ay 8 aI.val rv rl)(ok: ∀x∈rl,x.OkS)(V:rl.length<small)(n:Int)(s:St):aq Q 16 [.agg [ov],.agg [w0,w1,w2,w3,vv,rv],.int .i64 n] s (.bool (wQ l views rl n)) s:=by
 have z:=Y.ge;have w:=Y.scal;have D:=hV.ge;have C:=hV.lenS cH;have J:=G.ge;have F:=afz Y hg U n;have q2:=afu G ok V 5;obtain⟨lc,h⟩:=ct (Ag.Loc.set (Ag.Loc.set [] 3 1 [ov]) 4 1 [w0,w1,w2,w3,vv,rv]);have R:lc.get 4 1=some [w0,w1,w2,w3,vv,rv]:=by rw[<-h];rfl
 have g4:lc.gen 4=1:=by rw[<-h];rfl
 have S:lc.get 3 1=some [ov]:=by rw[<-h];rfl
 have g3:lc.gen 3=1:=by rw[<-h];rfl
 refine aq.ofZ hP hH aiu a1 I rfl ?_;refine co ?_;simp only[go_sem,hP,hh,seval,z,w,h];refine afC hP hh hV T (mv:=ov) (n:=n) R g4 ?_ ?_ views [] _ rfl rfl ?_ ?_ ?_ ?_;intro e q O M r4;have Z:wQ l views rl n=(rF l n&&(cr ((views.length:Nat):Int) 3&&u6 rl 5)):=by unfold wQ;rw[q,eH]
 rw[Z];cases e1:rF l n with
 |false=>
  rw[e1] at F;simp only[go_sem,hP,hh,seval,O,M,S,g3,z,w,A,F,dW]
 |true=>
  rw[e1] at F;cases e2:cr ((views.length:Nat):Int) 3 with
  |false=>
   simp only[go_sem,hP,hh,seval,O,M,r4,S,g3,R,g4,z,w,D,C,A,F,e2,dW,gN]
  |true=>
   simp only[go_sem,hP,hh,seval,O,M,r4,S,g3,R,g4,z,w,D,C,J,A,F,e2,a0,q2,eH]
 intro e q h6;have Z:wQ l views rl n=false:=by unfold wQ;rw[q,dW]
 simp only[go_sem,hP,hh,seval,h6,Z]
 all_goals simp only[sG,seval,bn]
 all_goals rfl
end
def Ck:Sp
 | [m,.agg [a,b,c,d,vv,rv],.int .i64 n]=>(lz m).bind fun l=>(eX 1 jl vv).bind fun views=>(Ah rv).bind fun rl=>bif bm views.length small&&eO [a,b,c,d] then some (.bool (wQ l views rl n)) else none
 |_=>none
def Rx:dX:=[(33,Cl),(55,Cj)]
def abX:dR Rx:=.cons afA (.cons afv .nil)
variable{a:aa}
def afw{m b:aa}(z:lz m=some l)(h:eX 1 jl vv=some views)(w:Ah rv=some rl)(C:views.length<small)(A:eO [a,b,c,d]=true)(n:Int):Ck [m,.agg [a,b,c,d,vv,rv],.int .i64 n]=some (.bool (wQ l views rl n)):=by
 have q:bm views.length small=true:=cP C;simp only[adz,Ck,z,h,w,q,A,cw]
def afx:db ae 16 Ck:=by
 intro args u q G h w xs Z hx;unfold Ck at q;split at q;rename_i m a b c d vv rv n;simp only[ak] at q;obtain⟨l,S,views,A,rl,C,q⟩:=q;obtain⟨Y,q⟩:=bh q;have q:=sI q;subst q;simp only[bu] at Y;obtain⟨T,z⟩:=Y;obtain⟨v,rfl,S,V,hs⟩:=rk S;obtain⟨C,U,O⟩:=So C;have A:=kr (fun _ _ h=>pM h) A;obtain⟨ht,v',I,R⟩:=qQ S V;obtain⟨M,F⟩:=PX C U;obtain⟨J,D⟩:=pU vQ A;have I:en [.agg [v],.agg [a,b,c,d,vv,rv],.int .i64 n]=[.agg [v'],.agg [de a,de b,de c,de d,de vv,de rv],.int .i64 n]:=by simp only[en,de,I];rw[<-I];simp only[de,en]
 simp only[eO,bu] at z;refine j9 abX (W:=[]) .nil (args:=[.agg [v],.agg [a,b,c,d,vv,rv],.int .i64 n]) (by
  have:d8 (.agg [a,b,c,d,vv,rv])=true:=by
   simp only[d8,eO,z.1,z.2.1,z.2.2.1,z.2.2.2.1,M,J,cw]
  show(d8 (.agg [v])&&(d8 (.agg [a,b,c,d,vv,rv])&&_))=true;rw[ht,this];rfl) (fun ch=>?_) G h w xs Z hx
 rw[I];exact⟨_,_,aft (Q:=QW Rx [] ch) rfl rfl (fun _=>rfl) rfl rfl rfl rfl R V hs D (fW T) F U O n _,⟨1,rfl⟩⟩;cases q
def rd(o:Obj):ag:=match dM lU o.gT with|some v=>bif gU v then v else []|none=>[]
def abi(h:dM lU o.gT=none):rd o=[]:=by unfold rd;rw[h]
def abj{v:ag}(h:dM lU o.gT=some v):rd o=(bif gU v then v else []):=by unfold rd;rw[h]
def Du(o:Obj):Bool:=bw o.gT.length 1000000&&(match dM lU o.gT with|some v=>bm v.length small|none=>true)
variable{E:List VE}
section
variable{Q:aH}(hP:Q.P=ae)(hh:Q.hint=ai)(hH: ∀f,Q.specH f=none)
include hP hh hH
theorem asu(h:Q.spec 160=some wT)(w:Q.spec 161=some jq)(M:Q.spec 74=none)(F:Q.specW 74=none)(go:o.Al)(D:Du o=true)(s:St):aq Q 74 [o.val] s (.str (rd o)) s:=by
 have J:=go.gE.ge;have I:=go.gT.ge;have rs:=go.gE.scal;have G:=go.gT.scal;unfold Du at D;simp only[bu] at D;have z:wT [o.tagsV,.str [118,105,101,119]]=some (.tup [.str ((dM lU o.gT).getD []),.bool (dM lU o.gT).isSome]):=by
  have O:=acX go.gT go.pt;simp only[adz,wT,O,D.1];rfl
 refine aq.ofZ hP hH ald M F rfl ?_;refine co ?_;cases hq:dM lU o.gT with
 |none=>
  rw[hq] at z;simp only[Hc,Option.isSome_none] at z;have q:=abi hq;simp only[go_sem,hP,hh,seval,Obj.val,Obj.cells,J,I,rs,G,h,z,q]
 |some v=>
  rw[hq] at z;simp only[wt,Option.isSome_some] at z;have A:=D.2;rw[hq] at A;have C:=y7 (s:=v) (fW A);have q:=abj hq;cases hn:gU v with
  |false=>
   rw[hn] at C q;rw[cF] at q;simp only[go_sem,hP,hh,seval,Obj.val,Obj.cells,J,I,rs,G,h,z,w,C,q]
  |true=>
   rw[hn] at C q;rw[cT] at q;simp only[go_sem,hP,hh,seval,Obj.val,Obj.cells,J,I,rs,G,h,z,w,C,q]
theorem ast(w:Q.spec 160=some wT)(q:Q.spec 161=some jq)(h:Q.spec 74=none)(A:Q.specW 74=none)(D:Q.spec 30=none)(C:Q.specW 30=none)(go:o.Al)(J:Du o=true)(s:St):aq Q 30 [o.val] s (.str (rd o)) s:=by
 have I:=go.gE.ge;have G:=go.gT.ge;have rs:=go.gE.scal;have F:=go.gT.scal;have z:=asu hP hh hH w q h A go J s;simp only[Obj.val,Obj.cells] at z;refine aq.ofZ hP hH ajT D C rfl ?_;refine co ?_;simp only[go_sem,hP,hh,seval,Obj.val,Obj.cells,I,G,rs,F,h];refine cG.of z (by decide) ?_;simp only[go_sem,hP,hh,seval]
theorem anX(hE:ay 3 dH v E)(a9:E.length<=900000000)(hn:n<=E.length)(hx: ∀e lc s A,cR 3 lo s A ((E.drop n).map dH)->ac e 7=A->K (.exit 0) ⟨e,38,lc⟩ s):
 ∀(w h:List VE) (e:ax) (lc:Ag.Loc) (s:St) (A:aa),E.drop n=h++w->cR 3 lo s A (h.map dH)->lo<=s.aL->s.gt<=s.aL->ac e 7=A->ac e 8=v->ac e 10= .int .i64 ((n+h.length:Nat):Int)->W Q 29 (.loop NY) ⟨e,38,lc⟩ s K:=by
 intro w;have F:=hE.ge;have D:=hE.lenS j6;have a8:(E.drop n).length=E.length-n:=List.length_drop
 induction w with
 |nil=>
  intro h e lc s A C M J I R O z;have Y:n+h.length=E.length:=by
   have:(E.drop n).length=h.length:=by rw[C];simp
   omega
  have U:h=E.drop n:=by rw[C];simp
  refine bG ?_;simp only[go_sem,hP,hh,seval,NY,O,z,F,D,Y,cD];rw[U] at M;exact hx _ _ _ A M (by simp only[sN,seval,R])
 |cons q w ih=>
  intro h e lc s A C M J I R O z;have V:n+h.length<E.length:=by
   have:(E.drop n).length=h.length+(w.length+1):=by rw[C];simp
   omega
  have a0:E[n+h.length]? =some q:=by
   have:(E.drop n)[h.length]? =some q:=by rw[C];simp
   rw[List.getElem?_drop] at this;exact this
  have Z:=fun lc k=>hE.at j6.2.2.1 a0 lc k;have T:=dB (n:=n+h.length) (by omega);have G:=M.ge;obtain⟨S,s1,a1,a2,a3,a4,a5,a6,a7⟩:=LI (t:=35) j6.1 rfl (by decide) (s:=s) (y:=.list 3 [dH q] .GE) (x:=dH q) M (by simp only[afo,eE]) (by rw[ce];omega) J I;simp only[dH,g9] at a1;refine bG ?_;simp only[go_sem,hP,hh,seval,NY,dH,g9,R,O,z,F,D,V,Z,G,bj,bg,aZ,bf,evc];simp only[go_sem,hP,hh,seval,dH,g9,R,z,T,G,a1,a3,bj,bg,aZ,bf,evc];refine ih (h++[q]) _ _ s1 S (by rw[C];simp) (by rw[ff];exact a2) (by omega) a5 ?_ ?_ ?_
  all_goals simp only[sN,seval,O,sA,wq]
theorem anT(Y:Q.spec 18=some o4)(V:Q.spec 29=none)(J:Q.specW 29=none)(T:ay 6 Obj.val ov l)(hg: ∀o∈l,o.Al)(R:l.length<small)(h:qR l=true)(hV:ay 1 aG vv views)(w:ay 8 aI.val rv rl)(ok: ∀x∈rl,x.Ok)(S:rl.length<=1000000)(O:eO [w0,w1,w2,w3]=true)(name:ag)(hm:s.gt<=s.aL):
 ∃v Z,aq Q 29 [.agg [ov],.agg [w0,w1,w2,w3,vv,rv],.str name] s v Z/\fY Z.heap v (fI 3 ((nR l rl name).map dH)):=by
 have I:=T.ge;have F:=T.scal;have A:=hV.ge;have z:=hV.scal;have D:=w.ge;have C:=w.scal;have am:=uQ T hg R;have ar:=BM w ok S;have G:dD l=true->l.length<=900:=fun e=>by
  unfold qR at h;rw[e] at h;exact(MN.1 (by simpa using h)).len
 have q1:o4 [.agg [ov],.agg [w0,w1,w2,w3,.list 1 [.str name] .GE,rv]]=some (fI 3 ((fQ l [name] rl).map dH)):=by
  rw[<-Ek];exact El am (mX (l:=[name]) oc (.inr ⟨.GE,rfl⟩)) ar h (by show 1<=200;decide) O
 have q2:o4 [.agg [ov],.agg [.AL,.AL,.AL,.int .i64 0,.AL,rv]]=some (fI 3 ((fQ l [] rl).map dH)):=by
  rw[<-Ek];exact El am (mX (l:=[]) oc (.inl ⟨rfl,rfl⟩)) ar h (by decide) rfl
 have i1:=tQ 3 dH (fQ l [name] rl);have i2:=tQ 3 dH (fQ l [] rl);have c1:=i1.ge;have c2:=i2.ge;have n2:=i2.lenS j6;have e1:=Td G [name] rl;have U:(fQ l [] rl).length<=(fQ l [name] rl).length:=by
  unfold fQ;cases dD l with
  |false=>exact br _
  |true=>
   show(([]::([]:List ag)).flatMap (kQ l rl)).length<=(([]::[name]).flatMap (kQ l rl)).length;simp only[uy,List.flatMap_nil,cJ,bn];omega
 refine aq.ofWZ hP hH ajI V J ?_;refine co ?_;simp only[go_sem,hP,hh,seval,I,F,A,z,D,C,bj,bg,aZ,bf,evc];simp only[go_sem,hP,hh,seval,I,F,A,z,D,C,Y,q1,q2,c1,c2,n2,bj,bg,aZ,bf,evc];refine anX hP hh hH i1 (by simp at e1;omega) U (lo:=s.aL) ?_ ((fQ l [name] rl).drop (fQ l [] rl).length) [] _ _ s .AL rfl (.inl ⟨rfl,rfl⟩) (br _) hm ?_ ?_ ?_;intro e lc s1 tv hO h7;have M:=hO.ge;simp only[go_sem,hP,hh,seval,h7,M];refine⟨_,rfl,4,AE hO fun v hv=>?_⟩;obtain⟨q,_,rfl⟩:=dy.1 hv;exact UR _ _ _
 all_goals simp only[sG,seval,bn,Nat.add_zero]
 all_goals rfl
end
def vd:aa->Bool
 | .agg _=>false
 | .tup _=>false
 | .list _ xs _=>pures xs
 |v=>bL v
def HY(h:vd v=true):d8 v=true:=by
 cases v<;>first|exact h|(cases h;done)
def HZ(h:vd v=true):vd (de v)=true:=by
 cases v with
 |list n xs r=>
  have h:pures xs=true:=h;simp only[de,lh h];cases r<;>exact h
 |agg cs=>cases h
 |tup cs=>cases h
 |_=>rw[KU h];exact h
def tq(a b c d:aa):Bool:=vd a&&(vd b&&(vd c&&vd d))
def RH:dX:=[(18,o4)]
def ab7:dR RH:=.cons Mc .nil
def A7:Sp
 | [m,.agg [a,b,c,d,vv,rv],.str name]=>(lz m).bind fun l=>(eX 1 jl vv).bind fun _=>(sX rv).bind fun rl=>bif qR l&&tq a b c d then some (fI 3 ((nR l rl name).map dH)) else none
 |_=>none
def anU{m b:aa}(w:lz m=some l)(h:eX 1 jl vv=some views)(q:sX rv=some rl)(A:qR l=true)(z:tq a b c d=true)(name:ag):A7 [m,.agg [a,b,c,d,vv,rv],.str name]=some (fI 3 ((nR l rl name).map dH)):=by
 simp only[adz,A7,w,h,q,A,z,cw]
def Cn{b:aa}(h:tq a b c d=true):eO [a,b,c,d]=true:=by
 simp only[tq,bu] at h;simp only[eO,HY h.1,HY h.2.1,HY h.2.2.1,HY h.2.2.2,cw]
def UE{b:aa}(h:tq a b c d=true):tq (de a) (de b) (de c) (de d)=true:=by
 simp only[tq,bu] at h ⊢;exact⟨HZ h.1,HZ h.2.1,HZ h.2.2.1,HZ h.2.2.2⟩
def Uv{l:List VE}(h: ∀p∈l,p.2.2.1.length<=2):u7 l=true:=by
 unfold u7;rw[f8];intro p q
 have:=h p q;exact dQ (by omega)
def adY{L:List VQ}(w:L∈tf l rl){q:VQ}(h:q∈L):q.2.1.length<=2:=by
 simp only[tf,fc,zT,or_false] at w;rcases w with rfl|rfl|rfl|rfl|rfl
 obtain⟨o,_,rfl⟩:=dy.1 h;exact jQ 1;obtain⟨k,_,rfl⟩:=dy.1 h;show(jr k).length<=2;unfold jr;cases k.1==k.2;exact br 2;exact jQ 1;rcases lj.1 h with h|h
 obtain⟨o,_,rfl⟩:=dy.1 h;exact jQ 1;obtain⟨o,_,rfl⟩:=dy.1 h;exact br 2;rcases lj.1 h with h|h
 obtain⟨o,_,rfl⟩:=dy.1 h;exact jQ 1;obtain⟨o,_,rfl⟩:=dy.1 h;exact jQ 1;obtain⟨o,_,rfl⟩:=dy.1 h;exact jQ 1
def asv{name:ag}(h:p∈kQ l rl name):p.2.2.1.length<=2:=by
 obtain⟨L,A,z⟩:=uC.1 h;obtain⟨q,w,rfl⟩:=dy.1 z;exact adY A w
def Tc(h:p∈fQ l views rl):p.2.2.1.length<=2:=by
 unfold fQ at h;cases hv:dD l with
 |false=>rw[hv] at h;cases h
 |true=>
  rw[hv] at h;obtain⟨n,_,q⟩:=uC.1 h;exact asv q
def agZ(a:List ag):wV a a=true:=by
 rw[agY,aen];rfl
def Kv: ∀l:List VE,oI l l=true
 | []=>rfl
 |p::l=>by
  have h:an p.2.1 p.2.1=true:=EN _;simp only[oI,tj,bS,h,agZ,Kv l,cw]
def asB(l:List Obj)(name:ag):gi (gi l name) name=gi l name:=by
 unfold gi;rw[List.filter_filter];simp
def adZ(rl:List aI):tf [] rl=[[],[],[],[],[]]:=by
 have h:so (rp [])=[]:=by
  have e:rp []=[]:=by kernel_rfl
  have:=Qg (rp []);rw[e] at this ⊢;exact uv this
 have q:sZ []=[]:=by unfold sZ;rw[h];rfl
 unfold tf;rw[q];rfl
def asw(rl:List aI)(name:ag):kQ [] rl name=[]:=by
 have:gi [] name=[]:=rfl;unfold kQ;rw[this,adZ];rfl
def Ph(h:dD l=true)(rl:List aI)(name:ag):nR l rl name=kQ l rl name:=by
 unfold nR fQ;rw[h];show((kQ l rl []++(kQ l rl name++[])).drop (kQ l rl []++[]).length)=_;rw[kC,kC,List.drop_left]
def asx(l:List Obj)(rl:List aI)(name:ag):kQ (gi l name) rl name=kQ l rl name:=by
 unfold kQ;rw[asB]
def alx(l:List Obj)(views:List ag)(rl:List aI):(([]::views).flatMap fun name=>nR (iA l name) rl name)=fQ l views rl:=by
 unfold fQ;cases hv:dD l with
 |false=>
  have e: ∀name,nR (iA l name) rl name=[]:=fun name=>by
   have:iA l name=[]:=by unfold iA;rw[hv];rfl
   rw[this,Ph rfl,asw]
  show _=[];rw[List.flatMap_eq_nil_iff];exact fun n _=>e n
 |true=>
  show _=([]::views).flatMap (kQ l rl);congr 1;funext name;have:iA l name=gi l name:=by unfold iA;rw[hv];rfl
  rw[this,Ph (JF hv (DG l name)),asx]
def oZ(l:List Obj)(N:List ag):List Obj:=l.filter fun o=>N.contains (rd o)
def ahl{name:ag}(h:tB name o=true):rd o=[]\/rd o=name:=by
 unfold tB QE at h;cases hq:dM lU o.gT with
 |none=>exact .inl (abi hq)
 |some v=>
  rw[hq] at h;simp only[au] at h;rw[abj hq];cases hn:gU v with
  |false=>exact .inl rfl
  |true=>
   rw[hn] at h;simp only[cT] at h;exact .inr (eq_of_beq h)
def asz(l:List Obj){name:ag}(h:name∈ []::views):gi (oZ l ([]::views)) name=gi l name:=by
 unfold gi oZ;rw[List.filter_filter];refine List.filter_congr fun o _=>?_;cases hi:tB name o with
 |false=>rfl
 |true=>
  rw[eH,List.contains_iff_mem];rcases ahl hi with e|e
  rw[e];exact iL;rw[e];exact h
def alv(q:dD l=true)(views:List ag)(rl:List aI):fQ (oZ l ([]::views)) views rl=fQ l views rl:=by
 have h:=JF q (List.filter_sublist:(oZ l ([]::views)).Sublist l);have h:dD (oZ l ([]::views))=true:=h;unfold fQ;rw[q,h];show([]::views).flatMap _=([]::views).flatMap _;rw[List.flatMap_def,List.flatMap_def];congr 1;refine DW fun name w=>?_;unfold kQ;rw[asz l w]
def rX(p:VE):Bool:= !an p.2.1 7
def alw(l:List Obj)(views:List ag)(rl:List aI):(fQ l views rl).filter rX=fQ l views []:=by
 have z: ∀(m:List Obj) (name:ag),((tf m rl).flatMap fun L=>L.map fun q=>((name,q):VE)).filter rX=(tf m []).flatMap fun L=>L.map fun q=>(name,q):=fun m name=>by
  have keep: ∀(L:List VQ),(∀q∈L,an q.1 7=false)->(L.map fun q=>((name,q):VE)).filter rX=L.map fun q=>(name,q):=fun L h=>by
   rw[List.filter_eq_self];intro p A;obtain⟨q,w,rfl⟩:=dy.1 A;show(!an q.1 7)=true;rw[h q w];rfl
  have drop:((xD m rl).map fun q=>((name,q):VE)).filter rX=[]:=by
   rw[List.filter_eq_nil_iff];intro p A;obtain⟨q,w,rfl⟩:=dy.1 A;obtain⟨o,_,rfl⟩:=dy.1 w;show¬((!an (7:Int) 7)=true);decide
  have C:xD m []=[]:=by
   unfold xD;rw[List.map_eq_nil_iff,List.filter_eq_nil_iff];intro o _;unfold BP;simp
  simp only[tf,uy,List.flatMap_nil,kC,List.filter_append];rw[drop,C,keep (zr m) ?_,keep (sZ m) ?_,keep (A2 m) ?_,keep (A3 m) ?_];rfl;intro q w;rcases lj.1 w with w|w<;>(obtain⟨o,_,rfl⟩:=dy.1 w;rfl)
  intro q w;rcases lj.1 w with w|w<;>(obtain⟨o,_,rfl⟩:=dy.1 w;rfl)
  intro q w;obtain⟨o,_,rfl⟩:=dy.1 w;rfl;intro q w;obtain⟨o,_,rfl⟩:=dy.1 w;rfl
 unfold fQ;cases hv:dD l with
 |false=>rfl
 |true=>
  show(([]::views).flatMap (kQ l rl)).filter rX=([]::views).flatMap (kQ l []);rw[List.filter_flatMap];congr 1;funext name;exact z (gi l name) name
def anV:db ae 29 A7:=by
 intro args u z G h w xs wr hx;unfold A7 at z;split at z;rename_i m a b c d vv rv name;simp only[ak] at z;obtain⟨l,S,views,A,rl,C,z⟩:=z;obtain⟨Z,z⟩:=bh z;have z:=sI z;subst z;simp only[bu] at Z;obtain⟨U,q⟩:=Z;obtain⟨v,rfl,S,Y,hs⟩:=rk S;obtain⟨C,V,O⟩:=Ht C;have A:=kr (fun _ _ h=>pM h) A;obtain⟨ht,v',I,R⟩:=qQ S Y;obtain⟨M,F⟩:=Kq C V;obtain⟨J,D⟩:=pU vQ A;have T:=Cn (UE q);have q:=Cn q;have I:en [.agg [v],.agg [a,b,c,d,vv,rv],.str name]=[.agg [v'],.agg [de a,de b,de c,de d,de vv,de rv],.str name]:=by simp only[en,de,I];rw[<-I];simp only[de,en]
 simp only[eO,bu] at q;refine j9 ab7 (W:=[]) .nil (args:=[.agg [v],.agg [a,b,c,d,vv,rv],.str name]) (by
  have:d8 (.agg [a,b,c,d,vv,rv])=true:=by
   simp only[d8,eO,q.1,q.2.1,q.2.2.1,q.2.2.2.1,M,J,cw]
  show(d8 (.agg [v])&&(d8 (.agg [a,b,c,d,vv,rv])&&_))=true;rw[ht,this];rfl) (fun ch=>?_) G h w xs wr hx
 rw[I];exact anT (Q:=QW RH [] ch) rfl rfl (fun _=>rfl) rfl rfl rfl R Y hs U D F V O T name (by decide);cases z
def aeN{enc:α->aa}{l:List α}(h:ay n enc v l)(mk:aK)(g:Bool)(s:St):eE mk g n v s=some (l.map enc):=by
 rcases h with⟨rfl,rfl⟩|⟨r,rfl⟩
 rfl;simp only[afo,eE]
def acN{E:EI}(J:lV ae t=some E)(S:E.n=sz)(M:E.b<=88){ys:List aa}(h:cR sz lo s ov xs)(D:eE [] E.g E.n y s=some ys)(q:xs.length+ys.length<=900000000)(A:lo<=s.aL)(I:s.gt<=s.aL):
 ∃z w,fF ae [] t ov y false s=some (z,w)/\cR sz lo w z (xs++ys)/\s.aL<=w.aL/\w.gt<=w.aL/\(∀n,n<lo->w.get [] n=s.get [] n):=by
 subst S;cases ys with
 |nil=>
  have O:yL ov=true:=by rcases h with⟨rfl,_⟩|⟨_,k,rfl,_⟩<;>rfl
  refine⟨ov,s,?_,by rw[kC];exact h,br _,I,fun _ _=>rfl⟩;simp only[adz,fF,J,D,O]
 |cons C ys=>
  rcases h with⟨rfl,rfl⟩|⟨R,k,rfl,T,V,U⟩
  have F:jc (C::ys).length E.b=true:=Gq (by simp at q ⊢;omega) M;refine⟨.list E.n (C::ys) (.own s.aL),s.new .tok,?_,.inr ⟨by simp,s.aL,rfl,by rw[fk,bS];rfl,A,kU _⟩,jQ _,cq I,fun n G=>?_⟩;simp only[adz,fF,J,D,jG,kL,F,cF];rw[fk,bN.2 (by omega)];rfl;have F:jc (xs.length+(C::ys).length) E.b=true:=Gq (by simp at q ⊢;omega) M;refine⟨.list E.n (xs++C::ys) (.own s.aL),(s.put k none).new .tok,?_,.inr ⟨by simp,s.aL,rfl,by rw[fk,lR,bS];rfl,A,kU _⟩,jQ _,cq (dh s k none I),fun n G=>?_⟩;simp only[afo,fF,J,au,D,jG,T,F,cw];rw[fk,lR,bN.2 (by omega),cF,aX,bN.2 (by omega)];rfl
structure BH (ov:aa) (wc alc:List aa) (av nv:aa) (ma:Nat) (e:ax) (lc:Ag.Loc):Prop where
 h2:ac e 2= .Ge 2 1 0
 g2:lc.gen 2=1
 l2:lc.get 2 1=some [ov]
 h3:ac e 3= .Ge 3 1 0
 g3:lc.gen 3=1
 l3:lc.get 3 1=some wc
 h7:ac e 7= .Ge 7 1 0
 g7:lc.gen 7=1
 l7:lc.get 7 1=some alc
 h5:ac e 5= .bool true
 h6:ac e 6=av
 h8:ac e 8=nv
 h10:ac e 10= .map ma
variable{ma:Nat}{av:aa}
section
variable{Q:aH}(hP:Q.P=ae)(hh:Q.hint=ai)(hH: ∀f,Q.specH f=none)
include hP hh
theorem asM(c1:Q.spec 28=some vW)(c0:Q.spec 29=some A7)(ho:ay 6 Obj.val ov l)(hg: ∀o∈l,o.Al)(hl:l.length<=900)(b4: ∀name,qR (iA l name)=true)(T:ay 8 aI.val rv rl)(ok: ∀x∈rl,x.Ok)(b2:rl.length<=1000000)(hN:ay 1 aG nv N)(c5:N.length<=201)(b0:ma<lo){s0:St}(Y: ∀name,(nR (iA l name) rl name).length<=3000000)(hx: ∀e lc s A B,cR 3 lo s A ((N.flatMap fun name=>nR (iA l name) rl name).map dH)->bR aa.str s ma B->(∀k,(cI k B).getD (.bool false)= .bool (N.contains k))->lo<=s.aL->s.gt<=s.aL->ac e 9=A->BH ov wc [.AL,.AL,.AL,.int .i64 0,.AL,rv] av nv ma e lc->K (.exit 0) ⟨e,130,lc⟩ s):
 ∀(w q:List ag) (e:ax) (lc:Ag.Loc) (s:St) (A:aa) (B:List (ag×aa)),N=q++w->cR 3 lo s A ((q.flatMap fun name=>nR (iA l name) rl name).map dH)->bR aa.str s ma B->(∀k,(cI k B).getD (.bool false)= .bool (q.contains k))->lo<=s.aL->s.gt<=s.aL->ac e 9=A->ac e 11= .int .i64 (q.length:Nat)->BH ov wc [.AL,.AL,.AL,.int .i64 0,.AL,rv] av nv ma e lc->W Q 5 (.loop Ov) ⟨e,130,lc⟩ s K:=by
 intro w;have C:=hN.ge;have O:=hN.lenS cH;have a9:=T.ge;have b7:=ho.ge;have a0:M4 nv=dt.none:=by rcases hN with⟨rfl,_⟩|⟨r,rfl⟩<;>rfl
 induction w with
 |nil=>
  intro q e lc s A B G Z hM hB U I h9 z F;have b6:q.length=N.length:=by rw[G];simp
  have b3:q=N:=by rw[G];simp
  have e8:=F.h8;refine lk ?_;simp only[go_sem,hP,hh,seval,Ov,e8,z,C,O,b6,cD];rw[b3] at Z hB;refine hx _ _ _ A B Z hM hB U I ?_ ⟨?_,F.g2,F.l2,?_,F.g3,F.l3,?_,F.g7,F.l7,?_,?_,?_,?_⟩
  all_goals simp only[sN,seval,h9,F.h2,F.h3,F.h7,F.h5,F.h6,F.h8,F.h10]
 |cons name w ih=>
  intro q e lc s A B G Z hM hB U I h9 z F;have b5:q.length<N.length:=by rw[G];simp
  have b8:N[q.length]? =some name:=by rw[G];simp
  have J:=fun lc k=>hN.at cH.2.2.1 b8 lc k;have b1:=dB (n:=q.length) (by omega);have e2:=F.h2;have g2:=F.g2;have l2:=F.l2;have e7:=F.h7;have g7:=F.g7;have l7:=F.l7;have e8:=F.h8;have c2:=F.h10;have q1:=abk ho hg (by omega) name;obtain⟨mc,ms⟩:=Yl (iA l name);have c4:=ajJ;have am:=uQ (Ym (iA l name)) (fun o ho=>hg o ((FU l name).subset ho)) (by have:=(FU l name).length_le;omega);have q2:=anU (a:=.AL) (b:=.AL) (c:=.AL) (d:=.int .i64 0) (vv:=.AL) (views:=[]) am (mX oc (.inl ⟨rfl,rfl⟩)) (BM T ok b2) (b4 name) rfl name;have ic:=(tQ 3 dH (nR (iA l name) rl name)).ge;have R:=vU jA yZ hM name (.bool true);obtain⟨u,S⟩:=ct (s.put ma (some (.map (dw aa.str 0 (fe name (.bool true) B)) (fe name (.bool true) B).length)));have un:u.aL=s.aL:=by rw[<-S];rfl
  have um:u.gt<=u.aL:=by rw[<-S];exact dh _ _ _ I
  have uM:bR aa.str u ma (fe name (.bool true) B):=by rw[<-S];exact bR.put
  have uO:cR 3 lo u A ((q.flatMap fun name=>nR (iA l name) rl name).map dH):=by
   rcases Z with h|⟨p1,k,p2,p3,p4,p5⟩
   exact .inl h;exact .inr ⟨p1,k,p2,by rw[<-S,aX,bN.2 (by omega:k≠ma)];exact p3,p4,by omega⟩
  rw[S] at R;have V:((q.flatMap fun name=>nR (iA l name) rl name).map dH).length+((nR (iA l name) rl name).map dH).length<=900000000:=by
   rw[ce,ce];have G: ∀P:List ag,(P.flatMap fun name=>nR (iA l name) rl name).length<=P.length*3000000:=fun P=>by
    induction P with
    |nil=>exact ki _
    |cons a P c3=>
     rw[uy,cJ,bH,mJ]
     have:=Y a;omega
   have h2:=G q;have h3:=Y name;have h4:q.length*3000000<=200*3000000:=uG _ (by omega);omega
  obtain⟨a7,s1,a1,a2,a3,a4,a5⟩:=acN (t:=35) j6.1 rfl (by decide) (s:=u) (y:=fI 3 ((nR (iA l name) rl name).map dH)) uO (aeN (tQ 3 dH _) _ _ _) V (by omega) um;have a6:=Z.ge;have M:=a2.ge;have D:=kZ um;have a8:bR aa.str s1 ma (fe name (.bool true) B):=(a5 ma b0).trans uM;refine lk ?_;simp only[go_sem,hP,hh,seval,Ov,aG,e8,c2,z,C,O,b5,J,R];refine iT um ?_;simp only[go_sem,hP,hh,Fs,Ft,Fu,seval,aG,e2,g2,l2,e8,z,C,J,b7,c1,q1,mc,ms,D,a0];refine iT um ?_;simp only[go_sem,hP,hh,Fs,Ft,Fu,seval,aG,e7,g7,l7,e8,z,C,J,a9,mc,ms,c0,q2,ic,D,a0];simp only[go_sem,hP,hh,seval,h9,z,a6,M,ic,a1,b1];refine ih (q++[name]) _ _ s1 a7 (fe name (.bool true) B) (by rw[G];simp) (by rw[List.flatMap_append,uy,List.flatMap_nil,kC,ff];exact a2) a8 (fun k=>?_) (by omega) a4 ?_ ?_ ⟨?_,?_,?_,?_,?_,?_,?_,?_,?_,?_,?_,?_,?_⟩;rw[ON];by_cases e:k=name;rw[iP e,e];simp;rw[iN e,hB k];simp[e]
  all_goals simp only[sL,seval,F.h2,F.g2,F.l2,F.h3,F.g3,F.l3,F.h7,F.g7,F.l7,F.h5,F.h6,F.h8,F.h10,sA]
end
section
variable{Q:aH}(hP:Q.P=ae)(hh:Q.hint=ai)(hH: ∀f,Q.specH f=none)
include hP hh
theorem ao9(hE:ay 3 dH av E)(b0:E.length<=900000000){alc:List aa}{s0:St}(hx: ∀e lc s A,cR 3 lo s A ((E.filter rX).map dH)->(∀k,k<lo->s.get [] k=s0.get [] k)->lo<=s.aL->s.gt<=s.aL->ac e 14=A->BH ov wc alc av nv ma e lc->K (.exit 2) ⟨e,130,lc⟩ s):
 ∀(q h:List VE) (e:ax) (lc:Ag.Loc) (s:St) (A:aa),E=h++q->cR 3 lo s A ((h.filter rX).map dH)->(∀k,k<lo->s.get [] k=s0.get [] k)->lo<=s.aL->s.gt<=s.aL->ac e 14=A->ac e 15= .int .i64 (h.length:Nat)->BH ov wc alc av nv ma e lc->W Q 5 (.loop Jt) ⟨e,130,lc⟩ s K:=by
 intro q;have O:=hE.ge;have M:=hE.lenS j6
 induction q with
 |nil=>
  intro h e lc s A J R G D C z w F;have a8:h.length=E.length:=by rw[J];simp
  have a0:h=E:=by rw[J];simp
  have Y:=F.h6;refine bG ?_;simp only[go_sem,hP,hh,seval,Jt,Y,w,O,M,a8,cD];rw[a0] at R;refine hx _ _ _ A R G D C ?_ ⟨?_,F.g2,F.l2,?_,F.g3,F.l3,?_,F.g7,F.l7,?_,?_,?_,?_⟩
  all_goals simp only[sN,seval,z,F.h2,F.h3,F.h7,F.h5,F.h6,F.h8,F.h10]
 |cons p q ih=>
  intro h e lc s A J R G D C z w F;have U:h.length<E.length:=by rw[J];simp
  have a9:E[h.length]? =some p:=by rw[J];simp
  have V:=fun lc k=>hE.at j6.2.2.1 a9 lc k;have T:=dB (n:=h.length) (by omega);have Y:=F.h6;have S:=R.ge;cases I:an p.2.1 7 with
  |true=>
   have hb:rX p=false:=by unfold rX;rw[I];rfl
   refine bG ?_;simp only[go_sem,hP,hh,seval,Jt,dH,g9,Y,w,O,M,U,V,I,T];refine ih (h++[p]) _ _ s A (by rw[J];simp) (by rw[o9 hb];exact R) G D C ?_ ?_ ⟨?_,F.g2,F.l2,?_,F.g3,F.l3,?_,F.g7,F.l7,?_,?_,?_,?_⟩
   all_goals simp only[sN,seval,z,F.h2,F.h3,F.h7,F.h5,F.h6,F.h8,F.h10,sA]
  |false=>
   have hb:rX p=true:=by unfold rX;rw[I];rfl
   obtain⟨Z,s1,a1,a2,a3,a4,a5,a6,a7⟩:=LI (t:=35) j6.1 rfl (by decide) (s:=s) (y:=.list 3 [dH p] .GE) (x:=dH p) R (by simp only[afo,eE]) (by
    rw[ce]
    have:=kT rX h;omega) D C
   simp only[dH,g9] at a1;refine bG ?_;simp only[go_sem,hP,hh,seval,Jt,dH,g9,Y,z,w,O,M,U,V,I,S,bj,bg,aZ,bf,evc];simp only[go_sem,hP,hh,seval,dH,g9,z,w,T,S,a1,a3,bj,bg,aZ,bf,evc];refine ih (h++[p]) _ _ s1 Z (by rw[J];simp) (by rw[tm hb,ff];exact a2) (fun k I=>(a7 k I).trans (G k I)) (by omega) a5 ?_ ?_ ⟨?_,F.g2,F.l2,?_,F.g3,F.l3,?_,F.g7,F.l7,?_,?_,?_,?_⟩
   all_goals simp only[sN,seval,F.h2,F.h3,F.h7,F.h5,F.h6,F.h8,F.h10,sA]
include hH
theorem ac2(b5:Q.spec 160=some wT)(b4:Q.spec 161=some jq)(c7:Q.spec 74=none)(c0:Q.specW 74=none)(V:Q.spec 30=none)(c1:Q.specW 30=none)(ho:ay 6 Obj.val ov l)(hg: ∀o∈l,o.Al)(hl:l.length<=900)(c3: ∀o∈l,Du o=true){pv:aa}{alc:List aa}{n16:Nat}(c2:ma<lo){s0:St}(hM:bR aa.str s0 ma B)(hB: ∀k,(cI k B).getD (.bool false)= .bool (N.contains k))(hx: ∀e lc s bv,cR 6 lo s bv ((oZ l N).map Obj.val)->s.gt<=s.aL->ac e 16= .Ge 16 n16 0->lc.gen 16=n16->lc.get 16 n16=some [bv]->ac e 14=pv->BH ov wc alc av nv ma e lc->K (.exit 4) ⟨e,130,lc⟩ s):
 ∀(w h:List Obj) (e:ax) (lc:Ag.Loc) (s:St) (bv:aa),l=h++w->cR 6 lo s bv ((oZ h N).map Obj.val)->(∀k,k<lo->s.get [] k=s0.get [] k)->lo<=s.aL->s.gt<=s.aL->ac e 16= .Ge 16 n16 0->lc.gen 16=n16->lc.get 16 n16=some [bv]->ac e 14=pv->ac e 17= .int .i64 (h.length:Nat)->BH ov wc alc av nv ma e lc->W Q 5 (.loop Ju) ⟨e,130,lc⟩ s K:=by
 intro w;have I:=ho.ge;have T:=ho.lenS gX;have b6:M4 ov=dt.none:=by rcases ho with⟨rfl,_⟩|⟨r,rfl⟩<;>rfl
 induction w with
 |nil=>
  intro h e lc s bv Y U M S z A C D O q F;have c5:h.length=l.length:=by rw[Y];simp
  have c4:h=l:=by rw[Y];simp
  have e2:=F.h2;have g2:=F.g2;have l2:=F.l2;refine bG ?_;simp only[go_sem,hP,hh,seval,Ju,e2,g2,l2,q,I,T,c5,cD];rw[c4] at U;refine hx _ _ _ bv U z ?_ C D ?_ ⟨?_,F.g2,F.l2,?_,F.g3,F.l3,?_,F.g7,F.l7,?_,?_,?_,?_⟩
  all_goals simp only[sN,seval,O,A,F.h2,F.h3,F.h7,F.h5,F.h6,F.h8,F.h10]
 |cons o w ih=>
  intro h e lc s bv Y U M S z A C D O q F;have b2:h.length<l.length:=by rw[Y];simp
  have b3:l[h.length]? =some o:=by rw[Y];simp
  have a9:=eP b3;have go:=hg o a9;have rc:=go.gE.ge;have tc:=go.gT.ge;have rs:=go.gE.scal;have ts:=go.gT.scal;have J:=fun lc k=>ho.at gX.2.2.1 b3 lc k;have a0:=dB (n:=h.length) (by omega);have e2:=F.h2;have g2:=F.g2;have l2:=F.l2;have R:=F.h10;have c6:bR aa.str s ma B:=(M ma c2).trans hM;have G:=tK jA yZ GY c6 (rd o);rw[hB] at G;have Z:=ast hP hh hH b5 b4 c7 c0 V c1 go (c3 o a9) s;simp only[Obj.val,Obj.cells] at Z;have b8:=U.ge;have b7:bv.cells=[bv]:=by rcases U with⟨rfl,_⟩|⟨_,k,rfl,_⟩<;>rfl
  cases hb:N.contains (rd o) with
  |false=>
   rw[hb] at G;have e:oZ (h++[o]) N=oZ h N:=by unfold oZ;exact o9 (f:=fun o=>N.contains (rd o)) hb
   refine bG ?_;simp only[go_sem,hP,hh,seval,Ju,e2,g2,l2,R,q,I,T,b2,J,Obj.val,Obj.cells,rc,tc,rs,ts,V];refine cG.of Z (by decide) ?_;simp only[go_sem,hP,hh,seval,R,G,q,a0];refine ih (h++[o]) _ _ s bv (by rw[Y];simp) (by rw[e];exact U) M S z ?_ C D ?_ ?_ ⟨?_,F.g2,F.l2,?_,F.g3,F.l3,?_,F.g7,F.l7,?_,?_,?_,?_⟩
   all_goals simp only[sN,seval,O,A,F.h2,F.h3,F.h7,F.h5,F.h6,F.h8,F.h10,sA]
  |true=>
   rw[hb] at G;have e:oZ (h++[o]) N=oZ h N++[o]:=by unfold oZ;exact tm (f:=fun o=>N.contains (rd o)) hb
   obtain⟨c8,s1,a1,a2,a3,a4,a5,a6,a7,a8⟩:=LG (t:=22) gX.1 rfl (by decide) (enc:=Obj.val) U o (by
    have:(oZ h N).length<=h.length:=kT _ h;omega) S z
   obtain⟨u,hu⟩:=ct (s.Gt s1);rw[hu] at a2 a5 a6;have un:s.aL<=u.aL:=by rw[<-hu];exact a4
   simp only[Obj.val,Obj.cells] at a1;have b1:=kZ z;have b0:=kZ a5;refine lk ?_;simp only[go_sem,hP,hh,seval,Ju,e2,g2,l2,R,q,I,T,b2,J,Obj.val,Obj.cells,rc,tc,rs,ts,V];refine cG.of Z (by decide) ?_;simp only[go_sem,hP,hh,seval,R,G];refine iT z ?_;simp only[go_sem,hP,hh,Fs,Ft,Fu,seval,e2,g2,l2,A,C,D,q,I,J,Obj.val,Obj.cells,rc,tc,rs,ts,b8,b7,b1,b6,bj,bg,aZ,bf,evc];simp only[go_sem,hP,hh,Fs,Ft,Fu,seval,e2,g2,l2,A,C,D,q,I,J,rc,tc,rs,ts,b8,b7,a1,a3,a4,a7,a8,hu,b0,b6,a0,bj,bg,aZ,bf,evc];refine ih (h++[o]) _ _ u c8 (by rw[Y];simp) (by rw[e];exact a2) (fun k hk=>(a6 k hk).trans (M k hk)) (by omega) a5 ?_ ?_ ?_ ?_ ?_ ⟨?_,?_,?_,?_,?_,?_,?_,?_,?_,?_,?_,?_,?_⟩
   all_goals simp only[sL,seval,O,A,C,F.h2,F.g2,F.l2,F.h3,F.g3,F.l3,F.h7,F.g7,F.l7,F.h5,F.h6,F.h8,F.h10,sA]
end
def Yk: ∀ {l:List Obj},pq l=true-> ∀o∈l,xj o=false
 | [],_,o,h=>by cases h
 |a::l,h,o,q=>by
  simp only[pq] at h;cases e1:xj a with
  |true=>rw[e1] at h;cases h
  |false=>
   rw[e1] at h;rcases fc.1 q with rfl|q
   exact e1;have h:(bif vF a.gE then bif vR a.gT then pq l else false else false)=true:=h;cases e2:vF a.gE with
   |false=>rw[e2] at h;cases h
   |true=>
    rw[e2] at h;cases e3:vR a.gT with
    |false=>rw[e3] at h;cases h
    |true=>rw[e3] at h;exact Yk h o q
def afB(h:rF l (n:Int)=true):l.length<=n/\ ∀o∈l,o.gE.length<=12/\o.gT.length<=20:=by
 unfold rF at h;cases e:bc (n:Int) ((l.length:Nat):Int) with
 |true=>rw[e] at h;cases h
 |false=>
  rw[e] at h;refine⟨?_,fun o q=>?_⟩;unfold bc at e
  have:=of_decide_eq_false e;omega
  have:=Yk h o q;unfold xj at this;simp only[v9,decide_eq_false_iff_not,Nat.not_lt] at this;exact⟨this.1.1,this.1.2⟩
def ZK{k:Nat}: ∀ {l:List Obj},(∀o∈l,o.gE.length<=k)->qX l<=l.length*k
 | [],_=>ki _
 |a::l,h=>by
  have z:=h a iL;have w:=ZK (k:=k) (l:=l) fun o q=>h o (iE _ q);unfold qX at w ⊢;simp only[fy,List.sum_cons,bH,mJ];omega
def Yv(z:l.length<=40)(q: ∀o∈l,o.gE.length<=12):qR l=true:=by
 unfold qR;cases hv:dD l with
 |false=>rfl
 |true=>
  have w:=ZK q;have h:HW l=true:=MN.2 ⟨hv,by omega,by omega⟩;rw[h];rfl
def aqb(h:rl.all sl=true)(A: ∀x∈rl,x.OkS): ∀x∈rl,x.Ok:=fun x w=>by
 have q:=f8.1 h x w;have o:=A x w;unfold sl xE at q;simp only[bu,nu,v9] at q;have z:=q.1.2;unfold bc at z;have C:=of_decide_eq_false z;exact⟨o.vals,o.pv,o.area,o.key,o.ifK,by omega⟩
def EJ:Sp
 | []=>some (.bool true)
 |_=>none
section
variable{Q:aH}(hP:Q.P=ae)(hh:Q.hint=ai)(hH: ∀f,Q.specH f=none)
include hP hh hH
theorem alu(d4:Q.spec 15=some EJ)(d2:Q.spec 16=some Ck)(V:Q.spec 17=some vM)(U:Q.spec 18=some o4)(i0:Q.spec 28=some vW)(h4:Q.spec 29=some A7)(c9:Q.spec 31=some jK)(d1:Q.spec 160=some wT)(d0:Q.spec 161=some jq)(g8:Q.spec 74=none)(d6:Q.specW 74=none)(h0:Q.spec 30=none)(d7:Q.specW 30=none)(h5:Q.spec 5=none)(w5:Q.specW 5=none)(q:ay 6 Obj.val ov l)(hg: ∀o∈l,o.Al)(c5:l.length<small)(f4: ∀o∈l, ∀v,dM lU o.gT=some v->v.length<small)(a4:tq w0 w1 w2 w3=true)(hV:ay 1 aG vv views)(f1:views.length<small)(D:ay 8 aI.val rv rl)(c3: ∀x∈rl,x.OkS)(g0:rl.length<small)(hm:s.gt<=s.aL):
 ∃v s',aq Q 5 [.agg [ov],.agg [w0,w1,w2,w3,vv,rv]] s v s'/\v= .bool true:=by
 have j3:=ajJ;have I:=q.ge;have C:=q.scal;have O:=hV.ge;have M:=hV.scal;have e4:=D.ge;have e1:=D.scal;have am:=uQ q hg c5;have Z:=mX oc hV;have qh:EJ []=some (.bool true):=rfl;have S:=afw am Z (Sq D c3 g0) f1 (Cn a4) 24;refine aq.ofWZ hP hH ak3 h5 w5 ?_;refine co ?_;cases hf:wQ l views rl 24 with
 |false=>
  rw[hf] at S;simp only[go_sem,hP,hh,seval,I,C,d4,qh,d2,S];exact⟨_,rfl,rfl⟩
 |true=>
  rw[hf] at S;unfold wQ at hf;simp only[bu] at hf;obtain⟨_,g5,c8,T⟩:=hf;obtain⟨i7,G⟩:=afB (n:=24) g5;have j2:views.length<=3:=by
   unfold cr at c8
   have:=of_decide_eq_true c8;omega
  unfold u6 at T;simp only[bu] at T;have ok:=aqb T.1 c3;have j4:rl.length<=5:=by
   have h:=T.2;unfold cr at h
   have:=of_decide_eq_true h;omega
  have ar:=BM D ok (by omega);have c2:qR l=true:=Yv (by omega) fun o q=>(G o q).1;have c1: ∀r:List Obj,r.Sublist l->qR r=true:=fun r hr=>Yv (by have:=hr.length_le;omega) fun o q=>(G o (hr.subset q)).1;have c4: ∀o∈l,Du o=true:=fun o q=>by
   unfold Du;have h1:bw o.gT.length 1000000=true:=cP (by have:=(G o q).2;omega);rw[h1,eH];cases hq:dM lU o.gT with
   |none=>rfl
   |some v=>exact cP (f4 o q v hq)
  have e5:o4 [.agg [ov],.agg [w0,w1,w2,w3,vv,rv]]=some (fI 3 ((fQ l views rl).map dH)):=by
   rw[<-Ek];exact El am Z ar c2 (by omega) (Cn a4)
  have a0:o4 [.agg [ov],.agg [.AL,.AL,.AL,.int .i64 0,vv,.AL]]=some (fI 3 ((fQ l views []).map dH)):=by
   rw[<-Ek];exact El am Z (BM (.inl ⟨rfl,rfl⟩) (fun x h=>by cases h) (by decide)) c2 (by omega) rfl
  have w: ∀a2,(fQ l views a2).length<=12000000:=fun a2=>by
   have:=Td (fun _=>by omega:dD l=true->l.length<=900) views a2;omega
  have ia:=tQ 3 dH (fQ l views rl);have ic:=tQ 3 dH (fQ l views []);have J:=ia.ge;have b6:=ic.ge;have Y:=Uv (l:=fQ l views rl) fun p hp=>Tc hp;have d5:=Uv (l:=fQ l views []) fun p hp=>Tc hp;obtain⟨nv,s1,b1,hN,b3,b4,b5⟩:=XY hV (by omega) hm;have e8:=hN.ge;obtain⟨z,hz⟩:=ct (s1.new (.map [] 0));have zn:z.aL=s1.aL+1:=by rw[<-hz];rfl
  have zm:z.gt<=z.aL:=by rw[<-hz];exact cq b4
  have zM:bR aa.str z s1.aL []:=by rw[<-hz];exact cW
  have g6: ∀name,(nR (iA l name) rl name).length<=3000000:=fun name=>by
   have hv:dD (iA l name)=true:=by
    unfold iA;cases e:dD l with
    |false=>rfl
    |true=>exact JF e (DG l name)
   rw[Ph hv];have h1:=QF (l:=iA l name) (rl:=rl) (name:=name) (by have:=(FU l name).length_le;omega);rw[QD,ce] at h1;exact h1
  simp only[go_sem,hP,hh,seval,I,C,O,M,e4,e1,d4,qh,d2,S,U,e5,J,b1,e8,m7,hz,bj,bg,aZ,bf,evc];refine asM hP hh i0 h4 q hg (by omega) (fun name=>c1 _ (FU l name)) (wc:=[w0,w1,w2,w3,vv,rv]) D ok (by omega) (av:=fI 3 ((fQ l views rl).map dH)) hN (by rw[bH];omega) (ma:=s1.aL) (lo:=z.aL) (by omega) (s0:=z) g6 ?_ ([]::views) [] _ _ z .AL [] rfl (.inl ⟨rfl,rfl⟩) zM (fun k=>rfl) (br _) zm ?_ ?_ ⟨?_,?_,?_,?_,?_,?_,?_,?_,?_,?_,?_,?_,?_⟩
  ·intro e lc s3 tv B hO hM hB g4 g1 h9 F
   rw[alx] at hO;have e0:=hO.ge;have e6:=F.h6;have e7:vM [fI 3 ((fQ l views rl).map dH),tv]=some (.bool true):=by
    rw[P3 ia hO.isL (by have:=w rl;omega) Y Y,Kv]
   simp only[go_sem,hP,hh,seval,e6,h9,J,e0,V,e7];refine ao9 hP hh ia (by have:=w rl;omega) (lo:=z.aL) (ov:=ov) (nv:=nv) (wc:=[w0,w1,w2,w3,vv,rv]) (alc:=[.AL,.AL,.AL,.int .i64 0,.AL,rv]) (ma:=s1.aL) (s0:=s3) ?_ (fQ l views rl) [] _ _ s3 .AL rfl (.inl ⟨rfl,rfl⟩) (fun _ _=>rfl) g4 g1 ?_ ?_ ⟨?_,F.g2,F.l2,?_,F.g3,F.l3,?_,F.g7,F.l7,?_,?_,?_,?_⟩
   ·intro e2 f0 s4 b7 a7 c7 i6 c6 i1 F2
    rw[alw] at a7;have A:=a7.ge;have a1:vM [b7,fI 3 ((fQ l views []).map dH)]=some (.bool true):=by
     rw[P3 a7.isL ic (by have:=w [];omega) d5 d5,Kv]
    simp only[go_sem,hP,hh,seval];refine ac2 hP hh hH d1 d0 g8 d6 h0 d7 q hg (by omega) c4 (N:=[]::views) (av:=fI 3 ((fQ l views rl).map dH)) (nv:=nv) (pv:=b7) (wc:=[w0,w1,w2,w3,vv,rv]) (alc:=[.AL,.AL,.AL,.int .i64 0,.AL,rv]) (ma:=s1.aL) (lo:=s4.aL) (n16:=f0.gen 16+1) (by omega) (B:=B) (s0:=s4) ((c7 _ (by omega)).trans hM) hB ?_ l [] _ _ s4 .AL rfl (.inl ⟨rfl,rfl⟩) (fun _ _=>rfl) (br _) c6 ?_ ?_ ?_ ?_ ?_ ⟨?_,?_,?_,?_,?_,?_,?_,?_,?_,?_,?_,?_,?_⟩;intro e3 i8 s5 bv a6 i5 Ix e9 n16 a3 F3;have f2:=F3.h2;have b2:=F3.g2;have a9:=F3.l2;have f3:=F3.h3;have b0:=F3.g3;have a8:=F3.l3;have f5:=F3.h5;have f6:=F3.h6;have i3:=a6.ge;have i2:bv.cells=[bv]:=by rcases a6 with⟨rfl,_⟩|⟨_,k,rfl,_⟩<;>rfl
    have R:=A0 q hg c5;have a5:(oZ l ([]::views)).Sublist l:=List.filter_sublist;have i4:=uQ a6.isL (fun o q=>hg o (a5.subset q)) (by have:=a5.length_le;omega);have j5:(aa.AL).ge=true:=rfl;cases hv:dD l with
    |false=>
     rw[hv] at R;simp only[go_sem,hP,hh,seval,f2,b2,a9,f3,b0,a8,f5,f6,a3,I,C,O,M,A,J,b6,c9,R,U,a0,V,a1,bj,bg,aZ,bf,evc];exact⟨_,rfl,rfl⟩
    |true=>
     rw[hv] at R;have b8:o4 [.agg [bv],.agg [w0,w1,w2,w3,vv,rv]]=some (fI 3 ((fQ l views rl).map dH)):=by
      rw[<-alv hv,<-Ek];exact El i4 Z ar (c1 _ a5) (by omega) (Cn a4)
     have c0:vM [fI 3 ((fQ l views rl).map dH),fI 3 ((fQ l views rl).map dH)]=some (.bool true):=by
      rw[P3 ia ia (by have:=w rl;omega) Y Y,Kv]
     simp only[go_sem,hP,hh,seval,f2,b2,a9,f3,b0,a8,f5,f6,Ix,e9,n16,a3,I,C,i3,i2,O,M,A,J,b6,c9,R,U,b8,V,c0,bj,bg,aZ,bf,evc];simp only[go_sem,hP,hh,seval,f2,b2,a9,f3,b0,a8,f5,f6,a3,I,C,O,M,A,J,b6,U,a0,V,a1,bj,bg,aZ,bf,evc];exact⟨_,rfl,rfl⟩
    all_goals simp only[sL,seval,i1,F2.h2,F2.g2,F2.l2,F2.h3,F2.g3,F2.l3,F2.h7,F2.g7,F2.l7,F2.h5,F2.h6,F2.h8,F2.h10,bn]
    all_goals rfl
   all_goals simp only[sN,seval,F.h2,F.h3,F.h7,F.h5,F.h6,F.h8,F.h10,bn]
   all_goals rfl
  all_goals simp only[sG,seval,bn]
  all_goals rfl
end
def aau:List CK->List CK
 | []=>[]
 | [k]=>[k]
 |K=>so K
def aqY: ∀K,aau K=so K
 | []=>(uv (Qg [])).symm
 | [k]=>by
   show [k]=so [k];have h:(so [k]).Perm [k]:=by
    unfold so;exact(xH _ _ _).map _
   exact(List.perm_singleton.1 h).symm
 |_::_::_=>rfl
def L1(l:List Obj):List VQ:=(aau (rp l)).map fun k=>(2,jr k,true)
def adl(l:List Obj):L1 l=sZ l:=by unfold L1 sZ;rw[aqY]
def KS(l:List Obj)(rl:List aI)(name:ag):List aa:=[zr (gi l name),L1 (gi l name),A2 (gi l name),A3 (gi l name),xD (gi l name) rl].flatMap fun L=>L.map (g9 name)
def asy(l:List Obj)(rl:List aI)(name:ag):KS l rl name=mG l rl name:=by unfold KS mG tf;rw[adl]
def Ma(l:List Obj)(views:List ag)(rl:List aI):List aa:=bif dD l then([]::views).flatMap (KS l rl) else []
def adW(l:List Obj)(views:List ag)(rl:List aI):Ma l views rl=te l views rl:=by
 have:KS l rl=mG l rl:=funext fun n=>asy l rl n;unfold Ma te;rw[this]
def Mb:Sp
 | [m,.agg [a,b,c,d,vv,rv]]=>(lz m).bind fun l=>(eX 1 jl vv).bind fun views=>(sX rv).bind fun rl=>bif qR l&&(decide (views.length<=200)&&eO [a,b,c,d]) then some (fI 3 (Ma l views rl)) else none
 |_=>none
def adX:Mb=o4:=by
 funext l;unfold Mb o4;split;simp only[adW];rename_i h;first|rfl|(split;rename_i m a b c d vv rv;exact absurd rfl (h m a b c d vv rv);rfl)
def Rp:dX:=[(18,Mb),(17,vM),(31,jK)]
def abQ:dR Rp:=.cons (adX▸Mc) (.cons Z6 (.cons xd .nil))
def agM:mS Rp 200 15 []=some (.bool true,0):=by kernel_rfl
def agN:db ae 15 EJ:=by
 intro z u q G h w xs A C;unfold EJ at q;split at q;injection q with q;subst q
 exact oJ abQ agM (args':=[]) rfl rfl G h w xs A C;cases q
def Rl:dX:=[(15,EJ),(16,Ck),(17,vM),(18,o4),(28,vW),(29,A7),(31,jK),(160,wT),(161,jq)]
def abL:dR Rl:=.cons agN (.cons afx (.cons Z6 (.cons Mc (.cons abl (.cons anV (.cons xd (.cons agw (.cons amR .nil))))))))
def alt{x:aa}(hl:ay 6 Obj.val x l)(hg: ∀o∈l,o.Al)(hs:l.length<small)(R: ∀o∈l, ∀v,dM lU o.gT=some v->v.length<small)(F:tq w0 w1 w2 w3=true)(hV:ay 1 aG vv views)(J:views.length<small)(S:ay 8 aI.val rv rl)(z: ∀x∈rl,x.OkS)(T:rl.length<small)(G:Gh)(h:aC aR)(w:World)(xs:List Value)(wr:WR G h w)(hx:ck G [.agg [x],.agg [w0,w1,w2,w3,vv,rv]] xs):
 mM ae 5 ⟨xs⟩ w fun r Z=> ∃Y,WR Y h Z/\cZ G h w Y h Z 0 0/\VR Y (.bool true) r:=by
 obtain⟨ht,x',I,U⟩:=qQ hl hg;obtain⟨O,D⟩:=PX S z;obtain⟨M,A⟩:=pU vQ hV;have V:=UE F;have I:en [.agg [x],.agg [w0,w1,w2,w3,vv,rv]]=[.agg [x'],.agg [de w0,de w1,de w2,de w3,de vv,de rv]]:=by simp only[en,de,I];rw[<-I];simp only[de,en]
 have q:=Cn F;simp only[eO,bu] at q;refine j9 abL (W:=[]) .nil (args:=[.agg [x],.agg [w0,w1,w2,w3,vv,rv]]) (by
  have:d8 (.agg [w0,w1,w2,w3,vv,rv])=true:=by
   simp only[d8,eO,q.1,q.2.1,q.2.2.1,q.2.2.2.1,O,M,cw]
  show(d8 (.agg [x])&&(d8 (.agg [w0,w1,w2,w3,vv,rv])&&_))=true;rw[ht,this];rfl) (fun ch=>?_) G h w xs wr hx
 rw[I];obtain⟨v,s',C,rfl⟩:=alu (Q:=QW Rl [] ch) rfl rfl (fun _=>rfl) rfl rfl rfl rfl rfl rfl rfl rfl rfl rfl rfl rfl rfl rfl rfl U hg hs R V A J D z T (s:=s0) (by decide);exact⟨_,_,C,⟨1,rfl⟩⟩
def Kw:Value->Option aa
 | .bool b=>some (.bool b)
 | .int k n=>some (.int k n)
 | .string s=>some (.str s.data.toList)
 | .slice none 0 0=>some .AL
 |_=>none
variable{x:Value}
def aqq{G:Gh}(h:Kw x=some v):v.scal=true/\VR G v x:=by
 unfold Kw at h;split at h;injection h with h;subst h;exact⟨rfl,.bool _⟩
 injection h with h;subst h;exact⟨rfl,.int _ _⟩
 injection h with h;subst h;exact⟨rfl,.str _⟩
 injection h with h;subst h;exact⟨rfl,.AL⟩
 cases h
def mp(W:World)(b o:Nat):Option aa:=(W.cell? ⟨b,o,none⟩).bind Kw
open Classical in
noncomputable def pick(P:aa->Prop):Option aa:=if h: ∃v,P v then some (Classical.choose h) else none
variable{P:aa->Prop}
def PE(h:pick P=some v):P v:=by
 unfold pick at h;split at h;rename_i e;injection h with h;subst h
 exact Classical.choose_spec e;cases h
def PD(h:P v): ∃u,pick P=some u/\P u:=by
 have e: ∃v,P v:=⟨v,h⟩;exact⟨Classical.choose e,by unfold pick;rw[dif_pos e],Classical.choose_spec e⟩
def sP(W:World)(x:Value)(v:aa):Prop:= ∃(a:Addr) (len q:Nat) (h:List ag),x= .slice (some a) len q/\v= .list 1 (h.map aG) .no/\(q=0\/a.spot=none)/\h.length=len/\len<=q/\len<small/\(∀s∈h,s.length<small)/\
 ∀(i:Nat) (s:ag),h[i]? =some s->W.cell? ⟨a.block,a.off+i,none⟩=some (.string ⟨⟨s⟩⟩)
def Ac(W:World)(x:Value)(v:aa):Prop:= ∃(a:Addr) (len h:Nat) (q:List fE),x= .slice (some a) len h/\v= .list 2 (q.map jd) .no/\(h=0\/a.spot=none)/\q.length=len/\len<=h/\len<small/\(∀t∈q,t.1.length<small/\t.2.length<small)/\
 ∀(i:Nat) (t:fE),q[i]? =some t->W.cell? ⟨a.block,a.off+(i*2+0),none⟩=some (.string ⟨⟨t.1⟩⟩)/\W.cell? ⟨a.block,a.off+(i*2+1),none⟩=some (.string ⟨⟨t.2⟩⟩)
noncomputable def Ds(W:World)(b o:Nat):Option aa:=
 (W.cell? ⟨b,o,none⟩).bind fun x=>match W.cell? ⟨b,o-1,none⟩ with
  |some (.int _ _)=>pick (sP W x)
  |some (.slice _ _ _)=>pick (Ac W x)
  |some (.string _)=>pick (sP W x)
  |_=>none
noncomputable def jV(W:World):Gh where
 at_ _:=none
 dim _:=none
 ro b o:=(mp W b o).or (Ds W b o)
def yJ{W:World}{o:Nat}{s:ag}(h:W.cell? ⟨b,o,none⟩=some (.string ⟨⟨s⟩⟩)):(jV W).ro b o=some (.str s):=by
 show(mp W b o).or _=_;have:mp W b o=some (.str s):=by
  simp only[mp,h,au];rfl
 rw[this];rfl
def PR{W:World}(h:sP W x v):VR (jV W) v x:=by
 obtain⟨d,len,G,q,rfl,rfl,A,F,D,_,_,z⟩:=h;rw[<-F] at D ⊢;have C:(q.map aG).length=q.length:=by simp
 rw[<-C];refine .list A Nat.one_pos ?_ (by rw[C];exact D) ?_ trivial;intro y w;obtain⟨s,_,rfl⟩:=dy.1 w;rfl;intro i y w;rw[AA,jf] at w;cases e:q[i]? with
 |none=>rw[e] at w;cases w
 |some s=>
  rw[e] at w;simp only[kn,aJ] at w;subst w;exact yJ (z i s e)
def Yg: ∀ {l:List aa} {i:Nat} {v:aa},l[i]? =some v->nN l i=v
 | [],_,_,h=>by simp at h
 |_::_,0,_,h=>by simpa[nN] using h
 |_::l,i+1,v,h=>Yg (l:=l) (i:=i) (by simpa using h)
def HX(w: ∀x∈xs,x.cells.length=sz)(h:(aF xs)[i]? =some y): ∃v,xs[i / sz]? =some v/\v.cells[i % sz]? =some y/\i=i / sz*sz+i % sz:=by
 have z:i<(aF xs).length:=by
  rcases nZ i (aF xs).length with D|D
  exact D;rw[DT D] at h;cases h
 rw[om w] at z;have q:0<sz:=by
  rcases BD sz with F|F
  subst F;omega;exact F
 have A:i / sz<xs.length:=(Nat.div_lt_iff_lt_mul q).2 z;have G:i % sz<sz:=Nat.mod_lt _ q;have e:i=i / sz*sz+i % sz:=by rw[Nat.mul_comm];exact(Nat.div_add_mod i sz).symm
 have C:=UC w A G;rw[<-e,h] at C;refine⟨xs[i / sz],gn A,?_,e⟩;rw[Yg (gn A)] at C;exact C.symm
def arD{W:World}(h:Ac W x v):VR (jV W) v x:=by
 obtain⟨d,len,R,F,rfl,rfl,I,O,M,_,_,w⟩:=h;rw[<-O] at M ⊢;have J:(F.map jd).length=F.length:=by simp
 have C: ∀y∈F.map jd,y.cells.length=2:=by
  intro y G;obtain⟨s,_,rfl⟩:=dy.1 G;rfl
 rw[<-J];refine .list I (Nat.succ_pos 1) C (by rw[J];exact M) ?_ trivial;intro i y G;obtain⟨u,A,z,D⟩:=HX C G;rw[jf] at A;cases e:F[i / 2]? with
 |none=>rw[e] at A;cases A
 |some t=>
  rw[e] at A;simp only[kn,aJ] at A;subst A;obtain⟨T,S⟩:=w _ t e;have q:i % 2=0\/i % 2=1:=by omega
  rcases q with q|q
  rw[q] at z D;simp only[jd,aa.cells,iw,aJ] at z;subst z;rw[D];exact yJ T;rw[q] at z D;simp only[jd,aa.cells,jO,iw,aJ] at z;subst z;rw[D];exact yJ S
def agF(W:World):WR (jV W) .nil W where
 obj m o h:=by cases h
 sep m k x y h:=absurd rfl h
 ro b o v h:=by
  have h:(mp W b o).or (Ds W b o)=some v:=h;cases e:mp W b o with
  |some u=>
   rw[e] at h;simp only[Option.some_or,aJ] at h;subst h;unfold mp at e;rw[ak] at e;obtain⟨x,q,h2⟩:=e;obtain⟨h3,h4⟩:=aqq (G:=jV W) h2;exact⟨h3,x,q,h4⟩
  |none=>
   rw[e] at h;simp only[zX] at h;unfold Ds at h;rw[ak] at h;obtain⟨x,q,h2⟩:=h;split at h2;have h2:=PE h2;have hs:v.scal=true:=by obtain⟨_,_,_,_,_,rfl,_⟩:=h2;rfl
   exact⟨hs,x,q,PR h2⟩;have h2:=PE h2;have hs:v.scal=true:=by obtain⟨_,_,_,_,_,rfl,_⟩:=h2;rfl
   exact⟨hs,x,q,arD h2⟩;have h2:=PE h2;have hs:v.scal=true:=by obtain⟨_,_,_,_,_,rfl,_⟩:=h2;rfl
   exact⟨hs,x,q,PR h2⟩;cases h2
 apart m ob x i v h:=by cases h
 dim b d h:=by cases h
 below m x h:=by cases h
variable{a:Addr}{ps:List MemPlace}{cs:List Value}{fuel:Nat}{e:TypeId}
section
variable{H:Type}{enc:TypeId×Value->H}{W:World}{held:Bool}
def Bp:ae.underlying 3=some (.int .i64):=by kernel_rfl
def HD:ae.cellsOf 9=1:=by kernel_rfl
def BW:ae.cellsOf 3=1:=by kernel_rfl
def L4:ae.cellsOf 25=1:=by kernel_rfl
def ady:ae.cellsOf 50=1:=by kernel_rfl
def SU:ae.cellsOf 49=2:=by kernel_rfl
def HC:ae.cellsOf 92=2:=by kernel_rfl
def L5:ae.cellsOf 52=6:=by kernel_rfl
def ST:ae.cellsOf 24=1:=by kernel_rfl
def SS:ae.cellsOf 22=1:=by kernel_rfl
def DF:ae.underlying 9=some .string:=by kernel_rfl
def ar5:ae.underlying 50=some (.slice 92):=by kernel_rfl
def ar0:ae.underlying 22=some (.slice 52):=by kernel_rfl
def Qn{v:Value}(h:W.cell? a=some v):a.spot=none:=by
 unfold World.cell? at h;split at h;split at h;cases h;rename_i q;cases e:a.spot with
 |none=>rfl
 |some _=>rw[e] at q;simp at q
 cases h
def Sb(h:a.spot=none)(i:Nat):a.add i=⟨a.block,a.off+i,none⟩:=by
 obtain⟨b,o,sp⟩:=a;simp only at h;subst h;exact oX b o i
def FF(h:n<=maxLen):n<small:=by
 have w:maxLen=9223372036854775807:=by decide
 have q:=ajJ;omega
def DA{s:ByteArray}(h:s.size<=maxLen):s.data.toList.length<small:=by
 have e:s.data.toList.length=s.size:=Array.length_toList;rw[e];exact FF h
def alB{l:List α}(h:l.length=1): ∃a,l=[a]:=by
 match l,h with
 | [a],_=>exact⟨a,rfl⟩
def Xk{l:List α}(h:l.length=2): ∃a b,l=[a,b]:=by
 match l,h with
 | [a,b],_=>exact⟨a,b,rfl⟩
def alC{l:List α}(h:l.length=5): ∃a b c d e,l=[a,b,c,d,e]:=by
 match l,h with
 | [a,b,c,d,e],_=>exact⟨a,b,c,d,e,rfl⟩
def OE{l:List α}(h:l.length=6): ∃a b c d e f,l=[a,b,c,d,e,f]:=by
 match l,h with
 | [a,b,c,d,e,f],_=>exact⟨a,b,c,d,e,f,rfl⟩
def Pp{x:DataW H×List MemPlace}(h:DataW.trod enc ae W 0 (fun _=>true) held fuel 25 cs=some x): ∃v,cs=[v]/\(v= .slice none 0 0\/ ∃u,sP W v u):=by
 rcases Go.ChangeShapes.open_strings ar1 DF HD h with⟨rfl,_⟩|⟨a,len,A,C,rfl,_,I,R,z,_,q,D⟩
 exact⟨_,rfl,.inl rfl⟩;simp only[if_true] at z;refine⟨_,rfl,.inr ⟨_,a,len,A,(C.take len).map (fun s=>s.data.toList),rfl,rfl,?_,?_,I,FF (fA I R),?_,?_⟩⟩;rcases BD A with M|M
 exact .inl M;refine .inr (Qn (W:=W) (v:=.string (C.getD 0 ByteArray.empty)) ?_)
 have:=q 0 (by omega);exact this;rw[ce,List.length_take,z];omega;intro s O;obtain⟨b,S,rfl⟩:=dy.1 O
 have:=D b (List.mem_of_mem_take S);exact DA this;intro i s w;rw[jf] at w;cases e:(C.take len)[i]? with
 |none=>rw[e] at w;cases w
 |some b=>
  rw[e] at w;simp only[kn,aJ] at w;subst w;rw[List.getElem?_take] at e;split at e;have G:=(nY.1 e).1;have J:=q i G;have F:a.spot=none:=Qn (W:=W) (v:=.string (C.getD 0 ByteArray.empty)) (q 0 (by omega));rw[Sb F,List.getD_eq_getElem?_getD,e] at J;exact J;cases e
def aba{x:DataW H×List MemPlace}(h:DataW.trod enc ae W 0 (fun _=>true) held fuel 92 cs=some x): ∃k v:ag,cs=[.string ⟨⟨k⟩⟩,.string ⟨⟨v⟩⟩]/\k.length<small/\v.length<small:=by
 obtain⟨I,G,n,_,q,z,w⟩:=Go.ChangeShapes.trod_struct2 Tryz.underlying92 h;rw[HC] at q;obtain⟨a,b,rfl⟩:=Xk q;rw[HD] at z w;obtain⟨s,C,_,D⟩:=DataW.trod_string DF z;obtain⟨r,A,_,F⟩:=DataW.trod_string DF w;simp only[nz,lZ,wg,mH,aT] at C;simp only[oO,nz,lZ,wg,mH,aT] at A;subst C;subst A;exact⟨s.data.toList,r.data.toList,rfl,DA D,DA F⟩
def arV{x:DataW H×List MemPlace}(h:DataW.trod enc ae W 0 (fun _=>true) held fuel 49 cs=some x): ∃k v:Int,cs=[.int .i64 k,.int .i64 v]:=by
 obtain⟨F,D,n,_,q,z,w⟩:=Go.ChangeShapes.trod_struct2 Tryz.underlying49 h;rw[SU] at q;obtain⟨a,b,rfl⟩:=Xk q;rw[BW] at z w;obtain⟨s,C,_,_⟩:=DataW.trod_int Bp z;obtain⟨r,A,_,_⟩:=DataW.trod_int Bp w;simp only[nz,lZ,wg,mH,aT] at C;simp only[oO,nz,lZ,wg,mH,aT] at A;subst C;subst A;exact⟨s,r,rfl⟩
def Fz{α:Type}{P:Nat->α->Prop}: ∀(n:Nat),(∀i,i<n-> ∃o,P i o)-> ∃l:List α,l.length=n/\ ∀(i:Nat) o,l[i]? =some o->P i o
 |0,_=>⟨[],rfl,fun i o h=>by simp at h⟩
 |n+1,h=>by
  obtain⟨l,C,A⟩:=Fz n fun i w=>h i (by omega);obtain⟨o,z⟩:=h n (by omega);refine⟨l++[o],by simp[C],fun i p q=>?_⟩;rcases nZ i l.length with w|w
  rw[BA w] at q;exact A i p q;rw[wd w] at q;have:i-l.length=0:=by
   rcases BD (i-l.length) with h|h
   exact h;rw[DT (by simp;omega)] at q;cases q
  rw[this] at q;simp only[iw,aJ] at q;subst q;have:i=n:=by omega
  subst this;exact z
def HS{c:Nat}{q:List (DataW H×List MemPlace)}(F:ae.cellsOf e=c)(D:i<q.length)(z:a.spot=none)(h:(W.cells? 0 (a.add (i*ae.cellsOf e)) (ae.cellsOf e)).bind (DataW.trod enc ae W 0 (fun _=>true) held n e)=q[i]?):
 ∃cs y,DataW.trod enc ae W 0 (fun _=>true) held n e cs=some y/\cs.length=c/\ ∀j,j<c->W.cell? ⟨a.block,a.off+(i*c+j),none⟩=cs[j]? :=by
 rw[F,gn D,ak] at h;obtain⟨cs,I,G⟩:=h;obtain⟨_,A,w⟩:=World.cells?_some I;refine⟨cs,_,G,A,fun j C=>?_⟩;rw[<-w j C,Sb z,oX,wq]
def KA{len cap:Nat}{q w:List (DataW H×List MemPlace)}(C:0<ae.cellsOf e)(I:q.length=len)(M:len<=cap)(G: ∀i,i<len->(W.cells? 0 (a.add (i*ae.cellsOf e)) (ae.cellsOf e)).bind (DataW.trod enc ae W 0 (fun _=>true) held n e)=q[i]?)(F:w.length=cap-len/\ ∀j,j<cap-len->(W.cells? 0 (a.add ((len+j)*ae.cellsOf e)) (ae.cellsOf e)).bind (DataW.trod enc ae W 0 (fun _=>true) held n e)=w[j]?):cap=0\/a.spot=none:=by
 rcases BD cap with J|J
 exact .inl J;refine .inr ?_;have A: ∀o:Option (DataW H×List MemPlace),o.isSome=true->(W.cells? 0 (a.add (0*ae.cellsOf e)) (ae.cellsOf e)).bind (DataW.trod enc ae W 0 (fun _=>true) held n e)=o->a.spot=none:=by
  intro o R h;cases o with
  |none=>cases R
  |some y=>
   rw[ak] at h;obtain⟨cs,D,_⟩:=h;obtain⟨_,S,z⟩:=World.cells?_some D
   have:=z 0 C;rw[Nat.zero_mul] at this;have O:(a.add 0).add 0=a:=rfl;rw[O,gn (by omega)] at this;exact Qn this
 rcases BD len with D|D
 have:=F.2 0 (by omega);rw[D] at this;refine A _ ?_ this;rw[gn (by omega)];rfl;refine A _ ?_ (G 0 D);rw[gn (by omega)];rfl
def aoQ{x:DataW H×List MemPlace}(h:DataW.trod enc ae W 0 (fun _=>true) held fuel 50 cs=some x): ∃v,cs=[v]/\(v= .slice none 0 0\/ ∃u,Ac W v u):=by
 rcases DataW.trod_slice ar5 h with⟨rfl,_⟩|⟨a,len,G,F,J,n,_,rfl,_,_,D,V,w,A,C,_⟩
 exact⟨_,rfl,.inl rfl⟩;have q:=KA (by rw[HC];omega) w D A (C rfl);obtain⟨Z,R,I⟩:=Fz (P:=fun i (t:fE)=>(t.1.length<small/\t.2.length<small)/\W.cell? ⟨a.block,a.off+(i*2+0),none⟩=some (.string ⟨⟨t.1⟩⟩)/\W.cell? ⟨a.block,a.off+(i*2+1),none⟩=some (.string ⟨⟨t.2⟩⟩)) len fun i z=>by
  have U:a.spot=none:=by
   rcases q with O|O
   omega;exact O
  obtain⟨cs,y,S,q2,M⟩:=HS HC (by omega) U (A i z);obtain⟨k,v,rfl,Y⟩:=aba S;exact⟨(k,v),Y,M 0 (by omega),M 1 (by omega)⟩
 refine⟨_,rfl,.inr ⟨_,a,len,G,Z,rfl,rfl,q,R,D,FF (fA D V),?_,fun i t z=>(I i t z).2⟩⟩;intro t T;obtain⟨i,z⟩:=we T;exact(I i t z).1
def aoN{x:DataW H×List MemPlace}(h:DataW.trod enc ae W 0 (fun _=>true) held fuel 52 cs=some x):
 ∃(id:ag) (k C A:Int) (rv z:Value),cs=[.string ⟨⟨id⟩⟩,.int .i64 k,.int .i64 C,.int .i64 A,rv,z]/\id.length<small/\(rv= .slice none 0 0\/ ∃u,sP W rv u)/\(z= .slice none 0 0\/ ∃u,Ac W z u):=by
 obtain⟨xs,n,_,_,D,q,w⟩:=DataW.trod_struct Tryz.underlying52 h;rw[L5] at D;obtain⟨a,b,c,d,e,f,rfl⟩:=OE D;obtain⟨y0,y1,Z,Y,V,rfl⟩:=alC (l:=xs) q;have M:DataW.trod enc ae W 0 (fun _=>true) held n 9 (([a,b,c,d,e,f].drop 0).take (ae.cellsOf 9))=some y0:=w 0 _ rfl;have J:DataW.trod enc ae W 0 (fun _=>true) held n 3 (([a,b,c,d,e,f].drop 1).take (ae.cellsOf 3))=some y1:=w 1 _ rfl;have I:DataW.trod enc ae W 0 (fun _=>true) held n 49 (([a,b,c,d,e,f].drop 2).take (ae.cellsOf 49))=some Z:=w 2 _ rfl;have G:DataW.trod enc ae W 0 (fun _=>true) held n 25 (([a,b,c,d,e,f].drop 4).take (ae.cellsOf 25))=some Y:=w 3 _ rfl;have F:DataW.trod enc ae W 0 (fun _=>true) held n 50 (([a,b,c,d,e,f].drop 5).take (ae.cellsOf 50))=some V:=w 4 _ rfl;rw[HD] at M;rw[BW] at J;rw[SU] at I;rw[L4] at G;rw[ady] at F;obtain⟨s,U,_,hs⟩:=DataW.trod_string DF M;obtain⟨k,T,_,_⟩:=DataW.trod_int Bp J;obtain⟨C,A,S⟩:=arV I;obtain⟨rv,R,hr⟩:=Pp G;obtain⟨z,O,ht⟩:=aoQ F;simp only[nz,oO,lZ,wg,mH,aT] at U T S R O;obtain⟨rfl,rfl⟩:=S;subst U;subst T;subst R;subst O;exact⟨s.data.toList,k,C,A,_,_,rfl,DA hs,hr,ht⟩
def PS(h:sP W x v): ∃q:List ag,ay 1 aG v q/\q.length<small/\(∀s∈q,s.length<small)/\bL v=true:=by
 obtain⟨_,_,_,q,_,rfl,_,z,_,A,w,_⟩:=h;refine⟨q,.inr ⟨_,rfl⟩,by omega,w,?_⟩;simp only[bL,vE vQ q,cw]
def arE(h:Ac W x v): ∃q:List fE,ay 2 jd v q/\q.length<small/\(∀t∈q,t.1.length<small/\t.2.length<small)/\bL v=true:=by
 obtain⟨_,_,_,q,_,rfl,_,z,_,A,w,_⟩:=h;refine⟨q,.inr ⟨_,rfl⟩,by omega,w,?_⟩;simp only[bL,vE Qw q,cw]
def vg{o:Nat}(h:W.cell? ⟨b,o,none⟩=some x)(q:Kw x=some v):(jV W).ro b o=some v:=by
 show(mp W b o).or _=_;have:mp W b o=some v:=by simp only[mp,h,au,q]
 rw[this];rfl
def agC{k:IntKind}{z:Int}(w:W.cell? ⟨a.block,a.off+(i*6+3),none⟩=some (.int k z))(h:W.cell? ⟨a.block,a.off+(i*6+4),none⟩=some x)(q:sP W x u): ∃v,(jV W).ro a.block (a.off+(i*6+4))=some v/\sP W x v:=by
 obtain⟨v,C,A⟩:=PD q;refine⟨v,?_,A⟩;show(mp W _ _).or _=_;have e:mp W a.block (a.off+(i*6+4))=none:=by
  obtain⟨d,len,F,_,rfl,_⟩:=q;simp only[mp,h,au];rfl
 have D:a.off+(i*6+4)-1=a.off+(i*6+3):=by omega
 rw[e,zX,Ds,h,D,w];exact C
def agD{y:Option Addr}{p q:Nat}(z:W.cell? ⟨a.block,a.off+(i*6+4),none⟩=some (.slice y p q))(h:W.cell? ⟨a.block,a.off+(i*6+5),none⟩=some x)(w:Ac W x u): ∃v,(jV W).ro a.block (a.off+(i*6+5))=some v/\Ac W x v:=by
 obtain⟨v,C,A⟩:=PD w;refine⟨v,?_,A⟩;show(mp W _ _).or _=_;have e:mp W a.block (a.off+(i*6+5))=none:=by
  obtain⟨d,len,F,_,rfl,_⟩:=w;simp only[mp,h,au];rfl
 have D:a.off+(i*6+5)-1=a.off+(i*6+4):=by omega
 rw[e,zX,Ds,h,D,z];exact C
def YX{x:DataW H×List MemPlace}(h:DataW.trod enc ae W 0 (fun _=>true) held fuel 22 cs=some x):
 ∃(val:Value) (v:aa) (l:List Obj),cs=[val]/\VR (jV W) v val/\v.scal=true/\ay 6 Obj.val v l/\(∀o∈l,o.Al)/\l.length<small/\(∀o∈l, ∀t∈o.gT,t.2.length<small)/\d8 v=true:=by
 rcases DataW.trod_slice ar0 h with⟨rfl,_⟩|⟨a,len,Z,a3,a4,n,_,rfl,_,_,hl,hm,U,Y,a0,_⟩
 refine⟨_,.AL,[],rfl,.AL,rfl,.inl ⟨rfl,rfl⟩,(fun o C=>by cases C),by decide,(fun o C=>by cases C),rfl⟩;have A:=KA (by rw[L5];omega) U hl Y (a0 rfl);obtain⟨l,t1,t2⟩:=Fz (P:=fun i (o:Obj)=>(o.Al/\ ∀t∈o.gT,t.2.length<small)/\ ∀(j:Nat) v,o.cells[j]? =some v->(jV W).ro a.block (a.off+(i*6+j))=some v) len fun i V=>by
  have O:a.spot=none:=by
   rcases A with h0|h0
   omega;exact h0
  obtain⟨cs,y,q1,q2,F⟩:=HS L5 (by omega) O (Y i V);obtain⟨id,k,px,py,rv,tv,rfl,hid,hr,J⟩:=aoN q1;have p0:=F 0 (by omega);have p1:=F 1 (by omega);have p2:=F 2 (by omega);have p3:=F 3 (by omega);have p4:=F 4 (by omega);have p5:=F 5 (by omega);simp only[iw,jO] at p0 p1 p2 p3 p4 p5;have R: ∃(v:aa) (w:List ag),(jV W).ro a.block (a.off+(i*6+4))=some v/\ay 1 aG v w/\w.length<small/\(∀s∈w,s.length<small)/\bL v=true:=by
   rcases hr with rfl|⟨u,I⟩
   exact⟨.AL,[],vg p4 rfl,.inl ⟨rfl,rfl⟩,by decide,(fun s O=>by cases O),rfl⟩;obtain⟨v,g1,g2⟩:=agC p3 p4 I;obtain⟨w,g3⟩:=PS g2;exact⟨v,w,g1,g3⟩
  have a1: ∃y p q,rv= .slice y p q:=by
   rcases hr with rfl|⟨u,I⟩
   exact⟨_,_,_,rfl⟩;obtain⟨d,len,Z,_,rfl,_⟩:=I;exact⟨_,_,_,rfl⟩
  have T: ∃(v:aa) (D:List fE),(jV W).ro a.block (a.off+(i*6+5))=some v/\ay 2 jd v D/\D.length<small/\(∀s∈D,s.1.length<small/\s.2.length<small)/\bL v=true:=by
   rcases J with rfl|⟨u,I⟩
   exact⟨.AL,[],vg p5 rfl,.inl ⟨rfl,rfl⟩,by decide,(fun s O=>by cases O),rfl⟩;obtain⟨y,p,q,rfl⟩:=a1;obtain⟨v,g1,g2⟩:=agD p4 p5 I;obtain⟨D,g3⟩:=arE g2;exact⟨v,D,g1,g3⟩
  obtain⟨rV,w,r1,r2,r3,r4,r5⟩:=R;obtain⟨tV,D,s1,s2,s3,s4,s5⟩:=T;refine⟨⟨id,k,px,py,rV,tV,w,D⟩,⟨⟨⟨r2,s2,hid,r3,r4,s3,fun t J=>(s4 t J).1⟩,r5,s5⟩,fun t J=>(s4 t J).2⟩,?_⟩;intro j v z
  match j,z with
  |0,z=>simp only[Obj.cells,iw,aJ] at z;subst z;exact yJ p0
  |1,z=>simp only[Obj.cells,jO,iw,aJ] at z;subst z;exact vg p1 rfl
  |2,z=>simp only[Obj.cells,jO,iw,aJ] at z;subst z;exact vg p2 rfl
  |3,z=>simp only[Obj.cells,jO,iw,aJ] at z;subst z;exact vg p3 rfl
  |4,z=>simp only[Obj.cells,jO,iw,aJ] at z;subst z;exact r1
  |5,z=>simp only[Obj.cells,jO,iw,aJ] at z;subst z;exact s1
  |j+6,z=>simp[Obj.cells] at z
 have hg: ∀o∈l,o.Al:=fun o C=>by
  obtain⟨i,V⟩:=we C;exact(t2 i o V).1.1
 have a2: ∀o∈l, ∀t∈o.gT,t.2.length<small:=fun o C=>by
  obtain⟨i,V⟩:=we C;exact(t2 i o V).1.2
 refine⟨_,.list 6 (l.map Obj.val) .no,l,rfl,?_,rfl,.inr ⟨_,rfl⟩,hg,by rw[t1];exact FF (fA hl hm),a2,by simpa[d8] using Kc hg⟩;have S:(l.map Obj.val).length=len:=by simp[t1]
 have M: ∀y∈l.map Obj.val,y.cells.length=6:=by
  intro y hy;obtain⟨o,_,rfl⟩:=dy.1 hy;rfl
 have:VR (jV W) (.list 6 (l.map Obj.val) .no) (.slice (some a) (l.map Obj.val).length Z):=by
  refine .list A (by omega) M (by rw[S];exact hl) ?_ trivial;intro i y hy;obtain⟨u,G,h2,h3⟩:=HX M hy;rw[jf] at G;cases e:l[i / 6]? with
  |none=>rw[e] at G;cases G
  |some o=>
   rw[e] at G;simp only[kn,aJ] at G;subst G;rw[h3];exact(t2 _ o e).2 _ _ h2
 rw[S] at this;exact this
def adv:ae.cellsOf 26=1:=by kernel_rfl
def adw:ae.cellsOf 27=1:=by kernel_rfl
def adx:ae.cellsOf 29=6:=by kernel_rfl
def c_4:ae.cellsOf 4=1:=by kernel_rfl
def L6:ae.cellsOf 94=8:=by kernel_rfl
def ar2:ae.underlying 26=some (.slice 3):=by kernel_rfl
def ar3:ae.underlying 27=some (.slice 94):=by kernel_rfl
def ar4:ae.underlying 4=some .bool:=by kernel_rfl
def alE{l:List α}(h:l.length=8): ∃a b c d e f g k,l=[a,b,c,d,e,f,g,k]:=by
 match l,h with
 | [a,b,c,d,e,f,g,k],_=>exact⟨a,b,c,d,e,f,g,k,rfl⟩
def alD{l:List α}(h:l.length=7): ∃a b c d e f g,l=[a,b,c,d,e,f,g]:=by
 match l,h with
 | [a,b,c,d,e,f,g],_=>exact⟨a,b,c,d,e,f,g,rfl⟩
def YY{x:DataW H×List MemPlace}(h:DataW.trod enc ae W 0 (fun _=>true) held fuel 25 cs=some x):
 ∃(val:Value) (v:aa) (l:List ag),cs=[val]/\VR (jV W) v val/\v.scal=true/\ay 1 aG v l/\l.length<small/\vd v=true:=by
 obtain⟨val,e,C⟩:=Pp h;rcases C with rfl|⟨u,z⟩
 exact⟨_,.AL,[],e,.AL,rfl,.inl ⟨rfl,rfl⟩,by decide,rfl⟩;obtain⟨w,F,D,I,G⟩:=PS z;have A:=PR z;refine⟨_,u,w,e,A,?_,F,D,?_⟩;obtain⟨_,_,_,_,_,rfl,_⟩:=z;rfl;obtain⟨_,_,_,q,_,rfl,_⟩:=z;exact vE vQ q
def aoL{x:DataW H×List MemPlace}(h:DataW.trod enc ae W 0 (fun _=>true) held fuel 26 cs=some x):
 ∃(val:Value) (v:aa),cs=[val]/\VR (jV W) v val/\v.scal=true/\vd v=true:=by
 rcases DataW.trod_slice ar2 h with⟨rfl,_⟩|⟨a,len,O,M,R,n,_,rfl,_,_,T,hm,C,D,G,_⟩
 exact⟨_,.AL,rfl,.AL,rfl,rfl⟩;have q:=KA (by rw[BW];omega) C T D (G rfl);obtain⟨l,Y,V⟩:=Fz (P:=fun i (k:Int)=>(jV W).ro a.block (a.off+i)=some (.int .i64 k)) len fun i I=>by
  have hs:a.spot=none:=by
   rcases q with U|U
   omega;exact U
  obtain⟨cs,y,q1,q2,Z⟩:=HS BW (by omega) hs (D i I);obtain⟨k,e1,_,_⟩:=DataW.trod_int Bp q1;subst e1;have S:=Z 0 (by omega);simp only[iw,xU,Nat.add_zero] at S;exact⟨k,vg S rfl⟩
 have hp: ∀k:Int,bL (aa.int .i64 k)=true:=fun _=>rfl;refine⟨_,.list 1 (l.map (aa.int .i64)) .no,rfl,?_,rfl,vE hp l⟩;have A:(l.map (aa.int .i64)).length=len:=by simp[Y]
 have z: ∀y∈l.map (aa.int .i64),y.cells.length=1:=by
  intro y F;obtain⟨o,_,rfl⟩:=dy.1 F;rfl
 have:VR (jV W) (.list 1 (l.map (aa.int .i64)) .no) (.slice (some a) (l.map (aa.int .i64)).length O):=by
  refine .list q (by omega) z (by rw[A];exact T) ?_ trivial;intro i y F;obtain⟨u,w,J,h3⟩:=HX z F;rw[jf] at w;cases e:l[i / 1]? with
  |none=>rw[e] at w;cases w
  |some o=>
   rw[e] at w;simp only[kn,aJ] at w;subst w;have I:i % 1=0:=Nat.mod_one i;rw[I] at J;simp only[aa.cells,iw,aJ] at J;subst J;rw[Nat.div_one] at e;exact V _ o e
 rw[A] at this;exact this
def aoO{x:DataW H×List MemPlace}(h:DataW.trod enc ae W 0 (fun _=>true) held fuel 94 cs=some x):
 ∃(st:Bool) (ar:ag) (k:Int) (D iv:ag) (op:Int) (key:ag) (vv:Value),cs=[.bool st,.string ⟨⟨ar⟩⟩,.int .i64 k,.string ⟨⟨D⟩⟩,.string ⟨⟨iv⟩⟩,.int .i64 op,.string ⟨⟨key⟩⟩,vv]/\ar.length<small/\D.length<small/\key.length<small/\(vv= .slice none 0 0\/ ∃u,sP W vv u):=by
 obtain⟨xs,n,_,_,F,w,q⟩:=DataW.trod_struct Tryz.underlying94 h;rw[L6] at F;obtain⟨a,b,c,d,e,f,g,k,rfl⟩:=alE F;obtain⟨y0,y1,y2,y3,y4,y5,y6,rfl⟩:=alD (l:=xs) w;have S:DataW.trod enc ae W 0 (fun _=>true) held n 4 (([a,b,c,d,e,f,g,k].drop 0).take (ae.cellsOf 4))=some y0:=q 0 _ rfl;have R:DataW.trod enc ae W 0 (fun _=>true) held n 9 (([a,b,c,d,e,f,g,k].drop 1).take (ae.cellsOf 9))=some y1:=q 1 _ rfl;have O:DataW.trod enc ae W 0 (fun _=>true) held n 3 (([a,b,c,d,e,f,g,k].drop 2).take (ae.cellsOf 3))=some y2:=q 2 _ rfl;have M:DataW.trod enc ae W 0 (fun _=>true) held n 92 (([a,b,c,d,e,f,g,k].drop 3).take (ae.cellsOf 92))=some y3:=q 3 _ rfl;have J:DataW.trod enc ae W 0 (fun _=>true) held n 3 (([a,b,c,d,e,f,g,k].drop 5).take (ae.cellsOf 3))=some y4:=q 4 _ rfl;have I:DataW.trod enc ae W 0 (fun _=>true) held n 9 (([a,b,c,d,e,f,g,k].drop 6).take (ae.cellsOf 9))=some y5:=q 5 _ rfl;have G:DataW.trod enc ae W 0 (fun _=>true) held n 25 (([a,b,c,d,e,f,g,k].drop 7).take (ae.cellsOf 25))=some y6:=q 6 _ rfl;rw[c_4] at S;rw[HD] at R I;rw[BW] at O J;rw[HC] at M;rw[L4] at G;obtain⟨b0,e0,_⟩:=DataW.trod_bool ar4 S;obtain⟨s1,e1,_,A⟩:=DataW.trod_string DF R;obtain⟨k2,Z,_,_⟩:=DataW.trod_int Bp O;obtain⟨k3,v3,Y,C,_⟩:=aba M;obtain⟨k4,V,_,_⟩:=DataW.trod_int Bp J;obtain⟨s5,U,_,z⟩:=DataW.trod_string DF I;obtain⟨rv,T,hr⟩:=Pp G;simp only[nz,oO,lZ,wg,mH,aT] at e0 e1 Z Y V U T;obtain⟨rfl,rfl⟩:=Y;subst e0;subst e1;subst Z;subst V;subst U;subst T;exact⟨b0,s1.data.toList,k2,k3,v3,k4,s5.data.toList,_,rfl,DA A,C,DA z,hr⟩
def agE{z:ByteArray}(w:W.cell? ⟨a.block,a.off+(i*8+6),none⟩=some (.string z))(h:W.cell? ⟨a.block,a.off+(i*8+7),none⟩=some x)(q:sP W x u): ∃v,(jV W).ro a.block (a.off+(i*8+7))=some v/\sP W x v:=by
 obtain⟨v,C,A⟩:=PD q;refine⟨v,?_,A⟩;show(mp W _ _).or _=_;have e:mp W a.block (a.off+(i*8+7))=none:=by
  obtain⟨d,len,F,_,rfl,_⟩:=q;simp only[mp,h,au];rfl
 have D:a.off+(i*8+7)-1=a.off+(i*8+6):=by omega
 rw[e,zX,Ds,h,D,w];exact C
def aoP{x:DataW H×List MemPlace}(h:DataW.trod enc ae W 0 (fun _=>true) held fuel 27 cs=some x):
 ∃(val:Value) (v:aa) (l:List aI),cs=[val]/\VR (jV W) v val/\v.scal=true/\ay 8 aI.val v l/\(∀o∈l,o.OkS)/\l.length<small:=by
 rcases DataW.trod_slice ar3 h with⟨rfl,_⟩|⟨a,len,a1,a0,a2,n,_,rfl,_,_,Y,hm,G,I,T,_⟩
 refine⟨_,.AL,[],rfl,.AL,rfl,.inl ⟨rfl,rfl⟩,(fun o V=>by cases V),by decide⟩;have z:=KA (by rw[L6];omega) G Y I (T rfl);obtain⟨l,t1,t2⟩:=Fz (P:=fun i (o:aI)=>o.OkS/\ ∀(j:Nat) v,o.cells[j]? =some v->(jV W).ro a.block (a.off+(i*8+j))=some v) len fun i Z=>by
  have U:a.spot=none:=by
   rcases z with h0|h0
   omega;exact h0
  obtain⟨cs,y,q1,q2,A⟩:=HS L6 (by omega) U (I i Z);obtain⟨st,ar,k,ik,iv,op,O,rv,rfl,C,h2,h3,hr⟩:=aoO q1;have p0:=A 0 (by omega);have p1:=A 1 (by omega);have p2:=A 2 (by omega);have p3:=A 3 (by omega);have p4:=A 4 (by omega);have p5:=A 5 (by omega);have M:=A 6 (by omega);have J:=A 7 (by omega);simp only[iw,jO] at p0 p1 p2 p3 p4 p5 M J;have R: ∃(v:aa) (w:List ag),(jV W).ro a.block (a.off+(i*8+7))=some v/\ay 1 aG v w/\w.length<small/\(∀s∈w,s.length<small)/\bL v=true:=by
   rcases hr with rfl|⟨u,hu⟩
   exact⟨.AL,[],vg J rfl,.inl ⟨rfl,rfl⟩,by decide,(fun s U=>by cases U),rfl⟩;obtain⟨v,g1,g2⟩:=agE M J hu;obtain⟨w,g3⟩:=PS g2;exact⟨v,w,g1,g3⟩
  obtain⟨rV,w,r1,r2,r3,r4,r5⟩:=R;refine⟨⟨st,ar,k,ik,iv,op,O,rV,w⟩,⟨r2,r5,C,h3,h2,r3⟩,?_⟩;intro j v q
  match j,q with
  |0,q=>simp only[aI.cells,iw,aJ] at q;subst q;exact vg p0 rfl
  |1,q=>simp only[aI.cells,jO,iw,aJ] at q;subst q;exact yJ p1
  |2,q=>simp only[aI.cells,jO,iw,aJ] at q;subst q;exact vg p2 rfl
  |3,q=>simp only[aI.cells,jO,iw,aJ] at q;subst q;exact yJ p3
  |4,q=>simp only[aI.cells,jO,iw,aJ] at q;subst q;exact yJ p4
  |5,q=>simp only[aI.cells,jO,iw,aJ] at q;subst q;exact vg p5 rfl
  |6,q=>simp only[aI.cells,jO,iw,aJ] at q;subst q;exact yJ M
  |7,q=>simp only[aI.cells,jO,iw,aJ] at q;subst q;exact r1
  |j+8,q=>simp[aI.cells] at q
 have hg: ∀o∈l,o.OkS:=fun o V=>by
  obtain⟨i,Z⟩:=we V;exact(t2 i o Z).1
 refine⟨_,.list 8 (l.map aI.val) .no,l,rfl,?_,rfl,.inr ⟨_,rfl⟩,hg,by rw[t1];exact FF (fA Y hm)⟩;have F:(l.map aI.val).length=len:=by simp[t1]
 have D: ∀y∈l.map aI.val,y.cells.length=8:=by
  intro y S;obtain⟨o,_,rfl⟩:=dy.1 S;rfl
 have:VR (jV W) (.list 8 (l.map aI.val) .no) (.slice (some a) (l.map aI.val).length a1):=by
  refine .list z (by omega) D (by rw[F];exact Y) ?_ trivial;intro i y S;obtain⟨u,C,h2,h3⟩:=HX D S;rw[jf] at C;cases e:l[i / 8]? with
  |none=>rw[e] at C;cases C
  |some o=>
   rw[e] at C;simp only[kn,aJ] at C;subst C;rw[h3];exact(t2 _ o e).2 _ _ h2
 rw[F] at this;exact this
def aoM{v:Value}{d:DataW H}(C: ∃cs,v= .agg cs)(h:DataW.Trod enc ae W 0 (fun _=>true) held 24 v d ps):
 ∃(x:aa) (l:List Obj),VR (jV W) (.agg [x]) v/\ay 6 Obj.val x l/\(∀o∈l,o.Al)/\l.length<small/\(∀o∈l, ∀t∈o.gT,t.2.length<small):=by
 obtain⟨fuel,h⟩:=h;obtain⟨cs,rfl⟩:=C;obtain⟨R,n,_,w,A⟩:=Go.ChangeShapes.trod_struct1 Tryz.underlying24 h;rw[SS] at A;have z:(Value.agg cs).cells.toList=cs.toList:=rfl;rw[z] at A w;rw[ST] at w;obtain⟨val,x,l,e,M,q,J,I,G,F,_⟩:=YX A;have D:cs= #[val]:=by
  obtain⟨O⟩:=cs;obtain⟨c,rfl⟩:=alB (l:=O) w;simp only[nz,lZ,wg,mH,aT] at e;subst e;rfl
 subst D;refine⟨x,l,.agg ?_ (.cons M .nil),J,I,G,F⟩;simp only[dG,ju,q,List.all_nil,cw]
def aoR{v:Value}{d:DataW H}(hv: ∃cs,v= .agg cs)(h:DataW.Trod enc ae W 0 (fun _=>true) held 29 v d ps):
 ∃(w0 w1 w2 w3 vv rv:aa) (views:List ag) (rl:List aI),VR (jV W) (.agg [w0,w1,w2,w3,vv,rv]) v/\tq w0 w1 w2 w3=true/\ay 1 aG vv views/\views.length<small/\ay 8 aI.val rv rl/\(∀x∈rl,x.OkS)/\rl.length<small:=by
 obtain⟨fuel,h⟩:=h;obtain⟨cs,rfl⟩:=hv;obtain⟨xs,n,_,_,z,w,q⟩:=DataW.trod_struct Tryz.underlying29 h;have C:(Value.agg cs).cells.toList=cs.toList:=rfl;rw[C] at z q;rw[adx] at z;obtain⟨cl⟩:=cs;have z:cl.length=6:=z;obtain⟨a,b,c,d,e,f,rfl⟩:=OE z;obtain⟨y0,y1,y2,y3,y4,y5,rfl⟩:=OE (l:=xs) w;have A:DataW.trod enc ae W 0 (fun _=>true) held n 24 (([a,b,c,d,e,f].drop 0).take (ae.cellsOf 24))=some y0:=q 0 _ rfl;have U:DataW.trod enc ae W 0 (fun _=>true) held n 25 (([a,b,c,d,e,f].drop 1).take (ae.cellsOf 25))=some y1:=q 1 _ rfl;have T:DataW.trod enc ae W 0 (fun _=>true) held n 26 (([a,b,c,d,e,f].drop 2).take (ae.cellsOf 26))=some y2:=q 2 _ rfl;have S:DataW.trod enc ae W 0 (fun _=>true) held n 3 (([a,b,c,d,e,f].drop 3).take (ae.cellsOf 3))=some y3:=q 3 _ rfl;have R:DataW.trod enc ae W 0 (fun _=>true) held n 25 (([a,b,c,d,e,f].drop 4).take (ae.cellsOf 25))=some y4:=q 4 _ rfl;have O:DataW.trod enc ae W 0 (fun _=>true) held n 27 (([a,b,c,d,e,f].drop 5).take (ae.cellsOf 27))=some y5:=q 5 _ rfl;rw[ST] at A;rw[L4] at U R;rw[adv] at T;rw[BW] at S;rw[adw] at O;obtain⟨z0,n0,_,a0,A⟩:=Go.ChangeShapes.trod_struct1 Tryz.underlying24 A;rw[SS] at A;obtain⟨J,M,l0,e0,r0,s0,i0,g0,_,_,_⟩:=YX A;obtain⟨I,v1,l1,e1,r1,s1,i1,_,f1⟩:=YY U;obtain⟨G,v2,e2,r2,s2,f2⟩:=aoL T;obtain⟨k3,Z,_,_⟩:=DataW.trod_int Bp S;obtain⟨F,v4,l4,Y,r4,s4,i4,n4,_⟩:=YY R;obtain⟨D,v5,l5,V,r5,s5,i5,g5,n5⟩:=aoP O;simp only[nz,oO,lZ,wg,mH,aT] at e0 e1 e2 Z Y V;subst e0;subst e1;subst e2;subst Z;subst Y;subst V;have f0:vd M=true:=by
  rcases i0 with⟨rfl,_⟩|⟨r,rfl⟩
  rfl;exact Kc g0
 refine⟨M,v1,v2,.int .i64 k3,v4,v5,l4,l5,.agg ?_ (.cons r0 (.cons r1 (.cons r2 (.cons (.int _ _) (.cons r4 (.cons r5 .nil)))))),?_,i4,n4,i5,g5,n5⟩;simp only[dG,ju,s0,s1,s2,s4,s5,List.all_nil,cw];rfl;simp only[tq,f0,f1,f2,eH];rfl
end
