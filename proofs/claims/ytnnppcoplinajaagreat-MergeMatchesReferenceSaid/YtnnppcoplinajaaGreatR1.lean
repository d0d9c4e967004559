/- planisphereref26.Merge: its contract. -/
import Derived.Test.YtnnppcoplinajaaGreatR0
set_option linter.defProp false
open Bool renaming and_eq_true→bA,and_false→ki,and_self→cH,and_true→rr,eq_iff_iff→yK,false_and→iK,not_eq_false'→nh,not_false→fy,not_true→dS,or_eq_false_iff→kj,or_false→jL,or_self→iR,or_true→l8,true_or→jM
open List renaming all_eq_true→fY,append_assoc→mc,append_nil→ii,cons_append→mJ,drop_eq_getElem_cons→vC,drop_length→vD,drop→ay,filter_cons→rz,getElem?_eq_getElem→gL,getElem?_map→vG,length_append→dX,length_cons→cP,length_eq_zero_iff→uc,length_filter_le→pG,length_map→cZ,length_nil→fJ,length_take→oG,map_append→je,map_congr_left→CT,map_cons→dG,map_nil→pH,mem_filter→uf,mem_map→dp,mem_of_getElem?→ku,mem_range→yP,nil_append→mf,range→iv,replicate→ui,take_length→xc,take→aN
open Nat renaming beq→aJ,ble_eq_true_of_le→cu,ble_eq→xe,ble→br,blt→bk,le_max_left→qF,le_max_right→rD,le_of_ble_eq_true→eG,le_refl→aU,le_succ_of_le→ky,le_succ→jf,le_trans→fh,lt_irrefl→cR,mul_one→qG,reduceAdd→aG,reduceBEq→aa,reduceLT→ah,reduceLeDiff→aV,reduceMod→fk,reduceMul→jg,reducePow→fp,reduceSub→fD,zero_le→cV
open Go.Op renaming bytesLess→c8
open Go.Operand renaming tmp→aR
open Option renaming bind_eq_some_iff→az,bind_some→bn,getD_none→pL,getD_some→fq,isSome_iff_exists→rE,isSome_none→oJ,isSome_some→jq
open Go.ResultVar renaming cell→oK,tmp→bR
open Go.Proofs.Tryz renaming prog→ar
open Go.Value renaming string→jO
open Go.Ag.W renaming block→bL,loop1→bV,loopF→eh,seq→aC,sreg→aw
open Go.Ag.WF renaming sound→rF
namespace Go.Proofs.YtnnppcoplinajaaGreat
open Go.Ag
variable{lc:Ag.Loc}{K:Ex->Fr->St->Prop}{a b:List ak}{s:St}{u v:ae}
section
variable{sp:bC}
def X8(hl:aD 1 aF v a)(hu:aD 1 aF u b)(ha:a.length<=1000000)(hm:s.ge<=s.al)(hx: ∀e,aj e 0=v->aj e 1=u->jQ a b=decide (a.length<b.length)->K (.exit 0) ⟨e,41,lc⟩ s)(hr: ∀e,aj e 4= .bool (jQ a b)->K .ret ⟨e,41,lc⟩ s):
 ∀(ra rb pre pre2:List ak) (e:aI),a=pre++ra->b=pre2++rb->pre.length=pre2.length->jQ a b=jQ ra rb->aj e 0=v->aj e 1=u->aj e 5= .int .i64 (pre.length:Nat)->W (QS sp) 82 (.loop BQ) ⟨e,41,lc⟩ s K:=by
 have c1:=hl.aL;have c2:=hu.aL;have n1:=fun mk s=>hl.len dB dH mk s;have n2:=fun mk s=>hu.len dB dH mk s;intro ra
 induction ra with
 |nil=>
  intro rb pre pre2 e h1 h2 h3 hb h0 hu1 h5;have hla:a.length=pre.length:=by rw[h1];simp
  have hlb:b.length=pre.length+rb.length:=by rw[h2,h3];simp
  refine eh ?_;simp only[ai,aA,aa,ah,ofValue,aX,BB,BQ,h0,h5,c1,n1,hla,cR];refine hx _ (by simp only[au,aa, *]) (by simp only[au,aa, *]) ?_;rw[hb,hla,hlb];cases rb with
  |nil=>simp[jQ]
  |cons y rb=>simp[jQ]
 |cons x ra ih=>
  intro rb pre pre2 e h1 h2 h3 hb h0 hu1 h5;have hlt:pre.length<a.length:=by rw[h1];simp
  have ha1:a[pre.length]? =some x:=by rw[h1];simp
  have i1:=fun lc=>hl.at gR ha1 lc .i64;cases rb with
  |nil=>
   have hlb:b.length=pre.length:=by rw[h2,h3];simp
   refine eh ?_;simp only[ai,aA,aa,ah,ofValue,aX,BB,BQ,h0,hu1,h5,c1,c2,n1,n2,hlt,hlb,cR];refine hx _ (by simp only[au,aa, *]) (by simp only[au,aa, *]) ?_;rw[hb,hlb,dN (by omega)];rfl
  |cons y rb=>
   have hlt2:pre.length<b.length:=by rw[h2,h3];simp
   have hb1:b[pre.length]? =some y:=by rw[h2,h3];simp
   have i2:=fun lc=>hu.at gR hb1 lc .i64;have hwr:=ig (n:=pre.length) (by omega);refine eh ?_;cases hq:x==y with
   |false=>
    have hlq:jQ a b=c8 x y:=by rw[hb];simp only[jQ,hq,cF]
    simp only[ai,ax,aA,isStore,aN,ay,aa,ah,aG,fD,ei,fp,fk,ofValue,aX,BB,RU,ahs,BQ,h0,hu1,h5,c1,c2,n1,n2,i1,i2,hlt,hlt2,hm,aF,hq];exact hr _ (by simp only[ik,aa,hlq])
   |true=>
    have hlq:jQ a b=jQ ra rb:=by rw[hb];simp only[jQ,hq,cT]
    simp only[ai,ax,aA,isStore,aN,ay,aa,ah,aG,fD,ei,fp,fk,ofValue,aX,BB,RU,BQ,h0,hu1,h5,c1,c2,n1,n2,i1,i2,hlt,hlt2,hm,aF,hq,hwr];exact ih rb (pre++[x]) (pre2++[y]) _ (by rw[h1];simp) (by rw[h2];simp) (by simp[h3]) hlq (by simp only[au,aa, *]) (by simp only[au,aa, *]) (by simp only[aq,cK,aa])
def X9(h82:sp 82=none)(hl:aD 1 aF v a)(hu:aD 1 aF u b)(ha:a.length<=1000000)(hm:s.ge<=s.al):aM (QS sp) 82 [v,u] s (.bool (jQ a b)) s:=by
 have c1:=hl.aL;have c2:=hu.aL;have n1:=fun mk s=>hl.len dB dH mk s;have n2:=fun mk s=>hu.len dB dH mk s;refine aM.of3 FU.1 FU.2 FU.3 FU.4 h82 rfl ?_;simp only[ai,aA,bv,bt,ah,aG,aV,ofValue,aX,KF];refine X8 hl hu ha hm ?_ ?_ a b [] [] _ rfl rfl rfl rfl (by simp only[aq,aa, *]) (by simp only[aq,aa, *]) (by simp only[aq,aa, *];rfl);intro e h0 h1 hq;simp only[ai,aA,aa,ah,reduceCtorEq,BB,h0,h1,c1,c2,n1,n2,hq];intro e h4;simp only[aT,u7,uA,reduceCtorEq,oT,eq_self,h4]
end
def Di(h1:aD 1 aF v a)(h2:aD 1 aF u b)(p1:aQ v=true)(p2:aQ u=true)(ha:a.length<=1000000):uz [v,u]=some (.bool (jQ a b)):=by
 simp only[ce,uz,oO h1 p1,oO h2 p2,cu ha]
def N4:cq ar 82 uz:=by
 refine jC dc.nil fun args u h=>?_;unfold uz at h;split at h;simp only[az] at h;obtain⟨a,h1,b,h2,h⟩:=h;obtain⟨h3,h⟩:=bm h;have h:=sI h;subst h;obtain⟨l1,p1⟩:=oN h1;obtain⟨l2,p2⟩:=oN h2;exact⟨by simp only[pures,p1,p2,cH],_,_,X9 (sp:=fun f=>cI f []) rfl l1 l2 (eG h3) (aU _),rfl,⟨1,rfl⟩⟩;cases h
def Nm:du:=[(82,uz)]
def WU:dc Nm:=.cons N4 .nil
section
variable{sp:bC}
def adH(h35:sp 35=none)(h82:sp 82=some uz)(hl:aD 1 aF v a)(hu:aD 1 aF u b)(p1:aQ v=true)(p2:aQ u=true)(ha:a.length<=1000000)(hb:b.length<=1000000)(s:St):aM (QS sp) 35 [v,u] s (.bool (wf a b)) s:=by
 have c1:=hl.aL;have c2:=hu.aL;have q1:=Di hl hu p1 p2 ha;have q2:=Di hu hl p2 p1 hb;refine aM.of3 Ff.1 Ff.2 Ff.3 Ff.4 h35 rfl ?_;unfold wf;cases e1:jQ a b with
 |true=>
  rw[e1] at q1;simp only[ai,aA,bv,bt,aa,ah,aG,aV,reduceCtorEq,ofValue,aX,Kt,c1,c2,h82,q1]
 |false=>
  rw[e1] at q1;simp only[ai,aA,bv,bt,aa,ah,aG,aV,reduceCtorEq,ofValue,aX,Kt,c1,c2,h82,q1,q2]
def Zw(h199:sp 199=none)(a b:Int×Int)(s:St):aM (QS sp) 199 [ff a,ff b] s (gu (tm a b)) s:=by
 refine aM.of3 EJ.1 EJ.2 EJ.3 EJ.4 h199 rfl ?_;obtain⟨a1,a2⟩:=a;obtain⟨b1,b2⟩:=b;have hf:(bif aK a1 b1 then bif aK a2 b2 then true else false else false)=jJ (a1,a2) (b1,b2):=rfl;unfold tm;cases e1:bG a1 b1 with
 |true=>simp only[ai,ax,aA,bv,bt,ay,aa,ah,aG,aV,reduceCtorEq,ofValue,aX,zG,Bz,ff,gu,e1]
 |false=>
  cases e2:aK a1 b1 with
  |true=>
   cases e3:bG a2 b2 with
   |true=>simp only[ai,ax,aA,bv,bt,ay,aa,ah,aG,aV,reduceCtorEq,ofValue,aX,zG,Bz,ff,gu,e1,e2,e3]
   |false=>
    cases e4:aK a2 b2 with
    |true=>simp only[ai,ax,aA,bv,bt,cut,aN,ay,aa,ah,aG,aV,reduceCtorEq,ofValue,aX,zG,Bz,ff,gu,jJ,mG,e1,e2,e3,e4]
    |false=>simp only[ai,ax,aA,bv,bt,cut,aN,ay,aa,ah,aG,aV,reduceCtorEq,ofValue,aX,zG,Bz,ff,gu,jJ,mG,e1,e2,e3,e4]
  |false=>simp only[ai,ax,aA,bv,bt,cut,aN,ay,aa,ah,aG,aV,reduceCtorEq,ofValue,aX,zG,Bz,ff,gu,jJ,mG,e1,e2]
def anG(h390:sp 390=none)(hl:aD 1 aF v a)(s:St):aM (QS sp) 390 [v] s (.bool (!i9 a)) s:=by
 have c1:=hl.aL;have n1:=fun mk s=>hl.len dB dH mk s;have hle:ec ((a.length:Nat):Int) 2000= !i9 a:=by
  unfold i9;rw[show(2000:Int)=((2000:Nat):Int) from rfl,lj];by_cases h:a.length<=2000;rw[dQ h,dN (by omega)];rfl;rw[dN h,dQ (by omega)];rfl
 refine aM.of3 Ft.1 Ft.2 Ft.3 Ft.4 h390 rfl ?_;simp only[ai,aA,bv,bt,aa,ah,aV,reduceCtorEq,ofValue,aX,Rj,adq,c1,n1,hle]
def anp(hl:aD 1 aF v a)(hu:aD 1 aF u b)(ha:a.length<=1000000)(hlen:a.length=b.length)(hm:s.ge<=s.al)(hx: ∀e,(a==b)=true->K (.exit 0) ⟨e,26,lc⟩ s)(hr: ∀e,aj e 4= .bool false->(a==b)=false->K .ret ⟨e,26,lc⟩ s):
 ∀(ra rb pre pre2:List ak) (e:aI),a=pre++ra->b=pre2++rb->pre.length=pre2.length->(a==b)=(ra==rb)->aj e 0=v->aj e 1=u->aj e 5= .int .i64 (pre.length:Nat)->W (QS sp) 392 (.loop Fx) ⟨e,26,lc⟩ s K:=by
 have c1:=hl.aL;have c2:=hu.aL;have n1:=fun mk s=>hl.len dB dH mk s;intro ra
 induction ra with
 |nil=>
  intro rb pre pre2 e h1 h2 h3 hb h0 hu1 h5;have hla:a.length=pre.length:=by rw[h1];simp
  have hrb:rb=[]:=by
   have:b.length=pre2.length+rb.length:=by rw[h2];simp
   exact uc.1 (by omega)
  refine eh ?_;simp only[ai,aA,aa,ah,BA,Fx,h0,h5,c1,n1,hla,cR];exact hx _ (by rw[hb,hrb];rfl)
 |cons x ra ih=>
  intro rb pre pre2 e h1 h2 h3 hb h0 hu1 h5;have hlt:pre.length<a.length:=by rw[h1];simp
  have ha1:a[pre.length]? =some x:=by rw[h1];simp
  have i1:=fun lc=>hl.at gR ha1 lc .i64;cases rb with
  |nil=>
   have e1:b.length=pre2.length:=by rw[h2];simp
   have e2:a.length=pre.length+(ra.length+1):=by rw[h1];simp
   omega
  |cons y rb=>
   have hb1:b[pre.length]? =some y:=by rw[h2,h3];simp
   have i2:=fun lc=>hu.at gR hb1 lc .i64;have hwr:=ig (n:=pre.length) (by omega);have hc:((x::ra)==(y::rb))=((x==y)&&(ra==rb)):=rfl;refine eh ?_;cases hq:x==y with
   |false=>
    simp only[ai,ax,aA,isStore,aN,ay,aa,ah,aG,fD,ei,fp,fk,ofValue,aX,BA,Rp,Fx,h0,hu1,h5,c1,n1,i1,i2,hlt,hm,aF,hq];exact hr _ (by simp only[aq,aa, *]) (by rw[hb,hc,hq];rfl)
   |true=>
    simp only[ai,ax,aA,isStore,aN,ay,aa,ah,aG,fD,ei,fp,fk,ofValue,aX,BA,Rp,Fx,h0,hu1,h5,c1,n1,i1,i2,hlt,hm,aF,hq,hwr];exact ih rb (pre++[x]) (pre2++[y]) _ (by rw[h1];simp) (by rw[h2];simp) (by simp[h3]) (by rw[hb,hc,hq];rfl) (by simp only[au,aa, *]) (by simp only[au,aa, *]) (by simp only[aq,cK,aa])
def anq(h392:sp 392=none)(hl:aD 1 aF v a)(hu:aD 1 aF u b)(ha:a.length<=1000000)(hm:s.ge<=s.al):aM (QS sp) 392 [v,u] s (.bool (a==b)) s:=by
 have c1:=hl.aL;have c2:=hu.aL;have n1:=fun mk s=>hl.len dB dH mk s;have n2:=fun mk s=>hu.len dB dH mk s;refine aM.of3 Fw.1 Fw.2 Fw.3 Fw.4 h392 rfl ?_;by_cases hlen:a.length=b.length;simp only[ai,aA,bv,bt,aa,ah,aG,aV,qQ,ofValue,aX,Fv,BA,c1,c2,n1,n2,hlen];refine anp hl hu ha hlen hm ?_ ?_ a b [] [] _ rfl rfl rfl rfl (by simp only[aq,aa, *]) (by simp only[aq,aa, *]) (by simp only[aq,aa, *];rfl);intro e hq;simp only[ai,aA,ah,reduceCtorEq,ofValue,aX,hq];intro e h4 hq;simp only[aT,u7,uA,reduceCtorEq,oT,eq_self,h4,hq];have hne:(a==b)=false:=bN.2 fun e=>hlen (by rw[e]);have hi:aK ((a.length:Nat):Int) ((b.length:Nat):Int)=false:=iy (by omega);simp only[ai,aA,bv,bt,aa,ah,aG,aV,reduceCtorEq,ofValue,aX,Fv,BA,c1,c2,n1,n2,hi,hne]
end
def adF(h1:aD 1 aF v a)(h2:aD 1 aF u b)(p1:aQ v=true)(p2:aQ u=true)(ha:a.length<=1000000)(hb:b.length<=1000000):zD [v,u]=some (.bool (wf a b)):=by
 simp only[ce,zD,oO h1 p1,oO h2 p2,cu ha,cu hb,cH]
def adG:cq ar 35 zD:=by
 refine jC WU fun args u h=>?_;unfold zD at h;split at h;simp only[az] at h;obtain⟨a,h1,b,h2,h⟩:=h;obtain⟨h3,h⟩:=bm h;have h:=sI h;subst h;simp only[bA] at h3;obtain⟨l1,p1⟩:=oN h1;obtain⟨l2,p2⟩:=oN h2;exact⟨by simp only[pures,p1,p2,cH],_,_,adH (sp:=fun f=>cI f Nm) rfl rfl l1 l2 p1 p2 (eG h3.1) (eG h3.2) s0,rfl,⟨1,rfl⟩⟩;cases h
def Oy:cq ar 199 uB:=by
 refine jC dc.nil fun args u h=>?_;unfold uB at h;split at h;simp only[az] at h;obtain⟨a,h1,b,h2,h⟩:=h;have h:=sI h;subst h;have h1:=xt h1;have h2:=xt h2;subst h1;subst h2;exact⟨rfl,_,_,Zw (sp:=fun f=>cI f []) rfl a b s0,rfl,⟨1,rfl⟩⟩;cases h
def Me(h1:aD 1 aF v a)(p1:aQ v=true):Av [v]=some (.bool (!i9 a)):=by
 simp only[Av,oO h1 p1,bn]
def anF:cq ar 390 Av:=by
 refine jC dc.nil fun args u h=>?_;unfold Av at h;split at h;simp only[az] at h;obtain⟨a,h1,h⟩:=h;have h:=sI h;subst h;obtain⟨l1,p1⟩:=oN h1;exact⟨by simp only[pures,p1,cH],_,_,anG (sp:=fun f=>cI f []) rfl l1 s0,rfl,⟨1,rfl⟩⟩;cases h
def Ma(h1:aD 1 aF v a)(h2:aD 1 aF u b)(p1:aQ v=true)(p2:aQ u=true)(ha:a.length<=1000000):wQ [v,u]=some (.bool (a==b)):=by
 simp only[ce,wQ,oO h1 p1,oO h2 p2,cu ha]
def ano:cq ar 392 wQ:=by
 refine jC dc.nil fun args u h=>?_;unfold wQ at h;split at h;simp only[az] at h;obtain⟨a,h1,b,h2,h⟩:=h;obtain⟨h3,h⟩:=bm h;have h:=sI h;subst h;obtain⟨l1,p1⟩:=oN h1;obtain⟨l2,p2⟩:=oN h2;exact⟨by simp only[pures,p1,p2,cH],_,_,anq (sp:=fun f=>cI f []) rfl l1 l2 (eG h3) (aU _),rfl,⟨1,rfl⟩⟩;cases h
def V5: ∀(p q:List be),dR (p++q)=dR p++dR q
 | [],_=>rfl
 |t::p,q=>by simp only[mJ,dR,V5 p q]
variable{lo:Nat}{h:aZ bf}{ov:ae}
def Jy{l:List ak}(hO:cE 1 lo s ov (l.map aF)):dP h ov (lw l):=by
 refine⟨3,uL hO (k:=2) fun v hv=>?_⟩;obtain⟨p,_,rfl⟩:=dp.1 hv;rfl
variable{sz:Nat}{α:Type}
def wF{enc:α->ae}(l:List α):aD sz enc (fv sz (l.map enc)) l:=by
 cases l with
 |nil=>exact .inl ⟨rfl,rfl⟩
 |cons a l=>exact .inr ⟨.no,rfl⟩
def Vn(l:List ak):aQ (lw l)=true:=by
 cases l with
 |nil=>rfl
 |cons a l=>exact GX (a::l) .no
variable{l:List be}
section
variable{sp:bC}
def apV(hl:aD 2 bD v l)(hs:l.length<=100000)(hx: ∀e s ov,cE 1 lo s ov ((dR l).map aF)->s.ci=0->aj e 3=ov->K (.exit 0) ⟨e,25,lc⟩ s):
 ∀(rest pre:List be) (e:aI) (s:St) (ov:ae),l=pre++rest->cE 1 lo s ov ((dR pre).map aF)->lo<=s.al->s.ge<=s.al->s.ci=0->aj e 0=v->aj e 3=ov->aj e 4= .int .i64 (pre.length:Nat)->W (QS sp) 200 (.loop Kh) ⟨e,25,lc⟩ s K:=by
 have c1:=hl.aL;have n1:=fun mk s=>hl.len jw jv mk s;intro rest
 induction rest with
 |nil=>
  intro pre e s ov hpre hO hlo hm hci h0 h3 h4;have hla:l.length=pre.length:=by rw[hpre];simp
  have hpp:pre=l:=by rw[hpre];simp
  refine eh ?_;simp only[ai,aA,aa,ah,PJ,Kh,h0,h4,c1,n1,hla,cR];exact hx _ s ov (by rw[<-hpp];exact hO) hci (by simp only[au,aa,h3])
 |cons t rest ih=>
  intro pre e s ov hpre hO hlo hm hci h0 h3 h4;have hlt:pre.length<l.length:=by rw[hpre];simp
  have ha1:l[pre.length]? =some t:=by rw[hpre];simp
  have i1:=fun lc=>hl.at lO ha1 lc .i64;have hwr:=ig (n:=pre.length) (by omega);have hoc:=hO.aL;obtain⟨ov',s1,happ,hO',hci',hn,hmw,_,hcl⟩:=tf (t:=25) qM rfl (by decide) (s:=s.top) (y:=.list 1 [.str t.1,.str t.2] .GE) (ys:=[.str t.1,.str t.2]) (show cE 1 lo s.top ov _ from hO) rfl (by rw[cZ];have:=CO pre;show(dR pre).length+2<=1000000;omega) hlo (aU _);have hci1:s1.ci=s.ci:=hci';have hm2:(s.Gt s1).ge<=(s.Gt s1).al:=uU hm hn;have hbs: ∀e s,aj e 16= .str t.1->aj e 21= .str t.2->cx ar 25 2 [(0,.tmp 16),(1,.tmp 21)] false e s=some (.list 1 [.str t.1,.str t.2] .GE,s):=fun e s p q=>N9 (by rw[bq,p]) (by rw[bq,q]) s;have hoc':=hO'.aL;refine eh ?_;simp only[ai,ax,aA,isStore,aN,ay,aa,ah,aG,fD,ei,fp,fk,ofValue,aX,PJ,aft,Kh,h0,h3,h4,c1,n1,i1,hlt,hm,bD,hbs,hoc,happ,hci1,hm2,hwr];have hw:(dR (pre++[t])).map aF=(dR pre).map aF++[.str t.1,.str t.2]:=by rw[V5,je];rfl
  exact ih (pre++[t]) _ (s.Gt s1) ov' (by rw[hpre];simp) (by rw[hw];exact hO') (fh hlo hn) hm2 (hci1.trans hci) (by simp only[au,aa, *]) (by simp only[aq,aa, *]) (by simp only[aq,cK,aa])
def apW(h200:sp 200=none)(hl:aD 2 bD v l)(hs:l.length<=100000): ∃v' s',aM (QS sp) 200 [v] s0 v' s'/\(cE 1 0 s' v' ((dR l).map aF)/\s'.ci=0):=by
 refine aM.ofF EK.1 EK.2 EK.3 EK.4 h200 ?_;simp only[ai,aA,bv,bt,ah,aV,bW,dy,ofValue,aX,Kg];refine apV hl hs ?_ l [] _ s0 .AL rfl (.inl ⟨rfl,rfl⟩) (cV _) (aU _) rfl (by simp only[aq,aa, *]) (by simp only[aq,aa, *]) (by simp only[aq,aa, *];rfl);intro e s ov hO hci h3;have hoc:=hO.aL;simp only[ai,aA,aa,ah,reduceCtorEq,h3,hoc];exact⟨ov,rfl,hO,hci⟩
end
def V4(h1:aD 2 bD v l)(p1:aQ v=true)(hs:l.length<=100000):AF [v]=some (lw (dR l)):=by
 simp only[ce,AF,uy h1 p1,cu hs]
def apU:cq ar 200 AF:=by
 refine jC dc.nil fun args u h=>?_;unfold AF at h;split at h;simp only[az] at h;obtain⟨a,h1,h⟩:=h;obtain⟨h3,h⟩:=bm h;have h:=sI h;subst h;obtain⟨l1,p1⟩:=ux h1;obtain⟨v',s',r1,r2,r3⟩:=apW (sp:=fun f=>cI f []) rfl l1 (eG h3);exact⟨by simp only[pures,p1,cH],v',s',r1,r3,Jy r2⟩;cases h
def Np:du:=[(199,uB),(35,zD),(82,uz),(200,AF)]
def WY:dc Np:=.cons Oy (.cons adG (.cons N4 (.cons apU .nil)))
variable{o:Obj}
def LA:ll o=true↔o.gE.length<=1000000/\o.gT.length<=100000:=by
 simp only[ll,bA,xe]
variable{b:Obj}
section
variable{sp:bC}
def ahV(h116:sp 116=none)(h199:sp 199=some uB)(h35:sp 35=some zD)(h82:sp 82=some uz)(h200:sp 200=some AF){a:Obj}(ga:a.Al)(gb:b.Al)(fa:ll a=true)(fb:ll b=true)(hm:s.ge<=s.al):
 aM (QS sp) 116 [a.val,b.val] s (.bool (kJ a b)) s:=by
 obtain⟨fa1,fa2⟩:=LA.1 fa;obtain⟨fb1,fb2⟩:=LA.1 fb;have q1:uB [.agg [.int .i64 a.x,.int .i64 a.y],.agg [.int .i64 b.x,.int .i64 b.y]]=some (.int .i64 (tm (a.x,a.y) (b.x,b.y))):=rfl;have q2:=adF ga.gE gb.gE ga.pr gb.pr fa1 fb1;have q3:=Di ga.gE gb.gE ga.pr gb.pr fa1;have q4:=V4 ga.gT ga.pt fa2;have q5:=V4 gb.gT gb.pt fb2;have q6:=Di (wF (sz:=1) (enc:=aF) (dR a.gT)) (wF (dR b.gT)) (Vn _) (Vn _) (by rw[CO];omega);have w1: ∀l,(lw l).aL=true:=fun l=>by cases l<;>rfl
 have k1:=ga.gE.aL;have k2:=gb.gE.aL;have k3:=ga.gT.aL;have k4:=gb.gT.aL;have q6:uz [lw (dR a.gT),lw (dR b.gT)]=_:=q6;refine aM.of3 Eb.1 Eb.2 Eb.3 Eb.4 h116 rfl ?_;cases e1:aK a.uP b.uP with
 |false=>simp only[ai,ax,aA,bv,bt,ay,aa,ah,aG,aV,reduceCtorEq,ofValue,aX,BI,DN,Obj.val,Obj.cells,kJ,e1]
 |true=>
  cases e2:aK (tm (a.x,a.y) (b.x,b.y)) 0 with
  |false=>simp only[ai,ax,aA,bv,bt,cut,aN,ay,aa,ah,aG,aV,reduceCtorEq,ofValue,aX,BI,DN,Obj.val,Obj.cells,kJ,e1,h199,q1,e2]
  |true=>
   cases e3:wf a.gE b.gE with
   |false=>simp only[ai,ax,aA,bv,bt,cut,aN,ay,aa,ah,aG,aV,reduceCtorEq,ofValue,aX,BI,DN,Obj.val,Obj.cells,kJ,e1,h199,q1,e2,h35,q2,e3,k1,k2,h82,q3]
   |true=>simp only[ai,ax,aA,isStore,bv,bt,cut,aN,ay,aa,ah,aG,fD,aV,ei,fp,fk,reduceCtorEq,ofValue,aX,BI,DN,aeE,Obj.val,Obj.cells,kJ,e1,h199,q1,e2,h35,q2,e3,k1,k2,k3,k4,h82,h200,q4,q5,q6,w1,hm]
end
variable{q:Obj}
section
variable{sp:bC}
def ani(ho:o.Ok)(hq:q.Ok)(hlen:o.gE.length=q.gE.length)(hs:o.gE.length<=1000000)(hm:s.ge<=s.al)(hx: ∀e,xk o q e lc->(o.gE==q.gE)=true->K (.exit 0) ⟨e,80,lc⟩ s)(hr: ∀e,aj e 4= .bool false->(o.gE==q.gE)=false->K .ret ⟨e,80,lc⟩ s):
 ∀(ra rb pre pre2:List ak) (e:aI),o.gE=pre++ra->q.gE=pre2++rb->pre.length=pre2.length->(o.gE==q.gE)=(ra==rb)->xk o q e lc->aj e 5= .int .i64 (pre.length:Nat)->W (QS sp) 64 (.loop BO) ⟨e,80,lc⟩ s K:=by
 have c1:=ho.gE.aL;have c2:=hq.gE.aL;have n1:=fun mk s=>ho.gE.len dB dH mk s;intro ra
 induction ra with
 |nil=>
  intro rb pre pre2 e h1 h2' h3' hb I h5;obtain⟨h2,g2,b2,h3,g3,b3⟩:=I;have hla:o.gE.length=pre.length:=by rw[h1];simp
  have hrb:rb=[]:=by
   have:q.gE.length=pre2.length+rb.length:=by rw[h2'];simp
   exact uc.1 (by omega)
  refine eh ?_;simp only[ai,ax,aA,ay,aa,ah,qj,BO,h2,g2,b2,Obj.cells,h5,c1,n1,hla,cR];refine hx _ ⟨?_,g2,b2,?_,g3,b3⟩ (by rw[hb,hrb];rfl);simp only[au,aa,h2];simp only[au,aa,h3]
 |cons x ra ih=>
  intro rb pre pre2 e h1 h2' h3' hb I h5;obtain⟨h2,g2,b2,h3,g3,b3⟩:=I;have hlt:pre.length<o.gE.length:=by rw[h1];simp
  have ha1:o.gE[pre.length]? =some x:=by rw[h1];simp
  have i1:=fun lc=>ho.gE.at gR ha1 lc .i64;cases rb with
  |nil=>
   have e1:q.gE.length=pre2.length:=by rw[h2'];simp
   have e2:o.gE.length=pre.length+(ra.length+1):=by rw[h1];simp
   omega
  |cons y rb=>
   have hb1:q.gE[pre.length]? =some y:=by rw[h2',h3'];simp
   have i2:=fun lc=>hq.gE.at gR hb1 lc .i64;have hwr:=ig (n:=pre.length) (by omega);have hc:((x::ra)==(y::rb))=((x==y)&&(ra==rb)):=rfl;refine eh ?_;cases hxy:x==y with
   |false=>
    simp only[ai,ax,aA,isStore,aN,ay,aa,ah,aG,fD,ei,fp,fk,ofValue,aX,qj,RQ,BO,h2,g2,b2,h3,g3,b3,Obj.cells,h5,c1,n1,i1,i2,hlt,hm,aF,hxy];exact hr _ (by simp only[aq,aa]) (by rw[hb,hc,hxy];rfl)
   |true=>
    simp only[ai,ax,aA,isStore,aN,ay,aa,ah,aG,fD,ei,fp,fk,ofValue,aX,qj,RQ,BO,h2,g2,b2,h3,g3,b3,Obj.cells,h5,c1,n1,i1,i2,hlt,hm,aF,hxy,hwr];refine ih rb (pre++[x]) (pre2++[y]) _ (by rw[h1];simp) (by rw[h2'];simp) (by simp[h3']) (by rw[hb,hc,hxy];rfl) ⟨?_,g2,b2,?_,g3,b3⟩ ?_;simp only[au,aa,h2];simp only[au,aa,h3];simp only[aq,cK,aa]
def ank(ho:o.Ok)(hq:q.Ok)(hlen:o.gT.length=q.gT.length)(hs:o.gT.length<=1000000)(hm:s.ge<=s.al)(hx: ∀e,(o.gT==q.gT)=true->K (.exit 2) ⟨e,80,lc⟩ s)(hr: ∀e,aj e 4= .bool false->(o.gT==q.gT)=false->K .ret ⟨e,80,lc⟩ s):
 ∀(ra rb pre pre2:List be) (e:aI),o.gT=pre++ra->q.gT=pre2++rb->pre.length=pre2.length->(o.gT==q.gT)=(ra==rb)->xk o q e lc->aj e 6= .int .i64 (pre.length:Nat)->W (QS sp) 64 (.loop BP) ⟨e,80,lc⟩ s K:=by
 have c1:=ho.gT.aL;have c2:=hq.gT.aL;have n1:=fun mk s=>ho.gT.len jw jv mk s;intro ra
 induction ra with
 |nil=>
  intro rb pre pre2 e h1 h2' h3' hb I h5;obtain⟨h2,g2,b2,h3,g3,b3⟩:=I;have hla:o.gT.length=pre.length:=by rw[h1];simp
  have hrb:rb=[]:=by
   have:q.gT.length=pre2.length+rb.length:=by rw[h2'];simp
   exact uc.1 (by omega)
  refine eh ?_;simp only[ai,ax,aA,ay,aa,ah,qj,BP,h2,g2,b2,Obj.cells,h5,c1,n1,hla,cR];exact hx _ (by rw[hb,hrb];rfl)
 |cons x ra ih=>
  intro rb pre pre2 e h1 h2' h3' hb I h5;obtain⟨h2,g2,b2,h3,g3,b3⟩:=I;have hlt:pre.length<o.gT.length:=by rw[h1];simp
  have ha1:o.gT[pre.length]? =some x:=by rw[h1];simp
  have i1:=fun lc=>ho.gT.at lO ha1 lc .i64;cases rb with
  |nil=>
   have e1:q.gT.length=pre2.length:=by rw[h2'];simp
   have e2:o.gT.length=pre.length+(ra.length+1):=by rw[h1];simp
   omega
  |cons y rb=>
   have hb1:q.gT[pre.length]? =some y:=by rw[h2',h3'];simp
   have i2:=fun lc=>hq.gT.at lO hb1 lc .i64;have hwr:=ig (n:=pre.length) (by omega);have hc:((x::ra)==(y::rb))=((x==y)&&(ra==rb)):=rfl;have hne:=Mz x.1 x.2 y.1 y.2;rw[<-Mv] at hne;refine eh ?_;cases hxy:x==y with
   |false=>
    rw[hxy] at hne;simp only[ai,ax,aA,isStore,cut,aN,ay,aa,ah,aG,fD,ei,fp,fk,ofValue,aX,qj,RP,BP,h2,g2,b2,h3,g3,b3,Obj.cells,h5,c1,n1,i1,i2,hlt,hm,bD,hne];exact hr _ (by simp only[aq,aa]) (by rw[hb,hc,hxy];rfl)
   |true=>
    rw[hxy] at hne;simp only[ai,ax,aA,isStore,cut,aN,ay,aa,ah,aG,fD,ei,fp,fk,ofValue,aX,qj,RP,BP,h2,g2,b2,h3,g3,b3,Obj.cells,h5,c1,n1,i1,i2,hlt,hm,bD,hne,hwr];refine ih rb (pre++[x]) (pre2++[y]) _ (by rw[h1];simp) (by rw[h2'];simp) (by simp[h3']) (by rw[hb,hc,hxy];rfl) ⟨?_,g2,b2,?_,g3,b3⟩ ?_;simp only[au,aa,h2];simp only[au,aa,h3];simp only[aq,cK,aa]
def anj(h64:sp 64=none)(go:o.Al)(gq:q.Al)(fo:ll o=true)(hm:s.ge<=s.al):aM (QS sp) 64 [o.val,q.val] s (.bool (jV o q)) s:=by
 obtain⟨f1,f2⟩:=LA.1 fo;have ho:=go.toOk;have hq:=gq.toOk;have k1:=ho.gE.aL;have k2:=hq.gE.aL;have k3:=ho.gT.aL;have k4:=hq.gT.aL;have n1:=fun mk s=>ho.gE.len dB dH mk s;have n2:=fun mk s=>hq.gE.len dB dH mk s;have n3:=fun mk s=>ho.gT.len jw jv mk s;have n4:=fun mk s=>hq.gT.len jw jv mk s;have hp:=T9 o.x o.y q.x q.y;refine aM.of3 wy.1 wy.2 wy.3 wy.4 h64 rfl ?_;unfold jV;cases e1:o.id==q.id with
 |false=>simp only[ai,ax,aA,bv,bt,ay,aa,ah,aG,aV,reduceCtorEq,ofValue,aX,uT,qj,Obj.val,Obj.cells,e1]
 |true=>
 cases e2:aK o.uP q.uP with
 |false=>simp only[ai,ax,aA,bv,bt,ay,aa,ah,aG,aV,reduceCtorEq,ofValue,aX,uT,qj,Obj.val,Obj.cells,e1,e2]
 |true=>
 cases e3:(bif aK o.x q.x then bif aK o.y q.y then true else false else false) with
 |false=>
  rw[e3] at hp;simp only[ai,ax,aA,bv,bt,cut,aN,ay,aa,ah,aG,aV,reduceCtorEq,ofValue,aX,uT,qj,Obj.val,Obj.cells,e1,e2,hp]
 |true=>
 rw[e3] at hp;by_cases l1:o.gE.length=q.gE.length
 ·by_cases l2:o.gT.length=q.gT.length
  ·have i1:aK ((o.gE.length:Nat):Int) ((q.gE.length:Nat):Int)=true:=by rw[l1];exact qQ _
   have i2:aK ((o.gT.length:Nat):Int) ((q.gT.length:Nat):Int)=true:=by rw[l2];exact qQ _
   simp only[ai,ax,aA,bv,bt,cut,aN,ay,aa,ah,aG,aV,ofValue,aX,uT,qj,Obj.val,Obj.cells,e1,e2,hp,k1,k2,k3,k4,n1,n2,n3,n4,i1,i2];refine ani ho hq l1 f1 hm ?_ ?_ o.gE q.gE [] [] _ rfl rfl rfl rfl ⟨?_,?_,?_,?_,?_,?_⟩ ?_;intro e I e5;simp only[ai,aA,ah,ofValue,aX];refine ank ho hq l2 (by omega) hm ?_ ?_ o.gT q.gT [] [] _ rfl rfl rfl rfl ⟨?_,I.g2,I.b2,?_,I.g3,I.b3⟩ ?_;intro e e6;simp only[ai,aA,ah,reduceCtorEq,ofValue,aX,e5,e6];intro e h4 e6;simp only[cT,aT,u7,uA,reduceCtorEq,oT,eq_self,h4,e5,e6];simp only[au,aa,I.h2];simp only[au,aa,I.h3];simp only[ik,aa];rfl;intro e h4 e5;simp only[cF,aT,u7,uA,reduceCtorEq,oT,eq_self,h4,e5]
   all_goals simp only[aq,iX,gi,aa,Obj.cells]
   rfl
  have e4:(o.gT==q.gT)=false:=bN.2 fun e=>l2 (by rw[e]);have i1:aK ((o.gE.length:Nat):Int) ((q.gE.length:Nat):Int)=true:=by rw[l1];exact qQ _
  have i2:aK ((o.gT.length:Nat):Int) ((q.gT.length:Nat):Int)=false:=iy (by omega);have e5:(bif o.gE==q.gE then false else false)=false:=by cases o.gE==q.gE<;>rfl
  simp only[ai,ax,aA,bv,bt,cut,aN,ay,aa,ah,aG,aV,reduceCtorEq,ofValue,aX,uT,qj,Obj.val,Obj.cells,e1,e2,hp,k1,k2,k3,k4,n1,n2,n3,n4,i1,i2,e4,e5]
 have e4:(o.gE==q.gE)=false:=bN.2 fun e=>l1 (by rw[e]);have i1:aK ((o.gE.length:Nat):Int) ((q.gE.length:Nat):Int)=false:=iy (by omega);simp only[ai,ax,aA,bv,bt,cut,aN,ay,aa,ah,aG,aV,reduceCtorEq,ofValue,aX,uT,qj,Obj.val,Obj.cells,e1,e2,hp,k1,k2,n1,n2,i1,e4]
end
def Bp{k:ak}: ∀(l:List Obj) (i:Nat),(li k l i).map (·.2)=bc k l
 | [],_=>rfl
 |o::l,i=>by
  simp only[li,bc];by_cases h:o.id=k;rw[h,bS];rfl;rw[bN.2 h,bN.2 (Ne.symm h)];exact Bp l (i+1)
def DG(h:aZ bf)(ho:o.Al):dP h o.val o.val:=⟨5,DF h ho 1⟩
def tN(h:aQ v=true)(h2:aQ u=true):pures [v,u]=true:=by simp only[pures,h,h2,cH]
def Co{w:ae}(h:aQ v=true)(h2:aQ u=true)(h3:aQ w=true):pures [v,u,w]=true:=by simp only[pures,h,h2,h3,cH]
def UK{a:Obj}(ga:a.Al)(gb:b.Al)(fa:ll a=true):vr [a.val,b.val]=some (.bool (jV a b)):=by
 simp only[ce,vr,mm ga,mm gb,fa]
def anh:cq ar 64 vr:=by
 refine jC dc.nil fun args u h=>?_;unfold vr at h;split at h;simp only[az] at h;obtain⟨a,h1,b,h2,h⟩:=h;obtain⟨h3,h⟩:=bm h;have h:=sI h;subst h;obtain⟨rfl,ga⟩:=lf h1;obtain⟨rfl,gb⟩:=lf h2;exact⟨tN ga.pure gb.pure,_,_,anj (sp:=fun f=>cI f []) rfl ga gb h3 (aU _),rfl,⟨1,rfl⟩⟩;cases h
def R5{a:Obj}(ga:a.Al)(gb:b.Al)(fa:ll a=true)(fb:ll b=true):sf [a.val,b.val]=some (.bool (kJ a b)):=by
 simp only[ce,sf,mm ga,mm gb,fa,fb,cH]
def R6:cq ar 116 sf:=by
 refine jC WY fun args u h=>?_;unfold sf at h;split at h;simp only[az] at h;obtain⟨a,h1,b,h2,h⟩:=h;obtain⟨h3,h⟩:=bm h;simp only[bA] at h3;have h:=sI h;subst h;obtain⟨rfl,ga⟩:=lf h1;obtain⟨rfl,gb⟩:=lf h2;exact⟨tN ga.pure gb.pure,_,_,ahV (sp:=fun f=>cI f Np) rfl rfl rfl rfl rfl ga gb h3.1 h3.2 (aU _),rfl,⟨1,rfl⟩⟩;cases h
section
variable{sp:bC}
def ah1(h195:sp 195=none)(h116:sp 116=some sf){a:Obj}(ga:a.Al)(gb:b.Al)(fa:ll a=true)(fb:ll b=true)(s:St):aM (QS sp) 195 [a.val,b.val] s (bif kJ b a then b else a).val s:=by
 have q1:=R5 gb ga fb fa;simp only[Obj.val,Obj.cells] at q1;refine aM.of4 EA.1 EA.2 EA.3 EA.4 h195 ?_;cases e1:kJ b a with
 |false=>
  rw[e1] at q1;simp only[ai,ax,aA,bv,bt,cut,bu,aN,ay,aa,ah,aG,aV,reduceCtorEq,bW,dy,Kd,PH,Obj.val,Obj.cells,h116,q1]
 |true=>
  rw[e1] at q1;simp only[ai,ax,aA,bv,bt,cut,bu,aN,ay,aa,ah,aG,aV,reduceCtorEq,bW,dy,Kd,PH,Obj.val,Obj.cells,h116,q1]
def acz(h115:sp 115=none)(h198:sp 198=some uH){l:List Obj}(hl:aD 6 Obj.val v l)(hk: ∀o∈l,o.Al)(hs:l.length<small)(id:ak)(s:St):aM (QS sp) 115 [.agg [v],.str id] s (.tup [ja (bc id l),.bool (bc id l).isSome]) s:=by
 have c1:=hl.aL;have q1:=Bq id hl hk hs;refine aM.of4 Ea.1 Ea.2 Ea.3 Ea.4 h115 ?_;cases hf:li id l 0 with
 |none=>
  have ho:bc id l=none:=by
   rw[<-Bp l 0,hf];rfl
  rw[hf] at q1;simp only[vi] at q1;have hi:bG (-1) 0=true:=rfl;have hb: ∀e,eV ar 52 [] e=some (.agg [.str [],.int .i64 0,.int .i64 0,.int .i64 0,.AL,.AL]):=fun e=>by kernel_rfl
  simp only[ai,ax,aA,bv,bt,cut,bu,aN,ay,aa,ah,aG,aV,reduceCtorEq,bW,dy,ofValue,aX,J9,PD,h198,q1,hi,ho,hb,ja,Obj.val,Obj.cells,eP,oJ]
 |some p=>
  obtain⟨k,o⟩:=p;have hat:=O7 hf;have ho:bc id l=some o:=by
   rw[<-Bp l 0,hf];rfl
  have ha1:l[k]? =some o:=hat.2.1;have i1:=fun lc=>hl.at o7 ha1 lc .i64;rw[hf] at q1;simp only[vi] at q1;have hi:bG ((k:Nat):Int) 0=false:=by rw[show(0:Int)=((0:Nat):Int) from rfl,im];simp
  simp only[ai,ax,aA,bv,bt,cut,bu,aN,ay,aa,ah,aG,aV,reduceCtorEq,bW,dy,ofValue,aX,J9,PD,h198,q1,hi,ho,i1,ja,Obj.val,Obj.cells,jq]
end
def ahZ{a:Obj}(ga:a.Al)(gb:b.Al)(fa:ll a=true)(fb:ll b=true):wB [a.val,b.val]=some (bif kJ b a then b else a).val:=by
 simp only[ce,wB,mm ga,mm gb,fa,fb,cH]
def Nh:du:=[(116,sf)]
def WM:dc Nh:=.cons R6 .nil
def ah0:cq ar 195 wB:=by
 refine jC WM fun args u h=>?_;unfold wB at h;split at h;simp only[az] at h;obtain⟨a,h1,b,h2,h⟩:=h;obtain⟨h3,h⟩:=bm h;simp only[bA] at h3;have h:=sI h;subst h;obtain⟨rfl,ga⟩:=lf h1;obtain⟨rfl,gb⟩:=lf h2;exact⟨tN ga.pure gb.pure,_,_,ah1 (sp:=fun f=>cI f Nh) rfl rfl ga gb h3.1 h3.2 s0,rfl,DG _ (by cases kJ b a<;>assumption)⟩;cases h
def zA{l:List Obj}(hl:aD 6 Obj.val v l)(hk: ∀o∈l,o.Al)(hs:l.length<small)(hp:aQ (.agg [v])=true)(id:ak):tw [.agg [v],.str id]=some (.tup [ja (bc id l),.bool (bc id l).isSome]):=by
 simp only[tw,pY hl hk hs hp,bn]
def H0:du:=[(198,uH)]
def Nk:dc H0:=.cons abI .nil
variable{a':ae}
def xL{a b b':ae}(h1:dP h a a')(h2:dP h b b'):dP h (.tup [a,b]) (.tup [a',b']):=by
 obtain⟨k1,h1⟩:=h1;obtain⟨k2,h2⟩:=h2;refine⟨max k1 k2+1,?_⟩;have h1:=uK h (qF k1 k2) h1;have h2:=uK h (rD k1 k2) h2;show((de (cj h (max k1 k2)) [a,b])).bind (fun r=>some (ae.tup r))=_;simp only[de,h1,h2,bn]
def DE(h:aZ bf)(b:Bool):dP h (.bool b) (.bool b):=⟨1,rfl⟩
def Pq(h:aZ bf)(b:ak):dP h (.str b) (.str b):=⟨1,rfl⟩
variable{p:Option Obj}
def TN(h: ∀o,p=some o->o.Al)(hh:aZ bf):dP hh (ja p) (ja p):=by
 cases p with
 |none=>exact DG hh CQ
 |some o=>exact DG hh (h o rfl)
def Pu:cq ar 115 tw:=by
 refine jC Nk fun args u h=>?_;unfold tw at h;split at h;rename_i v id;simp only[az] at h;obtain⟨l,h1,h⟩:=h;have h:=sI h;subst h;obtain⟨v',rfl,hl,hg,hs,hp⟩:=pX h1;exact⟨tN hp rfl,_,_,acz (sp:=fun f=>cI f H0) rfl rfl hl hg hs id s0,rfl,xL (TN (fun o ho=>hg o (iO ho).1) _) (DE _ _)⟩;cases h
variable{k:ak}
section
variable{sp:bC}
def acx(hl:aD 2 bD v l)(hs:l.length<=1000000)(hx: ∀e,dV k l=none->K (.exit 0) ⟨e,25,lc⟩ s)(hr: ∀e x,dV k l=some x->aj e 4= .str x->aj e 5= .bool true->K .ret ⟨e,25,lc⟩ s):
 ∀(rest pre:List be) (e:aI),l=pre++rest->dV k l=dV k rest->aj e 0=v->aj e 1= .str k->aj e 6= .int .i64 (pre.length:Nat)->W (QS sp) 160 (.loop Eh) ⟨e,25,lc⟩ s K:=by
 have c1:=hl.aL;have n1:=fun mk s=>hl.len jw jv mk s;intro rest
 induction rest with
 |nil=>
  intro pre e hpre hq h0 h1 h6;have hla:l.length=pre.length:=by rw[hpre];simp
  refine eh ?_;simp only[ai,aA,aa,ah,JG,Eh,h0,h6,c1,n1,hla,cR];exact hx _ hq
 |cons t rest ih=>
  intro pre e hpre hq h0 h1 h6;have hlt:pre.length<l.length:=by rw[hpre];simp
  have ha1:l[pre.length]? =some t:=by rw[hpre];simp
  have i1:=fun lc=>hl.at lO ha1 lc .i64;have hwr:=ig (n:=pre.length) (by omega);refine eh ?_;cases hk:t.1==k with
  |true=>
   simp only[ai,ax,aA,ay,aa,ah,ofValue,aX,JG,Eh,h0,h1,h6,c1,n1,i1,hlt,bD,hk];exact hr _ t.2 (by rw[hq];simp only[dV,hk,cT]) (by simp only[aq,aa]) (by simp only[aq,aa])
  |false=>
   simp only[ai,ax,aA,ay,aa,ah,ofValue,aX,JG,Eh,h0,h1,h6,c1,n1,i1,hlt,bD,hk,hwr];exact ih (pre++[t]) _ (by rw[hpre];simp) (by rw[hq];simp only[dV,hk,cF]) (by simp only[au,aa,h0]) (by simp only[au,aa,h1]) (by simp only[aq,cK,aa])
def acy(h160:sp 160=none)(hl:aD 2 bD v l)(hs:l.length<=1000000)(s:St):aM (QS sp) 160 [v,.str k] s (.tup [.str ((dV k l).getD []),.bool (dV k l).isSome]) s:=by
 refine aM.of4 Eg.1 Eg.2 Eg.3 Eg.4 h160 ?_;simp only[ai,aA,bv,bt,ah,aG,aV,bW,dy,ofValue,aX,Ka];refine acx (k:=k) hl hs ?_ ?_ l [] _ rfl rfl (by simp only[aq,aa, *]) (by simp only[aq,aa, *]) (by simp only[aq,aa, *];rfl);intro e hq;simp only[ai,aA,aa,ah,reduceCtorEq,ofValue,aX,hq,pL,oJ];intro e x hq h4 h5;simp only[ai,aA,reduceCtorEq,hq,h4,h5,fq,jq]
end
def JA(h1:aD 2 bD v l)(p1:aQ v=true)(hs:l.length<=1000000)(k:ak):zz [v,.str k]=some (.tup [.str ((dV k l).getD []),.bool (dV k l).isSome]):=by
 simp only[ce,zz,uy h1 p1,cu hs]
def acw:cq ar 160 zz:=by
 refine jC dc.nil fun args u h=>?_;unfold zz at h;split at h;rename_i v k;simp only[az] at h;obtain⟨l,h1,h⟩:=h;obtain⟨h3,h⟩:=bm h;have h:=sI h;subst h;obtain⟨l1,p1⟩:=ux h1;exact⟨tN p1 rfl,_,_,acy (sp:=fun f=>cI f []) rfl l1 (eG h3) s0,rfl,xL (Pq _ _) (DE _ _)⟩;cases h
def Ni:du:=[(160,zz)]
def WN:dc Ni:=.cons acw .nil
variable{b o t:List be}{vb vo vt:ae}
section
variable{sp:bC}
def ako(h395:sp 395=none)(h160:sp 160=some zz)(hb:aD 2 bD vb b)(ho:aD 2 bD vo o)(ht:aD 2 bD vt t)(pb:aQ vb=true)(po:aQ vo=true)(pt:aQ vt=true)(sb:b.length<=1000000)(so:o.length<=1000000)(st:t.length<=1000000)(s:St):
 aM (QS sp) 395 [vb,vo,vt,.str k] s (.tup [.str (sw ((dV k b).getD []) ((dV k o).getD []) ((dV k t).getD [])).1,.bool (sw ((dV k b).getD []) ((dV k o).getD []) ((dV k t).getD [])).2]) s:=by
 have c1:=hb.aL;have c2:=ho.aL;have c3:=ht.aL;have q1:=JA hb pb sb k;have q2:=JA ho po so k;have q3:=JA ht pt st k;refine aM.of4 FA.1 FA.2 FA.3 FA.4 h395 ?_;generalize (dV k b).getD []=a at q1 ⊢;generalize (dV k o).getD []=x at q2 ⊢;generalize (dV k t).getD []=y at q3 ⊢;unfold sw;cases e1:x==y with
 |true=>simp only[fG,ai,aA,bv,bt,aa,ah,aG,aV,reduceCtorEq,bW,dy,ofValue,aX,BL,c1,c2,c3,h160,q1,q2,q3,e1,dU]
 |false=>
  cases e2:y==a with
  |true=>simp only[fG,ai,aA,bv,bt,aa,ah,aG,aV,reduceCtorEq,bW,dy,ofValue,aX,BL,c1,c2,c3,h160,q1,q2,q3,e1,e2,dU]
  |false=>
   cases e3:x==a with
   |true=>simp only[fG,ai,aA,bv,bt,aa,ah,aG,aV,reduceCtorEq,bW,dy,ofValue,aX,BL,c1,c2,c3,h160,q1,q2,q3,e1,e2,e3,dU]
   |false=>simp only[fG,ai,aA,bv,bt,aa,ah,aG,aV,reduceCtorEq,bW,dy,ofValue,aX,BL,c1,c2,c3,h160,q1,q2,q3,e1,e2,e3,dU]
end
def akm(hb:aD 2 bD vb b)(ho:aD 2 bD vo o)(ht:aD 2 bD vt t)(pb:aQ vb=true)(po:aQ vo=true)(pt:aQ vt=true)(sb:b.length<=1000000)(so:o.length<=1000000)(st:t.length<=1000000)(k:ak):
 yh [vb,vo,vt,.str k]=some (.tup [.str (sw ((dV k b).getD []) ((dV k o).getD []) ((dV k t).getD [])).1,.bool (sw ((dV k b).getD []) ((dV k o).getD []) ((dV k t).getD [])).2]):=by
 simp only[ce,yh,uy hb pb,uy ho po,uy ht pt,cu sb,cu so,cu st,cH]
def akn:cq ar 395 yh:=by
 refine jC WN fun args u h=>?_;unfold yh at h;split at h;rename_i x y z k;simp only[az] at h;obtain⟨b,h1,o,h2,t,h3,h⟩:=h;obtain⟨h4,h⟩:=bm h;simp only[bA,xe] at h4;have h:=sI h;subst h;obtain⟨l1,p1⟩:=ux h1;obtain⟨l2,p2⟩:=ux h2;obtain⟨l3,p3⟩:=ux h3;exact⟨by simp only[pures,p1,p2,p3,aQ,cH],_,_,ako (sp:=fun f=>cI f Ni) rfl rfl l1 l2 l3 p1 p2 p3 h4.1 h4.2.1 h4.2.2 s0,rfl,xL (Pq _ _) (DE _ _)⟩;cases h
variable{x:Operand}{e:aI}
def Iv{y:Operand}{a b:ak}(hx:ev e x=some (.str a))(hy:ev e y=some (.str b)):eV ar 92 [(0,x),(1,y)] e=some (.agg [.str a,.str b]):=by
 rw[N3];simp only[ce,MS,cS,evc,hx,hy,Bb];rfl
def Dl{a b:ae}(h:ev e x=some (.agg [a,b]))(s:St):cx ar 50 1 [(0,x)] false e s=some (.list 2 [.agg [a,b]] .GE,s):=by
 simp only[ce,jR,cx,xG,cS,evc,h,ae.aL,eW,ae.cells,bu,Nat.zero_mul,aG,jg,fW,cut];rfl
def Hs(l:List be):aD 2 bD (tagsV l) l:=wF l
def aoR(l:List be):aQ (tagsV l)=true:=by
 cases l with
 |nil=>rfl
 |cons a l=>
  show(pures ((a::l).map bD)&&true)=true;rw[LU];rfl
def Pr(hO:cE 2 lo s ov (l.map bD)):dP h ov (tagsV l):=by
 refine⟨4,uL hO (k:=3) fun v hv=>?_⟩;obtain⟨p,_,rfl⟩:=dp.1 hv;rfl
def y8(hO:cE 2 lo s ov (l.map bD))(t:be)(hlen:l.length<=500000)(hlo:lo<=s.al)(hm:s.ge<=s.al):
 ∃ov' s',hG ar [] 50 ov (.list 2 [.agg [.str t.1,.str t.2]] .GE) false s=some (ov',s')/\cE 2 lo s' ov' ((l++[t]).map bD)/\s'.ci=s.ci/\lo<=s'.al/\s'.ge<=s'.al/\ov'.aL=true:=by
 obtain⟨ov',s',h1,h2,h3,h4,h5,_,_⟩:=tf (t:=50) xG rfl (by decide) (s:=s) (y:=.list 2 [.agg [.str t.1,.str t.2]] .GE) (ys:=[.agg [.str t.1,.str t.2]]) hO rfl (by rw[cZ];show l.length+1<=1000000;omega) hlo hm;have e:(l++[t]).map bD=l.map bD++[.agg [.str t.1,.str t.2]]:=by rw[je];rfl
 exact⟨ov',s',h1,by rw[e];exact h2,h3,by omega,h5,h2.aL⟩
section
variable{sp:bC}
def al6{R:List be}{x:ak}(hl:aD 2 bD v l)(hs:l.length<=100000)(hx: ∀e s ov acc d,cE 2 lo s ov (acc.map bD)->acc.length<=400000->s.ci=0->lo<=s.al->s.ge<=s.al->R=acc++ip k x d []->aj e 1= .str k->aj e 2= .str x->aj e 7=ov->aj e 8= .bool d->K (.exit 0) ⟨e,58,lc⟩ s):
 ∀(rest pre:List be) (e:aI) (s:St) (ov:ae) (acc:List be) (d:Bool),l=pre++rest->cE 2 lo s ov (acc.map bD)->acc.length<=2*pre.length->s.ci=0->lo<=s.al->s.ge<=s.al->R=acc++ip k x d rest->aj e 0=v->aj e 1= .str k->aj e 2= .str x->aj e 7=ov->aj e 8= .bool d->aj e 9= .int .i64 (pre.length:Nat)->
  W (QS sp) 394 (.loop uS) ⟨e,58,lc⟩ s K:=by
 have c1:=hl.aL;have n1:=fun mk s=>hl.len jw jv mk s;intro rest
 induction rest with
 |nil=>
  intro pre e s ov acc d hpre hO ha hci hlo hm hR h0 h1 h2 h7 h8 h9;have hla:l.length=pre.length:=by rw[hpre];simp
  refine eh ?_;simp only[ai,aA,aa,ah,we,uS,h0,h9,c1,n1,hla,cR];refine hx _ s ov acc d hO (by omega) hci hlo hm hR ?_ ?_ ?_ ?_;simp only[au,aa,h1];simp only[au,aa,h2];simp only[au,aa,h7];simp only[au,aa,h8]
 |cons t rest ih=>
  intro pre e s ov acc d hpre hO ha hci hlo hm hR h0 h1 h2 h7 h8 h9;have hlt:pre.length<l.length:=by rw[hpre];simp
  have ha1:l[pre.length]? =some t:=by rw[hpre];simp
  have i1:=fun lc=>hl.at lO ha1 lc .i64;have hwr:=ig (n:=pre.length) (by omega);have hoc:=hO.aL;have hb1: ∀e,aj e 30= .str k->aj e 31= .str x->eV ar 92 [(0,.tmp 30),(1,.tmp 31)] e=some (.agg [.str k,.str x]):=fun e p q=>Iv (by rw[bq,p]) (by rw[bq,q]);have hb2: ∀e s,aj e 32= .agg [.str k,.str x]->cx ar 50 1 [(0,.tmp 32)] false e s=some (.list 2 [.agg [.str k,.str x]] .GE,s):=fun e s p=>Dl (by rw[bq,p]) s;have hb3: ∀e s,aj e 46= .agg [.str t.1,.str t.2]->cx ar 50 1 [(0,.tmp 46)] false e s=some (.list 2 [.agg [.str t.1,.str t.2]] .GE,s):=fun e s p=>Dl (by rw[bq,p]) s;have fin: ∀(e':aI) (s':St) (ov':ae) (acc':List be) (d':Bool),cE 2 lo s' ov' (acc'.map bD)->acc'.length<=acc.length+2->s'.ci=0->lo<=s'.al->s'.ge<=s'.al->R=acc'++ip k x d' rest->aj e' 0=v->aj e' 1= .str k->aj e' 2= .str x->aj e' 7=ov'->aj e' 8= .bool d'->aj e' 9= .int .i64 ((pre.length+1:Nat):Int)->
   W (QS sp) 394 (.loop uS) ⟨e',58,lc⟩ s' K:=fun e' s' ov' acc' d' q1 q2 q3 q4 q5 q6 q7 q8 q9 q10 q11 q12=>
   ih (pre++[t]) e' s' ov' acc' d' (by rw[hpre];simp) q1 (by rw[dX];show acc'.length<=2*(pre.length+1);omega) q3 q4 q5 q6 q7 q8 q9 q10 q11 (by rw[q12,dX];rfl)
  have hacc:acc.length<=300000:=by omega
  refine eh ?_;cases hk:t.1==k with
  |true=>
   cases hd:d with
   |true=>
    simp only[ai,ax,aA,ay,aa,ah,ofValue,aX,we,uS,h0,h1,h8,h9,hd,c1,n1,i1,hlt,bD,hk,hwr];refine fin _ s ov acc true hO (by omega) hci hlo hm (by rw[hR,hd];simp only[cz,ip,hk,dS,iK]) ?_ ?_ ?_ ?_ ?_ ?_
    all_goals simp only[aq,aa,h0,h1,h2,h7,h8,hd]
   |false=>
    cases hle:c8 t.1 k with
    |true=>
     simp only[ai,ax,aA,ay,aa,ah,ofValue,aX,we,uS,h0,h1,h8,h9,hd,c1,n1,i1,hlt,bD,hk,hwr,xz,hle];refine fin _ s ov acc false hO (by omega) hci hlo hm (by rw[hR,hd];simp only[cz,ip,hk,hle,dS,fy,ki]) ?_ ?_ ?_ ?_ ?_ ?_
     all_goals simp only[aq,aa,h0,h1,h2,h7,h8,hd]
    |false=>
     obtain⟨ov1,s1,ap1,o1,ci1,lo1,m1,k1⟩:=y8 hO (k,x) (by omega) hlo hm;simp only[ai,ax,aA,ay,aa,ah,ofValue,aX,we,uS,h0,h1,h2,h7,h8,h9,hd,c1,n1,i1,hlt,bD,hk,hwr,xz,hle,hb1,hb2,hoc,ap1];refine fin _ s1 ov1 _ true o1 (by simp) (ci1.trans hci) lo1 m1 (by rw[hR,hd];simp only[ip,hk,hle,fy,rr,cT,mc,mJ,mf]) ?_ ?_ ?_ ?_ ?_ ?_
     all_goals simp only[aq,aa,h0,h1,h2]
  |false=>
   cases hd:d with
   |true=>
    obtain⟨ov1,s1,ap1,o1,ci1,lo1,m1,k1⟩:=y8 hO t (by omega) hlo hm;simp only[ai,ax,aA,cut,aN,ay,aa,ah,aG,ofValue,aX,we,uS,h0,h1,h7,h8,h9,hd,c1,n1,i1,hlt,bD,hk,hwr,hb3,hoc,ap1];refine fin _ s1 ov1 _ true o1 (by simp) (ci1.trans hci) lo1 m1 (by rw[hR,hd];simp only[ip,hk,dS,iK,cF,mc,mJ,mf]) ?_ ?_ ?_ ?_ ?_ ?_
    all_goals simp only[aq,aa,h0,h1,h2,h8,hd]
   |false=>
    cases hle:c8 t.1 k with
    |true=>
     obtain⟨ov1,s1,ap1,o1,ci1,lo1,m1,k1⟩:=y8 hO t (by omega) hlo hm;simp only[ai,ax,aA,cut,aN,ay,aa,ah,aG,ofValue,aX,we,uS,h0,h1,h7,h8,h9,hd,c1,n1,i1,hlt,bD,hk,hwr,xz,hle,hb3,hoc,ap1];refine fin _ s1 ov1 _ false o1 (by simp) (ci1.trans hci) lo1 m1 (by rw[hR,hd];simp only[ip,hk,hle,dS,fy,ki,cF,mc,mJ,mf]) ?_ ?_ ?_ ?_ ?_ ?_
     all_goals simp only[aq,aa,h0,h1,h2,h8,hd]
    |false=>
     obtain⟨ov1,s1,ap1,o1,ci1,lo1,m1,k1⟩:=y8 hO (k,x) (by omega) hlo hm;obtain⟨ov2,s2,ap2,o2,ci2,lo2,m2,k2⟩:=y8 o1 t (by rw[dX];show acc.length+1<=_;omega) lo1 m1;simp only[ai,ax,aA,cut,aN,ay,aa,ah,aG,ofValue,aX,we,uS,h0,h1,h2,h7,h8,h9,hd,c1,n1,i1,hlt,bD,hk,hwr,xz,hle,hb1,hb2,hb3,hoc,ap1,k1,ap2];refine fin _ s2 ov2 _ true o2 (by simp) (ci2.trans (ci1.trans hci)) lo2 m2 (by rw[hR,hd];simp only[cz,ip,hk,hle,fy,rr,mc,mJ,mf]) ?_ ?_ ?_ ?_ ?_ ?_
     all_goals simp only[aq,aa,h0,h1,h2]
def al7(h394:sp 394=none)(hl:aD 2 bD v l)(hs:l.length<=100000)(k x:ak): ∃v' s',aM (QS sp) 394 [v,.str k,.str x] s0 v' s'/\(cE 2 0 s' v' ((ip k x (x== []) l).map bD)/\s'.ci=0):=by
 refine aM.ofF Fz.1 Fz.2 Fz.3 Fz.4 h394 ?_;simp only[ai,aA,bv,bt,aa,ah,aG,aV,bW,dy,ofValue,aX,Ky];refine al6 (R:=ip k x (x== []) l) (k:=k) (x:=x) hl hs ?_ l [] _ s0 .AL [] (x== []) rfl (.inl ⟨rfl,rfl⟩) (cV _) rfl (cV _) (aU _) rfl ?_ ?_ ?_ ?_ ?_ ?_;intro e s ov acc d hO ha hci hlo hm hR h1 h2 h7 h8;have hoc:=hO.aL;cases hd:d with
 |true=>
  simp only[ai,aA,aa,ah,reduceCtorEq,h7,h8,hd,hoc];refine⟨ov,rfl,?_,hci⟩;rw[hR,hd];simpa only[ip,cT,ii] using hO
 |false=>
  obtain⟨ov1,s1,ap1,o1,ci1,lo1,m1,k1⟩:=y8 hO (k,x) (by omega) hlo hm;have hb1: ∀e,aj e 52= .str k->aj e 53= .str x->eV ar 92 [(0,.tmp 52),(1,.tmp 53)] e=some (.agg [.str k,.str x]):=fun e p q=>Iv (by rw[bq,p]) (by rw[bq,q]);have hb2: ∀e s,aj e 54= .agg [.str k,.str x]->cx ar 50 1 [(0,.tmp 54)] false e s=some (.list 2 [.agg [.str k,.str x]] .GE,s):=fun e s p=>Dl (by rw[bq,p]) s;simp only[ai,ax,aA,aa,ah,reduceCtorEq,we,h1,h2,h7,h8,hd,hoc,hb1,hb2,ap1,k1];refine⟨ov1,rfl,?_,ci1.trans hci⟩;rw[hR,hd];exact o1
 all_goals simp only[aq,aa]
 rfl
end
def al4(h1:aD 2 bD v l)(p1:aQ v=true)(hs:l.length<=100000)(k x:ak):yu [v,.str k,.str x]=some (tagsV (ip k x (x== []) l)):=by
 simp only[ce,yu,uy h1 p1,cu hs]
def al5:cq ar 394 yu:=by
 refine jC dc.nil fun args u h=>?_;unfold yu at h;split at h;rename_i v k x;simp only[az] at h;obtain⟨l,h1,h⟩:=h;obtain⟨h3,h⟩:=bm h;have h:=sI h;subst h;obtain⟨l1,p1⟩:=ux h1;obtain⟨v',s',r1,r2,r3⟩:=al7 (sp:=fun f=>cI f []) rfl l1 (eG h3) k x;exact⟨Co p1 rfl rfl,v',s',r1,r3,Pr r2⟩;cases h
section
variable{sp:bC}(h85:sp 161=some mV)
include h85
def ape(hl:aD 2 bD v l)(hk: ∀t∈l,t.1.length<small)(hsmall:l.length<small)(hm:s.ge<=s.al): ∀(rest pre:List be) (e:aI) (p:Option ak),l=pre++rest->M8 pre p->
 aj e 0=v->aj e 3= .int .i64 (pre.length:Nat)->
 W (QS sp) 393 (.loop agN) ⟨e,56,lc⟩ s fun x fr s'=>s'=s/\fr.size=56/\((x= .exit 0/\j6 p rest=true)\/(x= .ret/\aj fr.env 2= .bool false/\j6 p rest=false)):=by
 intro rest;have hlen:=fun mk s=>hl.len jw jv mk s;have hcl:=hl.aL;have hsm:=fg
 induction rest with
 |nil=>
  intro pre e p hpre hp h0 h3;have hlen':l.length=pre.length:=by rw[hpre];simp
  refine bV ?_;refine aC (aw ?_);simp only[ai,aa,ah,h0,h3,hcl,hlen,hlen',cR];refine W.cnFZ ?_;exact W.exit ⟨rfl,rfl,.inl ⟨rfl,rfl⟩⟩
 |cons t rest ih=>
  intro pre e p hpre hp h0 h3;have hlt:pre.length<l.length:=by rw[hpre];simp
  have hat:l[pre.length]? =some t:=by rw[hpre];simp
  have hia:=fun lc=>hl.at lO hat lc .i64;have hns:=yd (hk t (ku hat));have hwr:=eE (n:=pre.length) (by omega);have hi1:bG (t.2.length:Nat) 1=decide (t.2.length<1):=im _ 1;have hi2:bG 200 (t.2.length:Nat)=decide (200<t.2.length):=im 200 _;have hi3:bG 0 (pre.length:Nat)=decide (0<pre.length):=im 0 _;refine bV ?_;refine aC (aw ?_);simp only[ai,aa,ah,h0,h3,hcl,hlen,hlt];refine W.cnTZ (W.skip ?_);simp only[bM];refine aC (bL (W.sdrawQ hm ?_));have fin: ∀e' lc',aj e' 55= .bool true->W (QS sp) 393 (.cond (aR 55) (.seq (.region agO) .ret) .skip) ⟨e',56,lc'⟩ s fun x fr s'=>x= .ret/\s'=s/\fr.size=56/\aj fr.env 2= .bool false:=by
   intro e' lc' h;refine W.cond (t:=true) (by simp only[bq,h]) (aw ?_);simp only[cG,gV,ah];exact W.ret ⟨rfl,rfl,rfl,by simp only[ik,aa, *]⟩
  cases hb1:gj t.1 with
  |false=>
   simp only[ai,ax,isStore,ay,aa,ah,h0,h3,hia,bD,h85,hns,hb1];refine(fin _ _ ?_).mono ?_;simp only[aq,aa, *];rintro x fr s' ⟨rfl,rfl,hs,h⟩;exact⟨rfl,hs,.inr ⟨rfl,h,by simp[j6,lA,hb1]⟩⟩
  |true=>
  cases hb2:decide (t.2.length<1) with
  |true=>
   simp only[ai,ax,isStore,ay,aa,ah,h0,h3,hia,bD,h85,hns,hb1,hi1,hb2];refine(fin _ _ ?_).mono ?_;simp only[aq,aa, *];rintro x fr s' ⟨rfl,rfl,hs,h⟩;exact⟨rfl,hs,.inr ⟨rfl,h,by simp only[j6,lA,hb1,hb2,l8,jM,cT]⟩⟩
  |false=>
  cases hb3:decide (200<t.2.length) with
  |true=>
   simp only[ai,ax,isStore,ay,aa,ah,h0,h3,hia,bD,h85,hns,hb1,hi1,hb2,hi2,hb3];refine(fin _ _ ?_).mono ?_;simp only[aq,aa, *];rintro x fr s' ⟨rfl,rfl,hs,h⟩;exact⟨rfl,hs,.inr ⟨rfl,h,by simp only[j6,lA,hb1,hb2,hb3,l8,jM,cT]⟩⟩
  |false=>
  rcases hp with⟨rfl,rfl⟩|⟨q,u,rfl,rfl⟩
  have hi3:bG 0 ((0:Nat):Int)=false:=rfl;have hwr0:IntKind.i64.wrap (((0:Nat):Int)+1)=1:=rfl;simp only[fJ] at h3 hia;simp only[ai,ax,isStore,ay,aa,ah,h0,h3,hia,bD,h85,hns,hb1,hi1,hb2,hi2,hb3,hi3];have hbad:lA none t=false:=by simp only[lA,hb1,hb2,hb3,mY,dS,jL]
  refine W.cnSZ ?_;simp only[dA];refine W.reg ?_;simp only[ai,aA,aa,ah,h3,hwr0];refine(ih [t] _ (some t.1) (by rw[hpre];simp) (.inr ⟨[],t,rfl,rfl⟩) (by simp only[au,aa, *]) (by simp only[aq,aa];rfl)).mono ?_;simp only[j6,hbad,cF];exact fun _ _ _ h=>h;have hi3:decide (0<(q++[u]).length)=true:=by simp
  have hat2:l[q.length]? =some u:=by rw[hpre];simp
  have hia2:=fun lc=>hl.at lO hat2 lc .i64;have hws:IntKind.i64.wrap (((q++[u]).length:Int)-1)=((q.length:Nat):Int):=by
   have:(q++[u]).length=q.length+1:=by simp
   rw[this,lC (by omega) (by omega)];omega
  have hi4:bG 0 ((q++[u]).length:Nat)=true:=by rw[show(0:Int)=((0:Nat):Int) from rfl,im];simp
  simp only[ai,ax,isStore,ay,aa,ah,xz,h0,h3,hia,hia2,hws,bD,h85,hns,hb1,hi1,hb2,hi2,hb3,hi4];cases hb4:c8 u.1 t.1 with
  |false=>
   refine(fin _ _ ?_).mono ?_;simp only[aq,aa,fy];rintro x fr s' ⟨rfl,rfl,hs,h⟩;exact⟨rfl,hs,.inr ⟨rfl,h,by simp only[j6,lA,mY,hb4,fy,l8,cT]⟩⟩
  |true=>
   have hbad:lA (some u.1) t=false:=by simp only[lA,hb1,hb2,hb3,mY,hb4,dS,jL]
   refine W.cond (t:=false) (by simp only[aq,bq,aa,dS]) (W.skip ?_);simp only[dA];refine W.reg ?_;simp only[ai,aA,aa,ah,h3,hwr];refine(ih (q++[u]++[t]) _ (some t.1) (by rw[hpre];simp) (.inr ⟨q++[u],t,rfl,rfl⟩) (by simp only[au,aa, *]) (by simp only[aq,cK,aa])).mono ?_;simp only[j6,hbad,cF];exact fun _ _ _ h=>h
def apf(h393:sp 393=none)(hl:aD 2 bD v l)(hk: ∀t∈l,t.1.length<small)(hsmall:l.length<small)(hm:s.ge<=s.al):aM (QS sp) 393 [v] s (.bool (iq l)) s:=by
 have hlen:=fun mk s=>hl.len jw jv mk s;have hcl:=hl.aL;have hil:bG 60 (l.length:Nat)=decide (60<l.length):=im 60 _;refine aM.of2 Fy.1 Fy.2 Fy.3 Fy.4 h393 ?_;refine aw ?_;simp only[ai,bv,bt,ah,aV];refine aC (aw ?_);simp only[ai,aa,ah,hcl,hlen,hil];cases h60:decide (60<l.length) with
 |true=>
  refine W.cnTZ (aw ?_);simp only[cG,gV,ah];refine W.ret ⟨rfl,.inr rfl,bz ?_ rfl⟩;simp only[aq,aa,iq,h60]
 |false=>
  refine W.cnSZ ?_;simp only[bM];refine aC (aw ?_);simp only[cG,hQ,ah];refine bL ?_;refine(ape h85 hl hk hsmall hm l [] _ none rfl (.inl ⟨rfl,rfl⟩) (by simp only[aq,aa, *]) (by simp only[aq,aa];rfl)).mono ?_;rintro x ⟨e,sz,lc⟩ s' ⟨rfl,hs,⟨rfl,hok⟩|⟨rfl,h2,hok⟩⟩;have hs:sz=56:=hs;subst hs;show W (QS sp) 393 _ _ _ _;refine aw ?_;simp only[cG,gV,ah];refine W.ret ⟨rfl,.inr rfl,bz ?_ rfl⟩;simp only[aq,aa,iq,h60,hok];exact⟨rfl,.inr rfl,bz (by rw[h2];simp only[iq,h60,cF,hok]) rfl⟩
end
def apd:cq ar 393 tU:=by
 intro args u hv G h w xs wr hx;unfold tU at hv;split at hv;rename_i v;simp only[az] at hv;obtain⟨l,h1,hv⟩:=hv;obtain⟨h2,hv⟩:=bm hv;injection hv with hv;subst hv
 simp only[bA] at h2;have hl:aD 2 bD v l:=ij (fun _ _=>rO) h1;obtain⟨ht,hw⟩:=JY Hp hl;exact eA (Q:=QT U2) (ep Da) (fun _=>Nat.zero_lt_succ 1) (args:=[v]) (v:=.bool (iq l)) (s':=s0) (by simp only[jn,ht,cH])
  (apf (sp:=fun f=>cI f U2) rfl rfl hw (sQ h2.2) (eG h2.1) (aU _)) rfl ⟨1,rfl⟩ G h w xs wr hx
 cases hv
def G3{k x:ak}: ∀(l:List be) (d:Bool),(ip k x d l).length<=l.length+(bif d then 0 else 1)
 | [],d=>by cases d<;>exact aU _
 |t::l,d=>by
  have h1:=G3 (k:=k) (x:=x) l true;have h2:=G3 (k:=k) (x:=x) l d;simp only[ip];cases d with
  |true=>
   simp only[cz,dS,iK] at h1 ⊢;cases t.1==k<;>simp only[cz,cP]<;>omega
  |false=>
   simp only[cz,fy,Bool.true_and] at h1 h2 ⊢;cases c8 t.1 k<;>cases t.1==k<;>simp only[cz,dS,fy,cP]<;>omega
def ahF(t:be)(l K:List be):oc (t::l) K=oc l (ip t.1 t.2 (t.2== []) K):=rfl
def RZ: ∀(l K:List be),(oc l K).length<=K.length+l.length
 | [],K=>aU _
 |t::l,K=>by
  rw[ahF];have h1:=RZ l (ip t.1 t.2 (t.2== []) K);have h2:=G3 (k:=t.1) (x:=t.2) K (t.2== []);have h3:(bif t.2== [] then 0 else 1)<=1:=by cases t.2== []<;>simp
  simp only[cP];omega
section
variable{sp:bC}
def ahv(h394:sp 394=some yu){va:ae}{all R:List be}(hl:aD 2 bD va all)(hs:all.length<=50000)(hm:s.ge<=s.al)(hx: ∀e,aj e 0=vb->aj e 1=vo->aj e 2=vt->aj e 9=tagsV R->K (.exit 0) ⟨e,96,lc⟩ s):
 ∀(rest pre:List be) (e:aI) (A:List be),all=pre++rest->A.length<=pre.length->oc rest A=R->aj e 0=vb->aj e 1=vo->aj e 2=vt->aj e 8=va->aj e 9=tagsV A->aj e 10= .int .i64 (pre.length:Nat)->W (QS sp) 289 (.loop Ks) ⟨e,96,lc⟩ s K:=by
 have c1:=hl.aL;have n1:=fun mk s=>hl.len jw jv mk s;intro rest
 induction rest with
 |nil=>
  intro pre e A hpre hA hR h0 h1 h2 h8 h9 h10;have hla:all.length=pre.length:=by rw[hpre];simp
  refine eh ?_;simp only[ai,aA,aa,ah,uQ,Ks,h8,h10,c1,n1,hla,cR];have hR:A=R:=hR;subst hR;refine hx _ ?_ ?_ ?_ ?_
  all_goals simp only[au,aa,h0,h1,h2,h9]
 |cons t rest ih=>
  intro pre e A hpre hA hR h0 h1 h2 h8 h9 h10;have hlt:pre.length<all.length:=by rw[hpre];simp
  have ha1:all[pre.length]? =some t:=by rw[hpre];simp
  have i1:=fun lc=>hl.at lO ha1 lc .i64;have hwr:=ig (n:=pre.length) (by omega);have q1:=al4 (Hs A) (aoR A) (by omega) t.1 t.2;have c2:(tagsV A).aL=true:=(Hs A).aL;refine eh ?_;simp only[ai,ax,aA,isStore,aN,ay,aa,ah,aG,fD,ei,fp,fk,ofValue,aX,uQ,agn,Ks,h8,h9,h10,c1,c2,n1,i1,hlt,hm,bD,h394,q1,hwr];refine ih (pre++[t]) _ (ip t.1 t.2 (t.2== []) A) (by rw[hpre];simp) ?_ hR ?_ ?_ ?_ ?_ ?_ ?_;have h2:=G3 (k:=t.1) (x:=t.2) A (t.2== []);have h3:(bif t.2== [] then 0 else 1)<=1:=by cases t.2== []<;>simp
  rw[dX];show _<=pre.length+1;omega
  all_goals simp only[aq,cK,aa,h0,h1,h2,h8]
def anX(h395:sp 395=some yh)(hb:aD 2 bD vb b)(ho:aD 2 bD vo o)(ht:aD 2 bD vt t)(pb:aQ vb=true)(po:aQ vo=true)(pt:aQ vt=true)(sb:b.length<=1000000)(so:o.length<=1000000)(st:t.length<=1000000){A:List be}{R:List be×List ak}(hA:A.length<=900)(hx: ∀e s ov cv,kC lo s ov cv R.1 R.2->s.ci=0->aj e 11=ov->aj e 12=cv->K (.exit 2) ⟨e,96,lc⟩ s):
 ∀(rest pre:List be) (e:aI) (s:St) (ov cv:ae) (xs:List be) (ys:List ak),A=pre++rest->kC lo s ov cv xs ys->xs.length<=pre.length->ys.length<=pre.length->s.ci=0->lo<=s.al->s.ge<=s.al->(rest.map (·.1)).foldl (fun st k=>vv b o t k st) (xs,ys)=R->
  aj e 0=vb->aj e 1=vo->aj e 2=vt->aj e 9=tagsV A->aj e 11=ov->aj e 12=cv->aj e 13= .int .i64 (pre.length:Nat)->W (QS sp) 289 (.loop ww) ⟨e,96,lc⟩ s K:=by
 have c1:=hb.aL;have c2:=ho.aL;have c3:=ht.aL;have hl:=Hs A;have c4:(tagsV A).aL=true:=hl.aL;have n1:=fun mk s=>hl.len jw jv mk s;intro rest
 induction rest with
 |nil=>
  intro pre e s ov cv xs ys hpre hT hxs hys hci hlo hm hR h0 h1 h2 h9 h11 h12 h13;have hla:A.length=pre.length:=by rw[hpre];simp
  refine eh ?_;simp only[ai,aA,aa,ah,uQ,ww,h9,h13,c4,n1,hla,cR];have hR:(xs,ys)=R:=hR;subst hR;refine hx _ s ov cv hT hci ?_ ?_
  all_goals simp only[au,aa,h11,h12]
 |cons u rest ih=>
  intro pre e s ov cv xs ys hpre hT hxs hys hci hlo hm hR h0 h1 h2 h9 h11 h12 h13;have hlt:pre.length<A.length:=by rw[hpre];simp
  have ha1:A[pre.length]? =some u:=by rw[hpre];simp
  have i1:=fun lc=>hl.at lO ha1 lc .i64;have hwr:=ig (n:=pre.length) (by omega);have q1:=akm hb ho ht pb po pt sb so st u.1;have hR:(rest.map (·.1)).foldl (fun st k=>vv b o t k st) (vv b o t u.1 (xs,ys))=R:=hR;simp only[vv] at hR;generalize sw ((dV u.1 b).getD []) ((dV u.1 o).getD []) ((dV u.1 t).getD [])=r at q1 hR;obtain⟨val,cf⟩:=r;simp only at q1 hR;have hi:aK ((xs.length:Nat):Int) 60=(xs.length==60):=by rw[show(60:Int)=((60:Nat):Int) from rfl,o8]
  have n2:=fun mk s=>hT.l.isL.len jw jv mk s;have k1:=hT.l.aL;have k2:=hT.r.aL;have hb1: ∀e,aj e 84= .str u.1->aj e 85= .str val->eV ar 92 [(0,.tmp 84),(1,.tmp 85)] e=some (.agg [.str u.1,.str val]):=fun e p q=>Iv (by rw[bq,p]) (by rw[bq,q]);have hb2: ∀e s,aj e 86= .agg [.str u.1,.str val]->cx ar 50 1 [(0,.tmp 86)] false e s=some (.list 2 [.agg [.str u.1,.str val]] .GE,s):=fun e s p=>Dl (by rw[bq,p]) s;have hb3: ∀e s,aj e 91= .str u.1->cx ar 25 1 [(0,.tmp 91)] false e s=some (.list 1 [.str u.1] .GE,s):=fun e s p=>A7 (by rw[bq,p]) s;have fin: ∀(e':aI) (s':St) (ov' cv':ae) (xs':List be) (ys':List ak),kC lo s' ov' cv' xs' ys'->xs'.length<=xs.length+1->ys'.length<=ys.length+1->s'.ci=0->lo<=s'.al->s'.ge<=s'.al->(rest.map (·.1)).foldl (fun st k=>vv b o t k st) (xs',ys')=R->
   aj e' 0=vb->aj e' 1=vo->aj e' 2=vt->aj e' 9=tagsV A->aj e' 11=ov'->aj e' 12=cv'->aj e' 13= .int .i64 ((pre.length+1:Nat):Int)->W (QS sp) 289 (.loop ww) ⟨e',96,lc⟩ s' K:=fun e' s' ov' cv' xs' ys' a1 a2 a3 a4 a5 a6 a7 a8 a9 a10 a11 a12 a13 a14=>
   ih (pre++[u]) e' s' ov' cv' xs' ys' (by rw[hpre];simp) a1 (by rw[dX];show _<=pre.length+1;omega) (by rw[dX];show _<=pre.length+1;omega) a4 a5 a6 a7 a8 a9 a10 a11 a12 a13 (by rw[a14,dX];rfl)
  refine eh ?_;cases e1:val== [] with
  |true=>
   have e1':val=[]:=eq_of_beq e1;cases cf with
   |true=>
    obtain⟨cv',s1,ap1,T1,ci1,nx1,m1,kc1,_⟩:=hT.right hm hlo (by omega) u.1;simp only[fG,ai,ax,aA,ay,aa,ah,ofValue,aX,uQ,ww,h0,h1,h2,h9,h12,h13,c1,c2,c3,c4,n1,i1,hlt,bD,h395,q1,hwr,e1,k2,hb3,ap1,dU];refine fin _ s1 ov cv' xs _ T1 (by omega) (by simp) (ci1.trans hci) (by omega) m1 (by rw[<-hR,e1];rfl) ?_ ?_ ?_ ?_ ?_ ?_ ?_
    all_goals simp only[aq,aa,h0,h1,h2,h9,h11]
   |false=>
    simp only[fG,ai,ax,aA,ay,aa,ah,ofValue,aX,uQ,ww,h0,h1,h2,h9,h13,c1,c2,c3,c4,n1,i1,hlt,bD,h395,q1,hwr,e1,dU];refine fin _ s ov cv xs ys hT (by omega) (by omega) hci hlo hm (by rw[<-hR,e1];rfl) ?_ ?_ ?_ ?_ ?_ ?_ ?_
    all_goals simp only[aq,aa,h0,h1,h2,h9,h11,h12]
  |false=>
   cases e2:xs.length==60 with
   |true=>
    obtain⟨cv',s1,ap1,T1,ci1,nx1,m1,kc1,_⟩:=hT.right hm hlo (by omega) u.1;rw[e2] at hi;simp only[fG,ai,ax,aA,ay,aa,ah,ofValue,aX,uQ,ww,h0,h1,h2,h9,h11,h12,h13,c1,c2,c3,c4,n1,n2,i1,hlt,bD,h395,q1,hwr,e1,hi,k1,k2,hb3,ap1,dU];refine fin _ s1 ov cv' xs _ T1 (by omega) (by simp) (ci1.trans hci) (by omega) m1 (by rw[<-hR,e1,e2];cases cf<;>rfl) ?_ ?_ ?_ ?_ ?_ ?_ ?_
    all_goals simp only[aq,aa,h0,h1,h2,h9,h11]
   |false=>
    obtain⟨ov',s1,ap1,T1,ci1,nx1,m1,kc1,_⟩:=hT.left hm hlo (by omega) (u.1,val);rw[e2] at hi;cases cf with
    |true=>
     obtain⟨cv',s2,ap2,T2,ci2,nx2,m2,kc2,_⟩:=T1.right m1 (by omega) (by omega) u.1;simp only[fG,ai,ax,aA,ay,aa,ah,ofValue,aX,uQ,ww,h0,h1,h2,h9,h11,h12,h13,c1,c2,c3,c4,n1,n2,i1,hlt,bD,h395,q1,hwr,e1,hi,k1,k2,hb1,hb2,hb3,ap1,ap2,dU];refine fin _ s2 ov' cv' _ _ T2 (by simp) (by simp) (ci2.trans (ci1.trans hci)) (by omega) m2 (by rw[<-hR,e1,e2];rfl) ?_ ?_ ?_ ?_ ?_ ?_ ?_
     all_goals simp only[aq,aa,h0,h1,h2,h9]
    |false=>
     simp only[fG,ai,ax,aA,ay,aa,ah,ofValue,aX,uQ,ww,h0,h1,h2,h9,h11,h13,c1,c2,c3,c4,n1,n2,i1,hlt,bD,h395,q1,hwr,e1,hi,k1,hb1,hb2,ap1,dU];refine fin _ s1 ov' cv _ ys T1 (by simp) (by omega) (ci1.trans hci) (by omega) m1 (by rw[<-hR,e1,e2];rfl) ?_ ?_ ?_ ?_ ?_ ?_ ?_
     all_goals simp only[aq,aa,h0,h1,h2,h9,h12]
def aje(h289:sp 289=none)(h393:sp 393=some tU)(h394:sp 394=some yu)(h395:sp 395=some yh)(hb:aD 2 bD vb b)(ho:aD 2 bD vo o)(ht:aD 2 bD vt t)(pb:aQ vb=true)(po:aQ vo=true)(pt:aQ vt=true)(vb':iq b=true)(vo':iq o=true)(vt':iq t=true)(kb: ∀u∈b,u.1.length<small)(ko: ∀u∈o,u.1.length<small)(kt: ∀u∈t,u.1.length<small):
 ∃v' s',aM (QS sp) 289 [vb,vo,vt] s0 v' s'/\(dP s'.heap v' (vp (AA b o t))/\s'.ci=0):=by
 have len60: ∀ {l:List be},iq l=true->l.length<=60:=fun {l} h=>by
  unfold iq at h;by_cases hc:60<l.length;rw[dQ hc] at h;cases h;omega
 have sb:=len60 vb';have so:=len60 vo';have st:=len60 vt';have hsm:=fg;have c1:=hb.aL;have c2:=ho.aL;have c3:=ht.aL;have q1:=Ho hb (by omega) kb;have q2:=Ho ho (by omega) ko;have q3:=Ho ht (by omega) kt;rw[vb'] at q1;rw[vo'] at q2;rw[vt'] at q3;have hb0: ∀e s,cx ar 50 0 [] false e s=some (.list 2 [] .GE,s):=fun e s=>by kernel_rfl
 obtain⟨w1,s1,a1,o1,ci1,nx1,m1,_,_⟩:=rN (t:=50) (lo:=0) xG rfl (by decide) (s:=s0) (ov:=.list 2 [] .GE) (xs:=[]) (.inr ⟨rfl,rfl⟩) (qk hb _ _) (by rw[cZ];simp only[fJ];omega) (cV _) (aU _);obtain⟨w2,s2,a2,o2,ci2,nx2,m2,_,_⟩:=rN (t:=50) xG rfl (by decide) o1 (qk ho _ _) (by simp only[dX,cZ,fJ];omega) (cV _) m1;obtain⟨w3,s3,a3,o3,ci3,nx3,m3,_,_⟩:=rN (t:=50) xG rfl (by decide) o2 (qk ht _ _) (by simp only[dX,cZ,fJ];omega) (cV _) m2;have k1:=o1.aL;have k2:=o2.aL;have k3:=o3.aL;have hall:aD 2 bD w3 (b++o++t):=by
  have e:[]++b.map bD++o.map bD++t.map bD=(b++o++t).map bD:=by simp
  rw[e] at o3;exact o3.isL
 have hlen:(b++o++t).length<=180:=by simp only[dX];omega
 refine aM.ofF E9.1 E9.2 E9.3 E9.4 h289 ?_;simp only[ai,ax,aA,bv,bt,aa,ah,aG,aV,bW,dy,ofValue,aX,E8,uQ,c1,c2,c3,h393,q1,q2,q3,hb0,a1,a2,a3,k1,k2];refine ahv (vb:=vb) (vo:=vo) (vt:=vt) (R:=oc (b++o++t) []) h394 hall (by omega) m3 ?_ (b++o++t) [] _ [] rfl (aU _) rfl ?_ ?_ ?_ ?_ ?_ ?_
 ·intro e h0 h1 h2 h9
  simp only[ai,aA,ah,ofValue,aX];have hK:=RZ (b++o++t) [];refine anX (A:=oc (b++o++t) []) (R:=AA b o t) (lo:=0) h395 hb ho ht pb po pt (by omega) (by omega) (by omega) (by simp only[fJ] at hK;omega) ?_ (oc (b++o++t) []) [] _ s3 .AL .AL [] [] rfl ⟨.inl ⟨rfl,rfl⟩,.inl ⟨rfl,rfl⟩,fun k h=>by cases h⟩ (aU _) (aU _) (ci3.trans (ci2.trans ci1)) (cV _) m3 rfl ?_ ?_ ?_ ?_ ?_ ?_ ?_;intro e s ov cv hT hci h11 h12;have k1:=hT.l.aL;have k2:=hT.r.aL;simp only[ai,aA,aa,ah,reduceCtorEq,h11,h12,k1,k2];exact⟨_,rfl,xL (Pr hT.l) (Jy hT.r),hci⟩
  all_goals simp only[aq,aa,h0,h1,h2,h9]
  rfl
 all_goals simp only[aq,aa]
 all_goals rfl
end
def Nq:du:=[(393,tU),(394,yu),(395,yh)]
def WZ:dc Nq:=.cons apd (.cons al5 (.cons akn .nil))
def ajc(hb:aD 2 bD vb b)(ho:aD 2 bD vo o)(ht:aD 2 bD vt t)(pb:aQ vb=true)(po:aQ vo=true)(pt:aQ vt=true)(vb':iq b=true)(vo':iq o=true)(vt':iq t=true)(kb: ∀u∈b,u.1.length<small)(ko: ∀u∈o,u.1.length<small)(kt: ∀u∈t,u.1.length<small):u0 [vb,vo,vt]=some (vp (AA b o t)):=by
 simp only[ce,u0,uy hb pb,uy ho po,uy ht pt,vb',vo',vt',tT kb,tT ko,tT kt,cH]
def ajd:cq ar 289 u0:=by
 refine jC WZ fun args u h=>?_;unfold u0 at h;split at h;rename_i x y z;simp only[az] at h;obtain⟨b,h1,o,h2,t,h3,h⟩:=h;obtain⟨h4,h⟩:=bm h;simp only[bA] at h4;have h:=sI h;subst h;obtain⟨l1,p1⟩:=ux h1;obtain⟨l2,p2⟩:=ux h2;obtain⟨l3,p3⟩:=ux h3;obtain⟨v',s',r1,r2,r3⟩:=aje (sp:=fun f=>cI f Nq) rfl rfl rfl rfl l1 l2 l3 p1 p2 p3 h4.1.1 h4.1.2.1 h4.1.2.2 (sQ h4.2.1) (sQ h4.2.2.1) (sQ h4.2.2.2);exact⟨Co p1 p2 p3,v',s',r1,r3,r2⟩;cases h
variable{n:Nat}
def tG{env:aI}{d:Nat}(h:ev env x=some (.int .i64 (n:Nat))):iM env (some x) d=some n:=by
 simp only[iM,h,bn];rfl
def yz{t e:Nat}(hu:ar.underlying t=some (.slice e))(hsz:dZ ar e=some sz){enc:α->ae}{V:ae}{l:List α}(hV:aD sz enc V l){hi:Nat}(h1:lo<=hi)(h2:hi<=l.length):
 ∃V',(∀(env:aI) (s:St) (low high:Option Operand),iM env high l.length=some hi->iM env low 0=some lo->ib ar [] t V low high none env s=some V')/\aD sz enc V' ((l.take hi).drop lo)/\(aQ V=true->aQ V'=true):=by
 rcases hV with⟨rfl,rfl⟩|⟨r,rfl⟩
 have h0:hi=0:=by simpa using h2
 subst h0;have h0:lo=0:=by omega
 subst h0;refine⟨.AL,fun env s low high q1 q2=>?_,.inl ⟨rfl,rfl⟩,fun _=>rfl⟩;have q1:iM env high 0=some 0:=q1;simp only[ib,hu,bn,hsz,q1,q2];rfl;refine⟨.list sz (((l.map enc).take hi).drop lo) (bif aJ hi l.length&&(bk lo hi||aJ lo 0) then r else .no),fun env s low high q1 q2=>?_,.inr ⟨_,by rw[List.map_drop,List.map_take]⟩,fun hp=>?_⟩;have b1:br hi l.length=true:=cu h2;have b2:br lo hi=true:=cu h1;simp only[ce,ib,hu,hsz,q1,q2,b1,b2,Cc,cH,cZ];simp only[aQ,bA] at hp ⊢;refine⟨?_,?_⟩;exact Go.Ag.pures_all.2 fun v hv=>Go.Ag.pures_all.1 hp.1 v (List.mem_of_mem_take (List.mem_of_mem_drop hv));cases aJ hi l.length&&(bk lo hi||aJ lo 0) with
 |true=>exact hp.2
 |false=>rfl
def VK:ar.underlying 22=some (.slice 52):=by kernel_rfl
def VL:ar.underlying 80=some (.slice 143):=by kernel_rfl
def MA:ar.underlying 25=some (.slice 9):=by kernel_rfl
def Vp:dZ ar 52=some 6:=by kernel_rfl
def Vo:dZ ar 143=some 2:=by kernel_rfl
def Ms:dZ ar 9=some 1:=by kernel_rfl
variable{E:EI}{t:TypeId}
def XK(hE:iI ar t=some E)(hn:E.n=sz)(hb:E.b<=88){enc:α->ae}{l:List α}(hO:cE sz lo s ov (l.map enc))(a:α)(hlen:l.length<=900000)(hlo:lo<=s.al)(hm:s.ge<=s.al):
 ∃ov' s1,hG ar [] t ov (.list sz [enc a] .GE) false s.top=some (ov',s1)/\cE sz lo (s.Gt s1) ov' ((l++[a]).map enc)/\s1.ci=s.ci/\lo<=(s.Gt s1).al/\(s.Gt s1).ge<=(s.Gt s1).al/\ov'.aL=true/\ov'.cells=[ov']:=by
 obtain⟨ov',s1,h1,h2,h3,h4,h5,_,h6⟩:=tf (t:=t) hE hn hb (s:=s.top) (y:=.list sz [enc a] .GE) (ys:=[enc a]) (show cE sz lo s.top ov _ from hO) (by subst hn;simp only[jS,fe,bS,cT]) (by rw[cZ];show l.length+1<=1000000;omega) hlo (aU _);have h4':s.al<=s1.al:=h4;have e:(l++[a]).map enc=l.map enc++[enc a]:=by rw[je];rfl
 exact⟨ov',s1,h1,by rw[e];exact h2,h3,fh hlo h4',uU hm h4',h2.aL,h6⟩
def XL(hE:iI ar t=some E)(hn:E.n=sz)(hb:E.b<=88){y:ae}{enc:α->ae}{l r:List α}(hy:aD sz enc y r)(hlen:l.length+r.length<=1000000)(hm:s.ge<=s.al):
 ∃ov' s1,hG ar [] t (.list sz (l.map enc) .GE) y false s=some (ov',s1)/\aD sz enc ov' (l++r)/\s1.ci=s.ci/\s.al<=s1.al/\s1.ge<=s1.al/\ov'.aL=true:=by
 subst hn;have hys:=qk hy E.g s;cases r with
 |nil=>
  refine⟨.list E.n (l.map enc) .GE,s,?_,.inr ⟨.GE,by rw[ii]⟩,rfl,aU _,hm,rfl⟩;simp only[ce,hG,hE,hys,pH,xS]
 |cons a r=>
  have hr:lW (l.map enc++(a::r).map enc).length E.b=true:=vq (by simpa using hlen) hb;refine⟨.list E.n (l.map enc++(a::r).map enc) (.own s.al),s.new .tok,?_,.inr ⟨.own s.al,by rw[je]⟩,rfl,jf _,ky hm,rfl⟩;have e:(a::r).map enc=enc a::r.map enc:=rfl;rw[e] at hr ⊢;simp only[ce,hG,hE,hys,e,ml,kK,fe,bS,hr,cF]
variable{l:List Obj}
def Pn(hO:cE 6 lo s ov (l.map Obj.val))(hg: ∀o∈l,o.Al):dP h (.agg [ov]) (.agg [kL l]):=by
 have h1:cj h 6 ov=some (kL l):=uL hO (k:=5) fun v hv=>by
  obtain⟨p,hp,rfl⟩:=dp.1 hv;exact DF h (hg p hp) 1
 refine⟨7,?_⟩;show((de (cj h 6) [ov])).bind (fun r=>some (ae.agg r))=_;simp only[de,h1,bn]
def om(l:List Obj):aD 6 Obj.val (kL l) l:=wF l
def Gv(hg: ∀o∈l,o.Al):aQ (.agg [kL l])=true:=by
 cases l with
 |nil=>rfl
 |cons a l=>
  show((pures ((a::l).map Obj.val)&&true)&&true)=true;rw[Aj hg];rfl
section
variable{sp:bC}
structure NB (v:ae) (k:ak) (ov:ae) (e:aI) (lc:Ag.Loc):Prop where
 h1:aj e 1= .str k
 h2:aj e 2= .Ge 2 1 0
 h4:aj e 4= .Ge 4 1 0
 h5:aj e 5= .Ge 5 1 0
 g2:lc.gen 2=1
 g4:lc.gen 4=1
 g5:lc.gen 5=1
 b2:lc.get 2 1=some [v]
 b4:lc.get 4 1=some [.AL]
 b5:lc.get 5 1=some [ov]
def apO{R:List Obj}(hl:aD 6 Obj.val v l)(hs:l.length<=100000)(hx: ∀e lc s ov,cE 6 lo s ov (R.map Obj.val)->s.ci=0->NB v k ov e lc->K (.exit 0) ⟨e,33,lc⟩ s):
 ∀(rest pre acc:List Obj) (e:aI) (lc:Ag.Loc) (s:St) (ov:ae),l=pre++rest->cE 6 lo s ov (acc.map Obj.val)->acc.length<=pre.length->s.ci=0->lo<=s.al->s.ge<=s.al->R=acc++iC k rest->NB v k ov e lc->aj e 6= .int .i64 (pre.length:Nat)->W (QS sp) 197 (.loop EG) ⟨e,33,lc⟩ s K:=by
 have c1:=hl.aL;have n1:=fun mk s=>hl.len pf o9 mk s;intro rest
 induction rest with
 |nil=>
  intro pre acc e lc s ov hpre hO ha hci hlo hm hR I h6;have hla:l.length=pre.length:=by rw[hpre];simp
  have hR:R=acc:=by rw[hR];exact ii _
  have h2:=I.h2;have g2:=I.g2;have b2:=I.b2;refine eh ?_;simp only[ai,ax,aA,ay,aa,ah,DP,EG,h2,g2,b2,h6,c1,n1,hla,cR];refine hx _ lc s ov (by rw[hR];exact hO) hci ⟨?_,?_,?_,?_,I.g2,I.g4,I.g5,I.b2,I.b4,I.b5⟩;simp only[au,aa,I.h1];simp only[au,aa,I.h2];simp only[au,aa,I.h4];simp only[au,aa,I.h5]
 |cons q rest ih=>
  intro pre acc e lc s ov hpre hO ha hci hlo hm hR I h6;have hlt:pre.length<l.length:=by rw[hpre];simp
  have ha1:l[pre.length]? =some q:=by rw[hpre];simp
  have i1:=fun lc=>hl.at o7 ha1 lc .i64;have hwr:=ig (n:=pre.length) (by omega);have h1:=I.h1;have h2:=I.h2;have g2:=I.g2;have b2:=I.b2;have h5:=I.h5;have g5:=I.g5;have b5:=I.b5;refine eh ?_;cases hk:q.id==k with
  |true=>
   simp only[ai,ax,aA,ay,aa,ah,ofValue,aX,DP,EG,h1,h2,g2,b2,h6,c1,n1,i1,hlt,hwr,Obj.val,Obj.cells,hk];refine ih (pre++[q]) acc _ lc s ov (by rw[hpre];simp) hO (by rw[dX];omega) hci hlo hm (by rw[hR];unfold iC;rw[rz,hk];rfl) ⟨?_,?_,?_,?_,I.g2,I.g4,I.g5,I.b2,I.b4,I.b5⟩ ?_;simp only[au,aa,I.h1];simp only[au,aa,I.h2];simp only[au,aa,I.h4];simp only[au,aa,I.h5];simp only[aq,cK,aa]
  |false=>
   obtain⟨ov',s1,ap,o1,ci1,lo1,m1,kc,kk⟩:=XK (t:=22) uD rfl (by decide) hO q (by omega) hlo hm;have hoc:=hO.aL;have hbs: ∀e s,aj e 28= .agg [.str q.id,.int .i64 q.uP,.int .i64 q.x,.int .i64 q.y,q.refsV,q.tagsV]->cx ar 22 1 [(0,.tmp 28)] false e s=some (.list 6 [.agg [.str q.id,.int .i64 q.uP,.int .i64 q.x,.int .i64 q.y,q.refsV,q.tagsV]] .GE,s):=fun e s p=>Iz (by rw[bq,p]) s;simp only[Obj.val,Obj.cells] at ap;simp only[ai,ax,aA,isStore,cut,bu,aN,ay,aa,ah,aG,fD,aV,ei,fp,fk,ofValue,aX,DP,afr,EG,h1,h2,g2,b2,h5,g5,b5,h6,c1,n1,i1,hlt,hwr,Obj.val,Obj.cells,hk,hm,hbs,hoc,ap,ci1,m1,kc,kk];refine ih (pre++[q]) (acc++[q]) _ _ _ ov' (by rw[hpre];simp) o1 (by simp only[cK];omega) (ci1.trans hci) lo1 m1 (by rw[hR];unfold iC;rw[rz,hk,mc];rfl) ⟨?_,?_,?_,?_,?_,?_,?_,?_,?_,?_⟩ ?_
   all_goals simp only[aq,cK,iX,aa,I.h1,I.h2,I.h4,I.h5,I.g2,I.g4,I.g5,I.b2,I.b4,I.b5]
def apQ(h197:sp 197=none)(hl:aD 6 Obj.val v l)(hs:l.length<=100000)(k:ak): ∃v' s',aM (QS sp) 197 [.agg [v],.str k] s0 v' s'/\((∃ov,v'= .agg [ov]/\cE 6 0 s' ov ((iC k l).map Obj.val))/\s'.ci=0):=by
 have c1:=hl.aL;refine aM.ofF EF.1 EF.2 EF.3 EF.4 h197 ?_;simp only[ai,ax,aA,bv,bt,aa,ah,aG,aV,bW,dy,ofValue,aX,Kf,DP];refine apO (R:=iC k l) (k:=k) hl hs ?_ l [] [] _ _ s0 .AL rfl (.inl ⟨rfl,rfl⟩) (aU _) rfl (cV _) (aU _) rfl ⟨?_,?_,?_,?_,?_,?_,?_,?_,?_,?_⟩ ?_;intro e lc s ov hO hci I;have h4:=I.h4;have h5:=I.h5;have b4:=I.b4;have b5:=I.b5;have hoc:=hO.aL;simp only[ai,ax,aA,cut,bu,aN,ay,aa,ah,aV,reduceCtorEq,h4,h5,b4,b5];exact⟨_,rfl,⟨ov,rfl,hO⟩,hci⟩
 all_goals simp only[aq,iX,gi,aa]
 rfl
end
def apM(hl:aD 6 Obj.val v l)(hk: ∀o∈l,o.Al)(hp:aQ (.agg [v])=true)(hs:l.length<=100000)(k:ak):AE [.agg [v],.str k]=some (.agg [kL (iC k l)]):=by
 have hsm:=fg;simp only[ce,AE,pY hl hk (by omega) hp,cu hs]
def V0(hg: ∀o∈l,o.Al)(k:ak): ∀o∈iC k l,o.Al:=fun o ho=>hg o (uf.1 ho).1
def apN:cq ar 197 AE:=by
 refine jC dc.nil fun args u h=>?_;unfold AE at h;split at h;rename_i v k;simp only[az] at h;obtain⟨l,h1,h⟩:=h;obtain⟨h3,h⟩:=bm h;have h:=sI h;subst h;obtain⟨v',rfl,hl,hg,hs,hp⟩:=pX h1;obtain⟨w,s',r1,⟨ov,rfl,r2⟩,r3⟩:=apQ (sp:=fun f=>cI f []) rfl hl (eG h3) k;exact⟨tN hp rfl,_,s',r1,r3,Pn r2 (V0 hg k)⟩;cases h
def Nj:du:=[(197,AE)]
def WO:dc Nj:=.cons apN .nil
def P3(x:Obj): ∀l:List Obj,(nD x l).length=l.length+1
 | []=>rfl
 |a::r=>by
  simp only[nD];cases c8 a.id x.id<;>simp only[cz,cP,P3 x r]
variable{x:Obj}
def VX:(iJ x l).length<=l.length+1:=by
 unfold iJ;rw[P3];have:(iC x.id l).length<=l.length:=pG _ _;omega
def MN(hx:x.Al)(hl: ∀o∈l,o.Al): ∀o∈iJ x l,o.Al:=fun o ho=>by
 rcases B8.1 ho with rfl|ho
 exact hx;exact V0 hl _ o ho
section
variable{sp:bC}
structure NA (mv:ae) (x:Obj) (e:aI) (lc:Ag.Loc):Prop where
 h2:aj e 2= .Ge 2 1 0
 h3:aj e 3= .Ge 3 1 0
 h4:aj e 4= .Ge 4 1 0
 g2:lc.gen 2=1
 g3:lc.gen 3=1
 b2:lc.get 2 1=some [mv]
 b3:lc.get 3 1=some x.cells
 b4:lc.get 4 1=some [.AL]
def apK{mv:ae}{M:List Obj}(hl:aD 6 Obj.val mv M)(hs:M.length<=100000)(hm:s.ge<=s.al)(hx: ∀e pre rest,M=pre++rest->nD x M=pre++x::rest->NA mv x e lc->aj e 5= .int .i64 (pre.length:Nat)->K (.exit 0) ⟨e,45,lc⟩ s):
 ∀(rest pre:List Obj) (e:aI),M=pre++rest->nD x M=pre++nD x rest->NA mv x e lc->aj e 5= .int .i64 (pre.length:Nat)->W (QS sp) 112 (.loop D6) ⟨e,45,lc⟩ s K:=by
 have c1:=hl.aL;have n1:=fun mk s=>hl.len pf o9 mk s;intro rest
 induction rest with
 |nil=>
  intro pre e hpre hR I h5;have hla:M.length=pre.length:=by rw[hpre];simp
  have h2:=I.h2;have g2:=I.g2;have b2:=I.b2;refine eh ?_;simp only[ai,ax,aA,isStore,aN,ay,aa,ah,aG,fD,ei,fp,fk,ofValue,aX,Bx,J5,D6,h2,g2,b2,h5,c1,n1,hla,hm,cR];refine hx _ pre [] hpre hR ⟨?_,?_,?_,I.g2,I.g3,I.b2,I.b3,I.b4⟩ ?_
  all_goals simp only[au,aa,I.h2,I.h3,I.h4,h5]
 |cons q rest ih=>
  intro pre e hpre hR I h5;have hlt:pre.length<M.length:=by rw[hpre];simp
  have ha1:M[pre.length]? =some q:=by rw[hpre];simp
  have i1:=fun lc=>hl.at o7 ha1 lc .i64;have hwr:=ig (n:=pre.length) (by omega);have h2:=I.h2;have g2:=I.g2;have b2:=I.b2;have h3:=I.h3;have g3:=I.g3;have b3:=I.b3;refine eh ?_;cases hk:c8 q.id x.id with
  |true=>
   simp only[ai,ax,aA,isStore,aN,ay,aa,ah,aG,fD,ei,fp,fk,ofValue,aX,Bx,J5,D6,h2,g2,b2,h3,g3,b3,h5,c1,n1,i1,hlt,hm,hwr,Obj.val,Obj.cells,hk];refine ih (pre++[q]) _ (by rw[hpre];simp) (by rw[hR];simp only[nD,hk,cT,mc,mJ,mf]) ⟨?_,?_,?_,I.g2,I.g3,I.b2,I.b3,I.b4⟩ ?_
   all_goals simp only[aq,cK,aa,I.h2,I.h3,I.h4,h5]
  |false=>
   simp only[ai,ax,aA,isStore,aN,ay,aa,ah,aG,fD,ei,fp,fk,ofValue,aX,Bx,J5,D6,h2,g2,b2,h3,g3,b3,h5,c1,n1,i1,hlt,hm,Obj.val,Obj.cells,hk];refine hx _ pre (q::rest) hpre (by rw[hR];simp only[nD,hk,cF]) ⟨?_,?_,?_,I.g2,I.g3,I.b2,I.b3,I.b4⟩ ?_
   all_goals simp only[au,aa,I.h2,I.h3,I.h4,h5]
def apL(h112:sp 112=none)(h197:sp 197=some AE)(hl:aD 6 Obj.val v l)(hk: ∀o∈l,o.Al)(hp:aQ (.agg [v])=true)(hs:l.length<=90000)(gx:x.Al): ∃v' s',aM (QS sp) 112 [.agg [v],x.val] s0 v' s'/\((∃ov,v'= .agg [ov]/\cE 6 0 s' ov ((iJ x l).map Obj.val))/\s'.ci=0):=by
 have c1:=hl.aL;have q1:=apM hl hk hp (by omega) x.id;have hM:=om (iC x.id l);have hML:(iC x.id l).length<=l.length:=pG _ _;have c2:(kL (iC x.id l)).aL=true:=hM.aL;have k2:(kL (iC x.id l)).cells=[kL (iC x.id l)]:=hM.scal;have hmm:s0.ge<=s0.al:=aU _;refine aM.ofF D5.1 D5.2 D5.3 D5.4 h112 ?_;simp only[ai,ax,aA,bv,bt,cut,bu,aN,ay,aa,ah,aG,aV,bW,dy,ofValue,aX,J4,Bx,Obj.val,Obj.cells,h197,q1];refine apK (x:=x) hM (by omega) hmm ?_ (iC x.id l) [] _ rfl rfl ⟨?_,?_,?_,?_,?_,?_,?_,?_⟩ ?_;intro e pre rest hpre hins I h5;have h2:=I.h2;have g2:=I.g2;have b2:=I.b2;have h3:=I.h3;have g3:=I.g3;have b3:=I.b3;have h4:=I.h4;have b4:=I.b4;have hpl:pre.length<=(iC x.id l).length:=by rw[hpre];simp
 have hrl:rest.length<=(iC x.id l).length:=by rw[hpre];simp
 obtain⟨va,sa,la,_⟩:=yz VK Vp hM (lo:=pre.length) (hi:=(iC x.id l).length) hpl (aU _);obtain⟨vz,sz,lz,_⟩:=yz VK Vp hM (lo:=0) (hi:=pre.length) (cV _) hpl;have ea:((iC x.id l).take (iC x.id l).length).drop pre.length=rest:=by rw[xc];rw[hpre];simp
 have ez:((iC x.id l).take pre.length).drop 0=pre:=by rw[hpre];simp
 rw[ea] at la;rw[ez] at lz;have sa': ∀env s,aj env 33= .int .i64 (pre.length:Nat)->ib ar [] 22 (kL (iC x.id l)) (some (.tmp 33)) none none env s=some va:=fun env s p=>sa env s _ _ rfl (tG (by rw[bq,p]));have sz': ∀env s,aj env 39= .int .i64 (pre.length:Nat)->ib ar [] 22 (kL (iC x.id l)) none (some (.tmp 39)) none env s=some vz:=fun env s p=>sz env s _ _ (tG (by rw[bq,p])) rfl;have ka:=la.aL;have kz:=lz.aL;have hbs: ∀e s,aj e 29= .agg [.str x.id,.int .i64 x.uP,.int .i64 x.x,.int .i64 x.y,x.refsV,x.tagsV]->cx ar 22 1 [(0,.tmp 29)] false e s=some (.list 6 [.agg [.str x.id,.int .i64 x.uP,.int .i64 x.x,.int .i64 x.y,x.refsV,x.tagsV]] .GE,s):=fun e s p=>Iz (by rw[bq,p]) s;have hb0: ∀e s,cx ar 22 0 [] false e s=some (.list 6 [] .GE,s):=fun e s=>by kernel_rfl
 obtain⟨w1,s1,a1,o1,ci1,nx1,m1,kc1⟩:=XL (t:=22) uD rfl (by decide) (s:=s0.top) (l:=[x]) la (by simp only[cP,fJ];omega) (aU _);have ci1:s1.ci=s0.ci:=ci1;have nx1:s0.al<=s1.al:=nx1;have m2:(s0.Gt s1).ge<=(s0.Gt s1).al:=uU hmm nx1;obtain⟨w2,s2,a2,o2,ci2,nx2,m2',kc2,_⟩:=rN (t:=22) (lo:=0) uD rfl (by decide) (s:=s0.Gt s1) (ov:=.list 6 [] .GE) (xs:=[]) (.inr ⟨rfl,rfl⟩) (qk lz _ _) (by rw[cZ];simp only[fJ];omega) (cV _) m2;obtain⟨w3,s3,a3,o3,ci3,nx3,m3',kc3,_⟩:=rN (t:=22) uD rfl (by decide) o2 (qk o1 _ _) (by simp only[cK,cZ];omega) (cV _) m2';have k3:=o2.aL;have k4:=o3.aL;have kx:w3.cells=[w3]:=by assumption
 simp only[dG,pH,Obj.val,Obj.cells] at a1;have hbd: ∀e,aj e 43=w3->eV ar 24 [(0,.tmp 43)] e=some (.agg [w3]):=fun e p=>by
  rw[N0];simp only[ce,Wc,cS,evc,ev,p,k4,kx];rfl
 have ho:cE 6 0 s3 w3 ((iJ x l).map Obj.val):=by
  have e:[]++pre.map Obj.val++([x]++rest).map Obj.val=(iJ x l).map Obj.val:=by
   unfold iJ;rw[hins];simp
  rw[e] at o3;refine o3.some ?_;unfold iJ;rw[hins];simp
 have kc1':w1.aL=true:=kc1;simp only[ai,ax,aA,isStore,cut,bu,aN,ay,aa,ah,aG,fD,aV,ei,fp,fk,reduceCtorEq,Bx,aeD,h2,g2,b2,h3,b3,h4,b4,h5,Obj.cells,c2,sa',sz',ka,kz,hbs,hb0,a1,ci1,m2,kc1',a2,k3,a3,hbd,hmm];exact⟨_,rfl,⟨w3,rfl,ho⟩,by rw[ci3,ci2];exact ci1⟩
 all_goals simp only[aq,iX,gi,aa,Obj.cells]
 rfl
end
def VW(hl:aD 6 Obj.val v l)(hk: ∀o∈l,o.Al)(hp:aQ (.agg [v])=true)(hs:l.length<=90000)(gx:x.Al):t6 [.agg [v],x.val]=some (.agg [kL (iJ x l)]):=by
 have hsm:=fg;simp only[ce,t6,pY hl hk (by omega) hp,mm gx,cu hs]
def apF:cq ar 112 t6:=by
 refine jC WO fun args u h=>?_;unfold t6 at h;split at h;simp only[az] at h;obtain⟨l,h1,x,h2,h⟩:=h;obtain⟨h3,h⟩:=bm h;have h:=sI h;subst h;obtain⟨v',rfl,hl,hg,hs,hp⟩:=pX h1;obtain⟨rfl,gx⟩:=lf h2;obtain⟨w,s',r1,⟨ov,rfl,r2⟩,r3⟩:=apL (sp:=fun f=>cI f Nj) rfl rfl hl hg hp (eG h3) gx;exact⟨tN hp gx.pure,_,s',r1,r3,Pn r2 (MN gx hg)⟩;cases h
def Ol(a b c d:ak):d8 ar .eql 143 (.agg [.str a,.str b]) (.agg [.str c,.str d])=some (.bool (nq (a,b) (c,d))):=by
 have h:rX ar 143 (.agg [.str a,.str b]) (.agg [.str c,.str d])=(some (a==c)).bind fun r=>bif r then(some (b==d)).bind fun r=>bif r then some true else some false else some false:=by kernel_rfl
 rw[NL,h];unfold nq;cases a==c<;>cases b==d<;>rfl
def Oj(a c:Cf):(a==c)=nq a c:=by
 rw[yK,A8];exact bE
def Yo{x:Operand}{a b:ae}(h:ev e x=some (.agg [a,b]))(s:St):cx ar 80 1 [(0,x)] false e s=some (.list 2 [.agg [a,b]] .GE,s):=by
 simp only[ce,jR,cx,zm,cS,evc,h,ae.aL,eW,ae.cells,bu,Nat.zero_mul,aG,jg,fW,cut];rfl
def Pl{l:List Cf}(hO:cE 2 lo s ov (l.map cg)):dP h ov (nr l):=by
 refine⟨4,uL hO (k:=3) fun v hv=>?_⟩;obtain⟨p,_,rfl⟩:=dp.1 hv;rfl
def tj(l:List Cf):aD 2 cg (nr l) l:=wF l
def Dp(l:List Cf):aQ (nr l)=true:=al1 l
variable{C:List Cf}
section
variable{sp:bC}
def Xy{c:Cf}(hl:aD 2 cg v C)(hs:C.length<=100000)(hm:s.ge<=s.al)(g3:lc.gen 3=1)(b3:lc.get 3 1=some [.str c.1,.str c.2])(hx: ∀e pre rest,C=pre++rest->gN c C=pre++gN c rest->(rest=[]\/ ∃a r,rest=a::r/\ahead a c=false)->aj e 0=v->aj e 3= .Ge 3 1 0->aj e 5= .int .i64 (pre.length:Nat)->K (.exit 0) ⟨e,70,lc⟩ s):
 ∀(rest pre:List Cf) (e:aI),C=pre++rest->gN c C=pre++gN c rest->aj e 0=v->aj e 3= .Ge 3 1 0->aj e 5= .int .i64 (pre.length:Nat)->W (QS sp) 113 (.loop zF) ⟨e,70,lc⟩ s K:=by
 have c1:=hl.aL;have n1:=fun mk s=>hl.len BW BV mk s;intro rest
 induction rest with
 |nil=>
  intro pre e hpre hR h0 h3 h5;have hla:C.length=pre.length:=by rw[hpre];simp
  refine eh ?_;simp only[ai,aA,isStore,aN,ay,aa,ah,aG,fD,ei,fp,fk,ofValue,aX,uN,BH,zF,h0,h5,c1,n1,hla,hm,cR];refine hx _ pre [] hpre hR (.inl rfl) ?_ ?_ ?_
  all_goals simp only[au,aa,h0,h3,h5]
 |cons a rest ih=>
  intro pre e hpre hR h0 h3 h5;have hlt:pre.length<C.length:=by rw[hpre];simp
  have ha1:C[pre.length]? =some a:=by rw[hpre];simp
  have i1:=fun lc=>hl.at DR ha1 lc .i64;have hce:(cg a).cells=[.str a.1,.str a.2]:=rfl;have hwr:=ig (n:=pre.length) (by omega);refine eh ?_;cases h1:c8 a.1 c.1 with
  |true=>
   have hah:ahead a c=true:=by unfold ahead;rw[h1];rfl
   simp only[ai,ax,aA,isStore,aN,ay,aa,ah,aG,fD,ei,fp,fk,ofValue,aX,uN,BH,zF,h0,h3,h5,g3,b3,c1,n1,i1,hlt,hm,hwr,hce,h1];refine ih (pre++[a]) _ (by rw[hpre];simp) (by rw[hR];simp only[gN,hah,cT,mc,mJ,mf]) ?_ ?_ ?_
   all_goals simp only[aq,cK,aa,h0,h3]
  |false=>
   cases h2:a.1==c.1 with
   |true=>
    cases h4:c8 a.2 c.2 with
    |true=>
     have hah:ahead a c=true:=by unfold ahead;rw[h1,h2,h4];rfl
     simp only[ai,ax,aA,isStore,aN,ay,aa,ah,aG,fD,ei,fp,fk,ofValue,aX,uN,BH,zF,h0,h3,h5,g3,b3,c1,n1,i1,hlt,hm,hwr,hce,h1,h2,h4];refine ih (pre++[a]) _ (by rw[hpre];simp) (by rw[hR];simp only[gN,hah,cT,mc,mJ,mf]) ?_ ?_ ?_
     all_goals simp only[aq,cK,aa,h0,h3]
    |false=>
     have hah:ahead a c=false:=by unfold ahead;rw[h1,h2,h4];rfl
     simp only[ai,ax,aA,isStore,aN,ay,aa,ah,aG,fD,ei,fp,fk,ofValue,aX,uN,BH,zF,h0,h3,h5,g3,b3,c1,n1,i1,hlt,hm,hce,h1,h2,h4];refine hx _ pre (a::rest) hpre hR (.inr ⟨a,rest,rfl,hah⟩) ?_ ?_ ?_
     all_goals simp only[au,aa,h0,h3,h5]
   |false=>
    have hah:ahead a c=false:=by unfold ahead;rw[h1,h2];rfl
    simp only[ai,ax,aA,isStore,aN,ay,aa,ah,aG,fD,ei,fp,fk,ofValue,aX,uN,BH,zF,h0,h3,h5,g3,b3,c1,n1,i1,hlt,hm,hce,h1,h2];refine hx _ pre (a::rest) hpre hR (.inr ⟨a,rest,rfl,hah⟩) ?_ ?_ ?_
    all_goals simp only[au,aa,h0,h3,h5]
def Xz(h113:sp 113=none)(c:Cf)(hl:aD 2 cg v C)(hv:C≠ []->v=nr C)(hs:C.length<=100000): ∃v' s',aM (QS sp) 113 [v,.agg [.str c.1,.str c.2]] s0 v' s'/\(dP s'.heap v' (nr (gN c C))/\s'.ci=0):=by
 have c1:=hl.aL;have n1:=fun mk s=>hl.len BW BV mk s;have hmm:s0.ge<=s0.al:=aU _;refine aM.ofF D7.1 D7.2 D7.3 D7.4 h113 ?_;simp only[ai,aA,bv,bt,aa,ah,aG,aV,bW,dy,ofValue,aX,J6,uN];refine Xy (c:=c) hl hs hmm ?_ ?_ ?_ C [] _ rfl rfl ?_ ?_ ?_
 case refine_3=>
  intro e pre rest hpre hR hrest h0 h3 h5;have g3: ∀(lc:Ag.Loc),(lc.set 3 1 [.str c.1,.str c.2]).gen 3=1:=fun lc=>by rw[eZ];rfl
  have hpl:pre.length<=C.length:=by rw[hpre];simp
  have hrl:rest.length<=C.length:=by rw[hpre];simp
  have hb0: ∀e s,cx ar 80 0 [] false e s=some (.list 2 [] .GE,s):=fun e s=>by kernel_rfl
  have hbs: ∀e s,aj e 62= .agg [.str c.1,.str c.2]->cx ar 80 1 [(0,.tmp 62)] false e s=some (.list 2 [.agg [.str c.1,.str c.2]] .GE,s):=fun e s p=>Yo (by rw[bq,p]) s;obtain⟨va,sa,la,_⟩:=yz VL Vo hl (lo:=pre.length) (hi:=C.length) hpl (aU _);obtain⟨vz,sz,lz,_⟩:=yz VL Vo hl (lo:=0) (hi:=pre.length) (cV _) hpl;have ea:(C.take C.length).drop pre.length=rest:=by rw[xc];rw[hpre];simp
  have ez:(C.take pre.length).drop 0=pre:=by rw[hpre];simp
  rw[ea] at la;rw[ez] at lz;have sa': ∀env s,aj env 67= .int .i64 (pre.length:Nat)->ib ar [] 80 v (some (.tmp 67)) none none env s=some va:=fun env s p=>sa env s _ _ rfl (tG (by rw[bq,p]));have sz': ∀env s,aj env 58= .int .i64 (pre.length:Nat)->ib ar [] 80 v none (some (.tmp 58)) none env s=some vz:=fun env s p=>sz env s _ _ (tG (by rw[bq,p])) rfl;have ka:=la.aL;have kz:=lz.aL;obtain⟨w1,s1,a1,o1,ci1,nx1,m1,_,_⟩:=rN (t:=80) (lo:=0) zm rfl (by decide) (s:=s0) (ov:=.list 2 [] .GE) (xs:=[]) (.inr ⟨rfl,rfl⟩) (qk lz _ _) (by rw[cZ];simp only[fJ];omega) (cV _) hmm;obtain⟨w2,s2,a2,o2,ci2,nx2,m2,_,_⟩:=rN (t:=80) zm rfl (by decide) (y:=.list 2 [.agg [.str c.1,.str c.2]] .GE) (ys:=[cg c]) o1 rfl (by simp only[cK,cZ];omega) (cV _) m1;obtain⟨w3,s3,a3,o3,ci3,nx3,m3,_,_⟩:=rN (t:=80) zm rfl (by decide) o2 (qk la _ _) (by simp only[cK,cZ];omega) (cV _) m2;have k1:=o1.aL;have k2:=o2.aL;have k3:=o3.aL;have ho:cE 2 0 s3 w3 ((pre++c::rest).map cg):=by
   have e:[]++pre.map cg++[cg c]++rest.map cg=(pre++c::rest).map cg:=by simp
   rw[e] at o3;exact o3.some (by simp)
  have hci:s3.ci=0:=by rw[ci3,ci2];exact ci1
  rcases hrest with rfl|⟨a,r,rfl,hah⟩
  have hla:C.length=pre.length:=by rw[hpre];simp
  simp only[ai,ax,aA,isStore,cut,aN,ay,aa,ah,aG,fD,ei,fp,fk,reduceCtorEq,ofValue,aX,uN,J7,h0,h3,h5,c1,n1,hla,hmm,cR,sz',sa',kz,ka,hb0,hbs,a1,k1,a2,k2,a3,k3];exact⟨_,rfl,by rw[hR];exact Pl ho,hci⟩;have hlt:pre.length<C.length:=by rw[hpre];simp
  have ha1:C[pre.length]? =some a:=by rw[hpre];simp
  have i1:=fun lc=>hl.at DR ha1 lc .i64;have hce:(cg a).cells=[.str a.1,.str a.2]:=rfl;cases he:nq a c with
  |true=>
   have hR2:gN c C=C:=by
    rw[hR];have:(a==c)=true:=by rw[Oj,he]
    simp only[cz,gN,hah,this];exact hpre.symm
   have hvC:v=nr C:=hv (by rw[hpre];simp);have hcf:=Ol a.1 a.2 c.1 c.2;have he':nq (a.1,a.2) (c.1,c.2)=true:=he;rw[he'] at hcf;simp only[ai,ax,aA,isStore,cut,aN,ay,aa,ah,aG,fD,ei,fp,fk,reduceCtorEq,ofValue,aX,uN,J7,h0,h3,h5,c1,n1,i1,hlt,hmm,hce,hcf];refine⟨_,rfl,?_,rfl⟩;rw[hR2,hvC];cases C with
   |nil=>exact⟨1,rfl⟩
   |cons x C=>
    refine⟨5,Jw s0.heap (k:=4) (Dp (x::C)) fun u hu=>?_⟩;obtain⟨p,_,rfl⟩:=dp.1 (show u∈(x::C).map cg from hu);rfl
  |false=>
   have hR2:gN c C=pre++c::a::r:=by
    rw[hR];have:(a==c)=false:=by rw[Oj,he]
    simp only[gN,hah,this,cF]
   have hcf:=Ol a.1 a.2 c.1 c.2;have he':nq (a.1,a.2) (c.1,c.2)=false:=he;rw[he'] at hcf;simp only[ai,ax,aA,isStore,cut,aN,ay,aa,ah,aG,fD,ei,fp,fk,reduceCtorEq,ofValue,aX,uN,J7,h0,h3,h5,c1,n1,i1,hlt,hmm,hce,hcf,sz',sa',kz,ka,hb0,hbs,a1,k1,a2,k2,a3,k3];exact⟨_,rfl,by rw[hR2];exact Pl ho,hci⟩
 all_goals simp only[aq,iX,gi,aa]
 rfl
end
def ND(C:List Cf)(c:Cf)(hs:C.length<=100000):rL [nr C,.agg [.str c.1,.str c.2]]=some (nr (gN c C)):=by
 simp only[rL,XP (tj C) (Dp C),bn];cases C with
 |nil=>rfl
 |cons a C=>
  show(bif br (a::C).length 100000 then _ else none)=_;rw[cu hs];rfl
def Xx:cq ar 113 rL:=by
 refine jC dc.nil fun args u h=>?_;unfold rL at h;split at h;rename_i v k w;simp only[az] at h;obtain⟨C,h1,h⟩:=h;obtain⟨l1,p1⟩:=XO h1;split at h;cases h;rename_i hn;obtain⟨h3,h⟩:=bm h;have h:=sI h;subst h;have hv:C≠ []->v=nr C:=fun hne=>by
  rcases l1 with⟨_,rfl⟩|⟨r,rfl⟩
  exact absurd rfl hne;cases r with
  |GE=>exact absurd rfl (hn _ _)
  |own k=>simp only[aQ,ki] at p1;cases p1
  |no=>cases C with
   |nil=>exact absurd rfl hne
   |cons a C=>rfl
 obtain⟨v',s',r1,r2,r3⟩:=Xz (sp:=fun f=>cI f []) rfl (k,w) l1 hv (eG h3);exact⟨tN p1 rfl,v',s',r1,r3,r2⟩;cases h
def xP(b o t:List Obj)(id:ak):Bool:=(bc id b).isSome||((bc id o).isSome||(bc id t).isSome)
def jj(b o t out:List Obj)(id:ak):Bool:=(bc id out).isNone&&xP b o t id
def qr(p:ak->Bool):List Obj->Option ak
 | []=>none
 |q::l=>(q.gE.find? p).or (qr p l)
def SU(p:ak->Bool): ∀l:List Obj,qr p l=(l.flatMap (·.gE)).find? p
 | []=>rfl
 |q::l=>by
  rw[qr,SU p l,List.flatMap_cons,List.find?_append]
variable{b o t:List Obj}
def aj0{id:ak}:(fS b o t id).isSome=xP b o t id:=by
 unfold fS xP;cases bc id b with
 |some _=>rfl
 |none=>
  show(gS (bc id o) (bc id t)).isSome=_;cases h1:bc id o with
  |none=>cases h2:bc id t<;>rfl
  |some x=>
   cases h2:bc id t with
   |none=>rfl
   |some y=>
    rcases zK (p:=some x) (q:=some y) with e|e<;>rw[e]<;>rfl
def SW{out:List Obj}:tF b o t out=qr (jj b o t out) out:=by
 rw[SU];unfold tF;congr 1;funext id;rw[aj0];rfl
def adP:bG (vi (li k l 0)) 0=(bc k l).isNone:=by
 rw[<-Bp l 0];cases li k l 0 with
 |none=>rfl
 |some p=>show bG ((p.1:Nat):Int) ((0:Nat):Int)=false;rw[im];simp
def JR:ec 0 (vi (li k l 0))=(bc k l).isSome:=by
 rw[<-Bp l 0];cases li k l 0 with
 |none=>rfl
 |some p=>show ec ((0:Nat):Int) ((p.1:Nat):Int)=true;rw[lj];simp
structure C6 (vm vb vo vt:ae) (e:aI) (lc:Ag.Loc):Prop where
 h4:aj e 4= .Ge 4 1 0
 h5:aj e 5= .Ge 5 1 0
 h6:aj e 6= .Ge 6 1 0
 h7:aj e 7= .Ge 7 1 0
 g4:lc.gen 4=1
 b4:lc.get 4 1=some [vm]
 b5:lc.get 5 1=some [vb]
 b6:lc.get 6 1=some [vo]
 b7:lc.get 7 1=some [vt]
variable{m:List Obj}{vm:ae}
section
variable{sp:bC}
def ajE(h198:sp 198=some uH)(hm:aD 6 Obj.val vm m)(hb:aD 6 Obj.val vb b)(ho:aD 6 Obj.val vo o)(ht:aD 6 Obj.val vt t)(gm: ∀q∈m,q.Al)(gb: ∀q∈b,q.Al)(go: ∀q∈o,q.Al)(gt: ∀q∈t,q.Al)(sm:m.length<small)(sb:b.length<small)(so:o.length<small)(st:t.length<small)(hq:m[n]? =some q)(hrl:q.gE.length<=1000000)(hx: ∀e,q.gE.find? (jj b o t m)=none->C6 vm vb vo vt e lc->aj e 9= .int .i64 (n:Nat)->K (.exit 2) ⟨e,64,lc⟩ s)(hr: ∀e x,q.gE.find? (jj b o t m)=some x->aj e 8= .str x->K .ret ⟨e,64,lc⟩ s):
 ∀(rest pre:List ak) (e:aI),q.gE=pre++rest->q.gE.find? (jj b o t m)=rest.find? (jj b o t m)->C6 vm vb vo vt e lc->aj e 9= .int .i64 (n:Nat)->aj e 10= .int .i64 (pre.length:Nat)->W (QS sp) 114 (.loop tB) ⟨e,64,lc⟩ s K:=by
 have c1:=hm.aL;have c2:=hb.aL;have c3:=ho.aL;have c4:=ht.aL;have i0:=fun lc=>hm.at o7 hq lc .i64;have gq:=gm q (ku hq);have hqr:=gq.gE;have c5:=hqr.aL;have n1:=fun mk s=>hqr.len dB dH mk s;intro rest
 induction rest with
 |nil=>
  intro pre e hpre hR I h9 h10;have hla:q.gE.length=pre.length:=by rw[hpre];simp
  have h4:=I.h4;have g4:=I.g4;have b4:=I.b4;refine eh ?_;simp only[ai,ax,aA,ay,aa,ah,uO,tB,h4,g4,b4,h9,h10,c5,i0,n1,hla,cR,Obj.val,Obj.cells];refine hx _ hR ⟨?_,?_,?_,?_,I.g4,I.b4,I.b5,I.b6,I.b7⟩ ?_
  all_goals simp only[au,aa,I.h4,I.h5,I.h6,I.h7,h9]
 |cons r rest ih=>
  intro pre e hpre hR I h9 h10;have hlt:pre.length<q.gE.length:=by rw[hpre];simp
  have ha1:q.gE[pre.length]? =some r:=by rw[hpre];simp
  have i1:=fun lc=>hqr.at gR ha1 lc .i64;have hwr:=ig (n:=pre.length) (by omega);have h4:=I.h4;have g4:=I.g4;have b4:=I.b4;have h5:=I.h5;have h6:=I.h6;have h7:=I.h7;have b5:=I.b5;have b6:=I.b6;have b7:=I.b7;have q1:=Bq r hm gm sm;have q2:=Bq r hb gb sb;have q3:=Bq r ho go so;have q4:=Bq r ht gt st;have p1:=adP (k:=r) (l:=m);have p2:=JR (k:=r) (l:=b);have p3:=JR (k:=r) (l:=o);have p4:=JR (k:=r) (l:=t);have hgo:jj b o t m r=false->W (QS sp) 114 (.loop tB) ⟨e,64,lc⟩ s K->W (QS sp) 114 (.loop tB) ⟨e,64,lc⟩ s K:=fun _ h=>h;have fin: ∀e',jj b o t m r=false->C6 vm vb vo vt e' lc->aj e' 9= .int .i64 (n:Nat)->aj e' 10= .int .i64 ((pre.length+1:Nat):Int)->W (QS sp) 114 (.loop tB) ⟨e',64,lc⟩ s K:=fun e' hf I' a b'=>
   ih (pre++[r]) e' (by rw[hpre];simp) (by rw[hR,List.find?_cons_of_neg (by rw[hf];simp)]) I' a (by rw[b',dX];rfl)
  have fin2: ∀e',jj b o t m r=true->aj e' 8= .str r->K .ret ⟨e',64,lc⟩ s:=fun e' hf h8=>
   hr e' r (by rw[hR,List.find?_cons_of_pos hf]) h8
  refine eh ?_;cases hmm:(bc r m).isNone with
  |false=>
   have hf:jj b o t m r=false:=by unfold jj;rw[hmm];rfl
   rw[hmm] at p1;cases x1:(bc r b).isSome<;>cases x2:(bc r o).isSome<;>cases x3:(bc r t).isSome<;>rw[x1] at p2<;>rw[x2] at p3<;>rw[x3] at p4<;>
    simp only[ai,ax,aA,cut,aN,ay,aa,ah,ofValue,aX,uO,tB,h4,g4,b4,h5,h6,h7,b5,b6,b7,h9,h10,c5,i0,i1,n1,hlt,Obj.val,Obj.cells,aF,h198,q1,q2,q3,q4,p1,p2,p3,p4,hwr]<;>
    exact fin _ hf ⟨by simp only[au,aa,h4],by simp only[au,aa,h5],by simp only[au,aa,h6],by simp only[au,aa,h7],g4,b4,b5,b6,b7⟩ (by simp only[au,aa,h9]) (by simp only[aq,aa])
  |true=>
   rw[hmm] at p1;cases x1:(bc r b).isSome with
   |true=>
    have hf:jj b o t m r=true:=by unfold jj xP;rw[hmm,x1];rfl
    rw[x1] at p2;simp only[ai,ax,aA,cut,aN,ay,aa,ah,ofValue,aX,uO,tB,h4,g4,b4,h5,b5,h9,h10,c5,i0,i1,n1,hlt,Obj.val,Obj.cells,aF,h198,q1,q2,p1,p2];exact fin2 _ hf (by simp only[aq,aa])
   |false=>
    rw[x1] at p2;cases x2:(bc r o).isSome with
    |true=>
     have hf:jj b o t m r=true:=by unfold jj xP;rw[hmm,x1,x2];rfl
     rw[x2] at p3;simp only[ai,ax,aA,cut,aN,ay,aa,ah,ofValue,aX,uO,tB,h4,g4,b4,h5,h6,b5,b6,h9,h10,c5,i0,i1,n1,hlt,Obj.val,Obj.cells,aF,h198,q1,q2,q3,p1,p2,p3];exact fin2 _ hf (by simp only[aq,aa])
    |false=>
     rw[x2] at p3;cases x3:(bc r t).isSome with
     |true=>
      have hf:jj b o t m r=true:=by unfold jj xP;rw[hmm,x1,x2,x3];rfl
      rw[x3] at p4;simp only[ai,ax,aA,cut,aN,ay,aa,ah,ofValue,aX,uO,tB,h4,g4,b4,h5,h6,h7,b5,b6,b7,h9,h10,c5,i0,i1,n1,hlt,Obj.val,Obj.cells,aF,h198,q1,q2,q3,q4,p1,p2,p3,p4];exact fin2 _ hf (by simp only[aq,aa])
     |false=>
      have hf:jj b o t m r=false:=by unfold jj xP;rw[hmm,x1,x2,x3];rfl
      rw[x3] at p4;simp only[ai,ax,aA,cut,aN,ay,aa,ah,ofValue,aX,uO,tB,h4,g4,b4,h5,h6,h7,b5,b6,b7,h9,h10,c5,i0,i1,n1,hlt,Obj.val,Obj.cells,aF,h198,q1,q2,q3,q4,p1,p2,p3,p4,hwr];exact fin _ hf ⟨by simp only[au,aa,h4],by simp only[au,aa,h5],by simp only[au,aa,h6],by simp only[au,aa,h7],g4,b4,b5,b6,b7⟩ (by simp only[au,aa,h9]) (by simp only[aq,aa])
def ajF(h198:sp 198=some uH)(hm:aD 6 Obj.val vm m)(hb:aD 6 Obj.val vb b)(ho:aD 6 Obj.val vo o)(ht:aD 6 Obj.val vt t)(gm: ∀q∈m,q.Al)(gb: ∀q∈b,q.Al)(go: ∀q∈o,q.Al)(gt: ∀q∈t,q.Al)(sm:m.length<=1000000)(sb:b.length<small)(so:o.length<small)(st:t.length<small)(hrl: ∀q∈m,q.gE.length<=1000000)(hx: ∀e,qr (jj b o t m) m=none->K (.exit 0) ⟨e,64,lc⟩ s)(hr: ∀e x,qr (jj b o t m) m=some x->aj e 8= .str x->K .ret ⟨e,64,lc⟩ s):
 ∀(rest pre:List Obj) (e:aI),m=pre++rest->qr (jj b o t m) m=qr (jj b o t m) rest->C6 vm vb vo vt e lc->aj e 9= .int .i64 (pre.length:Nat)->W (QS sp) 114 (.loop J8) ⟨e,64,lc⟩ s K:=by
 have c1:=hm.aL;have n1:=fun mk s=>hm.len pf o9 mk s;have hsm:=fg;intro rest
 induction rest with
 |nil=>
  intro pre e hpre hR I h9;have hla:m.length=pre.length:=by rw[hpre];simp
  have h4:=I.h4;have g4:=I.g4;have b4:=I.b4;refine eh ?_;simp only[ai,ax,aA,ay,aa,ah,uO,J8,h4,g4,b4,h9,c1,n1,hla,cR];exact hx _ hR
 |cons q rest ih=>
  intro pre e hpre hR I h9;have hlt:pre.length<m.length:=by rw[hpre];simp
  have hq:m[pre.length]? =some q:=by rw[hpre];simp
  have hqm:q∈m:=ku hq;have hwr:=ig (n:=pre.length) (by omega);have h4:=I.h4;have g4:=I.g4;have b4:=I.b4;refine eh ?_;simp only[ai,ax,aA,ay,aa,ah,ofValue,aX,uO,J8,h4,g4,b4,h9,c1,n1,hlt];refine ajE h198 hm hb ho ht gm gb go gt (by omega) sb so st hq (hrl q hqm) ?_ ?_ q.gE [] _ rfl rfl ⟨?_,?_,?_,?_,I.g4,I.b4,I.b5,I.b6,I.b7⟩ ?_ ?_
  ·intro e' hf I' h9'
   simp only[ai,aA,aa,ah,ofValue,aX,h9',hwr];refine ih (pre++[q]) _ (by rw[hpre];simp) (by rw[hR,qr,hf];rfl) ⟨?_,?_,?_,?_,I'.g4,I'.b4,I'.b5,I'.b6,I'.b7⟩ ?_
   all_goals simp only[aq,cK,aa,I'.h4,I'.h5,I'.h6,I'.h7]
  intro e' x hf h8;simp only[u7,uA, ];exact hr e' x (by rw[hR,qr,hf];rfl) h8
  all_goals simp only[aq,aa,I.h4,I.h5,I.h6,I.h7,h9]
  rfl
def ajG(h114:sp 114=none)(h198:sp 198=some uH)(hm:aD 6 Obj.val vm m)(hb:aD 6 Obj.val vb b)(ho:aD 6 Obj.val vo o)(ht:aD 6 Obj.val vt t)(gm: ∀q∈m,q.Al)(gb: ∀q∈b,q.Al)(go: ∀q∈o,q.Al)(gt: ∀q∈t,q.Al)(sm:m.length<=1000000)(sb:b.length<small)(so:o.length<small)(st:t.length<small)(hrl: ∀q∈m,q.gE.length<=1000000)(s:St):aM (QS sp) 114 [.agg [vm],.agg [vb],.agg [vo],.agg [vt]] s (.str ((qr (jj b o t m) m).getD [])) s:=by
 have c1:=hm.aL;have c2:=hb.aL;have c3:=ho.aL;have c4:=ht.aL;refine aM.of3 D9.1 D9.2 D9.3 D9.4 h114 rfl ?_;simp only[ai,aA,bv,bt,aa,ah,aG,aV,ofValue,aX,D8,uO];refine ajF h198 hm hb ho ht gm gb go gt sm sb so st hrl ?_ ?_ m [] _ rfl rfl ⟨?_,?_,?_,?_,?_,?_,?_,?_,?_⟩ ?_;intro e hf;simp only[ai,aA,ah,reduceCtorEq,ofValue,aX,hf,pL];intro e x hf h8;simp only[aT,u7,uA,reduceCtorEq,oT,eq_self,hf,h8,fq]
 all_goals simp only[aq,iX,gi,aa]
 rfl
end
def I8(l:List Obj):Bool:=l.all fun q=>br q.gE.length 1000000
def OY:I8 l=true↔ ∀q∈l,q.gE.length<=1000000:=by
 simp only[I8,fY,xe]
def wD:Sp
 | [u,v,w,x]=>(mQ u).bind fun m=>(mQ v).bind fun b=>(mQ w).bind fun o=>(mQ x).bind fun t=>bif br m.length 1000000&&I8 m then some (.str ((qr (jj b o t m) m).getD [])) else none
 |_=>none
def ST(hm:aD 6 Obj.val vm m)(hb:aD 6 Obj.val vb b)(ho:aD 6 Obj.val vo o)(ht:aD 6 Obj.val vt t)(gm: ∀q∈m,q.Al)(gb: ∀q∈b,q.Al)(go: ∀q∈o,q.Al)(gt: ∀q∈t,q.Al)(sm:m.length<=1000000)(sb:b.length<small)(so:o.length<small)(st:t.length<small)(pm:aQ (.agg [vm])=true)(pb:aQ (.agg [vb])=true)(po:aQ (.agg [vo])=true)(pt:aQ (.agg [vt])=true)(hrl: ∀q∈m,q.gE.length<=1000000):wD [.agg [vm],.agg [vb],.agg [vo],.agg [vt]]=some (.str ((qr (jj b o t m) m).getD [])):=by
 have hsm:=fg;simp only[ce,wD,pY hm gm (by omega) pm,pY hb gb sb pb,pY ho go so po,pY ht gt st pt,cu sm,OY.2 hrl,cH]
def ajD:cq ar 114 wD:=by
 refine jC Nk fun args u h=>?_;unfold wD at h;split at h;simp only[az] at h;obtain⟨m,h1,b,h2,o,h3,t,h4,h⟩:=h;obtain⟨h5,h⟩:=bm h;simp only[bA] at h5;have h:=sI h;subst h;obtain⟨vm,rfl,lm,gm,sm,pm⟩:=pX h1;obtain⟨vb,rfl,lb,gb,sb,pb⟩:=pX h2;obtain⟨vo,rfl,lo,go,so,po⟩:=pX h3;obtain⟨vt,rfl,lt,gt,st,pt⟩:=pX h4;exact⟨by simp only[pures,pm,pb,po,pt,cH],_,_,ajG (sp:=fun f=>cI f H0) rfl rfl lm lb lo lt gm gb go gt (eG h5.1) sb so st (OY.1 h5.2) s0,rfl,⟨1,rfl⟩⟩;cases h
def MO: ∀(cs:List ae) (o:Nat) (v:ae),o<cs.length->bu cs o [v]=some (cs.set o v):=by
 intro cs o v h;have hb:br (o+ [v].length) cs.length=true:=cu h;unfold bu;rw[hb,cT];congr 1;rw[List.set_eq_take_append_cons_drop,iP h];rfl
variable{h i:Nat}{f:Nat->ae}
def aiR{g:Nat->ae}(hi: ∀j,j≠i->f j=g j):((iv h).map f).set i (g i)=(iv h).map g:=by
 refine List.ext_getElem (by simp) fun j h1 h2=>?_;rw[List.getElem_set];simp only[List.getElem_map,List.getElem_range];by_cases e:i=j;subst e;simp;rw[iN e];exact hi j (Ne.symm e)
variable{k w:Nat}
def Sh(hk:k<w):((iv w).map f).drop k=f k::((iv w).map f).drop (k+1):=ami f hk
def u6(n0 w i j:Nat):ae:=bif bk j i then .arr 1 (n0+1+j) 0 w w else .AL
structure uo (s:St) (n0 h w i:Nat):Prop where
 out:s.get [] n0=some (.cells ((iv h).map (u6 n0 w i)))
 row: ∀j,j<i->s.get [] (n0+1+j)=some (.cells (gW w fun _=>0))
 nx:s.al=n0+1+i
variable{n0:Nat}
def uo.tab(H:uo s n0 h w h):kY s n0 h w (fun _ _=>0):=by
 refine⟨?_,H.row,by rw[H.nx];exact aU _⟩;rw[H.out];congr 2;refine CT fun j hj=>?_;have:bk j h=true:=cu (yP.1 hj);show(bif bk j h then _ else _)=_;rw[this];rfl
def Ur: ∀w:Nat,eW [.int .i64 0] w=gW w fun _=>0
 |0=>rfl
 |w+1=>by
  have ih:=Ur w;unfold gW at ih ⊢;rw[List.range_succ_eq_map,dG,List.map_map];show .int .i64 0::eW [.int .i64 0] w=_;rw[ih];rfl
def Us: ∀h:Nat,eW [.AL] h=(iv h).map fun _=>.AL
 |0=>rfl
 |h+1=>by
  rw[List.range_succ_eq_map,dG,List.map_map];show ae.AL::eW [.AL] h=_;rw[Us h];rfl
def N6(P:Program)(mk:aW)(ts:List TypeId)(mu:Bool)(x y:Int)(s:St):mp P mk .max ts mu [.int .i64 x,.int .i64 y] s=some (.int .i64 (max x y),s):=by
 have h:mp P mk .max ts mu [.int .i64 x,.int .i64 y] s=some (.int .i64 (bif bG x y then y else x),s):=by
  cases ts with
  |nil=>rfl
  |cons t ts=>cases ts<;>rfl
 rw[h];have:(bif bG x y then y else x)=max x y:=by
  unfold bG;by_cases hc:x<y;rw[dQ hc];simp only[cT];omega;rw[dN hc];simp only[cF];omega
 rw[this]
variable{T:kZ}
def kY.congr{s':St}(H:kY s n0 h w T)(hg: ∀n,s'.get [] n=s.get [] n)(hn:s'.al=s.al):kY s' n0 h w T:=
 ⟨(hg _).trans H.out,fun i hi=>(hg _).trans (H.row i hi),by rw[hn];exact H.nx⟩
def kY.ld1(H:kY s n0 h w T)(hi:i<h)(lc:Ag.Loc):lR ar [] 26 (.ptr n0 i) lc s.top=some (.arr 1 (n0+1+i) 0 w w):=by
 have hg:s.top.get [] n0=_:=H.out;rw[cO,hg,cN,LY,Sh hi];rfl
def kY.ld2(H:kY s n0 h w T)(hi:i<h)(hk:k<w)(lc:Ag.Loc):lR ar [] 3 (.ptr (n0+1+i) k) lc s.top=some (.int .i64 (T i k)):=by
 have hg:s.top.get [] (n0+1+i)=_:=H.row i hi;rw[cO,hg,cN,Um];unfold gW;rw[Sh hk];rfl
def kY.sto(H:kY s n0 h w T)(hi:i<h)(hk:k<w)(v:Int)(lc:Ag.Loc):nL ar [] 3 (.ptr (n0+1+i) k) (.int .i64 v) lc s.top=some (lc,s.top.put (n0+1+i) (some (.cells ((gW w (T i)).set k (.int .i64 v))))):=by
 have hg:s.top.get [] (n0+1+i)=_:=H.row i hi;rw[kg,Mt,bn,hg,kf,Dn,MO _ _ _ (by rw[UB];exact hk)];rfl
def kY.al(H:kY s n0 h w T){v:Int}:kY (s.Gt (s.top.put (n0+1+i) (some (.cells ((gW w (T i)).set k (.int .i64 v)))))) n0 h w (mI T i k v):=
 (H.put (i:=i) (k:=k) (v:=v)).congr (fun _=>rfl) rfl
def ajI(h:Nat)(hh:h<=100000)(hpos:0<h)(s:St):qR ar 63 (.int .i64 (h:Nat)) (.int .i64 (h:Nat)) true s=some (.arr 1 s.al 0 h h,s.new (.cells ((iv h).map fun _=>.AL))):=by
 have h1:br h h=true:=cu (aU _);have h2:br (h*24) 1099511627776=true:=cu (by omega);have h3:br h 1099511627776=true:=cu (by omega);have h4:aJ h 0=false:=by rw[fe];exact bN.2 (by omega)
 have hc:(ae.AL).cells=[.AL]:=rfl;simp only[ce,qR,Z8,Gn,h1,h2,h3,h4,cH,iK,cF,hc,Us]
def SZ(h:Nat)(hh:h<=100000)(s:St):qR ar 26 (.int .i64 (h:Nat)) (.int .i64 (h:Nat)) true s=some (.arr 1 s.al 0 h h,s.new (.cells (gW h fun _=>0))):=by
 have h1:br h h=true:=cu (aU _);have h2:br (h*8) 1099511627776=true:=cu (by omega);have h3:br h 1099511627776=true:=cu (by omega);simp only[ce,qR,IV,Gn,h1,h2,h3,dS,ki,cH,cF,Dn,Ur]
def uo.sto(H:uo s n0 h w i)(hi:i<h)(lc:Ag.Loc):nL ar [] 26 (.ptr n0 i) (.arr 1 s.al 0 w w) lc (s.new (.cells (gW w fun _=>0)))=some (lc,(s.new (.cells (gW w fun _=>0))).put n0 (some (.cells ((iv h).map (u6 n0 w (i+1)))))):=by
 have hg:(s.new (.cells (gW w fun _=>0))).get [] n0=some (.cells ((iv h).map (u6 n0 w i))):=by
  rw[cp,bN.2 (by have:=H.nx;omega)];exact H.out
 have hs:((iv h).map (u6 n0 w i)).set i (.arr 1 s.al 0 w w)=(iv h).map (u6 n0 w (i+1)):=by
  have hb:bk i (i+1)=true:=cu (aU _);have e:ae.arr 1 s.al 0 w w=u6 n0 w (i+1) i:=by
   simp only[u6,hb,cT,H.nx]
  rw[e];refine aiR fun j hj=>?_;have:bk j i=bk j (i+1):=by
   rw[jU,jU];by_cases hc:j<i;rw[dQ hc,dQ (by omega)];rw[dN hc,dN (by omega)]
  simp only[u6,this]
 rw[kg,aoq,bn,hg,kf,Dm,MO _ _ _ (by simpa using hi),hs];rfl
def uo.al(H:uo s n0 h w i):uo ((s.new (.cells (gW w fun _=>0))).put n0 (some (.cells ((iv h).map (u6 n0 w (i+1)))))) n0 h w (i+1):=by
 have hn:=H.nx;refine⟨by rw[bO,bS];rfl,fun j hj=>?_,?_⟩;rw[bO,bN.2 (by omega),cF,cp];by_cases e:n0+1+j=s.al;rw[e,bS];rfl;rw[bN.2 e];exact H.row j (by omega);show s.al+1=_;omega
section
variable{sp:bC}{v u:ae}{a b:List ak}
def ahT(hl:aD 1 aF v a)(hu:aD 1 aF u b)(ha:a.length<=2000)(hb:b.length<=2000)(hx: ∀e s,uo s n0 (a.length+1) (b.length+1) (a.length+1)->s.ci=0->s.ge<=s.al->aj e 0=v->aj e 1=u->aj e 5= .arr 1 n0 0 (a.length+1) (a.length+1)->K (.exit 0) ⟨e,89,lc⟩ s):
 ∀(m i:Nat) (e:aI) (s:St),m+i=a.length+1->uo s n0 (a.length+1) (b.length+1) i->s.ci=0->s.ge<=s.al->aj e 0=v->aj e 1=u->aj e 5= .arr 1 n0 0 (a.length+1) (a.length+1)->aj e 6= .int .i64 (i:Nat)->W (QS sp) 467 (.loop Kz) ⟨e,89,lc⟩ s K:=by
 have c1:=hl.aL;have c2:=hu.aL;have n1:=fun mk s=>hl.len dB dH mk s;have n2:=fun mk s=>hu.len dB dH mk s;have hwb:=ig (n:=b.length) (by omega);intro m
 induction m with
 |zero=>
  intro i e s hmi H hci hm h0 h1 h5 h6;have hi:i=a.length+1:=by omega
  subst hi;have hle:ec ((a.length+1:Nat):Int) ((a.length:Nat):Int)=false:=by rw[lj];exact dN (by omega)
  refine eh ?_;simp only[ai,aA,aa,ah,xO,Kz,h0,h6,c1,n1,hle];refine hx _ s H hci hm ?_ ?_ ?_
  all_goals simp only[au,aa,h0,h1,h5]
 |succ m ih=>
  intro i e s hmi H hci hm h0 h1 h5 h6;have hle:ec ((i:Nat):Int) ((a.length:Nat):Int)=true:=by rw[lj];exact dQ (by omega)
  have hlt:i<a.length+1:=by omega
  have hwi:=ig (n:=i) (by omega);have hmk:=SZ (b.length+1) (by omega) s;have hst:=H.sto hlt;refine eh ?_;simp only[ai,aA,aa,ah,ofValue,aX,JP,xO,Kz,h0,h1,h5,h6,c1,c2,n1,n2,hle,hlt,hwi,hwb,GS,hmk,hst,zf,qG];refine ih (i+1) _ _ (by omega) H.al hci (ji _ _ _ (ky hm)) ?_ ?_ ?_ ?_
  all_goals simp only[aq,aa,h0,h1,h5]
set_option maxRecDepth 4000 in
def ahS(hl:aD 1 aF v a)(hu:aD 1 aF u b)(ha:a.length<=2000)(hb:b.length<=2000)(hi:i<a.length)(hx: ∀e s T,kY s n0 (a.length+1) (b.length+1) T->nS a b T i 0->s.ci=0->s.ge<=s.al->aj e 0=v->aj e 1=u->aj e 5= .arr 1 n0 0 (a.length+1) (a.length+1)->aj e 7= .int .i64 (i:Nat)->K (.exit 4) ⟨e,89,lc⟩ s):
 ∀(k:Nat) (e:aI) (s:St) (T:kZ),k<=b.length->kY s n0 (a.length+1) (b.length+1) T->nS a b T i k->s.ci=0->s.ge<=s.al->aj e 0=v->aj e 1=u->aj e 5= .arr 1 n0 0 (a.length+1) (a.length+1)->aj e 7= .int .i64 (i:Nat)->aj e 8= .int .i64 ((k:Int)-1)->W (QS sp) 467 (.loop FH) ⟨e,89,lc⟩ s K:=by
 have c1:=hl.aL;have c2:=hu.aL;intro k
 induction k with
 |zero=>
  intro e s T hk H O hci hm h0 h1 h5 h7 h8;have h8:aj e 8= .int .i64 (-1):=h8;have hle:ec 0 (-1)=false:=rfl;refine eh ?_;simp only[ai,aA,aa,ah,ofValue,aX,FH,h8,hle];refine hx _ s T H O hci hm ?_ ?_ ?_ ?_
  all_goals simp only[au,aa,h0,h1,h5,h7]
 |succ k ih=>
  intro e s T hk H O hci hm h0 h1 h5 h7 h8;have h8:aj e 8= .int .i64 ((k:Nat):Int):=by rw[h8];congr 1;omega
  have hle:ec 0 ((k:Nat):Int)=true:=by rw[show(0:Int)=((0:Nat):Int) from rfl,lj];exact dQ (cV _)
  have hwi:=ig (n:=i) (by omega);have hwk:=ig (n:=k) (by omega);have hws:IntKind.i64.wrap (((k:Nat):Int)-1)=((k:Nat):Int)-1:=lC (by omega) (by omega);have x1:i<a.length+1:=by omega
  have x2:i+1<a.length+1:=by omega
  have x3:k<b.length+1:=by omega
  have x4:k+1<b.length+1:=by omega
  have a1:a[i]? =some a[i]:=gL hi;have hkb:k<b.length:=by omega
  have b1:b[k]? =some b[k]:=gL hkb;have i1:=fun lc=>hl.at gR a1 lc .i64;have i2:=fun lc=>hu.at gR b1 lc .i64;have l1:=fun lc=>H.ld1 x1 lc;have l2:=fun lc=>H.ld1 x2 lc;have l3:=fun lc=>H.ld2 x2 x3 lc;have l4:=fun lc=>H.ld2 x1 x4 lc;have O1:=O.step hi hkb;have hbd:=O.bound (i':=i+1) (k':=k+1) (by omega) (by omega) (.inl (by omega));have hp1:wK T i k=mI T i k (max (T (i+1) k) (T i (k+1))):=rfl;have hT1:wK T i k (i+1) (k+1)=T (i+1) (k+1):=by unfold wK mI;rw[iN (by omega)]
  rw[hp1] at O1 hT1;obtain⟨M,hM⟩: ∃M,max (T (i+1) k) (T i (k+1))=M:=⟨_,rfl⟩;rw[hM] at O1 hT1;have st1:=fun lc=>H.sto x1 x3 M lc;have H2:=H.al (i:=i) (k:=k) (v:=M);have hm2:(s.Gt (s.top.put (n0+1+i) (some (.cells ((gW (b.length+1) (T i)).set k (.int .i64 M)))))).ge<=(s.Gt (s.top.put (n0+1+i) (some (.cells ((gW (b.length+1) (T i)).set k (.int .i64 M)))))).al:=uU hm (aU _);have hci2:(s.Gt (s.top.put (n0+1+i) (some (.cells ((gW (b.length+1) (T i)).set k (.int .i64 M)))))).ci=0:=hci;have hc1:(s.top.put (n0+1+i) (some (.cells ((gW (b.length+1) (T i)).set k (.int .i64 M))))).ci=s.ci:=rfl;obtain⟨p1,hp⟩: ∃p1,s.top.put (n0+1+i) (some (.cells ((gW (b.length+1) (T i)).set k (.int .i64 M))))=p1:=⟨_,rfl⟩;rw[hp] at H2 hm2 hci2 hc1;have st1: ∀lc,nL ar [] 3 (.ptr (n0+1+i) k) (.int .i64 M) lc s.top=some (lc,p1):=fun lc=>by rw[st1 lc,hp]
  obtain⟨s1,hs1⟩: ∃s1,s.Gt p1=s1:=⟨_,rfl⟩;rw[hs1] at H2 hm2 hci2;obtain⟨T1,hTT⟩: ∃T1,mI T i k M=T1:=⟨_,rfl⟩;rw[hTT] at H2 O1 hT1;refine eh ?_;cases hq:a[i]==b[k] with
  |false=>
   rw[show vk a[i] b[k] T1 i k=T1 from by unfold vk;rw[hq];rfl] at O1;simp only[ai,ax,aA,isStore,aN,ay,aa,ah,aG,fD,ei,fp,fk,ofValue,aX,JP,xO,Ry,Rz,FH,h0,h1,h5,h7,h8,hle,hwi,hwk,hws,x1,x2,x3,x4,i1,i2,l1,l2,l3,l4,N6,hM,st1,hc1,hs1,qG,hm,hm2,aF,hq];refine ih _ _ _ (by omega) H2 O1 hci2 hm2 ?_ ?_ ?_ ?_ ?_
   all_goals simp only[aq,aa,h0,h1,h5,h7]
  |true=>
   rw[show vk a[i] b[k] T1 i k=mI T1 i k (1+T1 (i+1) (k+1)) from by unfold vk;rw[hq];rfl] at O1;have hw1:IntKind.i64.wrap (1+T1 (i+1) (k+1))=1+T1 (i+1) (k+1):=by
    rw[hT1];exact lC (by omega) (by omega)
   obtain⟨M2,hM2⟩: ∃M2,1+T1 (i+1) (k+1)=M2:=⟨_,rfl⟩;rw[hM2] at hw1 O1;have l5:=fun lc=>H2.ld1 x1 lc;have l6:=fun lc=>H2.ld1 x2 lc;have l7:=fun lc=>H2.ld2 x2 x4 lc;have st2:=fun lc=>H2.sto x1 x3 M2 lc;have H3:=H2.al (i:=i) (k:=k) (v:=M2);have hm3:(s1.Gt (s1.top.put (n0+1+i) (some (.cells ((gW (b.length+1) (T1 i)).set k (.int .i64 M2)))))).ge<=(s1.Gt (s1.top.put (n0+1+i) (some (.cells ((gW (b.length+1) (T1 i)).set k (.int .i64 M2)))))).al:=uU hm2 (aU _);have hc3:(s1.top.put (n0+1+i) (some (.cells ((gW (b.length+1) (T1 i)).set k (.int .i64 M2))))).ci=s1.ci:=rfl;have hci3:(s1.Gt (s1.top.put (n0+1+i) (some (.cells ((gW (b.length+1) (T1 i)).set k (.int .i64 M2)))))).ci=0:=hci2;obtain⟨p2,hp2⟩: ∃p2,s1.top.put (n0+1+i) (some (.cells ((gW (b.length+1) (T1 i)).set k (.int .i64 M2))))=p2:=⟨_,rfl⟩;rw[hp2] at H3 hm3 hc3 hci3;have st2: ∀lc,nL ar [] 3 (.ptr (n0+1+i) k) (.int .i64 M2) lc s1.top=some (lc,p2):=fun lc=>by rw[st2 lc,hp2]
   simp only[ai,ax,aA,isStore,aN,ay,aa,ah,aG,fD,ei,fp,fk,ofValue,aX,JP,xO,Ry,Rz,agV,FH,h0,h1,h5,h7,h8,hle,hwi,hwk,hws,x1,x2,x3,x4,i1,i2,l1,l2,l3,l4,l5,l6,l7,hM2,hw1,N6,hM,st1,hc1,hs1,st2,hc3,qG,hm,hm2,aF,hq];refine ih _ _ _ (by omega) H3 O1 hci3 hm3 ?_ ?_ ?_ ?_ ?_
   all_goals simp only[aq,aa,h0,h1,h5,h7]
def ahU(hl:aD 1 aF v a)(hu:aD 1 aF u b)(ha:a.length<=2000)(hb:b.length<=2000)(hx: ∀e s T,kY s n0 (a.length+1) (b.length+1) T->nS a b T 0 0->s.ci=0->aj e 5= .arr 1 n0 0 (a.length+1) (a.length+1)->K (.exit 2) ⟨e,89,lc⟩ s):
 ∀(m:Nat) (e:aI) (s:St) (T:kZ),m<=a.length->kY s n0 (a.length+1) (b.length+1) T->nS a b T m 0->s.ci=0->s.ge<=s.al->aj e 0=v->aj e 1=u->aj e 5= .arr 1 n0 0 (a.length+1) (a.length+1)->aj e 7= .int .i64 ((m:Int)-1)->W (QS sp) 467 (.loop KA) ⟨e,89,lc⟩ s K:=by
 have c2:=hu.aL;have n2:=fun mk s=>hu.len dB dH mk s;have hwb:IntKind.i64.wrap (((b.length:Nat):Int)-1)=((b.length:Nat):Int)-1:=lC (by omega) (by omega);intro m
 induction m with
 |zero=>
  intro e s T hk H O hci hm h0 h1 h5 h7;have h7:aj e 7= .int .i64 (-1):=h7;have hle:ec 0 (-1)=false:=rfl;refine eh ?_;simp only[ai,aA,aa,ah,ofValue,aX,KA,h7,hle];refine hx _ s T H O hci ?_;simp only[au,aa,h5]
 |succ m ih=>
  intro e s T hk H O hci hm h0 h1 h5 h7;have h7:aj e 7= .int .i64 ((m:Nat):Int):=by rw[h7];congr 1;omega
  have hle:ec 0 ((m:Nat):Int)=true:=by rw[show(0:Int)=((0:Nat):Int) from rfl,lj];exact dQ (cV _)
  have hws:IntKind.i64.wrap (((m:Nat):Int)-1)=((m:Nat):Int)-1:=lC (by omega) (by omega);refine eh ?_;simp only[ai,aA,aa,ah,ofValue,aX,xO,KA,h1,h7,c2,n2,hle,hwb];refine ahS hl hu ha hb (i:=m) (by omega) ?_ b.length _ s T (aU _) H (O.al) hci hm ?_ ?_ ?_ ?_ ?_
  ·intro e' s' T' H' O' hci' hm' h0' h1' h5' h7'
   simp only[ai,aA,aa,ah,ofValue,aX,h7',hws];refine ih _ s' T' (by omega) H' O' hci' hm' ?_ ?_ ?_ ?_
   all_goals simp only[aq,aa,h0',h1',h5']
  all_goals simp only[aq,aa,h0,h1,h5,h7]
end
def Oo{sz:Nat}: ∀cs:List ae,fW false sz cs.length cs=some cs
 | []=>rfl
 |c::cs=>by
  show(fW false sz cs.length cs).bind (fun r=>some (c::r))=_;rw[Oo cs];rfl
def ZX(cs:List ae)(h:n=cs.length):cut cs 0 n=some cs:=by
 subst h;unfold cut;simp only[List.drop_zero,xc,Cc,cT]
def DD{g:ae->Option ae}{α:Type}{f f':α->ae}: ∀ {l:List α},(∀x∈l,g (f x)=some (f' x))->de g (l.map f)=some (l.map f')
 | [],_=>rfl
 |x::l,h=>by
  have ih:=DD (g:=g) (f:=f) (f':=f') (l:=l) fun y hy=>h y (List.mem_cons_of_mem _ hy);simp only[dG,de,h x List.mem_cons_self,bn,ih]
def Jv{H:aZ bf}{cs cs':List ae}(hg:H.get n=some (.cells cs))(hl:cs.length=w)(hf:de (cj H k) cs=some cs'):cj H (k+1) (.arr 1 n 0 w w)=some (.list 1 cs' .no):=by
 have hl':=DC hf;show(match H.get n with
  |some (.cells cs)=>(cut cs 0 (w*1)).bind fun c=>(de (cj H k) c).bind fun c'=>(fW (!aJ 1 1) 1 w c').bind fun xs=>some (ae.list 1 xs .no)
  |_=>none)=_
 rw[hg];simp only;rw[ZX cs (by omega),bn,hf,bn,<-hl,<-hl'];show(fW false 1 cs'.length cs').bind _=_;rw[Oo];rfl
section
variable{sp:bC}{v u:ae}{a b:List ak}
def ahP(h467:sp 467=none)(hl:aD 1 aF v a)(hu:aD 1 aF u b)(ha:a.length<=2000)(hb:b.length<=2000): ∃v' s',aM (QS sp) 467 [v,u] s0 v' s'/\(dP s'.heap v' (.list 1 ((vw a b).map j7) .no)/\s'.ci=0):=by
 have c1:=hl.aL;have c2:=hu.aL;have n1:=fun mk s=>hl.len dB dH mk s;have hwa:=ig (n:=a.length) (by omega);have hwa2:IntKind.i64.wrap (((a.length:Nat):Int)-1)=((a.length:Nat):Int)-1:=lC (by omega) (by omega);have hmk:=ajI (a.length+1) (by omega) (by omega) s0;refine aM.ofF FG.1 FG.2 FG.3 FG.4 h467 ?_;simp only[ai,aA,bv,bt,aa,ah,aG,aV,bW,dy,ofValue,aX,BM,xO,c1,n1,hwa,GS,hmk];refine ahT hl hu ha hb (n0:=s0.al) ?_ (a.length+1) 0 _ _ (by omega) ⟨?_,fun j hj=>(by omega),rfl⟩ rfl ?_ ?_ ?_ ?_ ?_
 ·intro e s M hci hm h0 h1 h5
  simp only[ai,aA,aa,ah,ofValue,aX,xO,h0,c1,n1,hwa2];refine ahU hl hu ha hb ?_ a.length _ s _ (aU _) M.tab nS.zero hci hm ?_ ?_ ?_ ?_;intro e s T H O hci h5;simp only[ai,aA,aa,ah,reduceCtorEq,h5,zf];refine⟨_,rfl,⟨3,?_⟩,hci⟩;have hout:s.heap.get s0.al=some (.cells ((iv (a.length+1)).map fun i=>.arr 1 (s0.al+1+i) 0 (b.length+1) (b.length+1))):=H.out;refine(Jv hout (by simp) (DD (f':=fun i=>j7 ((iv (b.length+1)).map fun k=>((dW (a.drop i) (b.drop k):Nat):Int))) fun i hi=>?_)).trans ?_;have hi:i<a.length+1:=yP.1 hi;have hrow:s.heap.get (s0.al+1+i)=some (.cells (gW (b.length+1) (T i))):=H.row i hi;refine(Jv (k:=1) hrow (UB _ _) (DD (f':=fun k=>ae.int .i64 (T i k)) fun k _=>rfl)).trans ?_;unfold j7;rw[List.map_map];have e:(iv (b.length+1)).map (fun k=>ae.int .i64 (T i k))=(iv (b.length+1)).map (gu ∘ fun k=>((dW (a.drop i) (b.drop k):Nat):Int)):=CT fun k hk=>by
   show ae.int .i64 (T i k)= .int .i64 _;rw[O.ok i k (by omega) (by have:=yP.1 hk;omega) (by omega)]
  rw[e];unfold vw;rw[List.map_map];rfl
  all_goals simp only[aq,aa,h0,h1,h5]
 rw[cp,bS];rfl;exact jf _
 all_goals simp only[aq,aa]
 rfl
end
variable{b:List ak}
def ahN(h1:aD 1 aF v a)(h2:aD 1 aF u b)(p1:aQ v=true)(p2:aQ u=true)(ha:a.length<=2000)(hb:b.length<=2000):zJ [v,u]=some (.list 1 ((vw a b).map j7) .no):=by
 simp only[ce,zJ,oO h1 p1,oO h2 p2,cu ha,cu hb,cH]
def ahO:cq ar 467 zJ:=by
 refine jC dc.nil fun args u h=>?_;unfold zJ at h;split at h;simp only[az] at h;obtain⟨a,h1,b,h2,h⟩:=h;obtain⟨h3,h⟩:=bm h;simp only[bA,xe] at h3;have h:=sI h;subst h;obtain⟨l1,p1⟩:=oN h1;obtain⟨l2,p2⟩:=oN h2;obtain⟨v',s',r1,r2,r3⟩:=ahP (sp:=fun f=>cI f []) rfl l1 l2 h3.1 h3.2;exact⟨tN p1 p2,v',s',r1,r3,r2⟩;cases h
def Nl:du:=[(467,zJ)]
def WS:dc Nl:=.cons ahO .nil
def Vg{C:List Int}(hg:s.get [] n0=some (.cells (C.map gu)))(hi:i<C.length)(v:Int)(lc:Ag.Loc):nL ar [] 3 (.ptr n0 i) (.int .i64 v) lc s=some (lc,s.put n0 (some (.cells ((C.set i v).map gu)))):=by
 rw[kg,Mt,bn,hg,kf,Dn,MO _ _ _ (by rw[cZ];exact hi),List.map_set];rfl
def Vq(hi:i<=a.length)(hk:k<=b.length): ∃row,(vw a b)[i]? =some row/\row[k]? =some ((dW (a.drop i) (b.drop k):Nat):Int):=by
 unfold vw;refine⟨(iv (b.length+1)).map fun k=>((dW (a.drop i) (b.drop k):Nat):Int),?_,?_⟩;rw[vG,List.getElem?_range (by omega)];rfl;rw[vG,List.getElem?_range (by omega)];rfl
def take_set{C:List Int}{v:Int}(h:i<C.length):(C.set i v).take (i+1)=C.take i++[v]:=by
 rw[List.take_add_one,List.getElem?_set,iP rfl,iP h,List.take_set_of_le (aU _)];rfl
section
variable{sp:bC}{v u:ae}{a b:List ak}
set_option maxRecDepth 4000 in
def aiY(hl:aD 1 aF v a)(hu:aD 1 aF u b)(ha:a.length<=2000)(hb:b.length<=2000)(hx: ∀e s,s.get [] n0=some (.cells ((mR a b 0).map gu))->s.ci=0->aj e 6= .arr 1 n0 0 a.length a.length->K (.exit 0) ⟨e,66,lc⟩ s):
 ∀(m i k:Nat) (e:aI) (s:St) (C:List Int),(a.length-i)+(b.length-k)<=m->i<=a.length->k<=b.length->s.get [] n0=some (.cells (C.map gu))->C.length=a.length->mR a b 0=C.take i++mR (a.drop i) (b.drop k) k->s.ci=0->n0<s.al->s.ge<=s.al->
  aj e 0=v->aj e 1=u->aj e 5= .list 1 ((vw a b).map j7) .no->aj e 6= .arr 1 n0 0 a.length a.length->aj e 7= .int .i64 (i:Nat)->aj e 8= .int .i64 (k:Nat)->W (QS sp) 391 (.loop xV) ⟨e,66,lc⟩ s K:=by
 have c1:=hl.aL;have c2:=hu.aL;have n1:=fun mk s=>hl.len dB dH mk s;have n2:=fun mk s=>hu.len dB dH mk s;have hT:aD 1 j7 (.list 1 ((vw a b).map j7) .no) (vw a b):=.inr ⟨_,rfl⟩;have hR: ∀row:List Int,aD 1 gu (j7 row) row:=fun row=>.inr ⟨_,rfl⟩;have hrc: ∀row:List Int,(j7 row).cells=[j7 row]:=fun row=>rfl;intro m
 induction m with
 |zero=>
  intro i k e s C hmk hi hk hg hC hR' hci hn0 hm h0 h1 h5 h6 h7 h8;have hi':i=a.length:=by omega
  subst hi';refine eh ?_;simp only[ai,aA,aa,ah,xN,xV,h0,h7,c1,n1,cR];refine hx _ s ?_ hci ?_;rw[hg,hR',vD,K4,ii,<-hC,xc];simp only[au,aa,h6]
 |succ m ih=>
  intro i k e s C hmk hi hk hg hC hR' hci hn0 hm h0 h1 h5 h6 h7 h8;by_cases hi':i=a.length;subst hi';refine eh ?_;simp only[ai,aA,aa,ah,xN,xV,h0,h7,c1,n1,cR];refine hx _ s ?_ hci ?_;rw[hg,hR',vD,K4,ii,<-hC,xc];simp only[au,aa,h6];have hlt:i<a.length:=by omega
  have hiC:i<C.length:=by omega
  have a1:a[i]? =some a[i]:=gL hlt;have i1:=fun lc=>hl.at gR a1 lc .i64;have da:a.drop i=a[i]::a.drop (i+1):=vC hlt;have hwi:=ig (n:=i) (by omega);have hwk:=ig (n:=k) (by omega);have st1:=fun lc=>Vg hg hiC (-1) lc;obtain⟨s1,hs1⟩: ∃s1,s.put n0 (some (.cells ((C.set i (-1)).map gu)))=s1:=⟨_,rfl⟩;have hg1:s1.get [] n0=some (.cells ((C.set i (-1)).map gu)):=by rw[<-hs1,bO,bS];rfl
  have hci1:s1.ci=0:=by rw[<-hs1];exact hci
  have hn1:n0<s1.al:=by rw[<-hs1];exact hn0
  have hm1:s1.ge<=s1.al:=by rw[<-hs1];exact ji _ _ _ hm
  rw[hs1] at st1;have hC1:(C.set i (-1)).length=a.length:=by rw[List.length_set,hC]
  refine eh ?_;by_cases hkb:k=b.length
  ·have hq:aK ((k:Nat):Int) ((b.length:Nat):Int)=true:=by rw[hkb];exact qQ _
   simp only[ai,ax,aA,aa,ah,ofValue,aX,xN,xV,h0,h1,h6,h7,h8,c1,c2,n1,n2,hlt,hwi,st1,qG,hq];refine ih (i+1) k _ s1 (C.set i (-1)) (by omega) (by omega) hk hg1 hC1 ?_ hci1 hn1 hm1 ?_ ?_ ?_ ?_ ?_ ?_;rw[hR',take_set hiC,hkb,vD,da,K6,mc];rfl
   all_goals simp only[aq,aa,h0,h1,h5,h6,h7,h8]
  ·have hklt:k<b.length:=by omega
   have b1:b[k]? =some b[k]:=gL hklt;have i2:=fun lc=>hu.at gR b1 lc .i64;have db:b.drop k=b[k]::b.drop (k+1):=vC hklt;have hq:aK ((k:Nat):Int) ((b.length:Nat):Int)=false:=iy (by omega);cases hab:a[i]==b[k] with
   |true=>
    have st2:=fun lc=>Vg hg1 (show i<(C.set i (-1)).length by omega) ((k:Nat):Int) lc;obtain⟨s2,hs2⟩: ∃s2,s1.put n0 (some (.cells (((C.set i (-1)).set i ((k:Nat):Int)).map gu)))=s2:=⟨_,rfl⟩;have hg2:s2.get [] n0=some (.cells (((C.set i (-1)).set i ((k:Nat):Int)).map gu)):=by rw[<-hs2,bO,bS];rfl
    have hci2:s2.ci=0:=by rw[<-hs2];exact hci1
    have hn2:n0<s2.al:=by rw[<-hs2];exact hn1
    have hm2:s2.ge<=s2.al:=by rw[<-hs2];exact ji _ _ _ hm1
    rw[hs2] at st2;simp only[ai,ax,aA,isStore,aN,ay,aa,ah,aG,fD,ei,fp,fk,ofValue,aX,xN,Kx,xV,h0,h1,h6,h7,h8,c1,c2,n1,n2,hlt,hwi,hwk,st1,st2,qG,hq,i1,i2,hm1,aF,hab];refine ih (i+1) (k+1) _ s2 ((C.set i (-1)).set i ((k:Nat):Int)) (by omega) (by omega) (by omega) hg2 (by rw[List.length_set];exact hC1) ?_ hci2 hn2 hm2 ?_ ?_ ?_ ?_ ?_ ?_;rw[hR',List.set_set,take_set hiC,da,db,B4,hab,cT,mc];rfl
    all_goals simp only[aq,aa,h0,h1,h5,h6,h7,h8]
   |false=>
    obtain⟨r1,t1,t2⟩:=Vq (a:=a) (b:=b) (i:=i+1) (k:=k) (by omega) (by omega);obtain⟨r2,t3,t4⟩:=Vq (a:=a) (b:=b) (i:=i) (k:=k) (by omega) (by omega);have j1:=fun lc=>hT.at PW t1 lc .i64;have j2:=fun lc=>(hR r1).at BC t2 lc .i64;have j3:=fun lc=>hT.at PW t3 lc .i64;have j4:=fun lc=>(hR r2).at BC t4 lc .i64;have kr: ∀row:List Int,(j7 row).aL=true:=fun row=>rfl;have hcmp:aK ((dW (a.drop (i+1)) (b.drop k):Nat):Int) ((dW (a.drop i) (b.drop k):Nat):Int)=aJ (dW (a.drop (i+1)) (b.drop k)) (dW (a.drop i) (b.drop k)):=by rw[o8,fe]
    have hcmp2:aJ (dW (a.drop (i+1)) (b[k]::b.drop (k+1))) (dW (a[i]::a.drop (i+1)) (b[k]::b.drop (k+1)))=aJ (dW (a.drop (i+1)) (b.drop k)) (dW (a.drop i) (b.drop k)):=by rw[<-da,<-db]
    cases hbq:aJ (dW (a.drop (i+1)) (b.drop k)) (dW (a.drop i) (b.drop k)) with
    |true=>
     rw[hbq] at hcmp hcmp2;simp only[ai,ax,aA,isStore,aN,ay,aa,ah,aG,fD,ei,fp,fk,ofValue,aX,LY,xN,Kx,Rm,xV,h0,h1,h5,h6,h7,h8,c1,c2,n1,n2,hlt,hwi,st1,qG,hq,i1,i2,j1,j2,j3,j4,hrc,gu,hm1,aF,hab,hcmp];refine ih (i+1) k _ s1 (C.set i (-1)) (by omega) (by omega) hk hg1 hC1 ?_ hci1 hn1 hm1 ?_ ?_ ?_ ?_ ?_ ?_;rw[hR',take_set hiC,da,db,B4,hab,cF,hcmp2,cT,mc,<-db];rfl
     all_goals simp only[aq,aa,h0,h1,h5,h6,h7,h8]
    |false=>
     rw[hbq] at hcmp hcmp2;simp only[ai,ax,aA,isStore,aN,ay,aa,ah,aG,fD,ei,fp,fk,ofValue,aX,LY,xN,Kx,Rm,xV,h0,h1,h5,h6,h7,h8,c1,c2,n1,n2,hlt,hwi,hwk,st1,qG,hq,i1,i2,j1,j2,j3,j4,hrc,gu,hm1,aF,hab,hcmp];refine ih i (k+1) _ s1 (C.set i (-1)) (by omega) (by omega) (by omega) hg1 hC1 ?_ hci1 hn1 hm1 ?_ ?_ ?_ ?_ ?_ ?_;rw[hR',List.take_set_of_le (aU _)];congr 1;rw[da,db,B4,hab,cF,hcmp2,cF]
     all_goals simp only[aq,aa,h0,h1,h5,h6,h7,h8]
end
section
variable{sp:bC}{v u:ae}{a b:List ak}
def aiV(h391:sp 391=none)(h467:sp 467=some zJ)(hl:aD 1 aF v a)(hu:aD 1 aF u b)(p1:aQ v=true)(p2:aQ u=true)(ha:a.length<=2000)(hb:b.length<=2000): ∃v' s',aM (QS sp) 391 [v,u] s0 v' s'/\(dP s'.heap v' (j7 (mR a b 0))/\s'.ci=0):=by
 have c1:=hl.aL;have c2:=hu.aL;have n1:=fun mk s=>hl.len dB dH mk s;have q1:=ahN hl hu p1 p2 ha hb;have hmk:=SZ a.length (by omega) s0;have kc: ∀l,(ae.list 1 l .no).aL=true:=fun l=>rfl;refine aM.ofF Fu.1 Fu.2 Fu.3 Fu.4 h391 ?_;simp only[ai,aA,bv,bt,aa,ah,aG,aV,bW,dy,ofValue,aX,Kw,xN,c1,c2,n1,h467,q1,GS,hmk];refine aiY hl hu ha hb (n0:=s0.al) ?_ (a.length+b.length) 0 0 _ _ (ui a.length 0) (by omega) (cV _) (cV _) ?_ (List.length_replicate) (by rw[List.take_zero];rfl) rfl (Nat.lt_succ_self _) (jf _) ?_ ?_ ?_ ?_ ?_ ?_;intro e s hg hci h6;simp only[ai,aA,aa,ah,reduceCtorEq,h6,zf];refine⟨_,rfl,⟨2,?_⟩,hci⟩;have hg:s.heap.get s0.al=some (.cells ((mR a b 0).map gu)):=hg;exact Jv (k:=1) hg (by rw[cZ,B5]) (DD (f:=gu) (f':=gu) fun k _=>rfl);rw[cp,bS];show some (bf.cells (gW a.length fun _=>0))=_;have e:gW a.length (fun _=>0)=(ui a.length 0).map gu:=by
  unfold gW;refine List.ext_getElem (by simp) fun j h1 h2=>?_;simp[gu]
 rw[e]
 all_goals simp only[aq,aa]
 all_goals rfl
end
def SI(h1:aD 1 aF v a)(h2:aD 1 aF u b)(p1:aQ v=true)(p2:aQ u=true)(ha:a.length<=2000)(hb:b.length<=2000):zQ [v,u]=some (j7 (mR a b 0)):=by
 simp only[ce,zQ,oO h1 p1,oO h2 p2,cu ha,cu hb,cH]
def aiU:cq ar 391 zQ:=by
 refine jC WS fun args u h=>?_;unfold zQ at h;split at h;simp only[az] at h;obtain⟨a,h1,b,h2,h⟩:=h;obtain⟨h3,h⟩:=bm h;simp only[bA,xe] at h3;have h:=sI h;subst h;obtain⟨l1,p1⟩:=oN h1;obtain⟨l2,p2⟩:=oN h2;obtain⟨v',s',r1,r2,r3⟩:=aiV (sp:=fun f=>cI f Nl) rfl rfl l1 l2 p1 p2 h3.1 h3.2;exact⟨tN p1 p2,v',s',r1,r3,r2⟩;cases h
def xr{y:ae}{l r:List ak}(hO:cE 1 lo s ov (l.map aF))(hy:aD 1 aF y r)(hlen:l.length+r.length<=1000000)(hlo:lo<=s.al)(hm:s.ge<=s.al):
 ∃ov' s',hG ar [] 25 ov y false s=some (ov',s')/\cE 1 lo s' ov' ((l++r).map aF)/\s'.ci=s.ci/\lo<=s'.al/\s'.ge<=s'.al/\ov'.aL=true:=by
 obtain⟨ov',s',h1,h2,h3,h4,h5,_,_⟩:=tf (t:=25) qM rfl (by decide) (s:=s) hO (qk hy _ _) (by rw[cZ,cZ];exact hlen) hlo hm;exact⟨ov',s',h1,by rw[je];exact h2,h3,by omega,h5,h2.aL⟩
noncomputable def Kp:SC:=(.seq (.draw agb Kr) (.seq (.seq (.region agc) (.cond (aR 87) (.region agd) (.seq (.region age) (.cond (aR 98) (.region agf) (.seq (.region agh) .ret))))) (.seq (.seq (.region agi) (.cond (aR 105) (.region agj) .skip)) (.region agk))))
def E7:E6=(.seq (.seq (.region agl) (.cond (aR 42) .skip (.exit 0))) (.seq (.block 1 (.seq (.region af7) (.seq (.seq (.region af8) (.cond (aR 52) (.seq (.seq (.region af9) (.cond (aR 64) (.exit 1) .skip)) (.draw aga Kq)) .skip)) Kp))) (.region agm))):=rfl
structure C5 (vb vo vt:ae) (b o t:List ak) (i j k:Nat) (ov:ae) (e:aI):Prop where
 h0:aj e 0=vb
 h1:aj e 1=vo
 h2:aj e 2=vt
 h8:aj e 8=j7 (mR b o 0)
 h9:aj e 9=j7 (mR b t 0)
 h10:aj e 10=ov
 h11:aj e 11= .int .i64 (i:Nat)
 h12:aj e 12= .int .i64 (j:Nat)
 h13:aj e 13= .int .i64 (k:Nat)
variable{acc:List ak}{j:Nat}{R:Option (List ak)}
section
variable{sp:bC}
set_option maxRecDepth 4000 in
def aji(h392:sp 392=some wQ){o t:List ak}(hb:aD 1 aF vb b)(ho:aD 1 aF vo o)(ht:aD 1 aF vt t)(pb:aQ vb=true)(po:aQ vo=true)(pt:aQ vt=true)(sb:b.length<=2000)(so:o.length<=2000)(st:t.length<=2000){p:Nat}{L:List (Nat×Nat×Nat)}(hpl:p<=b.length)(hrise:nT b.length o.length t.length i j k L)(hRR:R=j8 b o t L i j k acc)(hacc:acc.length<=i+(j+k))(hi2:i<=2001)(hj2:j<=2001)(hk2:k<=2001)(hO:cE 1 lo s ov (acc.map aF))(hci:s.ci=0)(hlo:lo<=s.al)(hm:s.ge<=s.al):
 ∀(q r:Nat) (l:List (Nat×Nat×Nat)),L=(p,q,r)::l->(p+1<=b.length->l=lq b o t (p+1))->(p+1=b.length+1->l=[])->q<=2000->r<=2000-> ∀(e:aI) (K':Ex->Fr->St->Prop),aj e 0=vb->aj e 1=vo->aj e 2=vt->aj e 8=j7 (mR b o 0)->aj e 9=j7 (mR b t 0)->aj e 10=ov->aj e 11= .int .i64 (i:Nat)->aj e 12= .int .i64 (j:Nat)->aj e 13= .int .i64 (k:Nat)->aj e 14= .int .i64 (p:Nat)->aj e 15= .int .i64 (q:Nat)->aj e 16= .int .i64 (r:Nat)->
  (∀e s',R=none->s'.ci=0->aj e 6= .AL->aj e 7= .bool false->K' .ret ⟨e,120,lc⟩ s')->
  (∀e s' ov' acc',cE 1 lo s' ov' (acc'.map aF)->acc'.length<=(p+1)+((q+1)+(r+1))->R=j8 b o t l (p+1) (q+1) (r+1) acc'->s'.ci=0->lo<=s'.al->s'.ge<=s'.al->C5 vb vo vt b o t (p+1) (q+1) (r+1) ov' e->aj e 14= .int .i64 (p:Nat)->K' .normal ⟨e,120,lc⟩ s')->
  WF (QS sp) 288 Kp ⟨e,120,lc⟩ s K':=by
 have c0:=hb.aL;have c1:=ho.aL;have c2:=ht.aL;have n0:=fun mk s=>hb.len dB dH mk s;have n1:=fun mk s=>ho.len dB dH mk s;have n2:=fun mk s=>ht.len dB dH mk s;have hwp:=ig (n:=p) (by omega);have hoc:=hO.aL;intro q r l hLl hl1 hl2 hq2 hr2 e K' h0 h1 h2 h8 h9 h10 h11 h12 h13 h14 h15 h16 kn kk;unfold Kp;rw[hLl] at hrise hRR;cases hrise with
 |cons x1 x2 x3 x4 x5 x6 x7=>
 obtain⟨va,sa,la,pa⟩:=yz MA Ms hb (lo:=i) (hi:=p) x1 x4;obtain⟨vd,sd,ld,pd⟩:=yz MA Ms ho (lo:=j) (hi:=q) x2 x5;obtain⟨vc,sc,lcc,pc⟩:=yz MA Ms ht (lo:=k) (hi:=r) x3 x6;rw[List.drop_take] at la ld lcc;have pa:=pa pb;have pd:=pd po;have pc:=pc pt;have sa': ∀env s,aj env 74= .int .i64 (i:Nat)->aj env 75= .int .i64 (p:Nat)->ib ar [] 25 vb (some (.tmp 74)) (some (.tmp 75)) none env s=some va:=fun env s y z=>sa env s _ _ (tG (by rw[bq,z])) (tG (by rw[bq,y]));have sd': ∀env s,aj env 78= .int .i64 (j:Nat)->aj env 79= .int .i64 (q:Nat)->ib ar [] 25 vo (some (.tmp 78)) (some (.tmp 79)) none env s=some vd:=fun env s y z=>sd env s _ _ (tG (by rw[bq,z])) (tG (by rw[bq,y]));have sc': ∀env s,aj env 82= .int .i64 (k:Nat)->aj env 83= .int .i64 (r:Nat)->ib ar [] 25 vt (some (.tmp 82)) (some (.tmp 83)) none env s=some vc:=fun env s y z=>sc env s _ _ (tG (by rw[bq,z])) (tG (by rw[bq,y]));have ka:=la.aL;have kd:=ld.aL;have kc:=lcc.aL;have e1:((b.drop i).take (p-i)).length<=1000000:=by rw[oG,List.length_drop];omega
 have e2:((o.drop j).take (q-j)).length<=q-j:=by rw[oG];omega
 have e3:((t.drop k).take (r-k)).length<=r-k:=by rw[oG];omega
 have q1:=Ma la ld pa pd e1;have q2:=Ma la lcc pa pc e1;have q3:=Ma ld lcc pd pc (by omega);have hwq:=ig (n:=q) (by omega);have hwr:=ig (n:=r) (by omega);have hRR:R=match lg ((b.drop i).take (p-i)) ((o.drop j).take (q-j)) ((t.drop k).take (r-k)) with
  |none=>none
  |some part=>j8 b o t l (p+1) (q+1) (r+1) (acc++part++jG b p):=hRR
 have fin: ∀(e:aI) (s':St) (ov':ae) (part:List ak),lg ((b.drop i).take (p-i)) ((o.drop j).take (q-j)) ((t.drop k).take (r-k))=some part->part.length<=(q-j)+(r-k)->cE 1 lo s' ov' ((acc++part++jG b p).map aF)->s'.ci=0->lo<=s'.al->s'.ge<=s'.al->C5 vb vo vt b o t (p+1) (q+1) (r+1) ov' e->aj e 14= .int .i64 (p:Nat)->K' .normal ⟨e,120,lc⟩ s':=fun e s' ov' part hc hpl o1 y1 y2 y3 I' y4=>
  kk e s' ov' _ o1 (by
   have:=KJ b p;simp only[dX];omega) (by rw[hRR,hc]) y1 y2 y3 I' y4
 generalize hA:(b.drop i).take (p-i)=A at*;generalize hD:(o.drop j).take (q-j)=D at*;generalize hC:(t.drop k).take (r-k)=C at*;have comm: ∀x y:List ak,(x==y)=(y==x):=fun x y=>by rw[yK,bE,bE];exact eq_comm
 have hbs: ∀(x:ak) e s,aj e 110= .str x->cx ar 25 1 [(0,.tmp 110)] false e s=some (.list 1 [.str x] .GE,s):=fun x e s y=>A7 (by rw[bq,y]) s;have one: ∀(part:List ak) (y:ae),aD 1 aF y part->part.length<=(q-j)+(r-k)-> ∃ov1 s1,hG ar [] 25 ov y false s=some (ov1,s1)/\cE 1 lo s1 ov1 ((acc++part).map aF)/\s1.ci=s.ci/\lo<=s1.al/\s1.ge<=s1.al/\ov1.aL=true:=fun part y hy hpl=>xr hO hy (by omega) hlo hm;by_cases hpe:p=b.length
 ·have hlt: ¬p<b.length:=by omega
  have hlast:jG b p=[]:=by unfold jG;rw[List.getElem?_eq_none (by omega)]
  cases z1:A==D with
  |true=>
   rw[z1] at q1;obtain⟨ov1,s1,ap1,o1,ci1,lo1,m1,k1⟩:=one C vc lcc (by omega);simp only[ai,ax,aA,isStore,aN,ay,aa,ah,aG,fD,ei,fp,fk,ofValue,aX,r9,wu,h0,h1,h2,h10,h11,h12,h13,h14,h15,h16,c0,c1,c2,n0,hm,sa',sd',sc',ka,kd,kc,h392,hlt,hwp,hwq,hwr,hoc,q1,ap1];refine fin _ s1 ov1 C (by unfold lg;rw[comm D A,z1];rfl) (by omega) (by rw[hlast,ii];exact o1) (by rw[ci1];exact hci) lo1 m1 ⟨?_,?_,?_,?_,?_,?_,?_,?_,?_⟩ ?_
   all_goals simp only[aq,aa,h0,h1,h2,h8,h9,h10,h11,h12,h13,h14]
  |false=>
   rw[z1] at q1;cases z2:A==C with
   |true=>
    rw[z2] at q2;obtain⟨ov1,s1,ap1,o1,ci1,lo1,m1,k1⟩:=one D vd ld (by omega);simp only[ai,ax,aA,isStore,aN,ay,aa,ah,aG,fD,ei,fp,fk,ofValue,aX,r9,wu,h0,h1,h2,h10,h11,h12,h13,h14,h15,h16,c0,c1,c2,n0,hm,sa',sd',sc',ka,kd,kc,h392,hlt,hwp,hwq,hwr,hoc,q1,q2,ap1];refine fin _ s1 ov1 D (by unfold lg;rw[comm D A,z1,comm C A,z2];rfl) (by omega) (by rw[hlast,ii];exact o1) (by rw[ci1];exact hci) lo1 m1 ⟨?_,?_,?_,?_,?_,?_,?_,?_,?_⟩ ?_
    all_goals simp only[aq,aa,h0,h1,h2,h8,h9,h10,h11,h12,h13,h14]
   |false=>
    rw[z2] at q2;cases z3:D==C with
    |true=>
     rw[z3] at q3;obtain⟨ov1,s1,ap1,o1,ci1,lo1,m1,k1⟩:=one D vd ld (by omega);simp only[ai,ax,aA,isStore,aN,ay,aa,ah,aG,fD,ei,fp,fk,ofValue,aX,r9,wu,h0,h1,h2,h10,h11,h12,h13,h14,h15,h16,c0,c1,c2,n0,hm,sa',sd',sc',ka,kd,kc,h392,hlt,hwp,hwq,hwr,hoc,q1,q2,q3,ap1];refine fin _ s1 ov1 D (by unfold lg;rw[comm D A,z1,comm C A,z2,comm C D,z3];rfl) (by omega) (by rw[hlast,ii];exact o1) (by rw[ci1];exact hci) lo1 m1 ⟨?_,?_,?_,?_,?_,?_,?_,?_,?_⟩ ?_
     all_goals simp only[aq,aa,h0,h1,h2,h8,h9,h10,h11,h12,h13,h14]
    |false=>
     rw[z3] at q3;simp only[ai,aA,isStore,aN,ay,aa,ah,aG,fD,ei,fp,fk,ofValue,aX,wu,h0,h1,h2,h11,h12,h13,h14,h15,h16,c0,c1,c2,hm,sa',sd',sc',ka,kd,kc,h392,q1,q2,q3];refine kn _ s ?_ hci ?_ ?_;rw[hRR];have:lg A D C=none:=by unfold lg;rw[comm D A,z1,comm C A,z2,comm C D,z3];rfl
     rw[this];simp only[aq,aa];simp only[aq,aa]
 ·have hlt:p<b.length:=by omega
  have bp:b[p]? =some b[p]:=gL hlt;have hlast:jG b p=[b[p]]:=by unfold jG;rw[bp]
  have i1:=fun lc=>hb.at gR bp lc .i64;have hbs:=hbs b[p];cases z1:A==D with
  |true=>
   rw[z1] at q1;obtain⟨ov1,s1,ap1,o1,ci1,lo1,m1,k1⟩:=one C vc lcc (by omega);obtain⟨ov2,s2,ap2,o2,ci2,lo2,m2,k2⟩:=xr o1 (y:=.list 1 [.str b[p]] .GE) (r:=[b[p]]) (.inr ⟨_,rfl⟩) (by simp only[cK];omega) lo1 m1;simp only[ai,ax,aA,isStore,aN,ay,aa,ah,aG,fD,ei,fp,fk,ofValue,aX,r9,wu,h0,h1,h2,h10,h11,h12,h13,h14,h15,h16,c0,c1,c2,n0,hm,sa',sd',sc',ka,kd,kc,h392,hlt,hwp,hwq,hwr,hoc,q1,ap1,k1,i1,aF,hbs,ap2];refine fin _ s2 ov2 C (by unfold lg;rw[comm D A,z1];rfl) (by omega) (by rw[hlast];exact o2) (by rw[ci2,ci1];exact hci) lo2 m2 ⟨?_,?_,?_,?_,?_,?_,?_,?_,?_⟩ ?_
   all_goals simp only[aq,aa,h0,h1,h2,h8,h9,h10,h11,h12,h13,h14]
  |false=>
   rw[z1] at q1;cases z2:A==C with
   |true=>
    rw[z2] at q2;obtain⟨ov1,s1,ap1,o1,ci1,lo1,m1,k1⟩:=one D vd ld (by omega);obtain⟨ov2,s2,ap2,o2,ci2,lo2,m2,k2⟩:=xr o1 (y:=.list 1 [.str b[p]] .GE) (r:=[b[p]]) (.inr ⟨_,rfl⟩) (by simp only[cK];omega) lo1 m1;simp only[ai,ax,aA,isStore,aN,ay,aa,ah,aG,fD,ei,fp,fk,ofValue,aX,r9,wu,h0,h1,h2,h10,h11,h12,h13,h14,h15,h16,c0,c1,c2,n0,hm,sa',sd',sc',ka,kd,kc,h392,hlt,hwp,hwq,hwr,hoc,q1,q2,ap1,k1,i1,aF,hbs,ap2];refine fin _ s2 ov2 D (by unfold lg;rw[comm D A,z1,comm C A,z2];rfl) (by omega) (by rw[hlast];exact o2) (by rw[ci2,ci1];exact hci) lo2 m2 ⟨?_,?_,?_,?_,?_,?_,?_,?_,?_⟩ ?_
    all_goals simp only[aq,aa,h0,h1,h2,h8,h9,h10,h11,h12,h13,h14]
   |false=>
    rw[z2] at q2;cases z3:D==C with
    |true=>
     rw[z3] at q3;obtain⟨ov1,s1,ap1,o1,ci1,lo1,m1,k1⟩:=one D vd ld (by omega);obtain⟨ov2,s2,ap2,o2,ci2,lo2,m2,k2⟩:=xr o1 (y:=.list 1 [.str b[p]] .GE) (r:=[b[p]]) (.inr ⟨_,rfl⟩) (by simp only[cK];omega) lo1 m1;simp only[ai,ax,aA,isStore,aN,ay,aa,ah,aG,fD,ei,fp,fk,ofValue,aX,r9,wu,h0,h1,h2,h10,h11,h12,h13,h14,h15,h16,c0,c1,c2,n0,hm,sa',sd',sc',ka,kd,kc,h392,hlt,hwp,hwq,hwr,hoc,q1,q2,q3,ap1,k1,i1,aF,hbs,ap2];refine fin _ s2 ov2 D (by unfold lg;rw[comm D A,z1,comm C A,z2,comm C D,z3];rfl) (by omega) (by rw[hlast];exact o2) (by rw[ci2,ci1];exact hci) lo2 m2 ⟨?_,?_,?_,?_,?_,?_,?_,?_,?_⟩ ?_
     all_goals simp only[aq,aa,h0,h1,h2,h8,h9,h10,h11,h12,h13,h14]
    |false=>
     rw[z3] at q3;simp only[ai,aA,isStore,aN,ay,aa,ah,aG,fD,ei,fp,fk,ofValue,aX,wu,h0,h1,h2,h11,h12,h13,h14,h15,h16,c0,c1,c2,hm,sa',sd',sc',ka,kd,kc,h392,q1,q2,q3];refine kn _ s ?_ hci ?_ ?_;rw[hRR];have:lg A D C=none:=by unfold lg;rw[comm D A,z1,comm C A,z2,comm C D,z3];rfl
     rw[this];simp only[aq,aa];simp only[aq,aa]
set_option maxRecDepth 4000 in
def ajj(h392:sp 392=some wQ){o t:List ak}(hb:aD 1 aF vb b)(ho:aD 1 aF vo o)(ht:aD 1 aF vt t)(pb:aQ vb=true)(po:aQ vo=true)(pt:aQ vt=true)(sb:b.length<=2000)(so:o.length<=2000)(st:t.length<=2000)(hx: ∀e s ov acc,R=some acc->cE 1 lo s ov (acc.map aF)->s.ci=0->aj e 10=ov->K (.exit 0) ⟨e,120,lc⟩ s)(hr: ∀e s,R=none->s.ci=0->aj e 6= .AL->aj e 7= .bool false->K .ret ⟨e,120,lc⟩ s):
 ∀(m p i j k:Nat) (e:aI) (s:St) (ov:ae) (acc:List ak) (L:List (Nat×Nat×Nat)),m+p=b.length+1->(p<=b.length->L=lq b o t p)->(p=b.length+1->L=[])->nT b.length o.length t.length i j k L->R=j8 b o t L i j k acc->acc.length<=i+(j+k)->i<=2001->j<=2001->k<=2001->
  cE 1 lo s ov (acc.map aF)->s.ci=0->lo<=s.al->s.ge<=s.al->C5 vb vo vt b o t i j k ov e->aj e 14= .int .i64 (p:Nat)->W (QS sp) 288 (.loop E6) ⟨e,120,lc⟩ s K:=by
 have c0:=hb.aL;have c1:=ho.aL;have c2:=ht.aL;have n0:=fun mk s=>hb.len dB dH mk s;have n1:=fun mk s=>ho.len dB dH mk s;have n2:=fun mk s=>ht.len dB dH mk s;have hR: ∀row:List Int,aD 1 gu (j7 row) row:=fun row=>.inr ⟨_,rfl⟩;have kr: ∀row:List Int,(j7 row).aL=true:=fun row=>rfl;intro m
 induction m with
 |zero=>
  intro p i j k e s ov acc L hmp hL hL2 hrise hRR hacc hi2 hj2 hk2 hO hci hlo hm I h14;have hp:p=b.length+1:=by omega
  subst hp;have hle:ec ((b.length+1:Nat):Int) ((b.length:Nat):Int)=false:=by rw[lj];exact dN (by omega)
  have h0:=I.h0;refine eh ?_;simp only[ai,aA,aa,ah,r9,E6,h0,h14,c0,n0,hle];refine hx _ s ov acc (by rw[hRR,hL2 rfl];rfl) hO hci ?_;simp only[au,aa,I.h10]
 |succ m ih=>
  intro p i j k e s ov acc L hmp hL hL2 hrise hRR hacc hi2 hj2 hk2 hO hci hlo hm I h14;have hpl:p<=b.length:=by omega
  have hle:ec ((p:Nat):Int) ((b.length:Nat):Int)=true:=by rw[lj];exact dQ hpl
  have hwp:=ig (n:=p) (by omega);obtain⟨h0,h1,h2,h8,h9,h10,h11,h12,h13⟩:=I;have hoc:=hO.aL;have hL:=hL hpl;have body:=aji (sp:=sp) h392 hb ho ht pb po pt sb so st (R:=R) (lo:=lo) (lc:=lc) (hpl:=hpl) (hrise:=hrise) (hRR:=hRR) (hacc:=hacc) hi2 hj2 hk2 hO hci hlo hm;refine eh ?_;by_cases hpe:p=b.length
  ·have hlt: ¬p<b.length:=by omega
   simp only[ai,aA,aa,ah,r9,E7,h0,h1,h2,h14,c0,c1,c2,n0,n1,n2,hle,hlt];refine body o.length t.length [] (by rw[hL,hpe];exact amL) (fun h=>by omega) (fun _=>rfl) so st _ _ ?_ ?_ ?_ ?_ ?_ ?_ ?_ ?_ ?_ ?_ ?_ ?_ ?_ ?_
   case refine_13=>
    intro e' s' hn hci' h6 h7;simp only[u7,uA, ];exact hr _ s' hn hci' h6 h7
   case refine_14=>
    intro e' s' ov' acc' o1 ha1 hR1 hci' hlo' hm' I' h14';simp only[ai,aA,aa,ah,ofValue,aX,h14',hwp];refine ih (p+1) (p+1) (o.length+1) (t.length+1) _ s' ov' acc' [] (by omega) (fun h=>by omega) (fun _=>rfl) .nil hR1 ha1 (by omega) (by omega) (by omega) o1 hci' hlo' hm' ⟨?_,?_,?_,?_,?_,?_,?_,?_,?_⟩ ?_
    all_goals simp only[aq,aa,I'.h0,I'.h1,I'.h2,I'.h8,I'.h9,I'.h10,I'.h11,I'.h12,I'.h13]
   all_goals simp only[aq,aa,h0,h1,h2,h8,h9,h10,h11,h12,h13,h14]
  ·have hlt:p<b.length:=by omega
   have m1:=Sy (a:=b) (b:=o) sb hlt;have m2:=Sy (a:=b) (b:=t) sb hlt;have j1:=fun lc=>(hR (mR b o 0)).at BC m1 lc .i64;have j2:=fun lc=>(hR (mR b t 0)).at BC m2 lc .i64;have hneg:bG (-1) 0=true:=rfl;have hpos: ∀n:Nat,bG ((n:Nat):Int) 0=false:=fun n=>by rw[show(0:Int)=((0:Nat):Int) from rfl,im];simp
   have skip:lq b o t p=lq b o t (p+1)-> ∀e',C5 vb vo vt b o t i j k ov e'->aj e' 14= .int .i64 ((p+1:Nat):Int)->W (QS sp) 288 (.loop E6) ⟨e',120,lc⟩ s K:=fun hs e' I' h14'=>
    ih (p+1) i j k e' s ov acc L (by omega) (fun _=>by rw[hL];exact hs) (fun h=>by omega) hrise hRR hacc hi2 hj2 hk2 hO hci hlo hm I' h14'
   cases hq:e7 p (jx b o) with
   |none=>
    rw[hq] at j1;simp only[xu] at j1;simp only[ai,ax,aA,ay,aa,ah,ofValue,aX,r9,E7,h0,h1,h2,h8,h14,c0,c1,c2,n0,n1,n2,hle,hlt,j1,gu,hneg,hwp];refine skip (Uu (.inl hq)) _ ⟨?_,?_,?_,?_,?_,?_,?_,?_,?_⟩ ?_
    all_goals simp only[aq,aa,h0,h1,h2,h8,h9,h10,h11,h12,h13]
   |some q=>
    rw[hq] at j1;simp only[xu] at j1;cases hr':e7 p (jx b t) with
    |none=>
     rw[hr'] at j2;simp only[xu] at j2;simp only[ai,ax,aA,ay,aa,ah,ofValue,aX,r9,E7,h0,h1,h2,h8,h9,h14,c0,c1,c2,n0,n1,n2,hle,hlt,j1,j2,gu,hneg,hpos,hwp];refine skip (Uu (.inr hr')) _ ⟨?_,?_,?_,?_,?_,?_,?_,?_,?_⟩ ?_
     all_goals simp only[aq,aa,h0,h1,h2,h8,h9,h10,h11,h12,h13]
    |some r=>
     rw[hr'] at j2;simp only[xu] at j2;have hLl:L=(p,q,r)::lq b o t (p+1):=by rw[hL];exact amM hq hr'
     have hb5:q<=o.length/\r<=t.length:=by
      rw[hLl] at hrise;cases hrise with
      |cons x1 x2 x3 x4 x5 x6 x7=>exact⟨x5,x6⟩
     have hrise':nT b.length o.length t.length (p+1) (q+1) (r+1) (lq b o t (p+1)):=by
      rw[hLl] at hrise;cases hrise with
      |cons x1 x2 x3 x4 x5 x6 x7=>exact x7
     simp only[ai,ax,aA,isStore,aN,ay,aa,ah,aG,fD,ei,fp,fk,ofValue,aX,r9,af6,E7,h0,h1,h2,h8,h9,h14,c0,c1,c2,n0,n1,n2,hle,hlt,j1,j2,gu,hpos,hm];refine body q r (lq b o t (p+1)) hLl (fun _=>rfl) (fun h=>by omega) (by omega) (by omega) _ _ ?_ ?_ ?_ ?_ ?_ ?_ ?_ ?_ ?_ ?_ ?_ ?_ ?_ ?_
     case refine_13=>
      intro e' s' hn hci' h6 h7;simp only[u7,uA, ];exact hr _ s' hn hci' h6 h7
     case refine_14=>
      intro e' s' ov' acc' o1 ha1 hR1 hci' hlo' hm' I' h14';simp only[ai,aA,aa,ah,ofValue,aX,h14',hwp];refine ih (p+1) (p+1) (q+1) (r+1) _ s' ov' acc' (lq b o t (p+1)) (by omega) (fun _=>rfl) (fun h=>by omega) hrise' hR1 ha1 (by omega) (by omega) (by omega) o1 hci' hlo' hm' ⟨?_,?_,?_,?_,?_,?_,?_,?_,?_⟩ ?_
      all_goals simp only[aq,aa,I'.h0,I'.h1,I'.h2,I'.h8,I'.h9,I'.h10,I'.h11,I'.h12,I'.h13]
     all_goals simp only[aq,aa,h0,h1,h2,h8,h9,h10,h11,h12,h13,h14]
end
section
variable{sp:bC}
def ajk(h288:sp 288=none)(h390:sp 390=some Av)(h391:sp 391=some zQ)(h392:sp 392=some wQ){o t:List ak}(hb:aD 1 aF vb b)(ho:aD 1 aF vo o)(ht:aD 1 aF vt t)(pb:aQ vb=true)(po:aQ vo=true)(pt:aQ vt=true):
 ∃v' s',aM (QS sp) 288 [vb,vo,vt] s0 v' s'/\(dP s'.heap v' (pq (jB b o t))/\s'.ci=0):=by
 have c0:=hb.aL;have c1:=ho.aL;have c2:=ht.aL;have q0:=Me hb pb;have q1:=Me ho po;have q2:=Me ht pt;refine aM.ofF E5.1 E5.2 E5.3 E5.4 h288 ?_;have hno:mN [b,o,t]=true->dP s0.heap (.tup [.AL,.bool false]) (pq (jB b o t)):=fun h=>by
  unfold jB;rw[h];exact⟨2,rfl⟩
 have hlong:mN [b,o,t]=(i9 b||(i9 o||(i9 t||false))):=rfl;cases l0:i9 b with
 |true=>
  rw[l0] at q0;simp only[ai,aA,bv,bt,aa,ah,aG,aV,reduceCtorEq,bW,dy,ofValue,aX,zH,c0,h390,q0];exact⟨_,rfl,hno (by rw[hlong,l0];rfl),rfl⟩
 |false=>
 rw[l0] at q0;cases l1:i9 o with
 |true=>
  rw[l1] at q1;simp only[ai,aA,bv,bt,aa,ah,aG,aV,reduceCtorEq,bW,dy,ofValue,aX,zH,c0,c1,h390,q0,q1];exact⟨_,rfl,hno (by rw[hlong,l0,l1];rfl),rfl⟩
 |false=>
 rw[l1] at q1;cases l2:i9 t with
 |true=>
  rw[l2] at q2;simp only[ai,aA,bv,bt,aa,ah,aG,aV,reduceCtorEq,bW,dy,ofValue,aX,zH,c0,c1,c2,h390,q0,q1,q2];exact⟨_,rfl,hno (by rw[hlong,l0,l1,l2];rfl),rfl⟩
 |false=>
 rw[l2] at q2;have sl: ∀ {l:List ak},i9 l=false->l.length<=2000:=fun h=>by
  unfold i9 at h
  have:=of_decide_eq_false h;omega
 have sb:=sl l0;have so:=sl l1;have st:=sl l2;have m1:=SI hb ho pb po sb so;have m2:=SI hb ht pb pt sb st;have kr: ∀row:List Int,(j7 row).aL=true:=fun row=>rfl;have hR:jB b o t=j8 b o t (lq b o t 0) 0 0 0 []:=by
  unfold jB CB;rw[hlong,l0,l1,l2,Uv];rfl
 simp only[ai,aA,bv,bt,aa,ah,aG,aV,bW,dy,ofValue,aX,zH,c0,c1,c2,h390,q0,q1,q2,h391,m1,m2];refine ajj (R:=jB b o t) (lo:=0) h392 hb ho ht pb po pt sb so st ?_ ?_ (b.length+1) 0 0 0 0 _ s0 .AL [] (lq b o t 0) rfl (fun _=>rfl) (fun h=>by omega) ?_ hR (aU _) (cV _) (cV _) (cV _) (.inl ⟨rfl,rfl⟩) rfl (cV _) (aU _) ⟨?_,?_,?_,?_,?_,?_,?_,?_,?_⟩ ?_;intro e s ov acc hacc hO hci h10;have hoc:=hO.aL;simp only[ai,aA,aa,ah,reduceCtorEq,ofValue,aX,h10,hoc];exact⟨_,rfl,by rw[hacc];exact Pp hO,hci⟩;intro e s hn hci h6 h7;simp only[ai,aA,reduceCtorEq,h6,h7];exact⟨_,rfl,by rw[hn];exact⟨2,rfl⟩,hci⟩;rw[Uv];exact Io b o t
 all_goals simp only[aq,aa]
 all_goals rfl
end
def Nr:du:=[(390,Av),(391,zQ),(392,wQ)]
def W0:dc Nr:=.cons anF (.cons aiU (.cons ano .nil))
def ajg{o t:List ak}(hb:aD 1 aF vb b)(ho:aD 1 aF vo o)(ht:aD 1 aF vt t)(pb:aQ vb=true)(po:aQ vo=true)(pt:aQ vt=true):zT [vb,vo,vt]=some (pq (jB b o t)):=by
 simp only[zT,oO hb pb,oO ho po,oO ht pt,bn]
def ajh:cq ar 288 zT:=by
 refine jC W0 fun args u h=>?_;unfold zT at h;split at h;rename_i x y z;simp only[az] at h;obtain⟨b,h1,o,h2,t,h3,h⟩:=h;have h:=sI h;subst h;obtain⟨l1,p1⟩:=oN h1;obtain⟨l2,p2⟩:=oN h2;obtain⟨l3,p3⟩:=oN h3;obtain⟨v',s',r1,r2,r3⟩:=ajk (sp:=fun f=>cI f Nr) rfl rfl rfl rfl l1 l2 l3 p1 p2 p3;exact⟨Co p1 p2 p3,v',s',r1,r3,r2⟩;cases h
def LZ{l:List be}(h:cY l=true):iq l=true:=by
 simp only[cY,bA,dE] at h;unfold iq;rw[dN (show¬60<l.length by omega)];exact LH l none [] (.inl rfl) h.1
def Dk{x:Operand}{a:ak}(hx:ev e x=some (.str a))(s:St):cx ar 25 1 [(0,x)] false e s=some (.list 1 [.str a] .GE,s):=A7 hx s
noncomputable def EC:SC:=(.seq (.region aff) (.seq (.region afg) (.seq (.seq (.region afh) (.block 0 (.loop EE))) (.seq (.region afj) .ret))))
noncomputable def EB:SC:=(.seq (.seq (.region afp) (.cond (aR 62) (.region afq) (.seq (.region ae9) (.cond (aR 70) (.region afa) (.seq (.region afb) (.seq (.seq (.region afc) (.cond (aR 82) (.region afd) .skip)) (.region afe))))))) EC)
def ae6:Ke=(.seq (.region ae7) (.seq (.region ae8) (.seq (.region afi) (.seq (.region afk) (.seq (.region afl) (.seq (.seq (.region afm) (.cond (aR 44) (.seq (.region afn) (.region afo)) .skip)) EB)))))):=rfl
def jc:List ae:=[.str [],.int .i64 0,.int .i64 0,.int .i64 0,.AL,.AL]
structure yV (b o t q:Obj) (ov:ae) (e:aI) (lc:Ag.Loc):Prop where
 h3:aj e 3= .Ge 3 1 0
 h4:aj e 4= .Ge 4 1 0
 h5:aj e 5= .Ge 5 1 0
 h6:aj e 6= .Ge 6 1 0
 h8:aj e 8= .Ge 8 1 0
 h9:aj e 9=ov
 g3:lc.gen 3=1
 g4:lc.gen 4=1
 g5:lc.gen 5=1
 g6:lc.gen 6=1
 g8:lc.gen 8=1
 b3:lc.get 3 1=some b.cells
 b4:lc.get 4 1=some o.cells
 b5:lc.get 5 1=some t.cells
 b6:lc.get 6 1=some jc
 b8:lc.get 8 1=some q.cells
variable{b:Obj}
section
variable{sp:bC}
def abU{kv:ae}{ks:List ak}(hk:aD 1 aF kv ks)(hn: ∀k∈ks,k.length<=24)(hs:ks.length<=1000){o t:Obj}{R:List ak}(hx: ∀e s ov,cE 1 0 s ov (R.map aF)->s.ci=0->yV b o t q ov e lc->K (.exit 0) ⟨e,117,lc⟩ s):
 ∀(rest pre:List ak) (e:aI) (s:St) (ov:ae) (acc:List ak),ks=pre++rest->R=acc++rest.map jm->acc.length<=2+pre.length->cE 1 0 s ov (acc.map aF)->s.ci=0->s.ge<=s.al->yV b o t q ov e lc->aj e 13=kv->aj e 14= .int .i64 (pre.length:Nat)->W (QS sp) 196 (.loop EE) ⟨e,117,lc⟩ s K:=by
 have c1:=hk.aL;have n1:=fun mk s=>hk.len dB dH mk s;intro rest
 induction rest with
 |nil=>
  intro pre e s ov acc hpre hR ha hO hci hm I h13 h14;have hla:ks.length=pre.length:=by rw[hpre];simp
  refine eh ?_;simp only[ai,aA,aa,ah,xM,EE,h13,h14,c1,n1,hla,cR];refine hx _ s ov (by rw[hR,pH,ii];exact hO) hci ⟨?_,?_,?_,?_,?_,?_,I.g3,I.g4,I.g5,I.g6,I.g8,I.b3,I.b4,I.b5,I.b6,I.b8⟩
  all_goals simp only[au,aa,I.h3,I.h4,I.h5,I.h6,I.h8,I.h9]
 |cons x rest ih=>
  intro pre e s ov acc hpre hR ha hO hci hm I h13 h14;have hlt:pre.length<ks.length:=by rw[hpre];simp
  have ha1:ks[pre.length]? =some x:=by rw[hpre];simp
  have i1:=fun lc=>hk.at gR ha1 lc .i64;have hwr:=ig (n:=pre.length) (by omega);have hat:=NH (hn x (ku ha1));have h9:=I.h9;have hoc:=hO.aL;have hbs: ∀e s,aj e 112= .str (jm x)->cx ar 25 1 [(0,.tmp 112)] false e s=some (.list 1 [.str (jm x)] .GE,s):=fun e s y=>Dk (by rw[bq,y]) s;obtain⟨ov1,s1,ap1,o1,ci1,_,m1,k1⟩:=xr hO (y:=.list 1 [.str (jm x)] .GE) (r:=[jm x]) (.inr ⟨_,rfl⟩) (by simp only[cP,fJ];omega) (cV _) hm;refine eh ?_;simp only[ai,ax,aA,ay,aa,ah,ofValue,aX,xM,EE,h9,h13,h14,c1,n1,hlt,i1,aF,hat,hbs,hoc,ap1,hwr];refine ih (pre++[x]) _ s1 ov1 (acc++[jm x]) (by rw[hpre];simp) (by rw[hR,dG,mc];rfl) (by simp only[cK];omega) o1 (ci1.trans hci) m1 ⟨?_,?_,?_,?_,?_,?_,I.g3,I.g4,I.g5,I.g6,I.g8,I.b3,I.b4,I.b5,I.b6,I.b8⟩ ?_ ?_
  all_goals simp only[aq,cK,aa,I.h3,I.h4,I.h5,I.h6,I.h8,h13]
def AU(b o t:Obj):ae->St->Prop:=fun v s=>(∃ov,v= .tup [(nu b o t).val,ov]/\cE 1 0 s ov ((kD b o t).map aF))/\s.ci=0
def abW(h289:sp 289=some u0){o t:Obj}(gb:b.Al)(go:o.Al)(gt:t.Al)(vb:cY b.gT=true)(vo:cY o.gT=true)(vt:cY t.gT=true)(hq:CN q (iu b.gT o.gT t.gT).1=nu b o t)(hacc:acc++(iu b.gT o.gT t.gT).2.map jm=kD b o t)(ha:acc.length<=2)(hO:cE 1 0 s ov (acc.map aF))(hci:s.ci=0)(hm:s.ge<=s.al)(I:yV b o t q ov e lc):
 WF (QS sp) 196 EC ⟨e,117,lc⟩ s fun x fr' s1=>(x= .normal\/x= .ret)/\ ∃v,(bW (QS sp) [] fr' s1 [oK 6 52,bR 7]).map gG=some v/\AU b o t v s1:=by
 have I0:=I;obtain⟨h3,h4,h5,h6,h8,h9,g3,g4,g5,g6,g8,b3,b4,b5,b6,b8⟩:=I;have q1:=ajc gb.gT go.gT gt.gT gb.pt go.pt gt.pt (LZ vb) (LZ vo) (LZ vt) gb.key go.key gt.key;rw[aoQ vb vo vt] at q1;have k1:=gb.gT.aL;have k2:=go.gT.aL;have k3:=gt.gT.aL;have tl:=CJ b.gT o.gT t.gT;have tb: ∀ {l:List be},cY l=true->l.length<=60:=fun h=>by
  simp only[cY,bA,dE] at h;exact h.2
 have:=tb vb
 have:=tb vo
 have:=tb vt;have hn: ∀k∈(iu b.gT o.gT t.gT).2,k.length<=24:=fun k hk=>Ln (Mx vb vo vt k (Mw.2 k hk));generalize iu b.gT o.gT t.gT=TT at*;obtain⟨xs,ys⟩:=TT;simp only at tl hn hacc hq;have lx:=Hs xs;have ly:aD 1 aF (lw ys) ys:=wF ys;have q1:u0 [b.tagsV,o.tagsV,t.tagsV]=some (.tup [tagsV xs,lw ys]):=q1;have k4:(tagsV xs).aL=true:=lx.aL;have k5:(lw ys).aL=true:=ly.aL;have k6:(tagsV xs).cells=[tagsV xs]:=lx.scal;unfold EC;simp only[fG,ai,ax,aA,bu,aN,ay,aa,ah,aG,aV,bW,dy,ofValue,aX,h3,h4,h5,h8,g3,g4,g5,g8,b3,b4,b5,b8,Obj.cells,k1,k2,k3,k4,k6,h289,q1,dU];refine abU (b:=b) (o:=o) (t:=t) (q:=CN q xs) ly hn (by omega) (R:=kD b o t) ?_ ys [] _ s ov acc rfl hacc.symm (by simpa using ha) hO hci hm ⟨?_,?_,?_,?_,?_,?_,?_,?_,?_,?_,?_,?_,?_,?_,?_,?_⟩ ?_ ?_;intro e s ov hO hci I;have h6:=I.h6;have h8:=I.h8;have h9:=I.h9;have b6:=I.b6;have b8:=I.b8;rw[hq] at b8;have hoc:=hO.aL;simp only[ai,ax,aA,cut,bu,aN,ay,aa,ah,aG,aV,reduceCtorEq,h6,h8,h9,b6,b8,jc,Obj.cells,hoc];exact⟨_,rfl,⟨ov,rfl,hO⟩,hci⟩
 all_goals simp only[aq,iX,aa,h3,h4,h5,h6,h8,h9,g3,g4,g5,g6,g8,b3,b4,b5,b6,CN,Obj.cells]
 all_goals rfl
def Pd(h199:sp 199=some uB)(h289:sp 289=some u0){o t:Obj}(gb:b.Al)(go:o.Al)(gt:t.Al)(vb:cY b.gT=true)(vo:cY o.gT=true)(vt:cY t.gT=true)(hq:q=jK b o t)(hacc:acc=match ia b o t with
  |none=>[oz]
  |some _=>[])(hO:cE 1 0 s ov (acc.map aF))(hci:s.ci=0)(hm:s.ge<=s.al)(I:yV b o t q ov e lc):
 WF (QS sp) 196 EB ⟨e,117,lc⟩ s fun x fr' s1=>(x= .normal\/x= .ret)/\ ∃v,(bW (QS sp) [] fr' s1 [oK 6 52,bR 7]).map gG=some v/\AU b o t v s1:=by
 obtain⟨h3,h4,h5,h6,h8,h9,g3,g4,g5,g6,g8,b3,b4,b5,b6,b8⟩:=I;have hl:acc.length<=1:=by rw[hacc];cases ia b o t<;>simp
 have hoc:=hO.aL;have p1:=mG o.x o.y t.x t.y;have p2:=mG t.x t.y b.x b.y;have p3:=mG o.x o.y b.x b.y;have f1:(bif aK o.x t.x then bif aK o.y t.y then true else false else false)=jJ (o.x,o.y) (t.x,t.y):=rfl;have f2:(bif aK t.x b.x then bif aK t.y b.y then true else false else false)=jJ (t.x,t.y) (b.x,b.y):=rfl;have f3:(bif aK o.x b.x then bif aK o.y b.y then true else false else false)=jJ (o.x,o.y) (b.x,b.y):=rfl;rw[f1] at p1;rw[f2] at p2;rw[f3] at p3;have go_on: ∀(p:Int×Int) (bad:List ak) (e:aI) (lc:Ag.Loc) (s:St) (ov:ae),p=re b o t->bad=(bif lp (b.x,b.y) (o.x,o.y) (t.x,t.y) then [sP] else [])->cE 1 0 s ov ((acc++bad).map aF)->s.ci=0->s.ge<=s.al->yV b o t (sT q p) ov e lc->WF (QS sp) 196 EC ⟨e,117,lc⟩ s fun x fr' s1=>(x= .normal\/x= .ret)/\ ∃v,(bW (QS sp) [] fr' s1 [oK 6 52,bR 7]).map gG=some v/\AU b o t v s1:=fun p bad e lc s ov hp hbad hO hci hm I=>
  abW h289 gb go gt vb vo vt (by rw[hp,hq];rfl) (acc:=acc++bad) (by rw[hbad,hacc];unfold kD;rw[mc];cases ia b o t<;>rfl) (by
   have:bad.length<=1:=by rw[hbad];cases lp (b.x,b.y) (o.x,o.y) (t.x,t.y)<;>simp
   rw[dX];omega) hO hci hm I
 unfold EB;cases e1:jJ (o.x,o.y) (t.x,t.y) with
 |true=>
  rw[e1] at p1;simp only[ai,ax,aA,cut,bu,aN,ay,aa,ah,aG,aV,bW,dy,ofValue,aX,h4,h5,h8,g4,g5,g8,b4,b5,b8,Obj.cells,p1];refine go_on (o.x,o.y) [] _ _ s ov (by simp only[re,nJ,e1,jM,cT]) (by simp only[lp,e1,jM,dS,cF]) (by rw[ii];exact hO) hci hm ⟨?_,?_,?_,?_,?_,?_,?_,?_,?_,?_,?_,?_,?_,?_,?_,?_⟩
  all_goals simp only[aq,iX,aa,h3,h4,h5,h6,h8,h9,g3,g4,g5,g6,g8,b3,b4,b5,b6,sT,Obj.cells]
 |false=>
 rw[e1] at p1;cases e2:jJ (t.x,t.y) (b.x,b.y) with
 |true=>
  rw[e2] at p2;simp only[ai,ax,aA,cut,bu,aN,ay,aa,ah,aG,aV,bW,dy,ofValue,aX,h3,h4,h5,h8,g3,g4,g5,g8,b3,b4,b5,b8,Obj.cells,p1,p2];refine go_on (o.x,o.y) [] _ _ s ov (by simp only[re,nJ,e1,e2,l8,cT]) (by simp only[lp,e1,e2,l8,jM,dS,cF]) (by rw[ii];exact hO) hci hm ⟨?_,?_,?_,?_,?_,?_,?_,?_,?_,?_,?_,?_,?_,?_,?_,?_⟩
  all_goals simp only[aq,iX,aa,h3,h4,h5,h6,h8,h9,g3,g4,g5,g6,g8,b3,b4,b5,b6,sT,Obj.cells]
 |false=>
 rw[e2] at p2;cases e3:jJ (o.x,o.y) (b.x,b.y) with
 |true=>
  rw[e3] at p3;simp only[ai,ax,aA,cut,bu,aN,ay,aa,ah,aG,aV,bW,dy,ofValue,aX,h3,h4,h5,h8,g3,g4,g5,g8,b3,b4,b5,b8,Obj.cells,p1,p2,p3];refine go_on (t.x,t.y) [] _ _ s ov (by simp only[cz,re,nJ,e1,e2,e3,iR]) (by simp only[lp,e1,e2,e3,l8,dS,cF]) (by rw[ii];exact hO) hci hm ⟨?_,?_,?_,?_,?_,?_,?_,?_,?_,?_,?_,?_,?_,?_,?_,?_⟩
  all_goals simp only[aq,iX,aa,h3,h4,h5,h6,h8,h9,g3,g4,g5,g6,g8,b3,b4,b5,b6,sT,Obj.cells]
 |false=>
 rw[e3] at p3;have hbad:lp (b.x,b.y) (o.x,o.y) (t.x,t.y)=true:=by simp only[lp,e1,e2,e3,iR,fy]
 have q1:uB [.agg [.int .i64 t.x,.int .i64 t.y],.agg [.int .i64 o.x,.int .i64 o.y]]=some (.int .i64 (tm (t.x,t.y) (o.x,o.y))):=rfl;have hbs: ∀e s,cx ar 25 1 [(0,.const (jO {data:= #[97,116] }))] false e s=some (.list 1 [.str sP] .GE,s):=fun e s=>Dk rfl s;obtain⟨ov1,s1,ap1,o1,ci1,_,m1,k1⟩:=xr hO (y:=.list 1 [.str sP] .GE) (r:=[sP]) (.inr ⟨_,rfl⟩) (by simp only[cP,fJ];omega) (cV _) hm;cases e4:bG (tm (t.x,t.y) (o.x,o.y)) 0 with
 |true=>
  simp only[ai,ax,aA,cut,bu,aN,ay,aa,ah,aG,aV,bW,dy,ofValue,aX,xM,h3,h4,h5,h8,h9,g3,g4,g5,g8,b3,b4,b5,b8,Obj.cells,p1,p2,p3,h199,q1,e4,hbs,hoc,ap1];refine go_on (t.x,t.y) [sP] _ _ s1 ov1 (by rw[IK] at e4;simp only[cz,re,nJ,qS,e1,e2,e3,e4,iR]) (by rw[hbad];rfl) o1 (ci1.trans hci) m1 ⟨?_,?_,?_,?_,?_,?_,?_,?_,?_,?_,?_,?_,?_,?_,?_,?_⟩
  all_goals simp only[aq,iX,aa,h3,h4,h5,h6,h8,h9,g3,g4,g5,g6,g8,b3,b4,b5,b6,sT,Obj.cells]
 |false=>
  simp only[ai,ax,aA,cut,bu,aN,ay,aa,ah,aG,aV,bW,dy,ofValue,aX,xM,h3,h4,h5,h8,h9,g3,g4,g5,g8,b3,b4,b5,b8,Obj.cells,p1,p2,p3,h199,q1,e4,hbs,hoc,ap1];refine go_on (o.x,o.y) [sP] _ _ s1 ov1 (by rw[IK] at e4;simp only[re,nJ,qS,e1,e2,e3,e4,iR,cF]) (by rw[hbad];rfl) o1 (ci1.trans hci) m1 ⟨?_,?_,?_,?_,?_,?_,?_,?_,?_,?_,?_,?_,?_,?_,?_,?_⟩
  all_goals simp only[aq,iX,aa,h3,h4,h5,h6,h8,h9,g3,g4,g5,g6,g8,b3,b4,b5,b6,sT,Obj.cells]
end
def v6:Sp
 | [u,v,w]=>(iL u).bind fun b=>(iL v).bind fun o=>(iL w).bind fun t=>bif cY b.gT&&(cY o.gT&&cY t.gT) then some (.tup [(nu b o t).val,lw (kD b o t)]) else none
 |_=>none
def abB{o t:Obj}(gb:b.Al)(go:o.Al)(gt:t.Al)(vb:cY b.gT=true)(vo:cY o.gT=true)(vt:cY t.gT=true):v6 [b.val,o.val,t.val]=some (.tup [(nu b o t).val,lw (kD b o t)]):=by
 simp only[ce,v6,mm gb,mm go,mm gt,vb,vo,vt,cH]
section
variable{sp:bC}
set_option maxRecDepth 4000 in
def abD(h196:sp 196=none)(h146:sp 146=some yF)(h199:sp 199=some uB)(h288:sp 288=some zT)(h289:sp 289=some u0){o t:Obj}(gb:b.Al)(go:o.Al)(gt:t.Al)(vb:cY b.gT=true)(vo:cY o.gT=true)(vt:cY t.gT=true):
 ∃v' s',aM (QS sp) 196 [b.val,o.val,t.val] s0 v' s'/\AU b o t v' s':=by
 have kb:=gb.gE.aL;have ko:=go.gE.aL;have kt:=gt.gE.aL;have tb:=gb.gT.aL;have to:=go.gT.aL;have tt:=gt.gT.aL;have cb:=gb.gE.scal;have cb':=gb.gT.scal;have q1:=ajg gb.gE go.gE gt.gE gb.pr go.pr gt.pr;have hbs: ∀e s,cx ar 25 1 [(0,.const (jO {data:= #[114,101,102,115] }))] false e s=some (.list 1 [.str oz] .GE,s):=fun e s=>Dk rfl s;obtain⟨ov1,s1,ap1,o1,ci1,_,m1,k1⟩:=xr (lo:=0) (s:=s0) (ov:=.AL) (y:=.list 1 [.str oz] .GE) (l:=[]) (r:=[oz]) (.inl ⟨rfl,rfl⟩) (.inr ⟨_,rfl⟩) (by simp only[cP,fJ];omega) (cV _) (cV _);refine aM.ofF ED.1 ED.2 ED.3 ED.4 h196 ?_;rw[ae6];have bad:ia b o t=none-> ∀(e:aI) (lc:Ag.Loc),yV b o t (jK b o t) ov1 e lc->WF (QS sp) 196 EB ⟨e,117,lc⟩ s1 fun x fr' s1=>(x= .normal\/x= .ret)/\ ∃v,(bW (QS sp) [] fr' s1 [oK 6 52,bR 7]).map gG=some v/\AU b o t v s1:=fun hn e lc I=>
  Pd h199 h289 gb go gt vb vo vt rfl (acc:=[oz]) (by rw[hn]) o1 ci1 m1 I
 cases hs:jB b.gE o.gE t.gE with
 |none=>
  rw[hs] at q1;have hn:ia b o t=none:=by unfold ia;rw[hs]
  have hO:jK b o t=b:=by unfold jK;rw[hn]
  simp only[fG,ai,ax,aA,bv,bt,cut,bu,aN,ay,aa,ah,aG,aV,bW,dy,ofValue,aX,za,xM,Obj.val,Obj.cells,pq,kb,ko,kt,tb,cb,cb',dU,zc,za,cS,evc,bu,cut,aG,aa,h288,q1,hbs,ap1];refine bad hn _ _ ⟨?_,?_,?_,?_,?_,?_,?_,?_,?_,?_,?_,?_,?_,?_,?_,?_⟩
  all_goals simp only[aq,iX,aa,hO,Obj.cells]
  all_goals rfl
 |some r=>
  rw[hs] at q1;have gr:=Md gb go gt hs;have q2:=VO gr;rw[apj] at q2;simp only[Obj.val,Obj.cells,nN] at q2;have kr:(fv 1 (r.map aF)).aL=true:=gr.gE.aL;have cr:(fv 1 (r.map aF)).cells=[fv 1 (r.map aF)]:=gr.gE.scal;cases hv:ef (nN b r) with
  |false=>
   have hv2:=hv;simp only[nN] at hv2;rw[hv2] at q2;have hn:ia b o t=none:=by unfold ia;rw[hs];simp only[hv,cF]
   have hO:jK b o t=b:=by unfold jK;rw[hn]
   simp only[fG,ai,ax,aA,bv,bt,cut,bu,aN,ay,aa,ah,aG,aV,bW,dy,ofValue,aX,za,xM,Obj.val,Obj.cells,pq,kb,ko,kt,tb,cb,cb',dU,za,cS,evc,bu,cut,aG,aa,h288,q1,kr,cr,h146,q2,hbs,ap1];refine bad hn _ _ ⟨?_,?_,?_,?_,?_,?_,?_,?_,?_,?_,?_,?_,?_,?_,?_,?_⟩
   all_goals simp only[aq,iX,aa,hO,Obj.cells]
   all_goals rfl
  |true=>
   have hv2:=hv;simp only[nN] at hv2;rw[hv2] at q2;have hn:ia b o t=some r:=by unfold ia;rw[hs];simp only[hv,cT]
   have hO:jK b o t=nN b r:=by unfold jK;rw[hn]
   simp only[fG,ai,ax,aA,bv,bt,cut,bu,aN,ay,aa,ah,aG,aV,bW,dy,ofValue,aX,za,xM,Obj.val,Obj.cells,pq,kb,ko,kt,tb,cb,cb',dU,za,cS,evc,bu,cut,aG,aa,h288,q1,kr,cr,h146,q2];refine Pd h199 h289 gb go gt vb vo vt rfl (acc:=[]) (by rw[hn]) (s:=s0) (ov:=.AL) (.inl ⟨rfl,rfl⟩) rfl (cV _) ⟨?_,?_,?_,?_,?_,?_,?_,?_,?_,?_,?_,?_,?_,?_,?_,?_⟩
   all_goals simp only[aq,iX,aa,hO,nN,Obj.cells]
   all_goals rfl
end
def Nn:du:=[(146,yF),(199,uB),(288,zT),(289,u0)]
def WW:dc Nn:=.cons VP (.cons Oy (.cons ajh (.cons ajd .nil)))
def abC:cq ar 196 v6:=by
 refine jC WW fun args u h=>?_;unfold v6 at h;split at h;rename_i x y z;simp only[az] at h;obtain⟨b,h1,o,h2,t,h3,h⟩:=h;obtain⟨h4,h⟩:=bm h;simp only[bA] at h4;have h:=sI h;subst h;obtain⟨rfl,gb⟩:=lf h1;obtain⟨rfl,go⟩:=lf h2;obtain⟨rfl,gt⟩:=lf h3;obtain⟨v',s',r1,⟨ov,rfl,hO⟩,r3⟩:=abD (sp:=fun f=>cI f Nn) rfl rfl rfl rfl rfl gb go gt h4.1 h4.2.1 h4.2.2;exact⟨Co gb.pure go.pure gt.pure,_,s',r1,r3,xL (DG _ (Bo gb go gt h4.1 h4.2.1 h4.2.2)) (Jy hO)⟩;cases h
def jz(pb po pt:Option Obj):ae:=bif cU po pt||cU pt pb then .AL else bif cU po pb then .AL else match pb,po,pt with
 |some b,some o,some t=>bif aK o.uP b.uP&&aK t.uP b.uP then lw (kD b o t) else .list 1 [.str dw] .GE
 |_,_,_=>.list 1 [.str dw] .GE
def Tz(pb po pt:Option Obj):aD 1 aF (jz pb po pt) (tZ pb po pt):=by
 unfold jz tZ;cases cU po pt||cU pt pb with
 |true=>exact .inl ⟨rfl,rfl⟩
 |false=>
 cases cU po pb with
 |true=>exact .inl ⟨rfl,rfl⟩
 |false=>
 simp only[cF];cases pb with
 |none=>exact .inr ⟨_,rfl⟩
 |some b=>
 cases po with
 |none=>exact .inr ⟨_,rfl⟩
 |some o=>
 cases pt with
 |none=>exact .inr ⟨_,rfl⟩
 |some t=>
 show aD 1 aF (bif aK o.uP b.uP&&aK t.uP b.uP then lw (kD b o t) else .list 1 [.str dw] .GE) (bif aK o.uP b.uP&&aK t.uP b.uP then kD b o t else [dw]);cases aK o.uP b.uP&&aK t.uP b.uP with
 |true=>exact wF _
 |false=>exact .inr ⟨_,rfl⟩
def jX(pb po pt:Option Obj):ae:=.tup [ja (dl pb po pt),.bool (dl pb po pt).isSome,jz pb po pt]
noncomputable def J3:SC:=(.seq (.seq (.region aex) (.cond (aR 44) (.seq (.region aey) .ret) .skip)) (.seq (.seq (.region aez) (.cond (aR 54) (.seq (.region aeA) .ret) .skip)) (.seq (.seq (.region aeB) (.cond (aR 64) (.seq (.region aeC) .ret) .skip)) (.seq (.seq (.region aen) (.cond (aR 68) (.seq (.region aeo) .ret) .skip)) (.seq (.seq (.region aep) (.cond (aR 72) (.seq (.region aeq) .ret) .skip)) (.seq (.seq (.region aer) (.cond (aR 90) (.seq (.region aes) .ret) .skip)) (.seq (.region aet) (.seq (.region aeu) .ret))))))))
def aek:Qk=(.seq (.region ael) (.seq (.region aem) (.seq (.region aev) (.seq (.region aew) J3)))):=rfl
structure Wx (pb po pt:Option Obj) (e:aI) (lc:Ag.Loc):Prop where
 h8:aj e 8= .Ge 8 1 0
 h11:aj e 11= .Ge 11 1 0
 h12:aj e 12= .bool pb.isSome
 h13:aj e 13= .Ge 13 1 0
 h14:aj e 14= .bool po.isSome
 h15:aj e 15= .Ge 15 1 0
 h16:aj e 16= .bool pt.isSome
 g8:lc.gen 8=1
 g11:lc.gen 11=1
 g13:lc.gen 13=1
 g15:lc.gen 15=1
 g17:lc.gen 17=0
 b8:lc.get 8 1=some jc
 b11:lc.get 11 1=some (pb.getD eP).cells
 b13:lc.get 13 1=some (po.getD eP).cells
 b15:lc.get 15 1=some (pt.getD eP).cells
def dI(o:Obj):Bool:=ll o&&cY o.gT
def GP(p:Option Obj):ja p=(p.getD eP).val:=by cases p<;>rfl
def oW:d8 ar .eql 4 (.bool true) (.bool true)=some (.bool true):=by kernel_rfl
def zl:d8 ar .eql 4 (.bool true) (.bool false)=some (.bool false):=by kernel_rfl
def Bk:d8 ar .eql 4 (.bool false) (.bool true)=some (.bool false):=by kernel_rfl
def IU:d8 ar .eql 4 (.bool false) (.bool false)=some (.bool true):=by kernel_rfl
def S4(a b:Int):d8 ar .neq 3 (.int .i64 a) (.int .i64 b)=some (.bool (!aK a b)):=by kernel_rfl
variable{pb po pt:Option Obj}
section
variable{sp:bC}
set_option maxRecDepth 4000 in
def akt(h64:sp 64=some vr)(h195:sp 195=some wB)(h196:sp 196=some v6)(gb: ∀b,pb=some b->b.Al/\dI b=true)(go: ∀b,po=some b->b.Al/\dI b=true)(gt: ∀b,pt=some b->b.Al/\dI b=true)(I:Wx pb po pt e lc):
 WF (QS sp) 111 J3 ⟨e,104,lc⟩ s0 fun x fr' s1=>s1=s0/\(x= .normal\/x= .ret)/\(bW (QS sp) [] fr' s1 [oK 8 52,bR 9,bR 10]).map gG=some (jX pb po pt):=by
 obtain⟨h8,h11,h12,h13,h14,h15,h16,g8,g11,g13,g15,g17,b8,b11,b13,b15⟩:=I;have hbs: ∀e s,cx ar 25 1 [(0,.const (jO {data:= #[111,98,106,101,99,116] }))] false e s=some (.list 1 [.str dw] .GE,s):=fun e s=>Dk rfl s;have q0:vr [eP.val,eP.val]=some (.bool true):=UK CQ CQ rfl;simp only[Obj.val,Obj.cells,eP] at q0;have qs: ∀ {a b:Obj},a.Al/\dI a=true->b.Al/\dI b=true->vr [a.val,b.val]=some (.bool (jV a b)):=fun ha hb=>UK ha.1 hb.1 (by
  have:=ha.2;simp only[dI,bA] at this;exact this.1)
 unfold J3;cases po with
 |none=>
  cases pt with
  |none=>
   simp only[ai,ax,aA,cut,bu,aN,ay,aa,ah,aG,aV,reduceCtorEq,bW,dy,ofValue,aX,IU,h8,h13,h14,h15,h16,b8,b13,b15,jc,oJ,pL,eP,Obj.cells,h64,q0,jX,jz,dl,cU,ja,Obj.val]
  |some t=>
   obtain⟨gt,ft⟩:=gt t rfl;have c1:=gt.gE.aL;have c2:=gt.gT.aL;have c3:=gt.gE.scal;have c4:=gt.gT.scal;cases pb with
   |none=>
    simp only[ai,ax,aA,cut,bu,aN,ay,aa,ah,aG,aV,reduceCtorEq,bW,dy,ofValue,aX,zl,Bk,IU,h8,h11,h12,h13,h14,h15,h16,b8,b11,b13,b15,jc,oJ,jq,pL,fq,eP,Obj.cells,h64,q0,jX,jz,dl,cU,ja,Obj.val]
   |some b=>
    have q1:=qs ⟨gt,ft⟩ (gb b rfl);simp only[Obj.val,Obj.cells] at q1;have d1:=(gb b rfl).1.gE.aL;have d2:=(gb b rfl).1.gT.aL;cases e1:jV t b with
    |true=>
     rw[e1] at q1;simp only[ai,ax,aA,cut,bu,aN,ay,aa,ah,aG,aV,reduceCtorEq,bW,dy,ofValue,aX,oW,Bk,h8,h11,h12,h13,h14,h15,h16,b8,b11,b13,b15,jc,oJ,jq,pL,fq,eP,Obj.cells,h64,q1,e1,jX,jz,dl,cU,ja,Obj.val]
    |false=>
     rw[e1] at q1;simp only[ai,ax,aA,cut,bu,aN,ay,aa,ah,aG,aV,reduceCtorEq,bW,dy,ofValue,aX,tx,oW,Bk,h8,h11,h12,h14,h15,h16,b8,b11,b15,jc,oJ,jq,fq,eP,Obj.cells,h64,q1,e1,hbs,jX,jz,dl,cU,ja,gS,Obj.val]
 |some o=>
  obtain⟨go,fo⟩:=go o rfl;have k1:=go.gE.aL;have k2:=go.gT.aL;have k3:=go.gE.scal;have k4:=go.gT.scal;cases pt with
  |none=>
   cases pb with
   |none=>
    simp only[ai,ax,aA,cut,bu,aN,ay,aa,ah,aG,aV,reduceCtorEq,bW,dy,ofValue,aX,zl,IU,h8,h11,h12,h13,h14,h15,h16,b8,b11,b13,b15,jc,oJ,jq,pL,fq,eP,Obj.cells,h64,q0,jX,jz,dl,cU,ja,Obj.val]
   |some b=>
    have q1:=qs ⟨go,fo⟩ (gb b rfl);simp only[Obj.val,Obj.cells] at q1;have d1:=(gb b rfl).1.gE.aL;have d2:=(gb b rfl).1.gT.aL;cases e1:jV o b with
    |true=>
     rw[e1] at q1;simp only[ai,ax,aA,cut,bu,aN,ay,aa,ah,aG,aV,reduceCtorEq,bW,dy,ofValue,aX,oW,zl,Bk,h8,h11,h12,h13,h14,h15,h16,b8,b11,b13,b15,jc,oJ,jq,pL,fq,eP,Obj.cells,h64,q1,e1,jX,jz,dl,cU,ja,Obj.val]
    |false=>
     rw[e1] at q1;simp only[ai,ax,aA,cut,bu,aN,ay,aa,ah,aG,aV,reduceCtorEq,bW,dy,ofValue,aX,tx,oW,zl,Bk,h8,h11,h12,h13,h14,h16,b8,b11,b13,jc,oJ,jq,fq,eP,Obj.cells,h64,q1,e1,hbs,jX,jz,dl,cU,ja,gS,Obj.val]
  |some t=>
   obtain⟨gt,ft⟩:=gt t rfl;have c1:=gt.gE.aL;have c2:=gt.gT.aL;have c3:=gt.gE.scal;have c4:=gt.gT.scal;have q1:=qs ⟨go,fo⟩ ⟨gt,ft⟩;simp only[Obj.val,Obj.cells] at q1;have ql:wB [o.val,t.val]=some (bif kJ t o then t else o).val:=by
    simp only[dI,bA] at fo ft;exact ahZ go gt fo.1 ft.1
   have hlO:=R7 o t;simp only[Obj.val,Obj.cells] at ql;cases e1:jV o t with
   |true=>
    rw[e1] at q1;simp only[ai,ax,aA,cut,bu,aN,ay,aa,ah,aG,aV,reduceCtorEq,bW,dy,ofValue,aX,oW,h8,h13,h14,h15,h16,b8,b13,b15,jc,jq,fq,eP,Obj.cells,h64,q1,e1,jX,jz,dl,cU,ja,Obj.val]
   |false=>
   rw[e1] at q1;cases pb with
   |none=>
    cases el:kJ t o with
    |true=>
     rw[el] at ql hlO;simp only[cT] at ql;simp only[ai,ax,aA,cut,bu,aN,ay,aa,ah,aG,aV,reduceCtorEq,bW,dy,ofValue,aX,tx,oW,zl,h8,h12,h13,h14,h15,h16,b8,b13,b15,jc,oJ,jq,fq,eP,Obj.cells,h64,q1,e1,h195,ql,hbs,hlO,jX,jz,dl,cU,ja,Obj.val]
    |false=>
     rw[el] at ql hlO;simp only[cF] at ql;simp only[ai,ax,aA,cut,bu,aN,ay,aa,ah,aG,aV,reduceCtorEq,bW,dy,ofValue,aX,tx,oW,zl,h8,h12,h13,h14,h15,h16,b8,b13,b15,jc,oJ,jq,fq,eP,Obj.cells,h64,q1,e1,h195,ql,hbs,hlO,jX,jz,dl,cU,ja,Obj.val]
   |some b=>
    have q2:=qs ⟨gt,ft⟩ (gb b rfl);have q3:=qs ⟨go,fo⟩ (gb b rfl);simp only[Obj.val,Obj.cells] at q2 q3;obtain⟨gb,fb⟩:=gb b rfl;have d1:=gb.gE.aL;have d2:=gb.gT.aL;cases e2:jV t b with
    |true=>
     rw[e2] at q2;simp only[ai,ax,aA,cut,bu,aN,ay,aa,ah,aG,aV,reduceCtorEq,bW,dy,ofValue,aX,oW,h8,h11,h12,h13,h14,h15,h16,b8,b11,b13,b15,jc,jq,fq,eP,Obj.cells,h64,q1,e1,q2,e2,jX,jz,dl,cU,ja,Obj.val]
    |false=>
    rw[e2] at q2;cases e3:jV o b with
    |true=>
     rw[e3] at q3;simp only[ai,ax,aA,cut,bu,aN,ay,aa,ah,aG,aV,reduceCtorEq,bW,dy,ofValue,aX,oW,h8,h11,h12,h13,h14,h15,h16,b8,b11,b13,b15,jc,jq,fq,eP,Obj.cells,h64,q1,e1,q2,e2,jX,jz,dl,cU,ja,Obj.val,q3,e3]
    |false=>
    rw[e3] at q3;have n1:=S4 o.uP b.uP;have n2:=S4 t.uP b.uP;cases e4:aK o.uP b.uP with
    |false=>
     rw[e4] at n1;cases el:kJ t o with
     |true=>
      rw[el] at ql hlO;simp only[cT] at ql;simp only[ai,ax,aA,cut,bu,aN,ay,aa,ah,aG,aV,reduceCtorEq,bW,dy,ofValue,aX,tx,oW,h8,h11,h12,h13,h14,h15,h16,g11,g13,b8,b11,b13,b15,jc,jq,fq,eP,Obj.cells,h64,q1,e1,q2,e2,jX,jz,dl,cU,ja,Obj.val,q3,e3,n1,e4,h195,ql,hbs,hlO]
     |false=>
      rw[el] at ql hlO;simp only[cF] at ql;simp only[ai,ax,aA,cut,bu,aN,ay,aa,ah,aG,aV,reduceCtorEq,bW,dy,ofValue,aX,tx,oW,h8,h11,h12,h13,h14,h15,h16,g11,g13,b8,b11,b13,b15,jc,jq,fq,eP,Obj.cells,h64,q1,e1,q2,e2,jX,jz,dl,cU,ja,Obj.val,q3,e3,n1,e4,h195,ql,hbs,hlO]
    |true=>
    rw[e4] at n1;cases e5:aK t.uP b.uP with
    |false=>
     rw[e5] at n2;cases el:kJ t o with
     |true=>
      rw[el] at ql hlO;simp only[cT] at ql;simp only[ai,ax,aA,cut,bu,aN,ay,aa,ah,aG,aV,reduceCtorEq,bW,dy,ofValue,aX,tx,oW,h8,h11,h12,h13,h14,h15,h16,g11,g13,g15,b8,b11,b13,b15,jc,jq,fq,eP,Obj.cells,h64,q1,e1,q2,e2,jX,jz,dl,cU,ja,Obj.val,q3,e3,n1,n2,e4,e5,h195,ql,hbs,hlO]
     |false=>
      rw[el] at ql hlO;simp only[cF] at ql;simp only[ai,ax,aA,cut,bu,aN,ay,aa,ah,aG,aV,reduceCtorEq,bW,dy,ofValue,aX,tx,oW,h8,h11,h12,h13,h14,h15,h16,g11,g13,g15,b8,b11,b13,b15,jc,jq,fq,eP,Obj.cells,h64,q1,e1,q2,e2,jX,jz,dl,cU,ja,Obj.val,q3,e3,n1,n2,e4,e5,h195,ql,hbs,hlO]
    |true=>
    rw[e5] at n2;have gf:(nu b o t).Al:=Bo gb go gt (by simp only[dI,bA] at fb;exact fb.2) (by simp only[dI,bA] at fo;exact fo.2) (by simp only[dI,bA] at ft;exact ft.2);have qf:v6 [b.val,o.val,t.val]=_:=abB gb go gt (by simp only[dI,bA] at fb;exact fb.2) (by simp only[dI,bA] at fo;exact fo.2) (by simp only[dI,bA] at ft;exact ft.2);simp only[Obj.val,Obj.cells] at qf;have f1:=gf.gE.aL;have f2:=gf.gT.aL;have f3:=gf.gE.scal;have f4:=gf.gT.scal;have f5:(lw (kD b o t)).aL=true:=(wF _:aD 1 aF (lw (kD b o t)) (kD b o t)).aL;simp only[fG,ai,ax,aA,HU,cut,bu,aN,ay,aa,ah,aG,aV,reduceCtorEq,bW,dy,ofValue,aX,tx,oW,h8,h11,h12,h13,h14,h15,h16,g11,g13,g15,g17,b8,b11,b13,b15,jc,jq,fq,eP,Obj.cells,h64,q1,e1,q2,e2,jX,jz,dl,cU,ja,Obj.val,q3,e3,n1,n2,e4,e5,dU,h196,qf,f5]
end
def yi:Sp
 | [u,v,w,.str id]=>(mQ u).bind fun b=>(mQ v).bind fun o=>(mQ w).bind fun t=>bif b.all dI&&(o.all dI&&t.all dI) then some (jX (bc id b) (bc id o) (bc id t)) else none
 |_=>none
variable{b:List Obj}
def akp(hb:aD 6 Obj.val vb b)(ho:aD 6 Obj.val vo o)(ht:aD 6 Obj.val vt t)(gb: ∀q∈b,q.Al)(go: ∀q∈o,q.Al)(gt: ∀q∈t,q.Al)(sb:b.length<small)(so:o.length<small)(st:t.length<small)(pb:aQ (.agg [vb])=true)(po:aQ (.agg [vo])=true)(pt:aQ (.agg [vt])=true)(fb:b.all dI=true)(fo:o.all dI=true)(ft:t.all dI=true)(id:ak):
 yi [.agg [vb],.agg [vo],.agg [vt],.str id]=some (jX (bc id b) (bc id o) (bc id t)):=by
 simp only[ce,yi,pY hb gb sb pb,pY ho go so po,pY ht gt st pt,fb,fo,ft,cH]
def ph(hg: ∀o∈l,o.Al)(hf:l.all dI=true){id:ak}: ∀b,bc id l=some b->b.Al/\dI b=true:=fun b h=>⟨hg b (iO h).1,fY.1 hf b (iO h).1⟩
def JB(h: ∀b,p=some b->b.Al/\dI b=true):(p.getD eP).Al:=by
 cases p with
 |none=>exact CQ
 |some b=>exact(h b rfl).1
variable{h:aZ bf}
def acj{a b c b' c':ae}(h1:dP h a a')(h2:dP h b b')(h3:dP h c c'):dP h (.tup [a,b,c]) (.tup [a',b',c']):=by
 obtain⟨k1,h1⟩:=h1;obtain⟨k2,h2⟩:=h2;obtain⟨k3,h3⟩:=h3;refine⟨max (max k1 k2) k3+1,?_⟩;have h1:=uK h (fh (qF k1 k2) (qF _ k3)) h1;have h2:=uK h (fh (rD k1 k2) (qF _ k3)) h2;have h3:=uK h (rD (max k1 k2) k3) h3;show((de (cj h (max (max k1 k2) k3)) [a,b,c])).bind (fun r=>some (ae.tup r))=_;simp only[de,h1,h2,h3,bn]
def ach(h:aZ bf)(l:List ak):de (cj h 1) (l.map aF)=some (l.map aF):=uJ fun v hv=>by
 obtain⟨p,_,rfl⟩:=dp.1 hv;rfl
def aci(h:aZ bf)(l:List ak):dP h (lw l) (lw l):=by
 cases l with
 |nil=>exact⟨1,rfl⟩
 |cons a l=>
  refine⟨2,?_⟩;have h1:=ach h (a::l);show(de (cj h 1) ((a::l).map aF)).bind _=_;rw[h1];rfl
def acf(h:aZ bf)(pb po pt:Option Obj):dP h (jz pb po pt) (jz pb po pt):=by
 have h1:dP h (.list 1 [.str dw] .GE) (.list 1 [.str dw] .GE):=⟨2,rfl⟩;unfold jz;cases cU po pt||cU pt pb with
 |true=>exact⟨1,rfl⟩
 |false=>
 cases cU po pb with
 |true=>exact⟨1,rfl⟩
 |false=>
 simp only[cF];cases pb with
 |none=>exact h1
 |some b=>
 cases po with
 |none=>exact h1
 |some o=>
 cases pt with
 |none=>exact h1
 |some t=>
 show dP h (bif aK o.uP b.uP&&aK t.uP b.uP then lw (kD b o t) else .list 1 [.str dw] .GE) (bif aK o.uP b.uP&&aK t.uP b.uP then lw (kD b o t) else .list 1 [.str dw] .GE);cases aK o.uP b.uP&&aK t.uP b.uP with
 |true=>exact aci h _
 |false=>exact h1
def Gf(gb: ∀b,pb=some b->b.Al/\dI b=true)(go: ∀b,po=some b->b.Al/\dI b=true)(gt: ∀b,pt=some b->b.Al/\dI b=true): ∀x,dl pb po pt=some x->x.Al:=by
 intro x hx;have hl:=KS (fun o h=>(go o h).1) (fun o h=>(gt o h).1);unfold dl at hx;cases h1:cU po pt||cU pt pb with
 |true=>rw[h1] at hx;exact(go x hx).1
 |false=>
 rw[h1] at hx;cases h2:cU po pb with
 |true=>rw[h2] at hx;exact(gt x hx).1
 |false=>
 rw[h2] at hx;simp only[cF] at hx;cases pb with
 |none=>exact hl x hx
 |some b=>
 cases po with
 |none=>exact hl x hx
 |some o=>
 cases pt with
 |none=>exact hl x hx
 |some t=>
 have hx:(bif aK o.uP b.uP&&aK t.uP b.uP then some (nu b o t) else gS (some o) (some t))=some x:=hx;cases h3:aK o.uP b.uP&&aK t.uP b.uP with
 |false=>rw[h3] at hx;exact hl x hx
 |true=>
  rw[h3] at hx;have tv: ∀ {q:Obj},dI q=true->cY q.gT=true:=fun h=>by
   simp only[dI,bA] at h;exact h.2
  rw[<-sI hx];exact Bo (gb b rfl).1 (go o rfl).1 (gt t rfl).1 (tv (gb b rfl).2) (tv (go o rfl).2) (tv (gt t rfl).2)
section
variable{sp:bC}
def aks(h111:sp 111=none)(h115:sp 115=some tw)(h64:sp 64=some vr)(h195:sp 195=some wB)(h196:sp 196=some v6)(hb:aD 6 Obj.val vb b)(ho:aD 6 Obj.val vo o)(ht:aD 6 Obj.val vt t)(gb: ∀q∈b,q.Al)(go: ∀q∈o,q.Al)(gt: ∀q∈t,q.Al)(sb:b.length<small)(so:o.length<small)(st:t.length<small)(pb:aQ (.agg [vb])=true)(po:aQ (.agg [vo])=true)(pt:aQ (.agg [vt])=true)(fb:b.all dI=true)(fo:o.all dI=true)(ft:t.all dI=true)(id:ak):
 aM (QS sp) 111 [.agg [vb],.agg [vo],.agg [vt],.str id] s0 (jX (bc id b) (bc id o) (bc id t)) s0:=by
 have q1:=zA hb gb sb pb id;have q2:=zA ho go so po id;have q3:=zA ht gt st pt id;rw[GP] at q1 q2 q3;have k1:=ph (id:=id) gb fb;have k2:=ph (id:=id) go fo;have k3:=ph (id:=id) gt ft;have g1:=JB k1;have g2:=JB k2;have g3:=JB k3;have c1:=hb.aL;have c2:=ho.aL;have c3:=ht.aL;have d1:=hb.scal;have d2:=ho.scal;have d3:=ht.scal;have a1:=g1.gE.aL;have a2:=g1.gT.aL;have a3:=g1.gE.scal;have a4:=g1.gT.scal;have b1:=g2.gE.aL;have b2:=g2.gT.aL;have b3:=g2.gE.scal;have b4:=g2.gT.scal;have e1:=g3.gE.aL;have e2:=g3.gT.aL;have e3:=g3.gE.scal;have e4:=g3.gT.scal;have I:=fun e lc=>akt (sp:=sp) h64 h195 h196 k1 k2 k3 (e:=e) (lc:=lc);refine aM.of4 D4.1 D4.2 D4.3 D4.4 h111 ?_;rw[aek];simp only[Obj.val,Obj.cells] at q1 q2 q3;simp only[fG,ai,ax,aA,bv,bt,cut,bu,aN,ay,aa,ah,aG,aV,bW,dy,ofValue,aX,tx,h115,q1,q2,q3,dU];refine I _ _ ⟨?_,?_,?_,?_,?_,?_,?_,?_,?_,?_,?_,?_,?_,?_,?_,?_⟩
 all_goals simp only[aq,iX,aa,Obj.cells]
 all_goals rfl
end
def Nu:du:=[(115,tw),(64,vr),(195,wB),(196,v6)]
def W4:dc Nu:=.cons Pu (.cons anh (.cons ah0 (.cons abC .nil)))
def akq:cq ar 111 yi:=by
 refine jC W4 fun args u h=>?_;unfold yi at h;split at h;rename_i x y z id;simp only[az] at h;obtain⟨b,h1,o,h2,t,h3,h⟩:=h;obtain⟨h4,h⟩:=bm h;simp only[bA] at h4;have h:=sI h;subst h;obtain⟨v1,rfl,l1,g1,s1,p1⟩:=pX h1;obtain⟨v2,rfl,l2,g2,s2,p2⟩:=pX h2;obtain⟨v3,rfl,l3,g3,s3,p3⟩:=pX h3;refine⟨(by show(aQ (.agg [v1])&&(aQ (.agg [v2])&&(aQ (.agg [v3])&&true)))=true;rw[p1,p2,p3];rfl),_,_,aks (sp:=fun f=>cI f Nu) rfl rfl rfl rfl rfl l1 l2 l3 g1 g2 g3 s1 s2 s3 p1 p2 p3 h4.1 h4.2.1 h4.2.2 id,rfl,?_⟩;exact acj (TN (Gf (ph g1 h4.1) (ph g2 h4.2.1) (ph g3 h4.2.2)) _) (DE _ _) (acf _ _ _ _);cases h
def Df(c:Cf): ∀l:List Cf,(gN c l).length<=l.length+1
 | []=>aU _
 |a::r=>by
  have:=Df c r;simp only[gN];cases ahead a c with
  |true=>simp only[cT,cP];omega
  |false=>
   cases a==c<;>simp only[cz,cP]<;>omega
def NI(k w:ak)(ws:List ak)(C:List Cf):pU k (w::ws) C=pU k ws (gN (k,w) C):=rfl
def NJ(k:ak): ∀(ws:List ak) (C:List Cf),(pU k ws C).length<=C.length+ws.length
 | [],C=>aU _
 |w::ws,C=>by
  have h1:=NJ k ws (gN (k,w) C);have h2:=Df (k,w) C;rw[NI];simp only[cP];omega
structure Mi (vb vo vt:ae) (out:List Obj) (C:List Cf) (ov:ae) (j:Nat) (e:aI) (lc:Ag.Loc):Prop where
 h3:aj e 3= .Ge 3 1 0
 h4:aj e 4= .Ge 4 1 0
 h5:aj e 5= .Ge 5 1 0
 h6:aj e 6= .Ge 6 1 0
 h8:aj e 8= .Ge 8 1 0
 h9:aj e 9=nr C
 h10:aj e 10=ov
 h11:aj e 11= .int .i64 (j:Nat)
 g3:lc.gen 3=1
 g4:lc.gen 4=1
 g5:lc.gen 5=1
 g6:lc.gen 6=1
 g8:lc.gen 8=1
 b3:lc.get 3 1=some [vb]
 b4:lc.get 4 1=some [vo]
 b5:lc.get 5 1=some [vt]
 b6:lc.get 6 1=some [.AL]
 b8:lc.get 8 1=some [kL out]
section
variable{sp:bC}
def SR(h113:sp 113=some rL){wv:ae}{out:List Obj}(hl:aD 6 Obj.val ov l)(hq:l[j]? =some q){ws:List ak}(hw:aD 1 aF wv ws)(hs:ws.length<=100000)(hm:s.ge<=s.al){Ce:List Cf}(hx: ∀e,Mi vb vo vt out Ce ov j e lc->K (.exit 2) ⟨e,136,lc⟩ s):
 ∀(rest pre:List ak) (C:List Cf) (e:aI),ws=pre++rest->Ce=pU q.id rest C->C.length+rest.length<=90000->Mi vb vo vt out C ov j e lc->aj e 14=wv->aj e 15= .int .i64 (pre.length:Nat)->W (QS sp) 48 (.loop FM) ⟨e,136,lc⟩ s K:=by
 have c1:=hw.aL;have n1:=fun mk s=>hw.len dB dH mk s;have c2:=hl.aL;have i2:=fun lc=>hl.at o7 hq lc .i64;intro rest
 induction rest with
 |nil=>
  intro pre C e hpre hC hlen I h14 h15;have hla:ws.length=pre.length:=by rw[hpre];simp
  refine eh ?_;simp only[ai,aA,aa,ah,mT,FM,h14,h15,c1,n1,hla,cR];have hC:Ce=C:=hC;refine hx _ ⟨?_,?_,?_,?_,?_,?_,?_,?_,I.g3,I.g4,I.g5,I.g6,I.g8,I.b3,I.b4,I.b5,I.b6,I.b8⟩
  all_goals simp only[au,aa,I.h3,I.h4,I.h5,I.h6,I.h8,I.h9,I.h10,I.h11,hC]
 |cons w rest ih=>
  intro pre C e hpre hC hlen I h14 h15;simp only[cP] at hlen;have hlt:pre.length<ws.length:=by rw[hpre];simp
  have ha1:ws[pre.length]? =some w:=by rw[hpre];simp
  have i1:=fun lc=>hw.at gR ha1 lc .i64;have hwr:=ig (n:=pre.length) (by omega);have h9:=I.h9;have h10:=I.h10;have h11:=I.h11;have q1:=ND C (q.id,w) (by omega);have kc:=(tj C).aL;have kc2:=(tj (gN (q.id,w) C)).aL;refine eh ?_;simp only[fG,ai,ax,aA,isStore,bu,aN,ay,aa,ah,aG,fD,aV,ei,fp,fk,ofValue,aX,mT,ag0,FM,h9,h10,h11,h14,h15,c1,n1,i2,hlt,i1,aF,Obj.val,Obj.cells,hwr,hm,kc,cS,evc,bu,h113,q1];refine ih (pre++[w]) (gN (q.id,w) C) _ (by rw[hpre];simp) (by rw[hC,NI]) (by have:=Df (q.id,w) C;omega) ⟨?_,?_,?_,?_,?_,?_,?_,?_,I.g3,I.g4,I.g5,I.g6,I.g8,I.b3,I.b4,I.b5,I.b6,I.b8⟩ ?_ ?_
  all_goals simp only[aq,cK,aa,I.h3,I.h4,I.h5,I.h6,I.h8,I.h9,I.h10,I.h11,h14]
end
def XW{b o t:Obj}(vb:cY b.gT=true)(vo:cY o.gT=true)(vt:cY t.gT=true):(kD b o t).length<=362:=by
 have h:=(CJ b.gT o.gT t.gT).2;have tb: ∀ {l:List be},cY l=true->l.length<=60:=fun h=>by
  simp only[cY,bA,dE] at h;exact h.2
 have:=tb vb
 have:=tb vo
 have:=tb vt;unfold kD;cases ia b o t<;>cases lp (b.x,b.y) (o.x,o.y) (t.x,t.y)<;>simp only[cK,cz,cZ]<;>omega
def LG(h:dI q=true):cY q.gT=true:=by
 simp only[dI,bA] at h;exact h.2
def VV(gb: ∀b,pb=some b->b.Al/\dI b=true)(go: ∀b,po=some b->b.Al/\dI b=true)(gt: ∀b,pt=some b->b.Al/\dI b=true):(tZ pb po pt).length<=362:=by
 have h1:([dw]:List ak).length<=362:=by simp only[cP,fJ];omega
 unfold tZ;cases cU po pt||cU pt pb with
 |true=>exact cV _
 |false=>
 cases cU po pb with
 |true=>exact cV _
 |false=>
 simp only[cF];cases pb with
 |none=>exact h1
 |some b=>
 cases po with
 |none=>exact h1
 |some o=>
 cases pt with
 |none=>exact h1
 |some t=>
 show(bif aK o.uP b.uP&&aK t.uP b.uP then kD b o t else [dw]).length<=362;cases aK o.uP b.uP&&aK t.uP b.uP with
 |true=>exact XW (LG (gb b rfl).2) (LG (go o rfl).2) (LG (gt t rfl).2)
 |false=>exact h1
def ama:(Cq p l).length<=l.length+1:=by
 cases p with
 |none=>exact jf _
 |some x=>exact VX
def Cg(l:List Obj):(kL l).cells=[kL l]:=by cases l<;>rfl
noncomputable def FJ:SC:=(.seq (.seq (.region ag3) (.cond (aR 66) (.region ag4) .skip)) (.seq (.region ag5) (.block 2 (.loop FM))))
noncomputable def agZ:SC:=(.seq (.draw RJ FK) FJ)
def RI:RH=(.seq (.seq (.region ahi) (.cond (aR 50) .skip (.exit 0))) (.seq (.block 1 agZ) (.region ahj))):=rfl
variable{g:Nat}
section
variable{sp:bC}
def ajx(h112:sp 112=some t6)(h113:sp 113=some rL){out:List Obj}(hl:aD 6 Obj.val ov l)(hq:l[j]? =some q)(gb: ∀b,pb=some b->b.Al/\dI b=true)(go: ∀b,po=some b->b.Al/\dI b=true)(gt: ∀b,pt=some b->b.Al/\dI b=true)(gout: ∀q∈out,q.Al)(sout:out.length<=90000)(sC:C.length<=80000)(hm:s.ge<=s.al)(hx: ∀e lc,Mi vb vo vt (Cq (dl pb po pt) out) (pU q.id (tZ pb po pt) C) ov j e lc->K .normal ⟨e,136,lc⟩ s)(I:Mi vb vo vt out C ov j e lc)(h12:aj e 12= .Ge 12 g 0)(h13:aj e 13= .bool (dl pb po pt).isSome)(h14:aj e 14=jz pb po pt)(b12:lc.get 12 g=some ((dl pb po pt).getD eP).cells):
 WF (QS sp) 48 FJ ⟨e,136,lc⟩ s K:=by
 have gm:=Gf gb go gt;have hw:=Tz pb po pt;have hwl:=VV gb go gt;have h8:=I.h8;have g8:=I.g8;have b8:=I.b8;unfold FJ;cases hm1:dl pb po pt with
 |none=>
  rw[hm1] at hx;simp only[hm1,oJ] at h13;simp only[ai,aA,ah,ofValue,aX,h13];refine SR (vb:=vb) (vo:=vo) (vt:=vt) (out:=out) h113 hl hq hw (by omega) hm ?_ (tZ pb po pt) [] C _ rfl rfl (by omega) ⟨?_,?_,?_,?_,?_,?_,?_,?_,I.g3,I.g4,I.g5,I.g6,I.g8,I.b3,I.b4,I.b5,I.b6,I.b8⟩ ?_ ?_;intro e I;simp only[Dj];exact hx e lc I
  all_goals simp only[aq,aa,I.h3,I.h4,I.h5,I.h6,I.h8,I.h9,I.h10,I.h11,h14,fJ]
  all_goals rfl
 |some x=>
  rw[hm1] at hx;have gx:=gm x hm1;simp only[hm1,jq] at h13;simp only[hm1,fq,Obj.cells] at b12;have q1:=VW (om out) gout (Gv gout) sout gx;simp only[Obj.val,Obj.cells] at q1;have k1:=(om out).aL;have k2:=(om (iJ x out)).aL;have k3:=Cg (iJ x out);have k4:=gx.gE.aL;have k5:=gx.gT.aL;have hk:=fun e lc' I=>hx e lc' I;simp only[ai,ax,aA,cut,bu,aN,ay,aa,ah,aG,aV,ofValue,aX,h8,h12,h13,b8,b12,h112,q1];refine SR (vb:=vb) (vo:=vo) (vt:=vt) (out:=iJ x out) h113 hl hq hw (by omega) hm ?_ (tZ pb po pt) [] C _ rfl rfl (by omega) ⟨?_,?_,?_,?_,?_,?_,?_,?_,?_,?_,?_,?_,?_,?_,?_,?_,?_,?_⟩ ?_ ?_;intro e I;simp only[Dj];exact hk e _ I
  all_goals simp only[aq,iX,aa,I.h3,I.h4,I.h5,I.h6,I.h8,I.h9,I.h10,I.h11,I.g3,I.g4,I.g5,I.g6,I.g8,I.b3,I.b4,I.b5,I.b6,I.b8,h14,fJ]
  all_goals rfl
end
def VS(h:ef q=true):q.gE.length<=2000:=by
 unfold ef at h;cases hb:kI q with
 |true=>rw[hb] at h;cases h
 |false=>
  simp only[kI,kj,decide_eq_false_iff_not] at hb;omega
def z7(h:dI q=true):q.gE.length<=1000000:=by
 simp only[dI,ll,bA,xe] at h;exact h.1.1
def abF{b o t:Obj}(h:dI b=true):(nu b o t).gE.length<=1000000:=by
 have e:(nu b o t).gE=(jK b o t).gE:=rfl;rw[e];unfold jK;cases hr:ia b o t with
 |none=>exact z7 h
 |some r=>
  unfold ia at hr;cases hs:jB b.gE o.gE t.gE with
  |none=>rw[hs] at hr;cases hr
  |some r'=>
   rw[hs] at hr;cases hv:ef (nN b r') with
   |false=>simp only[hv,cF] at hr;cases hr
   |true=>
    simp only[hv,cT] at hr;injection hr with hr;subst hr
    have:=VS hv;show(nN b r').gE.length<=1000000;omega
def ahW(go: ∀b,po=some b->b.Al/\dI b=true)(gt: ∀b,pt=some b->b.Al/\dI b=true): ∀x,gS po pt=some x->x.gE.length<=1000000:=by
 intro x hx;rcases zK (p:=po) (q:=pt) with e|e
 rw[e] at hx;exact z7 (go x hx).2;rw[e] at hx;exact z7 (gt x hx).2
def ajv(gb: ∀b,pb=some b->b.Al/\dI b=true)(go: ∀b,po=some b->b.Al/\dI b=true)(gt: ∀b,pt=some b->b.Al/\dI b=true): ∀x,dl pb po pt=some x->x.gE.length<=1000000:=by
 intro x hx;have hl:=ahW go gt;unfold dl at hx;cases h1:cU po pt||cU pt pb with
 |true=>rw[h1] at hx;exact z7 (go x hx).2
 |false=>
 rw[h1] at hx;cases h2:cU po pb with
 |true=>rw[h2] at hx;exact z7 (gt x hx).2
 |false=>
 rw[h2] at hx;simp only[cF] at hx;cases pb with
 |none=>exact hl x hx
 |some b=>
 cases po with
 |none=>exact hl x hx
 |some o=>
 cases pt with
 |none=>exact hl x hx
 |some t=>
 have hx:(bif aK o.uP b.uP&&aK t.uP b.uP then some (nu b o t) else gS (some o) (some t))=some x:=hx;cases h3:aK o.uP b.uP&&aK t.uP b.uP with
 |false=>rw[h3] at hx;exact hl x hx
 |true=>
  rw[h3] at hx;rw[<-sI hx];exact abF (gb b rfl).2
structure yY (vb vo vt:ae) (b o t:List Obj):Prop where
 lb:aD 6 Obj.val vb b
 lo:aD 6 Obj.val vo o
 lt:aD 6 Obj.val vt t
 gb: ∀q∈b,q.Al
 go: ∀q∈o,q.Al
 gt: ∀q∈t,q.Al
 pb:aQ (.agg [vb])=true
 po:aQ (.agg [vo])=true
 pt:aQ (.agg [vt])=true
 fb:b.all dI=true
 fo:o.all dI=true
 ft:t.all dI=true
 sb:b.length<=64
 so:o.length<=64
 st:t.length<=64
structure AY (out:List Obj) (n:Nat) (C:List Cf):Prop where
 g: ∀q∈out,q.Al
 r: ∀q∈out,q.gE.length<=1000000
 l:out.length<=n
 c:C.length<=362*n
def AY.step(A:yY vb vo vt b o t){out:List Obj}(h:AY out n C)(id:ak):AY (Cq (ee b o t id) out) (n+1) (pU id (yG b o t id) C):=by
 have gb:=ph (id:=id) A.gb A.fb;have go:=ph (id:=id) A.go A.fo;have gt:=ph (id:=id) A.gt A.ft;have gm:=Gf gb go gt;have rm:=ajv gb go gt;have hl:=ama (p:=ee b o t id) (l:=out);have hc:=NJ id (yG b o t id) C;have hw:(yG b o t id).length<=362:=VV gb go gt
 have:=h.l
 have:=h.c;have hm:ee b o t id=dl (bc id b) (bc id o) (bc id t):=rfl;refine⟨?_,?_,by omega,by omega⟩;rw[hm];cases hx:dl (bc id b) (bc id o) (bc id t) with
 |none=>exact h.g
 |some x=>exact MN (gm x hx) h.g
 rw[hm];cases hx:dl (bc id b) (bc id o) (bc id t) with
 |none=>exact h.r
 |some x=>
  intro q hq;rcases B8.1 hq with rfl|hq
  exact rm q hx;exact h.r q (uf.1 hq).1
section
variable{sp:bC}
def ajz(h111:sp 111=some yi)(h112:sp 112=some t6)(h113:sp 113=some rL)(A:yY vb vo vt b o t)(hl:aD 6 Obj.val ov l)(sl:l.length<=192)(hm:s.ge<=s.al)(hx: ∀e lc out C,pQ b o t (fun k=>k∈l.map (·.id)) out C->AY out l.length C->Mi vb vo vt out C ov l.length e lc->K (.exit 0) ⟨e,136,lc⟩ s):
 ∀(rest pre:List Obj) (out:List Obj) (C:List Cf) (e:aI) (lc:Ag.Loc),l=pre++rest->pQ b o t (fun k=>k∈pre.map (·.id)) out C->AY out pre.length C->Mi vb vo vt out C ov pre.length e lc->W (QS sp) 48 (.loop RH) ⟨e,136,lc⟩ s K:=by
 have hsm:=fg;have c2:=hl.aL;have hgo:DK ov= .none:=by rcases hl with⟨rfl,_⟩|⟨r,rfl⟩<;>rfl
 have n2:=fun mk s=>hl.len pf o9 mk s;have kb:=A.lb.aL;have ko:=A.lo.aL;have kt:=A.lt.aL;intro rest
 induction rest with
 |nil=>
  intro pre out C e lc hpre P M I;have hlp:l=pre:=by rw[hpre,ii]
  have hla:l.length=pre.length:=by rw[hlp]
  have h10:=I.h10;have h11:=I.h11;refine bV ?_;rw[RI];refine aC (rF ?_);simp only[ai,aA,aa,ah,mT,h10,h11,c2,n2,hla,cR];refine hx _ lc out C (by rw[hlp];exact P) (by rw[hlp];exact M) ⟨?_,?_,?_,?_,?_,?_,?_,?_,I.g3,I.g4,I.g5,I.g6,I.g8,I.b3,I.b4,I.b5,I.b6,I.b8⟩
  all_goals simp only[au,aa,I.h3,I.h4,I.h5,I.h6,I.h8,I.h9,I.h10,I.h11,hla]
 |cons q rest ih=>
  intro pre out C e lc hpre P M I;have hlt:pre.length<l.length:=by rw[hpre];simp
  have hq:l[pre.length]? =some q:=by rw[hpre];simp
  have i2:=fun lc=>hl.at o7 hq lc .i64;have hwr:=ig (n:=pre.length) (by omega);have gb:=ph (id:=q.id) A.gb A.fb;have go:=ph (id:=q.id) A.go A.fo;have gt:=ph (id:=q.id) A.gt A.ft;have sb:=A.sb;have so:=A.so;have st:=A.st;have gx:((dl (bc q.id b) (bc q.id o) (bc q.id t)).getD eP).Al:=by
   have:=Gf gb go gt;cases hx:dl (bc q.id b) (bc q.id o) (bc q.id t) with
   |none=>exact CQ
   |some x=>exact this x hx
  have q1:=akp A.lb A.lo A.lt A.gb A.go A.gt (by omega) (by omega) (by omega) A.pb A.po A.pt A.fb A.fo A.ft q.id;unfold jX at q1;rw[GP] at q1;simp only[Obj.val,Obj.cells] at q1;have d1:=gx.gE.aL;have d2:=gx.gT.aL;have d3:=gx.gE.scal;have d4:=gx.gT.scal;have d5:=(Tz (bc q.id b) (bc q.id o) (bc q.id t)).aL;have P1:=(P.step q.id).iff (D':=fun k=>k∈(pre++[q]).map (·.id)) fun k=>by simp only[je,List.mem_append,dG,pH,List.mem_cons,List.not_mem_nil,or_false]
  have M1:=M.step A q.id;have hpl:(pre++[q]).length=pre.length+1:=by simp
  have h3:=I.h3;have h4:=I.h4;have h5:=I.h5;have h10:=I.h10;have h11:=I.h11;have b3:=I.b3;have b4:=I.b4;have b5:=I.b5;refine bV ?_;rw[RI];refine aC (rF ?_);simp only[ai,aA,aa,ah,mT,h10,h11,c2,n2,hlt];refine aC (bL ?_);show W (QS sp) 48 (.seq (.draw RJ FK) FJ) _ s _;refine aC (W.drawG hm ?_);simp only[fG,ai,ax,aA,HU,cut,bu,aN,ay,aa,ah,aG,aV,fp,fk,mT,tX,Nat.reduceDiv,aa,FK,hgo,h3,h4,h5,h10,h11,b3,b4,b5,i2,Obj.val,Obj.cells,h111,q1,dU];refine rF (ajx (vb:=vb) (vo:=vo) (vt:=vt) (pb:=bc q.id b) (po:=bc q.id o) (pt:=bc q.id t) (q:=q) (out:=out) (C:=C) h112 h113 hl hq gb go gt M.g (by have:=M.l;omega) (by have:=M.c;omega) hm ?_ (g:=lc.gen 12+1) ⟨?_,?_,?_,?_,?_,?_,?_,?_,?_,?_,?_,?_,?_,?_,?_,?_,?_,?_⟩ ?_ ?_ ?_ ?_)
  ·intro e lc I
   simp only[dA];have h11:=I.h11;refine rF ?_;simp only[ai,aA,aa,ah,ofValue,aX,h11,hwr];refine ih (pre++[q]) (Cq (ee b o t q.id) out) (pU q.id (yG b o t q.id) C) _ lc (by rw[hpre];simp) P1 (by rw[hpl];exact M1) ⟨?_,?_,?_,?_,?_,?_,?_,?_,I.g3,I.g4,I.g5,I.g6,I.g8,I.b3,I.b4,I.b5,I.b6,I.b8⟩
   all_goals simp only[aq,aa,I.h3,I.h4,I.h5,I.h6,I.h8,I.h9,I.h10,hpl]
   all_goals rfl
  all_goals simp only[aq,iX,aa,I.h3,I.h4,I.h5,I.h6,I.h8,I.h9,I.h10,I.h11,I.g3,I.g4,I.g5,I.g6,I.g8,I.b3,I.b4,I.b5,I.b6,I.b8,Obj.cells]
end
noncomputable def KD:SC:=(.seq (.region ahg) (.region ahh))
noncomputable def KE:SC:=(.seq (.region ahb) (.seq (.region ahc) (.seq (.region ahd) (.seq (.region ahe) (.cond (aR 127) (.region ahf) .skip)))))
def FO:FN=(.block 5 (.seq (.region ag6) (.seq (.seq (.region ag7) (.cond (aR 94) (.seq (.region ag8) .ret) .skip)) (.seq (.region ag9) (.seq (.seq (.region aha) (.cond (aR 104) KE .skip)) KD))))):=rfl
def aj1{id:ak}(h:fS b o t id=some x):x∈b\/x∈o\/x∈t:=by
 unfold fS at h;cases hb:bc id b with
 |some q=>
  rw[hb] at h;rw[<-sI h];exact .inl (iO hb).1
 |none=>
  rw[hb] at h;have h:gS (bc id o) (bc id t)=some x:=h;rcases zK (p:=bc id o) (q:=bc id t) with e|e
  rw[e] at h;exact .inr (.inl (iO h).1);rw[e] at h;exact .inr (.inr (iO h).1)
section
variable{sp:bC}
def SQ(h112:sp 112=some t6)(h113:sp 113=some rL){out:List Obj}{id:ak}(gx:x.Al)(gout: ∀q∈out,q.Al)(sout:out.length<=90000)(sC:C.length<=90000)(hx: ∀e lc,Mi vb vo vt (iJ x out) (gN (id,dw) C) ov j e lc->K .normal ⟨e,136,lc⟩ s)(I:Mi vb vo vt out C ov j e lc)(h16:aj e 16= .str id)(h17:aj e 17= .Ge 17 g 0)(b17:lc.get 17 g=some x.cells):
 WF (QS sp) 48 KD ⟨e,136,lc⟩ s K:=by
 have h8:=I.h8;have h9:=I.h9;have b8:=I.b8;have q1:=VW (om out) gout (Gv gout) sout gx;have q2:=ND C (id,dw) (by omega);simp only[Obj.val,Obj.cells] at q1 b17;have k1:=(om out).aL;have k2:=(om (iJ x out)).aL;have k3:=Cg (iJ x out);have k4:=gx.gE.aL;have k5:=gx.gT.aL;have k6:=(tj C).aL;have k7:=(tj (gN (id,dw) C)).aL;have hso:([111,98,106,101,99,116]:ak)=dw:=rfl;unfold KD;simp only[fG,ai,ax,aA,cut,bu,aN,ay,aa,ah,aG,aV,ofValue,aX,h8,h9,h16,h17,b8,b17,k6,h112,h113,q1,cS,evc,bu,hso,q2];refine hx _ _ ⟨?_,?_,?_,?_,?_,?_,?_,?_,?_,?_,?_,?_,?_,?_,?_,?_,?_,?_⟩
 all_goals simp only[aq,iX,aa,I.h3,I.h4,I.h5,I.h6,I.h8,I.h9,I.h10,I.h11,I.g3,I.g4,I.g5,I.g6,I.g8,I.b3,I.b4,I.b5,I.b6,I.b8]
def ajy(h115:sp 115=some tw)(h116:sp 116=some sf){out:List Obj}(A:yY vb vo vt b o t){id:ak}(hlx:gS (bc id o) (bc id t)=some x)(hx: ∀e lc,Mi vb vo vt out C ov j e lc->aj e 16= .str id->aj e 17= .Ge 17 g 0->lc.get 17 g=some x.cells->K .normal ⟨e,136,lc⟩ s)(I:Mi vb vo vt out C ov j e lc)(h16:aj e 16= .str id)(h17:aj e 17= .Ge 17 g 0)(b17:lc.get 17 g=some jc):
 WF (QS sp) 48 KE ⟨e,136,lc⟩ s K:=by
 have hsm:=fg;have so:=A.so;have st:=A.st;have q2:=zA A.lo A.go (by omega) A.po id;have q3:=zA A.lt A.gt (by omega) A.pt id;rw[GP] at q2 q3;have go:=ph (id:=id) A.go A.fo;have gt:=ph (id:=id) A.gt A.ft;have ko:=A.lo.aL;have kt:=A.lt.aL;have h4:=I.h4;have h5:=I.h5;have b4:=I.b4;have b5:=I.b5;unfold KE;cases ho:bc id o with
 |none=>
  rw[ho] at q2 hlx;cases ht:bc id t with
  |none=>rw[ht] at hlx;cases hlx
  |some y=>
   rw[ht] at q3 hlx;have hy:=sI hlx;subst hy;have gy:=(gt y ht).1;have c1:=gy.gE.aL;have c2:=gy.gT.aL;have c3:=gy.gE.scal;have c4:=gy.gT.scal;simp only[pL,fq,eP,Obj.val,Obj.cells] at q2 q3;show WF (QS sp) 48 _ _ _ _
   ·simp only[fG,ai,ax,aA,cut,bu,aN,ay,aa,ah,aG,aV,ofValue,aX,mT,h4,h5,h16,h17,b4,b5,b17,jc,h115,q2,q3,dU,oJ,jq]
    refine hx _ _ ⟨?_,?_,?_,?_,?_,?_,?_,?_,?_,?_,?_,?_,?_,?_,?_,?_,?_,?_⟩ ?_ ?_ ?_
    all_goals simp only[aq,iX,aa,I.h3,I.h4,I.h5,I.h6,I.h8,I.h9,I.h10,I.h11,I.g3,I.g4,I.g5,I.g6,I.g8,I.b3,I.b4,I.b5,I.b6,I.b8,h16,h17,Obj.cells]
 |some z=>
  rw[ho] at q2 hlx;have gz:=(go z ho).1;have d1:=gz.gE.aL;have d2:=gz.gT.aL;have d3:=gz.gE.scal;have d4:=gz.gT.scal;cases ht:bc id t with
  |none=>
   rw[ht] at q3 hlx;have hy:=sI hlx;subst hy;simp only[pL,fq,eP,Obj.val,Obj.cells] at q2 q3
   ·simp only[fG,ai,ax,aA,cut,bu,aN,ay,aa,ah,aG,aV,ofValue,aX,mT,h4,h5,h16,h17,b4,b5,b17,jc,h115,q2,q3,dU,oJ,jq]
    refine hx _ _ ⟨?_,?_,?_,?_,?_,?_,?_,?_,?_,?_,?_,?_,?_,?_,?_,?_,?_,?_⟩ ?_ ?_ ?_
    all_goals simp only[aq,iX,aa,I.h3,I.h4,I.h5,I.h6,I.h8,I.h9,I.h10,I.h11,I.g3,I.g4,I.g5,I.g6,I.g8,I.b3,I.b4,I.b5,I.b6,I.b8,h16,h17,Obj.cells]
  |some y=>
   rw[ht] at q3 hlx;have gy:=(gt y ht).1;have c1:=gy.gE.aL;have c2:=gy.gT.aL;have c3:=gy.gE.scal;have c4:=gy.gT.scal;rw[R7] at hlx;have ql:sf [y.val,z.val]=some (.bool (kJ y z)):=by
    have f1:=(gt y ht).2;have f2:=(go z ho).2;simp only[dI,bA] at f1 f2;exact R5 gy gz f1.1 f2.1
   simp only[fq,eP,Obj.val,Obj.cells] at q2 q3 ql;cases hr:kJ y z with
   |true=>
    rw[hr] at ql hlx;have hy:=sI hlx;subst hy
    ·simp only[fG,ai,ax,aA,cut,bu,aN,ay,aa,ah,aG,aV,ofValue,aX,mT,h4,h5,h16,h17,b4,b5,b17,jc,h115,q2,q3,dU,jq,h116,ql]
     refine hx _ _ ⟨?_,?_,?_,?_,?_,?_,?_,?_,?_,?_,?_,?_,?_,?_,?_,?_,?_,?_⟩ ?_ ?_ ?_
     all_goals simp only[aq,iX,aa,I.h3,I.h4,I.h5,I.h6,I.h8,I.h9,I.h10,I.h11,I.g3,I.g4,I.g5,I.g6,I.g8,I.b3,I.b4,I.b5,I.b6,I.b8,h16,h17,Obj.cells]
   |false=>
    rw[hr] at ql hlx;have hy:=sI hlx;subst hy
    ·simp only[fG,ai,ax,aA,cut,bu,aN,ay,aa,ah,aG,aV,ofValue,aX,mT,h4,h5,h16,h17,b4,b5,b17,jc,h115,q2,q3,dU,jq,h116,ql]
     refine hx _ _ ⟨?_,?_,?_,?_,?_,?_,?_,?_,?_,?_,?_,?_,?_,?_,?_,?_,?_,?_⟩ ?_ ?_ ?_
     all_goals simp only[aq,iX,aa,I.h3,I.h4,I.h5,I.h6,I.h8,I.h9,I.h10,I.h11,I.g3,I.g4,I.g5,I.g6,I.g8,I.b3,I.b4,I.b5,I.b6,I.b8,h16,h17,Obj.cells]
end
section
variable{sp:bC}
def SS(h114:sp 114=some wD)(A:yY vb vo vt b o t)(hx: ∀e lc,aj e 6= .Ge 6 1 0->aj e 7=nr (oV b o t)->lc.get 6 1=some [kL (jH b o t)]->K .ret ⟨e,136,lc⟩ s){out:List Obj}(hm:tF b o t out=none)(P:rI b o t out C)(gout: ∀q∈out,q.Al)(rout: ∀q∈out,q.gE.length<=1000000)(hlo:out.length<=90000)(I:Mi vb vo vt out C ov j e lc):W (QS sp) 48 (.loop FN) ⟨e,136,lc⟩ s K:=by
 have hsm:=fg;have sb:=A.sb;have so:=A.so;have st:=A.st;have kb:=A.lb.aL;have ko:=A.lo.aL;have kt:=A.lt.aL;have q1:=ST (om out) A.lb A.lo A.lt gout A.gb A.go A.gt (by omega) (by omega) (by omega) (by omega) (Gv gout) A.pb A.po A.pt rout;rw[<-SW,hm] at q1;simp only[pL] at q1;obtain⟨rfl,rfl⟩:=P.stop hm;obtain⟨h3,h4,h5,h6,h8,h9,h10,h11,g3,g4,g5,g6,g8,b3,b4,b5,b6,b8⟩:=I;have k1:=(om (jH b o t)).aL;have k2:=(tj (oV b o t)).aL;have k3:=Cg (jH b o t);refine eh ?_;rw[FO];simp only[ai,ax,aA,cut,bu,aN,ay,aa,ah,aV,ofValue,aX,h3,h4,h5,h6,h8,h9,b3,b4,b5,b6,b8,h114,q1];refine hx _ _ ?_ ?_ ?_
 all_goals simp only[aq,ew,aa,bS,h6]
def ajA(h112:sp 112=some t6)(h113:sp 113=some rL)(h114:sp 114=some wD)(h115:sp 115=some tw)(h116:sp 116=some sf)(A:yY vb vo vt b o t)(nb: ∀x,x∈b\/x∈o\/x∈t->x.id≠ [])(hx: ∀e lc,aj e 6= .Ge 6 1 0->aj e 7=nr (oV b o t)->lc.get 6 1=some [kL (jH b o t)]->K .ret ⟨e,136,lc⟩ s):
 ∀(n:Nat) (out:List Obj) (C:List Cf) (e:aI) (lc:Ag.Loc),yb b o t out<=n->rI b o t out C->(∀q∈out,q.Al)->(∀q∈out,q.gE.length<=1000000)->out.length+n<=90000->C.length+n<=90000->Mi vb vo vt out C ov j e lc->W (QS sp) 48 (.loop FN) ⟨e,136,lc⟩ s K:=by
 have hsm:=fg;have sb:=A.sb;have so:=A.so;have st:=A.st;have kb:=A.lb.aL;have ko:=A.lo.aL;have kt:=A.lt.aL;intro n
 induction n with
 |zero=>
  intro out C e lc hn P gout rout hlo hlc I;have hm:tF b o t out=none:=by
   cases hm:tF b o t out with
   |none=>rfl
   |some id=>
    have h1:=List.find?_some hm;simp only[bA] at h1;obtain⟨x,hx⟩:=rE.1 h1.2
    have:=SV P hm hx;omega
  exact SS h114 A hx hm P gout rout (by omega) I
 |succ n ih=>
  intro out C e lc hn P gout rout hlo hlc I;cases hm:tF b o t out with
  |none=>exact SS h114 A hx hm P gout rout (by omega) I
  |some id=>
   have h1:=List.find?_some hm;simp only[bA] at h1;obtain⟨x,hnd⟩:=rE.1 h1.2;have hms:=SV P hm hnd;have hP:=P.step hm hnd;have hxm:=aj1 hnd;have hid:=Ls hnd;have hne:(id==([]:ak))=false:=bN.2 (by rw[<-hid];exact nb x hxm);have gx:x.Al/\dI x=true:=by
    rcases hxm with h|h|h
    exact⟨A.gb x h,fY.1 A.fb x h⟩;exact⟨A.go x h,fY.1 A.fo x h⟩;exact⟨A.gt x h,fY.1 A.ft x h⟩
   have q1:=ST (om out) A.lb A.lo A.lt gout A.gb A.go A.gt (by omega) (by omega) (by omega) (by omega) (Gv gout) A.pb A.po A.pt rout;rw[<-SW,hm] at q1;simp only[fq] at q1;have q2:=zA A.lb A.gb (by omega) A.pb id;rw[GP] at q2;obtain⟨h3,h4,h5,h6,h8,h9,h10,h11,g3,g4,g5,g6,g8,b3,b4,b5,b6,b8⟩:=I;have k1:=(om out).aL;have hl1:=VX (x:=x) (l:=out);have hl2:=Df (id,dw) C;have go_on: ∀e lc,Mi vb vo vt (iJ x out) (gN (id,dw) C) ov j e lc->W (QS sp) 48 (.loop FN) ⟨e,136,lc⟩ s K:=fun e lc I=>ih _ _ e lc (by omega) hP (MN gx.1 gout) (fun q hq=>by
    rcases B8.1 hq with rfl|hq
    exact z7 gx.2;exact rout q (uf.1 hq).1) (by omega) (by omega) I
   refine eh ?_;rw[FO];cases hb:bc id b with
   |some y=>
    have hy:y=x:=by
     unfold fS at hnd;rw[hb] at hnd;exact sI hnd
    subst hy;rw[hb] at q2;have c1:=gx.1.gE.aL;have c2:=gx.1.gT.aL;have c3:=gx.1.gE.scal;have c4:=gx.1.gT.scal;simp only[fq,jq,Obj.val,Obj.cells] at q2;simp only[fG,ai,ax,aA,cut,bu,aN,ay,aa,ah,aG,aV,ofValue,aX,mT,h3,h4,h5,h8,b3,b4,b5,b8,h114,q1,hne,h115,q2,dU];refine SQ (vb:=vb) (vo:=vo) (vt:=vt) (ov:=ov) (j:=j) (id:=id) (out:=out) (C:=C) (x:=y) (g:=lc.gen 17+1) h112 h113 gx.1 gout (by omega) (by omega) ?_ ⟨?_,?_,?_,?_,?_,?_,?_,?_,?_,?_,?_,?_,?_,?_,?_,?_,?_,?_⟩ ?_ ?_ ?_;intro e lc I;simp only[dA]
    have:=go_on e lc I;rw[FO] at this;exact this
    all_goals simp only[aq,iX,aa,h3,h4,h5,h6,h8,h9,h10,h11,g3,g4,g5,g6,g8,b3,b4,b5,b6,b8,Obj.cells]
   |none=>
    have hlx:gS (bc id o) (bc id t)=some x:=by
     unfold fS at hnd;rw[hb] at hnd;exact hnd
    rw[hb] at q2;simp only[pL,oJ,eP,Obj.val,Obj.cells] at q2;simp only[fG,ai,ax,aA,cut,bu,aN,ay,aa,ah,aG,aV,ofValue,aX,mT,h3,h4,h5,h8,b3,b4,b5,b8,h114,q1,hne,h115,q2,dU];refine ajy (vb:=vb) (vo:=vo) (vt:=vt) (out:=out) (C:=C) (ov:=ov) (j:=j) (id:=id) (g:=lc.gen 17+1) h115 h116 A hlx ?_ ⟨?_,?_,?_,?_,?_,?_,?_,?_,?_,?_,?_,?_,?_,?_,?_,?_,?_,?_⟩ ?_ ?_ ?_;intro e lc' I h16 h17 b17;simp only[bM];refine SQ h112 h113 gx.1 gout (by omega) (by omega) ?_ I h16 h17 b17;intro e lc I;simp only[dA]
    have:=go_on e lc I;rw[FO] at this;exact this
    all_goals simp only[aq,iX,aa,h3,h4,h5,h6,h8,h9,h10,h11,g3,g4,g5,g6,g8,b3,b4,b5,b6,b8,jc]
end
def aM.ofW{Q:bF}{f:FuncId}{fn:Func}{sc:SC}{rs:List ResultVar}{args:List ae}{R:ae->St->Prop}(hf:Q.P.funcs[f]? =some fn)(hc:fn.body.map fP=some sc)(hn:fn.ntmps=n)(hr:fn.results.toList=rs)(hsp:Q.spec f=none)(h:W Q f sc (bv n args) s fun x fr' s1=>(x= .normal\/x= .ret)/\ ∃v,(bW Q [] fr' s1 rs).map gG=some v/\R v s1)(hH:Q.specH f=none:=by rfl)(hW:Q.specW f=none:=by rfl): ∃v s',aM Q f args s v s'/\R v s':=by
 obtain⟨x,fr',s1,hrun,hx,v,hv,hp⟩:=h;exact⟨v,s1,aM.of2 hf hc hn hr hsp ⟨x,fr',s1,hrun,rfl,hx,by simpa only[Option.map_eq_some_iff] using hv⟩ hH hW,hp⟩
def apk(h:ef q=true):dI q=true:=by
 have h1:=VS h;unfold ef at h;cases hb:kI q with
 |true=>rw[hb] at h;cases h
 |false=>
  simp only[kI,kj,decide_eq_false_iff_not,nh] at hb;have ht:=hb.1.1.2;have hl:q.gT.length<=60:=by
   simp only[cY,bA,dE] at ht;exact ht.2
  simp only[dI,ll,bA,xe];exact⟨⟨by omega,by omega⟩,ht⟩
def ME(h:ef q=true):q.id≠ []:=by
 unfold ef at h;cases hb:kI q with
 |true=>rw[hb] at h;cases h
 |false=>
  simp only[kI,kj,decide_eq_false_iff_not,nh] at hb;have hn:=hb.1.1.1.2;intro e;rw[e] at hn;cases hn
def F9(h:gU l=true): ∀q∈l,ef q=true:=by
 simp only[gU,bA] at h;exact Tn l [] h.1
def K8(h:gU l=true):l.all dI=true:=fY.2 fun q hq=>apk (F9 h q hq)
noncomputable def u4(b o t:List Obj):ae:=bif qB b o t then yx b o t else A4
section
variable{sp:bC}
def ajo(h48:sp 48=none)(h110:sp 110=some zM)(h111:sp 111=some yi)(h112:sp 112=some t6)(h113:sp 113=some rL)(h114:sp 114=some wD)(h115:sp 115=some tw)(h116:sp 116=some sf)(lb:aD 6 Obj.val vb b)(lo:aD 6 Obj.val vo o)(lt:aD 6 Obj.val vt t)(gb: ∀q∈b,q.Al)(go: ∀q∈o,q.Al)(gt: ∀q∈t,q.Al)(pb:aQ (.agg [vb])=true)(po:aQ (.agg [vo])=true)(pt:aQ (.agg [vt])=true)(sb:b.length<=64)(so:o.length<=64)(st:t.length<=64):
 ∃v' s',aM (QS sp) 48 [.agg [vb],.agg [vo],.agg [vt]] s0 v' s'/\(v'=u4 b o t/\s'.ci=0):=by
 have hsm:=fg;have kb:=lb.aL;have ko:=lo.aL;have kt:=lt.aL;have db:=lb.scal;have d_o:=lo.scal;have dt:=lt.scal;have q1:=KX lb gb (by omega);have q2:=KX lo go (by omega);have q3:=KX lt gt (by omega);rw[aiP] at q1 q2 q3;have hm0:s0.ge<=s0.al:=aU _;refine aM.ofW FL.1 FL.2 FL.3 FL.4 h48 ?_;unfold u4 qB;cases v1:gU b with
 |false=>
  rw[v1] at q1;refine rF ?_;simp only[ai,ax,aA,bv,bt,cut,bu,aN,ay,aa,ah,aG,aV,reduceCtorEq,bW,dy,ofValue,aX,xW,mT,h110,q1,cS];exact⟨_,rfl,rfl,rfl⟩
 |true=>
 rw[v1] at q1;cases v2:gU o with
 |false=>
  rw[v2] at q2;refine rF ?_;simp only[ai,ax,aA,bv,bt,cut,bu,aN,ay,aa,ah,aG,aV,reduceCtorEq,bW,dy,ofValue,aX,xW,mT,h110,q1,q2,cS];exact⟨_,rfl,rfl,rfl⟩
 |true=>
 rw[v2] at q2;cases v3:gU t with
 |false=>
  rw[v3] at q3;refine rF ?_;simp only[ai,ax,aA,bv,bt,cut,bu,aN,ay,aa,ah,aG,aV,reduceCtorEq,bW,dy,ofValue,aX,xW,mT,h110,q1,q2,q3,cS];exact⟨_,rfl,rfl,rfl⟩
 |true=>
 rw[v3] at q3;have A:yY vb vo vt b o t:=⟨lb,lo,lt,gb,go,gt,pb,po,pt,K8 v1,K8 v2,K8 v3,sb,so,st⟩;have nb: ∀x,x∈b\/x∈o\/x∈t->x.id≠ []:=fun x hx=>by
  rcases hx with h|h|h
  exact ME (F9 v1 x h);exact ME (F9 v2 x h);exact ME (F9 v3 x h)
 have hb0: ∀e s,cx ar 22 0 [] false e s=some (.list 6 [] .GE,s):=fun e s=>by kernel_rfl
 obtain⟨w1,s1,a1,o1,ci1,nx1,m1,_,_⟩:=rN (t:=22) (lo:=0) uD rfl (by decide) (s:=s0.top) (ov:=.list 6 [] .GE) (xs:=[]) (.inr ⟨rfl,rfl⟩) (qk lb _ _) (by rw[cZ];simp only[fJ];omega) (cV _) (aU _);have ci1:s1.ci=s0.ci:=ci1;have nx1:s0.al<=s1.al:=nx1;have c1:=o1.aL;obtain⟨w2,s2,a2,o2,ci2,nx2,m2,_,_⟩:=rN (t:=22) uD rfl (by decide) (s:=(s0.Gt s1).top) (ov:=w1) (show tc 6 0 (s0.Gt s1).top w1 _ from o1) (qk lo _ _) (by simp only[dX,cZ,fJ];omega) (cV _) (aU _);have ci2:s2.ci=(s0.Gt s1).ci:=ci2;have nx2:(s0.Gt s1).al<=s2.al:=nx2;have c2:=o2.aL;obtain⟨w3,s3,a3,o3,ci3,nx3,m3,_,_⟩:=rN (t:=22) uD rfl (by decide) (s:=((s0.Gt s1).Gt s2).top) (ov:=w2) (show tc 6 0 ((s0.Gt s1).Gt s2).top w2 _ from o2) (qk lt _ _) (by simp only[dX,cZ,fJ];omega) (cV _) (aU _);have ci3:s3.ci=((s0.Gt s1).Gt s2).ci:=ci3;have nx3:((s0.Gt s1).Gt s2).al<=s3.al:=nx3;have c3:=o3.aL;have hl:aD 6 Obj.val w3 (b++(o++t)):=by
  have e:[]++b.map Obj.val++o.map Obj.val++t.map Obj.val=(b++(o++t)).map Obj.val:=by simp
  rw[e] at o3;exact o3.isL
 have hm:(((s0.Gt s1).Gt s2).Gt s3).ge<=(((s0.Gt s1).Gt s2).Gt s3).al:=uU (uU (uU hm0 nx1) nx2) nx3;have hci:(((s0.Gt s1).Gt s2).Gt s3).ci=0:=by
  show s3.ci=0;rw[ci3];show s2.ci=0;rw[ci2];show s1.ci=0;rw[ci1];rfl
 refine aC (rF ?_);simp only[ai,ax,aA,bv,bt,aa,ah,aG,aV,bW,dy,ofValue,aX,mT];refine aC (rF ?_);simp only[ai,ax,aA,cut,aN,ay,aa,ah,ofValue,aX,h110,q1,q2,q3];refine aC (rF ?_);simp only[ai,ax,aA,aa,ah,mT];refine aC (rF ?_);simp only[cG,ah,HR,bM,ofValue,aX];refine aC (W.drawG hm0 ?_);simp only[ai,ax,aA,HU,ay,aa,ah,aG,fp,fk,mT,tX,Nat.reduceDiv,aa,RG,kb,ko,kt,hb0,hm0,a1,a2,a3,c1,c2,ci1,ci2,ci3,nx1,nx2,nx3];generalize ((s0.Gt s1).Gt s2).Gt s3=s at hm hci ⊢;refine aC (aC (rF ?_));simp only[cG,ah,HR,bM,ofValue,aX];refine bL ?_;have hll:(b++(o++t)).length=b.length+(o.length+t.length):=by simp only[dX]
 refine ajz (vb:=vb) (vo:=vo) (vt:=vt) h111 h112 h113 A hl (by omega) hm ?_ (b++(o++t)) [] [] [] _ _ rfl pQ.start ⟨fun q h=>(by cases h),fun q h=>(by cases h),cV _,cV _⟩ ⟨?_,?_,?_,?_,?_,?_,?_,?_,?_,?_,?_,?_,?_,?_,?_,?_,?_,?_⟩;intro e lc out C P M I;simp only[Dj];refine bL ?_;have P2:rI b o t out C:=(P.iff (D':=fun k=>k∈dg b o t) fun k=>by unfold dg;rw[je,je]).two;have hmn:yb b o t out<=192:=by
  unfold yb;have h1:=pG (fun k=>(bc k out).isNone) (dg b o t);have h2:(dg b o t).length=b.length+(o.length+t.length):=by unfold dg;simp only[dX,cZ]
  omega
 have hol:=M.l;have hcl:=M.c;refine ajA h112 h113 h114 h115 h116 A nb ?_ (yb b o t out) out C e lc (aU _) P2 M.g M.r (by omega) (by omega) I;intro e lc h6 h7 b6;have x1:=(tj (oV b o t)).aL;have x2:=(om (jH b o t)).aL;have x3:=Cg (jH b o t);simp only[ai,ax,aA,cut,aN,ay,reduceCtorEq,h6,h7,b6,x1];exact⟨_,rfl,rfl,hci⟩
 all_goals simp only[aq,iX,aa]
 all_goals rfl
end
def ace(h:aZ bf)(hg: ∀q∈l,q.Al):dP h (kL l) (kL l):=by
 cases l with
 |nil=>exact⟨1,rfl⟩
 |cons a l=>
  refine⟨6,?_⟩;have h1:de (cj h 5) ((a::l).map Obj.val)=some ((a::l).map Obj.val):=uJ fun v hv=>by
   obtain⟨q,hq,rfl⟩:=dp.1 hv;exact DF h (hg q hq) 1
  show(de (cj h 5) ((a::l).map Obj.val)).bind _=_;rw[h1];rfl
def acd(h:aZ bf)(l:List Cf):dP h (nr l) (nr l):=by
 cases l with
 |nil=>exact⟨1,rfl⟩
 |cons a l=>
  refine⟨4,?_⟩;have h1:de (cj h 3) ((a::l).map cg)=some ((a::l).map cg):=uJ fun v hv=>by
   obtain⟨q,_,rfl⟩:=dp.1 hv;rfl
  show(de (cj h 3) ((a::l).map cg)).bind _=_;rw[h1];rfl
def Pj{a:ae}(h1:dP h a a'):dP h (.agg [a]) (.agg [a']):=by
 obtain⟨k,h1⟩:=h1;refine⟨k+1,?_⟩;show(de (cj h k) [a]).bind (fun r=>some (ae.agg r))=_;simp only[de,h1,bn]
noncomputable def zU:Sp
 | [u,v,w]=>(mQ u).bind fun b=>(mQ v).bind fun o=>(mQ w).bind fun t=>bif br b.length 64&&(br o.length 64&&br t.length 64) then some (u4 b o t) else none
 |_=>none
def ajl(lb:aD 6 Obj.val vb b)(lo:aD 6 Obj.val vo o)(lt:aD 6 Obj.val vt t)(gb: ∀q∈b,q.Al)(go: ∀q∈o,q.Al)(gt: ∀q∈t,q.Al)(pb:aQ (.agg [vb])=true)(po:aQ (.agg [vo])=true)(pt:aQ (.agg [vt])=true)(sb:b.length<=64)(so:o.length<=64)(st:t.length<=64):
 zU [.agg [vb],.agg [vo],.agg [vt]]=some (u4 b o t):=by
 have hsm:=fg;simp only[ce,zU,pY lb gb (by omega) pb,pY lo go (by omega) po,pY lt gt (by omega) pt,cu sb,cu so,cu st,cH]
def KZ(hv:qB b o t=true)(gb: ∀q∈b,q.Al)(go: ∀q∈o,q.Al)(gt: ∀q∈t,q.Al)(sb:b.length<=64)(so:o.length<=64)(st:t.length<=64):pP b o t:=by
 simp only[qB,bA] at hv;exact⟨hv.1,hv.2.1,hv.2.2,gb,go,gt,by omega,by omega,by omega⟩
def Ns:du:=[(110,zM),(111,yi),(112,t6),(113,rL),(114,wD),(115,tw),(116,sf)]
def W1:dc Ns:=.cons aiL (.cons akq (.cons apF (.cons Xx (.cons ajD (.cons Pu (.cons R6 .nil))))))
def ajm:cq ar 48 zU:=by
 refine jC W1 fun args u h=>?_;unfold zU at h;split at h;rename_i x y z;simp only[az] at h;obtain⟨b,h1,o,h2,t,h3,h⟩:=h;obtain⟨h4,h⟩:=bm h;simp only[bA,xe] at h4;have h:=sI h;subst h;obtain⟨v1,rfl,l1,g1,s1,p1⟩:=pX h1;obtain⟨v2,rfl,l2,g2,s2,p2⟩:=pX h2;obtain⟨v3,rfl,l3,g3,s3,p3⟩:=pX h3;obtain⟨v',s',r1,r2,r3⟩:=ajo (sp:=fun f=>cI f Ns) rfl rfl rfl rfl rfl rfl rfl rfl l1 l2 l3 g1 g2 g3 p1 p2 p3 h4.1 h4.2.1 h4.2.2;refine⟨Co p1 p2 p3,v',s',r1,r3,?_⟩;rw[r2];unfold u4;cases hv:qB b o t with
 |false=>exact xL (Pj ⟨1,rfl⟩) ⟨1,rfl⟩
 |true=>exact xL (Pj (ace _ (SN (KZ hv g1 g2 g3 h4.1 h4.2.1 h4.2.2)))) (acd _ _)
 cases h
