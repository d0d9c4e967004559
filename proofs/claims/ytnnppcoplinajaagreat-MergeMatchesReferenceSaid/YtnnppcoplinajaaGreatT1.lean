/- tag.Merge; merger.fields. -/
import Derived.Test.YtnnppcoplinajaaGreatQ1
set_option linter.defProp false
open Bool renaming and_eq_true→bA,and_self→cH,not_false→fy,not_true→dS,or_eq_false_iff→kj
open List renaming drop→ay,elem_eq_true_of_mem→sV,foldl_cons→vE,length_append→dX,length_cons→cP,length_map→cZ,length_nil→fJ,length_singleton→rB,length_take→oG,map_append→je,map_cons→dG,map_eq_nil_iff→ue,mem_append→iE,mem_cons→cQ,mem_map→dp,mem_of_elem_eq_true→sY,mem_of_getElem?→ku,mem_of_mem_drop→xa,mem_of_mem_take→ug,mem_singleton→sZ,take_append_drop→oH,take→aN
open Nat renaming beq→aJ,ble_eq_true_of_le→cu,ble→br,eq_of_beq_eq_true→iw,le_refl→aU,le_succ_of_le→ky,le_succ→jf,lt_irrefl→cR,lt_succ_of_lt→nQ,lt_succ_self→fK,mul_one→qG,reduceAdd→aG,reduceBEq→aa,reduceLT→ah,reduceLeDiff→aV,reduceMul→jg,zero_le→cV
open Go.Operand renaming tmp→aR
open Option renaming bind_some→bn,getD_none→pL,getD_some→fq
open Go.Proofs.Tryz renaming prog→ar
open Go.Ag.W renaming block→bL,cnFZ→cJ,cnTZ→bU,cond→dJ,exit→dL,loop1→bV,mono→jr,region→fU,reg→bH,ret→bo,seq→aC,skip→cL,sreg→aw
namespace Go.Proofs.YtnnppcoplinajaaGreat
open Go.Ag
def iW(k:ak)(K:List ak):List ak:=bif K.elem k then K else K++[k]
def jP(l:List be)(K:List ak):List ak:=l.foldl (fun K t=>iW t.1 K) K
def oA(k:ak)(i:Nat)(x:ak)(V:ak->List ak):ak->List ak:=fun j=>bif j==k then(V j).set i x else V j
def vl(i:Nat)(l:List be)(V:ak->List ak):ak->List ak:=l.foldl (fun V t=>oA t.1 i t.2 V) V
structure TM (s:St) (m lo:Nat) (K:List ak) (V:ak->List ak):Prop where
 len: ∀k,(V k).length=3
 fits:K.Nodup
 noV: ∀k,k ∉ K->V k=[[],[],[]]
 ex: ∃L:List (ak×ae),L.map (·.1)=K/\s.get [] m=some (.map (bX 0 L) L.length)/\(∀k v,look k L=some v-> ∃r,v= .ptr r 0/\lo<=r/\r<s.al/\s.get [] r=some (.cells ((V k).map aF)))/\(∀k k' v,look k L=some v->look k' L=some v->k=k')
def PU(lc:Ag.Loc)(m o:Nat)(i:ae):hJ ar lc 444 (.ptr m o) i=(eK i).bind fun i=>bif Nat.blt i 3 then some (.ptr m (o+i*1)) else none:=by kernel_rfl
def alQ:d8 ar .eql 443 .nilp .nilp=some (.bool true):=by kernel_rfl
def alR(n o:Nat):d8 ar .eql 443 (.ptr n o) .nilp=some (.bool false):=by kernel_rfl
def ajL(e:aI)(s:St):oh ar 442 e none s=some (.map s.al,s.new (.map [] 0)):=by
 have h:ar.underlying 442=some (.map 9 443):=by kernel_rfl
 simp only[oh]
variable{m:Nat}{s:St}
def So{L:List (ak×ae)}{c:Nat}(hs:s.get [] m=some (.map (bX 0 L) c))(k:ak):mU ar [] 442 (.map m) (.str k) false s=some (at_ k L):=F5 tn S3 aqh hs k
def F4{k:ak}: ∀ {L:List (ak×ae)},(look k L).isSome=(L.map (·.1)).elem k
 | []=>rfl
 |(a,v)::L=>by
  have ih:=F4 (k:=k) (L:=L);simp only[look,dG,List.elem];cases h:k==a with
  |true=>simp
  |false=>simpa using ih
def JU{k:ak}{v:ae}: ∀ {L:List (ak×ae)},look k L=none->dY k v L=L++[(k,v)]
 | [],_=>rfl
 |(a,u)::L,h=>by
  simp only[look] at h;cases hk:k==a with
  |true=>rw[hk] at h;cases h
  |false=>
   rw[hk] at h;simp only[dY,hk,cF,JU h,List.cons_append]
def ap8(cs:List ae)(i:Nat)(x:ae)(hi:i<cs.length):bu cs i [x]=some (cs.set i x):=by
 have h:br (i+ [x].length) cs.length=true:=cu (Nat.succ_le_of_lt hi);simp only[bu,h,cT,List.set_eq_take_append_cons_drop,iP hi];rfl
variable{i:Nat}{k x:ak}{V:ak->List ak}
def anE(h: ∀j,(V j).length=3)(j:ak):(oA k i x V j).length=3:=by
 unfold oA;cases j==k with
 |true=>simp[h]
 |false=>exact h j
variable{K:List ak}{lo:Nat}
def TM.row(t:TM s m lo K V)(hk:k∈K): ∃r,lo<=r/\r<s.al/\s.get [] r=some (.cells ((V k).map aF))/\mU ar [] 442 (.map m) (.str k) false s=some (.ptr r 0)/\
 ∀(i:Nat) (x:ak) (s':St),m<lo->(∀n,s'.get [] n=(s.put r (some (.cells (((V k).map aF).set i (aF x))))).get [] n)->s'.al=s.al->TM s' m lo K (oA k i x V):=by
 obtain⟨L,h1,h2,h3,h4⟩:=t.ex;have hs:=F4 (k:=k) (L:=L);rw[h1,sV hk] at hs;obtain⟨v,hv⟩:=Option.isSome_iff_exists.1 hs;obtain⟨r,rfl,q1,q2,q3⟩:=h3 k v hv;refine⟨r,q1,q2,q3,?_,fun i x s' hmlo hg hn=>⟨fun j=>anE t.len j,t.fits,fun j hj=>?_,L,h1,?_,fun j v hj=>?_,h4⟩⟩;rw[So h2];simp only[at_,hv,fq];have:(j==k)=false:=bN.2 (fun e=>hj (e▸hk));simp only[oA,this,cF];exact t.noV j hj;rw[hg,bO,bN.2 (by omega)];exact h2;obtain⟨r',rfl,p1,p2,p3⟩:=h3 j v hj;refine⟨r',rfl,p1,by omega,?_⟩;rw[hg,bO];cases hr:r'==r with
 |true=>
  have:=eq_of_beq hr;subst this;have:j=k:=h4 j k _ hj hv;subst this;simp only[cT,oA,bS,List.map_set]
 |false=>
  have:(j==k)=false:=bN.2 (fun e=>by
   subst e;rw[hv] at hj;injection hj with hj
   injection hj with hj
   exact bN.1 hr hj.symm)
  simp only[cF,oA,this];exact p3
def TM.nil_(t:TM s m lo K V)(hk:k ∉ K)(hmlo:m<lo)(hlo:lo<=s.al):mU ar [] 442 (.map m) (.str k) false s=some .nilp/\
 ∃o,nM ar [] 442 (.map m) (.str k) (.ptr s.al 0) (s.new (.cells [.str [],.str [],.str []]))=some ((s.new (.cells [.str [],.str [],.str []])).put m o)/\TM ((s.new (.cells [.str [],.str [],.str []])).put m o) m lo (K++[k]) V:=by
 obtain⟨L,h1,h2,h3,h4⟩:=t.ex;have hs:=F4 (k:=k) (L:=L);have hf:K.elem k=false:=by
  cases h:K.elem k with
  |true=>exact absurd (sY h) hk
  |false=>rfl
 rw[h1,hf] at hs;have hnone:look k L=none:=by
  cases h:look k L with
  |none=>rfl
  |some v=>rw[h] at hs;cases hs
 have hg1:(s.new (.cells [.str [],.str [],.str []])).get [] m=some (.map (bX 0 L) L.length):=by rw[cp,bN.2 (by omega)];exact h2
 refine⟨by rw[So h2];simp only[at_,hnone,pL],_,AC tn S3 hg1 k (.ptr s.al 0),t.len,?_,fun j hj=>t.noV j (fun h=>hj (by simp[h])),dY k (.ptr s.al 0) L,by rw[JU hnone];simp[h1],by rw[bO,bS];rfl,fun j v hj=>?_,fun j j' v hj hj'=>?_⟩;exact List.nodup_append.2 ⟨t.fits,by simp,fun a ha b hb e=>by simp only[sZ] at hb;subst hb;subst e;exact hk ha⟩;rw[od] at hj;cases hjk:j==k with
 |true=>
  rw[hjk] at hj;injection hj with hj
  have:=eq_of_beq hjk;subst this;refine⟨s.al,hj.symm,hlo,fK _,?_⟩;rw[bO,bN.2 (by omega),cF,cp,bS,t.noV j hk];rfl
 |false=>
  rw[hjk] at hj;obtain⟨r',rfl,p1,p2,p3⟩:=h3 j v hj;refine⟨r',rfl,p1,nQ p2,?_⟩;rw[bO,bN.2 (by omega),cF,cp,bN.2 (by omega)];exact p3
 rw[od] at hj hj';have old: ∀ {i:ak},look i L=some v->v≠ .ptr s.al 0:=fun hi e=>by
  obtain⟨r',rfl,p1,p2,p3⟩:=h3 _ v hi;injection e with e
  omega
 cases hjk:j==k with
 |true=>
  rw[hjk] at hj;injection hj with hj
  cases hjk':j'==k with
  |true=>rw[eq_of_beq hjk,eq_of_beq hjk']
  |false=>rw[hjk'] at hj';exact absurd hj.symm (old hj')
 |false=>
  rw[hjk] at hj;cases hjk':j'==k with
  |true=>
   rw[hjk'] at hj';injection hj' with hj'
   exact absurd hj'.symm (old hj)
  |false=>rw[hjk'] at hj';exact h4 j j' v hj hj'
def KP{s1:St}(h:s.ge<=s.al)(h1:s1.al=s.al):(s.Gt s1).ge<=s.al:=by
 show(bif br s.ge s1.ge then s.ge else s1.ge)<=s.al;cases hb:br s.ge s1.ge with
 |true=>exact h
 |false=>
  have: ¬s.ge<=s1.ge:=fun hc=>by rw[cu hc] at hb;cases hb
  simp only[cF];omega
variable{lc:Ag.Loc}{cs:List ae}{l:List be}{e:aI}{v:ae}
section
variable{sp:bC}{ch:Nat->Nat}
def Uj{r:Nat}{rs1:List dr}{K:Fr->St->Prop}(hi: ∀r∈rs1,r.i<9)(hx:s.get [] r=some (.cells cs))(hl:i<cs.length)(hm:s.ge<=s.al)(h56:aj e 56= .ptr r i)(h54:aj e 54= .str x)(hk: ∀s',(∀k,s'.get [] k=(s.put r (some (.cells (cs.set i (aF x))))).get [] k)->s'.al=s.al->s'.ci=s.ci->s'.ge<=s'.al->K ⟨e,136,lc⟩ s'):
 WD (QM sp ch) 282 [511] rs1 9 (wl.drop 9) ⟨e,136,lc⟩ s K:=by
 have hxt:s.top.get [] r=some (.cells cs):=hx;have hw:=ap8 cs i (.str x) hl;refine WD.fullL (v:=fX) (lc:=lc) (s1:=s.top.put r (some (.cells (cs.set i (aF x))))) (fr1:=⟨e,136,lc⟩) hi (by decide) rfl ?_ rfl rfl (fun rs5 k5=>?_);simp only[ai,ax,ah,bh,kg,hxt,kf,h56,h54,hw];rfl;refine WD.nil (hk _ (fun k=>rfl) rfl rfl ?_);exact KP hm rfl
def aoU(hl:aD 2 bD v l)(hsmall:l.length<=1000)(hi:i<3)(hmlo:m<lo): ∀(rest pre:List be) (e:aI) (lc:Ag.Loc) (s:St) (K:List ak) (V:ak->List ak),l=pre++rest->TM s m lo K V->lo<=s.al->s.ge<=s.al->
 aj e 9= .map m->aj e 10= .int .i64 (i:Nat)->aj e 33=v->aj e 34= .int .i64 (l.length:Nat)->aj e 35= .int .i64 (pre.length:Nat)->
 W (QM sp ch) 282 (.loop Kk) ⟨e,136,lc⟩ s fun x fr s'=>x= .exit 2/\ ∃e' lc',fr=⟨e',136,lc'⟩/\(aj e' 9= .map m/\aj e' 25=aj e 25/\aj e' 26=aj e 26)/\TM s' m lo (jP rest K) (vl i rest V)/\(∀n,n<m->s'.get [] n=s.get [] n)/\s.al<=s'.al/\s'.ge<=s'.al/\s'.ci=s.ci:=by
 intro rest;have hcl:=hl.aL
 induction rest with
 |nil=>
  intro pre e lc s K V hpre t hlo hm h9 h10 h33 h34 h35;have hl:l.length=pre.length:=by rw[hpre];simp
  refine bV ?_;refine aw ?_;simp only[ai,bh,ah,h34,h35,hl,cR];refine aC (cJ ?_);exact dL ⟨rfl,_,_,rfl,⟨by simp only[au,aa,h9],by simp only[au,aa, *],by simp only[au,aa, *]⟩,t,fun _ _=>rfl,aU _,hm,rfl⟩
 |cons q rest ih=>
  intro pre e lc s K V hpre t hlo hm h9 h10 h33 h34 h35;obtain⟨k,x⟩:=q;have hlt:pre.length<l.length:=by rw[hpre];simp
  have hat:l[pre.length]? =some (k,x):=by rw[hpre];simp
  have hia:=fun lc=>hl.at lO hat lc .i64;have hwr:=eE (n:=pre.length) (by omega);have fin: ∀(e2:aI) (lc2:Ag.Loc) (s2:St),TM s2 m lo (iW k K) (oA k i x V)->(∀n,n<m->s2.get [] n=s.get [] n)->s.al<=s2.al->s2.ge<=s2.al->s2.ci=s.ci->aj e2 9=aj e 9->aj e2 10=aj e 10->aj e2 25=aj e 25->aj e2 26=aj e 26->aj e2 33=aj e 33->aj e2 34=aj e 34->aj e2 35= .int .i64 ((pre.length+1:Nat):Int)->
   W (QM sp ch) 282 (.loop Kk) ⟨e2,136,lc2⟩ s2 fun y fr s'=>y= .exit 2/\ ∃e' lc',fr=⟨e',136,lc'⟩/\(aj e' 9= .map m/\aj e' 25=aj e 25/\aj e' 26=aj e 26)/\TM s' m lo (jP ((k,x)::rest) K) (vl i ((k,x)::rest) V)/\(∀n,n<m->s'.get [] n=s.get [] n)/\s.al<=s'.al/\s'.ge<=s'.al/\s'.ci=s.ci:=by
   intro e2 lc2 s2 t2 o2 n2 m2 c2 g9 g10 g25 g26 g33 g34 g35;refine jr (ih (pre++[(k,x)]) _ _ s2 (iW k K) (oA k i x V) (by rw[hpre];simp) t2 (by omega) m2 ?_ ?_ ?_ ?_ ?_) ?_;rw[g9,h9];rw[g10,h10];rw[g33,h33];rw[g34,h34];rw[g35,dX];rfl;rintro y fr s' ⟨rfl,e',lc',rfl,⟨d9,d25,d26⟩,q1,q2,q3,q4,q5⟩;refine⟨rfl,e',lc',rfl,⟨d9,d25.trans g25,d26.trans g26⟩,q1,fun n hn=>(q2 n hn).trans (o2 n hn),by omega,q4,q5.trans c2⟩
  refine bV ?_;refine aw ?_;simp only[ai,bh,ah,h34,h35,hlt];refine aC (bU (cL ?_));simp only[bM];refine aC (bL (aw ?_));simp only[ai,ax,bh,gd,cut,bu,aN,ay,aa,ah,aG,aV,rZ,h33,h35,hia,bD];refine aC (aC (bH ?_));by_cases hK:k∈K
  ·obtain⟨r,r1,r2,r3,r4,r5⟩:=t.row hK
   have hadd:iW k K=K:=by simp only[iW,sV hK,cT]
   simp only[ai,ax,aA,bh,ay,aa,ah,h9,r4,iQ,iY,alR];refine W.cnSZ ?_;simp only[bM];rw[show wl=wl.take 9++wl.drop 9 from(oH 9 _).symm];refine W.drawD (WD.calmOps hm (fun _ h=>by cases h) (fun _ h=>by cases h) ?_);have r4t:mU ar [] 442 (.map m) (.str k) false s.top=some (.ptr r 0):=r4;simp only[ai,ax,isStore,bh,aN,ay,aa,ah,aG,h9,h10,r4t,fB,PU,hi,qG];intro rs1 hc1 hi1;refine Uj (x:=x) (i:=i) hi1 r3 (by rw[cZ,t.len];exact hi) hm (by simp only[aq,aa, *]) (by simp only[aq,aa, *]) ?_;intro s' q1 q2 q3 q4;have hold: ∀n,n<m->s'.get [] n=s.get [] n:=fun n hn=>by
    rw[q1,bO,bN.2 (by omega)];rfl
   simp only[dA];refine bH ?_;simp only[ai,aA,bh,aa,ah,h35,hwr];refine fin _ _ s' (by rw[hadd];exact r5 i x s' hmlo q1 q2) hold (by omega) q4 q3 ?_ ?_ ?_ ?_ ?_ ?_ ?_
   any_goals simp only[aq,aa, *]
  ·obtain⟨n1,o,n2,n3⟩:=t.nil_ hK hmlo hlo
   have hadd:iW k K=K++[k]:=by
    have:K.elem k=false:=by
     cases h:K.elem k with
     |true=>exact absurd (sY h) hK
     |false=>rfl
    simp only[iW,this,cF]
   obtain⟨s1,hs1⟩: ∃a,a=(s.new (.cells [.str [],.str [],.str []])).put m o:=⟨_,rfl⟩;rw[<-hs1] at n2 n3;have e1:s1.al=s.al+1:=by rw[hs1];rfl
   have e2:s1.ge<=s1.al:=by rw[hs1];exact ji _ _ _ (ky hm)
   have e3:s1.ci=s.ci:=by rw[hs1];rfl
   have e4: ∀n,n<m->s1.get [] n=s.get [] n:=fun n hn=>by
    rw[hs1,bO,bN.2 (by omega),cF,cp,bN.2 (by omega)];rfl
   obtain⟨r,r1,r2,r3,r4,r5⟩:=n3.row (k:=k) (by simp);simp only[ai,ax,aA,bh,ay,aa,ah,h9,n1,iQ,alQ,iY];refine bU (bH ?_);simp only[ai,ax,aA,bh,gd,ay,aa,ah,h9,rZ,n2];rw[show wl=wl.take 9++wl.drop 9 from(oH 9 _).symm];refine W.drawD (WD.calmOps e2 (fun _ h=>by cases h) (fun _ h=>by cases h) ?_);have r4t:mU ar [] 442 (.map m) (.str k) false s1.top=some (.ptr r 0):=r4;simp only[ai,ax,isStore,bh,aN,ay,aa,ah,aG,h9,h10,r4t,fB,PU,hi,qG];intro rs1 hc1 hi1;refine Uj (x:=x) (i:=i) hi1 r3 (by rw[cZ,n3.len];exact hi) e2 (by simp only[aq,aa, *]) (by simp only[aq,aa, *]) ?_;intro s' q1 q2 q3 q4;have hold: ∀n,n<m->s'.get [] n=s.get [] n:=fun n hn=>by
    rw[q1,bO,bN.2 (by omega)];exact e4 n hn
   simp only[dA];refine bH ?_;simp only[ai,aA,bh,aa,ah,h35,hwr];refine fin _ _ s' (by rw[hadd];exact r5 i x s' hmlo q1 q2) hold (by omega) q4 (q3.trans e3) ?_ ?_ ?_ ?_ ?_ ?_ ?_
   any_goals simp only[aq,aa, *]
end
structure kX (v:ae) (l:List be):Prop where
 is:aD 2 bD v l
 valid:cY l=true
 keys: ∀t∈l,t.1.length<small
def kX.len(h:kX v l):l.length<=60:=by
 have:=h.valid;simp only[cY,bA,dE] at this;exact this.2
def kX.spec(h:kX v l):sR [v]=some (.bool true):=by
 have:=h.len;rw[Vt h.is (by have:small=9223372036854775808:=rfl;omega) h.keys,h.valid]
variable{P:Ex->Fr->St->Prop}{b o t:List be}{vb vo vt:ae}
section
variable{sp:bC}{ch:Nat->Nat}
def Mf(h59:sp 164=some sR){A:ae}(h:kX v l)(hi:i<3)(hmlo:m<lo)(hA:A.aL=true)(hix:tz ar 441 A (.int .i64 (i:Nat))=some v)(t:TM s m lo K V)(hlo:lo<=s.al)(hm:s.ge<=s.al)(h9:aj e 9= .map m)(h25:aj e 25=A)(h26:aj e 26= .int .i64 (i:Nat))(hk: ∀(e':aI) (lc':Ag.Loc) (s':St),aj e' 9= .map m->aj e' 25=A->aj e' 26= .int .i64 ((i+1:Nat):Int)->TM s' m lo (jP l K) (vl i l V)->(∀n,n<m->s'.get [] n=s.get [] n)->lo<=s'.al->s.al<=s'.al->s'.ge<=s'.al->s'.ci=s.ci->W (QM sp ch) 282 (.loop EZ) ⟨e',136,lc'⟩ s' P):
 W (QM sp ch) 282 (.loop EZ) ⟨e,136,lc⟩ s P:=by
 have hcl:=h.is.aL;have hln:=fun mk s=>h.is.len jw jv mk s;have hsp:=h.spec;have hl60:=h.len;have hwr:=eE (n:=i) (by omega);have hlt:bG (i:Int) 3=true:=by
  have:=im i 3;rw[show((3:Nat):Int)=3 from rfl] at this;rw[this];exact dQ hi
 refine bV ?_;refine aw ?_;simp only[ai,bh,ah,h26,hlt];refine aC (bU (cL ?_));simp only[bM];refine aC (bL (aw ?_));simp only[ai,bh,aa,ah,h25,h26,hA,hix];refine aC (aC (bH ?_));simp only[ai,aA,uq,aa,ah,hcl,h59,hsp];refine W.cnSZ ?_;simp only[bM];refine aw ?_;simp only[ai,bh,gd,aa,ah,hcl,rZ,hln];refine bL ?_;refine jr (aoU h.is (by omega) hi hmlo l [] _ _ s K V rfl t hlo hm ?_ ?_ ?_ ?_ ?_) ?_;simp only[au,aa,h9];simp only[aq,aa];simp only[aq,aa];simp only[aq,aa];simp only[aq,aa];rfl;rintro x fr s' ⟨rfl,e',lc',rfl,⟨d9,d25,d26⟩,q1,q2,q3,q4,q5⟩;have d25:aj e' 25=A:=d25.trans (by simp only[au,aa,h25]);have d26:aj e' 26= .int .i64 (i:Nat):=d26.trans (by simp only[au,aa,h26]);show W (QM sp ch) 282 _ _ _ _;refine bH ?_;simp only[ai,aA,bh,ah,d26,hwr];refine hk _ _ s' ?_ ?_ ?_ q1 q2 (by omega) q3 q4 q5;simp only[au,aa,d9];simp only[au,aa,d25];simp only[aq,aa]
def J0:tz ar 441 (.agg [vb,vo,vt]) (.int .i64 ((0:Nat):Int))=some vb/\tz ar 441 (.agg [vb,vo,vt]) (.int .i64 ((1:Nat):Int))=some vo/\tz ar 441 (.agg [vb,vo,vt]) (.int .i64 ((2:Nat):Int))=some vt:=by
 have h: ∀k:Nat,eK (.int .i64 (k:Int))=some k:=fun _=>rfl;refine⟨?_,?_,?_⟩<;>rw[adZ,h,bn,Un]<;>rfl
def lP(b o t:List be):List ak:=jP t (jP o (jP b []))
def rp(b o t:List be):ak->List ak:=vl 2 t (vl 1 o (vl 0 b fun _=>[[],[],[]]))
def anJ(h59:sp 164=some sR)(hb:kX vb b)(ho:kX vo o)(ht:kX vt t)(hs:s.get [] m=some (.map [] 0))(hlo:m<s.al)(hm:s.ge<=s.al)(h9:aj e 9= .map m)(h25:aj e 25= .agg [vb,vo,vt])(h26:aj e 26= .int .i64 (0:Nat)):
 W (QM sp ch) 282 (.loop EZ) ⟨e,136,lc⟩ s fun x fr s'=>x= .exit 0/\ ∃e' lc',fr=⟨e',136,lc'⟩/\aj e' 9= .map m/\TM s' m (m+1) (lP b o t) (rp b o t)/\(∀n,n<m->s'.get [] n=s.get [] n)/\s.al<=s'.al/\s'.ge<=s'.al/\s'.ci=s.ci:=by
 have hA:(ae.agg [vb,vo,vt]).aL=true:=rfl;have t0:TM s m (m+1) [] fun _=>[[],[],[]]:=⟨fun _=>rfl,List.nodup_nil,fun _ _=>rfl,[],rfl,hs,fun k v h=>(by cases h),fun k k' v h=>(by cases h)⟩;refine Mf (i:=0) h59 hb (by decide) (fK _) hA J0.1 t0 hlo hm h9 h25 h26 fun e1 l1 s1 a9 a25 a26 t1 a1 a2 a3 a4 a5=>?_;refine Mf (i:=1) h59 ho (by decide) (fK _) hA J0.2.1 t1 a2 a4 a9 a25 a26 fun e2 l2 s2 b9 b25 b26 t2 b1 b2 b3 b4 b5=>?_;refine Mf (i:=2) h59 ht (by decide) (fK _) hA J0.2.2 t2 b2 b4 b9 b25 b26 fun e3 l3 s3 c9 c25 c26 t3 c1 c2 c3 c4 c5=>?_;refine bV ?_;refine aw ?_;have hlt:bG ((2+1:Nat):Int) 3=false:=rfl;simp only[ai,bh,ah,aG,c26,hlt];refine aC (cJ ?_);refine dL ⟨rfl,_,_,rfl,?_,t3,fun n hn=>(c1 n hn).trans ((b1 n hn).trans (a1 n hn)),by omega,c4,c5.trans (b5.trans a5)⟩;simp only[au,aa,c9]
end
variable{l:List ak}
section
variable{sp:bC}{ch:Nat->Nat}
def adR(hl:aD 1 aF v l)(hsmall:l.length<=1000000): ∀(rest pre:List ak) (e:aI) (lc:Ag.Loc),l=pre++rest->pre.elem k=false->
 aj e 0=v->aj e 1= .str k->aj e 7= .int .i64 (l.length:Nat)->aj e 8= .int .i64 (pre.length:Nat)->
 W (QM sp ch) 223 (.loop afw) ⟨e,19,lc⟩ s fun x fr s'=>s'=s/\fr.size=19/\((x= .exit 0/\l.elem k=false)\/(x= .ret/\l.elem k=true/\ ∃i:Nat,aj fr.env 4= .int .i64 i)):=by
 intro rest;have hcl:=hl.aL
 induction rest with
 |nil=>
  intro pre e lc hpre hp h0 h1 h7 h8;have hl:l.length=pre.length:=by rw[hpre];simp
  refine bV ?_;refine aw ?_;simp only[ai,bh,ah,h7,h8,hl,cR];refine aC (cJ ?_);exact dL ⟨rfl,rfl,.inl ⟨rfl,by rw[hpre,List.append_nil];exact hp⟩⟩
 |cons q rest ih=>
  intro pre e lc hpre hp h0 h1 h7 h8;have hlt:pre.length<l.length:=by rw[hpre];simp
  have hat:l[pre.length]? =some q:=by rw[hpre];simp
  have hia:=fun lc=>hl.at gR hat lc .i64;have hwr:=eE (n:=pre.length) (by omega);refine bV ?_;refine aw ?_;simp only[ai,bh,ah,h7,h8,hlt];refine aC (bU (cL ?_));simp only[bM];refine aC (bL (aw ?_));simp only[ai,aa,ah,h8];refine aC (bH ?_);simp only[ai,ax,aA,bh,ay,aa,ah,h0,h1,hia,aF];cases hq:k==q with
  |true=>
   refine bU (aw ?_);simp only[ai,aa,ah];refine bo ⟨rfl,rfl,.inr ⟨rfl,?_,pre.length,?_⟩⟩;rw[hpre];exact sV (by rw[eq_of_beq hq];simp);simp only[aq,aa]
  |false=>
   refine W.cnSZ ?_;simp only[dA];refine bH ?_;simp only[ai,aA,bh,aa,ah,h8,hwr];refine ih (pre++[q]) _ _ (by rw[hpre];simp) ?_ ?_ ?_ ?_ ?_;cases he:(pre++[q]).elem k with
   |false=>rfl
   |true=>
    have:=sY he;rcases iE.1 this with h|h
    rw[sV h] at hp;cases hp;simp only[sZ] at h;subst h;simp at hq
   simp only[au,aa,h0];simp only[au,aa,h1];simp only[au,aa,h7];simp only[aq,cK,aa]
def ZW(h186:sp 223=none)(h121:sp 130=none)(hl:aD 1 aF v l)(hsmall:l.length<=1000000)(k:ak)(s:St):aM (QM sp ch) 130 [v,.str k] s (.bool (l.elem k)) s:=by
 have hcl:=hl.aL;have hln:=fun mk s=>hl.len dB dH mk s;have h1: ∃i:Int,aM (QM sp ch) 223 [v,.str k] s (.int .i64 i) s/\ec 0 i=l.elem k:=by
  have hrun: ∃w s',aM (QM sp ch) 223 [v,.str k] s w s'/\(s'=s/\ ∃i:Int,w= .int .i64 i/\ec 0 i=l.elem k):=by
   refine aM.ofEx EM.1 EM.2 EM.3 EM.4 h186 ?_;refine aw ?_;simp only[ai,bv,bt,ah,aG,aV,ofValue,aX];refine aC (aC (bH ?_));simp only[ai,aA,bh,gd,aa,ah,adi,hcl,hln];refine bL ?_;refine jr (adR (k:=k) hl hsmall l [] _ _ rfl rfl ?_ ?_ ?_ ?_) ?_;simp only[aq,aa];simp only[aq,aa];simp only[aq,aa];simp only[aq,aa];rfl;rintro x fr s' ⟨rfl,hz,⟨rfl,he⟩|⟨rfl,he,i,hi⟩⟩;obtain⟨e',z,lc'⟩:=fr;have hz:z=19:=hz;subst hz;show W (QM sp ch) 223 _ _ _ _;refine aw ?_;simp only[cG,hQ,ah];refine bo ⟨.inr rfl,.int .i64 (-1),bz ?_ rfl,rfl, -1,rfl,by rw[he];rfl⟩;simp only[ik,aa];refine⟨.inr rfl,.int .i64 i,bz hi rfl,rfl,i,rfl,?_⟩;rw[he]
   have:=lj 0 i;rw[show((0:Nat):Int)=0 from rfl] at this;rw[this];exact dQ (cV _)
  obtain⟨w,s',r1,rfl,i,rfl,r2⟩:=hrun;exact⟨i,r1,r2⟩
 obtain⟨i,hr,hi⟩:=h1;refine aM.of2 Ed.1 Ed.2 Ed.3 Ed.4 h121 ?_;refine aw ?_;simp only[ai,bv,bt,ah,aG,aV,ofValue,aX];refine aC (fU (fM 2 ?_));simp only[ai,aN,ay,aa,ah];refine fO (g:=223) (args:=[v,.str k]) ?_ hr (by decide) ?_;simp only[ai,callee,aa,hcl];refine fN ?_;simp only[ai,aA,bh,aa,ah,hi];refine bo ⟨rfl,.inr rfl,bz ?_ rfl⟩;simp only[aq,aa]
end
structure kC (lo:Nat) (s:St) (ov cv:ae) (xs:List be) (ys:List ak):Prop where
 l:cE 2 lo s ov (xs.map bD)
 r:cE 1 lo s cv (ys.map aF)
 ne: ∀k,ov= .list 2 (xs.map bD) (.own k)->cv= .list 1 (ys.map aF) (.own k)->False
variable{xs:List ae}{ov:ae}
def Ip{t:TypeId}{E:EI}{sz:Nat}(hE:iI ar t=some E)(hn:E.n=sz)(hb:E.b<=88){y:ae}{ys:List ae}(h:cE sz lo s ov xs)(hy:jS [] E.g E.n y s=some ys)(hne:ys≠ [])(hlen:xs.length+ys.length<=1000000)(hm:s.ge<=s.al):
 ∃s',hG ar [] t ov y false s=some (.list sz (xs++ys) (.own s.al),s')/\s'.get [] s.al=some .tok/\s'.ci=s.ci/\s'.al=s.al+1/\s'.ge<=s'.al/\(∀n,n<s.al->(∀k,ov= .list sz xs (.own k)->n≠k)->s'.get [] n=s.get [] n):=by
 subst hn;have hov:xS ov=true/\ov.cells=[ov]:=by rcases h with⟨rfl,_⟩|⟨_,k,rfl,_⟩<;>exact⟨rfl,rfl⟩
 cases ys with
 |nil=>exact absurd rfl hne
 |cons y0 ys=>
  rcases h with⟨rfl,rfl⟩|⟨hne,k,rfl,hk,h5,h6⟩
  have hr:lW (y0::ys).length E.b=true:=vq (by simpa using hlen) hb;refine⟨s.new .tok,?_,by rw[cp,bS];rfl,rfl,rfl,ky hm,fun n hn' _=>?_⟩;simp only[ce,hG,hE,hy,ml,kK,hr,cF,List.nil_append];rw[cp,bN.2 (by omega)];rfl;have hr:lW (xs.length+(y0::ys).length) E.b=true:=vq hlen hb;refine⟨(s.put k none).new .tok,?_,by rw[cp,sq,bS];rfl,rfl,rfl,ky (ji s k none hm),fun n hn' hnk=>?_⟩;simp only[ce,hG,hE,hy,ml,hk,hr,fe,bS,cH];rw[cp,sq,bN.2 (by omega),cF,bO,bN.2 (hnk k rfl)];rfl
def cE.token{sz:Nat}(h:cE sz lo s ov xs){k:Nat}(hk:ov= .list sz xs (.own k)):lo<=k/\k<s.al/\s.get [] k=some .tok:=by
 rcases h with⟨rfl,_⟩|⟨_,k',rfl,h1,h2,h3⟩
 cases hk;injection hk with _ _ h;injection h with h;subst h;exact⟨h2,h3,h1⟩
variable{ys:List ak}{xs:List be}{cv:ae}
def kC.left(h:kC lo s ov cv xs ys)(hm:s.ge<=s.al)(hlo:lo<=s.al)(hlen:xs.length<=1000)(x:be):
 ∃ov' s',hG ar [] 50 ov (.list 2 [.agg [.str x.1,.str x.2]] .GE) false s=some (ov',s')/\kC lo s' ov' cv (xs++[x]) ys/\s'.ci=s.ci/\s.al<=s'.al/\s'.ge<=s'.al/\ov'.aL=true/\ ∀n,n<lo->s'.get [] n=s.get [] n:=by
 obtain⟨s',a1,a2,a3,a4,a5,a6⟩:=Ip xG rfl (by decide) (y:=.list 2 [.agg [.str x.1,.str x.2]] .GE) (ys:=[bD x]) h.l rfl (by simp) (by rw[cZ,rB];omega) hm;refine⟨_,s',a1,⟨.inr ⟨by simp,s.al,by rw[je];rfl,a2,hlo,by omega⟩,?_,fun k h1 h2=>?_⟩,a3,by omega,a5,rfl,fun n hn=>a6 n (by omega) fun k hk=>by have:=(h.l.token hk).1;omega⟩;rcases h.r with h0|⟨h1,k,h2,h3,h4,h5⟩
 exact .inl h0;refine .inr ⟨h1,k,h2,(a6 k h5 fun k' hk' e=>?_).trans h3,h4,by omega⟩;subst e;exact h.ne k hk' h2;injection h1 with _ _ h1;injection h1 with h1
 have:=(h.r.token h2).2.1;omega
def kC.right(h:kC lo s ov cv xs ys)(hm:s.ge<=s.al)(hlo:lo<=s.al)(hlen:ys.length<=1000)(y:ak):
 ∃cv' s',hG ar [] 25 cv (.list 1 [.str y] .GE) false s=some (cv',s')/\kC lo s' ov cv' xs (ys++[y])/\s'.ci=s.ci/\s.al<=s'.al/\s'.ge<=s'.al/\cv'.aL=true/\ ∀n,n<lo->s'.get [] n=s.get [] n:=by
 obtain⟨s',a1,a2,a3,a4,a5,a6⟩:=Ip qM rfl (by decide) (y:=.list 1 [.str y] .GE) (ys:=[aF y]) h.r rfl (by simp) (by rw[cZ,rB];omega) hm;refine⟨_,s',a1,⟨?_,.inr ⟨by simp,s.al,by rw[je];rfl,a2,hlo,by omega⟩,fun k h1 h2=>?_⟩,a3,by omega,a5,rfl,fun n hn=>a6 n (by omega) fun k hk=>by have:=(h.r.token hk).1;omega⟩;rcases h.l with h0|⟨h1,k,h2,h3,h4,h5⟩
 exact .inl h0;refine .inr ⟨h1,k,h2,(a6 k h5 fun k' hk' e=>?_).trans h3,h4,by omega⟩;subst e;exact h.ne k h2 hk';injection h2 with _ _ h2;injection h2 with h2
 have:=(h.l.token h1).2.1;omega
def I4(a b c a' b' c':List UInt8):d8 ar .eql 444 (.agg [.str a,.str b,.str c]) (.agg [.str a',.str b',.str c'])=some (.bool (a==a'&&(b==b'&&c==c'))):=by
 have h:d8 ar .eql 444 (.agg [.str a,.str b,.str c]) (.agg [.str a',.str b',.str c'])=((some (a==a')).bind fun r=>bif r then(some (b==b')).bind fun r=>bif r then(some (c==c')).bind fun r=>bif r then some true else some false else some false else some false).bind fun r=>some (.bool r):=by kernel_rfl
 rw[h];cases a==a'<;>cases b==b'<;>cases c==c'<;>rfl
variable{x:Operand}{a:ak}
def Iy{y z:Operand}{b c:ak}(hx:ev e x=some (.str a))(hy:ev e y=some (.str b))(hz:ev e z=some (.str c)):eV ar 444 [(0,x),(1,y),(2,z)] e=some (.agg [.str a,.str b,.str c]):=by
 rw[X4];simp only[ce,Wg,cS,evc,hx,hy,hz,Bb];rfl
def A7(hx:ev e x=some (.str a))(s:St):cx ar 25 1 [(0,x)] false e s=some (.list 1 [.str a] .GE,s):=by
 simp only[ce,jR,cx,qM,cS,evc,hx,ae.aL,eW,ae.cells,bu,Nat.zero_mul,jg,fW,cut];rfl
def Yt{b:ak}(hx:ev e x=some (.agg [.str a,.str b]))(s:St):cx ar 50 1 [(0,x)] false e s=some (.list 2 [.agg [.str a,.str b]] .GE,s):=by
 simp only[ce,jR,cx,xG,cS,evc,hx,ae.aL,eW,ae.cells,bu,Nat.zero_mul,aG,jg,fW,cut];rfl
def X6{y:Operand}{b:ak}(hx:ev e x=some (.str a))(hy:ev e y=some (.str b)):eV ar 92 [(0,x),(1,y)] e=some (.agg [.str a,.str b]):=by
 rw[N3];simp only[ce,MS,cS,evc,hx,hy,Bb];rfl
def jZ(a b c:ak):Option ak:=bif c==b||c==a then some b else bif b==a then some c else none
def oC(k a b c:ak)(ys:List ak):List ak:=match jZ a b c with
 |some _=>ys
 |none=>ys++[k]
def lY(k v:ak)(xs:List be)(ys:List ak):List be×List ak:=
 bif v== [] then(xs,ys) else bif decide (xs.length<60) then(xs++[(k,v)],ys) else bif ys.elem k then(xs,ys) else(xs,ys++[k])
noncomputable def afN:SC:=(.seq (.seq (.region QW)
 (.cond (aR 78) .skip (.region QX)))
 (.cond (aR 78) (.region Km) (.seq (.region Kn)
 (.cond (aR 99) (.region Ko) (.region Kl)))))
noncomputable def afO:SC:=(.seq (.region QY)
 (.cond (aR 111) .skip (.seq (.region QZ)
 (.cond (aR 114) (.region Q0) (.seq (.region Q5)
 (.cond (aR 124) (.region Q6) .skip))))))
section
variable{sp:bC}{ch:Nat->Nat}
def DQ(lc:Ag.Loc)(l g o:Nat):hJ ar lc 444 (.Ge l g o) (.int .i64 0)=bif aJ (lc.gen l) g then some (.Ge l g (o+0*1)) else none:=by rw[JO];rfl
def JN(lc:Ag.Loc)(l g o:Nat):hJ ar lc 444 (.Ge l g o) (.int .i64 1)=bif aJ (lc.gen l) g then some (.Ge l g (o+1*1)) else none:=by rw[JO];rfl
def PT(lc:Ag.Loc)(l g o:Nat):hJ ar lc 444 (.Ge l g o) (.int .i64 2)=bif aJ (lc.gen l) g then some (.Ge l g (o+2*1)) else none:=by rw[JO];rfl
def aoI{g:Nat}{b c:ak}(t:kC lo s ov cv xs ys)(hm:s.ge<=s.al)(hlo:lo<=s.al)(hlen:ys.length<=1000)(h14:aj e 14=ov)(h15:aj e 15=cv)(h17:aj e 17= .str k)(h18:aj e 18= .Ge 18 g 0)(h19:aj e 19= .str a)(hg:lc.gen 18=g)(hl:lc.get 18 g=some [.str a,.str b,.str c])(hk: ∀(e':aI) (s':St) (cv':ae),aj e' 9=aj e 9->aj e' 14=ov->aj e' 15=cv'->aj e' 17= .str k->aj e' 19= .str ((jZ a b c).getD a)->aj e' 61=aj e 61->aj e' 62=aj e 62->aj e' 63=aj e 63->kC lo s' ov cv' xs (oC k a b c ys)->s'.ci=s.ci->s.al<=s'.al->s'.ge<=s'.al->(∀n,n<lo->s'.get [] n=s.get [] n)->P .normal ⟨e',136,lc⟩ s'):
 W (QM sp ch) 282 afN ⟨e,136,lc⟩ s P:=by
 have hcc:=t.r.aL;have hb1: ∀e,aj e 81= .str a->aj e 83= .str b->aj e 85= .str b->eV ar 444 [(0,.tmp 81),(1,.tmp 83),(2,.tmp 85)] e=some (.agg [.str a,.str b,.str b]):=fun e p q r=>Iy (by rw[bq,p]) (by rw[bq,q]) (by rw[bq,r]);have hb2: ∀e,aj e 90= .str a->aj e 92= .str b->aj e 94= .str a->eV ar 444 [(0,.tmp 90),(1,.tmp 92),(2,.tmp 94)] e=some (.agg [.str a,.str b,.str a]):=fun e p q r=>Iy (by rw[bq,p]) (by rw[bq,q]) (by rw[bq,r]);have hb3: ∀e,aj e 102= .str a->aj e 104= .str a->aj e 106= .str c->eV ar 444 [(0,.tmp 102),(1,.tmp 104),(2,.tmp 106)] e=some (.agg [.str a,.str a,.str c]):=fun e p q r=>Iy (by rw[bq,p]) (by rw[bq,q]) (by rw[bq,r]);have hsl: ∀e s,aj e 75= .str k->cx ar 25 1 [(0,.tmp 75)] false e s=some (.list 1 [.str k] .GE,s):=fun e s h=>A7 (by rw[bq,h]) s;refine aC (aC (bH ?_));simp only[ai,ax,aA,bh,cut,aN,ay,aa,ah,aG,jg,h18,hg,hl,DQ,JN,hb1,I4];have tail: ∀(e1:aI),aj e1 9=aj e 9->aj e1 14=aj e 14->aj e1 15=aj e 15->aj e1 17=aj e 17->aj e1 18=aj e 18->aj e1 19=aj e 19->aj e1 61=aj e 61->aj e1 62=aj e 62->aj e1 63=aj e 63->aj e1 78= .bool (c==b||c==a)->
  W (QM sp ch) 282 (.cond (aR 78) (.region Km) (.seq (.region Kn) (.cond (aR 99) (.region Ko) (.region Kl)))) ⟨e1,136,lc⟩ s P:=by
  intro e1 g9 g14 g15 g17 g18 g19 g61 g62 g63 g78;rw[h14] at g14;rw[h15] at g15;rw[h17] at g17;rw[h18] at g18;rw[h19] at g19;cases hz:c==b||c==a with
  |true=>
   have hp:jZ a b c=some b:=by simp only[jZ,hz,cT]
   rw[hz] at g78;refine dJ (t:=true) (by rw[bq,g78]) (bH ?_);simp only[ai,ax,bh,ay,aa,ah,jg,g18,hg,hl,JN];refine hk _ s cv ?_ ?_ ?_ ?_ ?_ ?_ ?_ ?_ (by simp only[oC,hp];exact t) rfl (aU _) hm fun _ _=>rfl
   all_goals simp only[aq,aa,g9,g14,g15,g17,g61,g62,g63,hp,fq]
  |false=>
   rw[hz] at g78;refine dJ (t:=false) (by rw[bq,g78]) (aw ?_);simp only[ai,ax,bh,cut,aN,ay,aa,ah,aG,jg,g18,hg,hl,DQ,PT,hb3,I4];cases hy:b==a with
   |true=>
    have hp:jZ a b c=some c:=by simp only[cz,jZ,hz,hy]
    refine dJ (t:=true) (by simp only[aq,bq,aa,bS]) (bH ?_);simp only[ai,ax,bh,ay,aa,ah,jg,g18,hg,hl,PT];refine hk _ s cv ?_ ?_ ?_ ?_ ?_ ?_ ?_ ?_ (by simp only[oC,hp];exact t) rfl (aU _) hm fun _ _=>rfl
    all_goals simp only[aq,aa,g9,g14,g15,g17,g61,g62,g63,hp,fq]
   |false=>
    have hp:jZ a b c=none:=by simp only[jZ,hz,hy,cF]
    obtain⟨cv',s',r1,r2,r3,r4,r5,r6,r7⟩:=t.right hm hlo hlen k;refine cJ (bH ?_);simp only[ai,ax,bh,gd,aa,ah,g15,g17,hcc,rZ,hsl,r1];refine hk _ s' cv' ?_ ?_ ?_ ?_ ?_ ?_ ?_ ?_ (by simp only[oC,hp];exact r2) r3 r4 r5 r7
    all_goals simp only[aq,aa,g9,g14,g17,g19,g61,g62,g63,hp,pL]
 cases hz:c==b with
 |true=>
  refine dJ (t:=true) (by simp only[aq,bq,aa,bS]) (cL ?_);simp only[bM];refine tail _ ?_ ?_ ?_ ?_ ?_ ?_ ?_ ?_ ?_ ?_
  all_goals simp only[aq,aa,hz,bS,Bool.true_or]
 |false=>
  refine cJ (bH ?_);simp only[ai,ax,aA,bh,cut,aN,ay,aa,ah,aG,jg,h18,hg,hl,DQ,JN,hb2,I4];refine tail _ ?_ ?_ ?_ ?_ ?_ ?_ ?_ ?_ ?_ ?_
  all_goals simp only[aq,aa,hz,bS,Bool.false_or]
end
def kC.isR(t:kC lo s ov cv xs ys):aD 1 aF cv ys:=by
 rcases t.r with⟨h1,h2⟩|⟨_,k,h1,_⟩
 exact .inl ⟨h1,ue.1 h2⟩;exact .inr ⟨_,h1⟩
def kC.isL(t:kC lo s ov cv xs ys):aD 2 bD ov xs:=by
 rcases t.l with⟨h1,h2⟩|⟨_,k,h1,_⟩
 exact .inl ⟨h1,ue.1 h2⟩;exact .inr ⟨_,h1⟩
section
variable{sp:bC}{ch:Nat->Nat}
def aoJ(h186:sp 223=none)(h121:sp 130=none){v:ak}(t:kC lo s ov cv xs ys)(hm:s.ge<=s.al)(hlo:lo<=s.al)(hlen:ys.length<=1000)(hlx:xs.length<=60)(h14:aj e 14=ov)(h15:aj e 15=cv)(h17:aj e 17= .str k)(h19:aj e 19= .str v)(hk: ∀(e':aI) (s':St) (ov' cv':ae),aj e' 9=aj e 9->aj e' 14=ov'->aj e' 15=cv'->aj e' 61=aj e 61->aj e' 62=aj e 62->aj e' 63=aj e 63->kC lo s' ov' cv' (lY k v xs ys).1 (lY k v xs ys).2->s'.ci=s.ci->s.al<=s'.al->s'.ge<=s'.al->(∀n,n<lo->s'.get [] n=s.get [] n)->P .normal ⟨e',136,lc⟩ s'):
 W (QM sp ch) 282 afO ⟨e,136,lc⟩ s P:=by
 have hcc:=t.r.aL;have hco:=t.l.aL;have hln:=fun mk s=>t.isL.len jw jv mk s;have hcon:=ZW (ch:=ch) h186 h121 t.isR (by omega) k s;have hbd: ∀e,aj e 119= .str k->aj e 120= .str v->eV ar 92 [(0,.tmp 119),(1,.tmp 120)] e=some (.agg [.str k,.str v]):=fun e p q=>X6 (by rw[bq,p]) (by rw[bq,q]);have hsl: ∀e s,aj e 130= .str k->cx ar 25 1 [(0,.tmp 130)] false e s=some (.list 1 [.str k] .GE,s):=fun e s h=>A7 (by rw[bq,h]) s;have hsl2: ∀e s,aj e 121= .agg [.str k,.str v]->cx ar 50 1 [(0,.tmp 121)] false e s=some (.list 2 [.agg [.str k,.str v]] .GE,s):=fun e s h=>Yt (by rw[bq,h]) s;refine aw ?_;simp only[ai,bh,aa,ah,h19];cases hv:v== [] with
 |true=>
  have hp:lY k v xs ys=(xs,ys):=by simp only[lY,hv,cT]
  refine bU (cL ?_);refine hk _ s ov cv ?_ ?_ ?_ ?_ ?_ ?_ (by rw[hp];exact t) rfl (aU _) hm fun _ _=>rfl
  all_goals simp only[au,aa,h14,h15]
 |false=>
  refine cJ (aw ?_);have hlt:bG ((xs.length:Nat):Int) 60=decide (xs.length<60):=im xs.length 60;simp only[ai,bh,gd,aa,ah,h14,hco,rZ,hln,hlt];by_cases h60:xs.length<60
  ·have hp:lY k v xs ys=(xs++[(k,v)],ys):=by simp only[cz,lY,hv,dQ h60]
   obtain⟨ov',s',r1,r2,r3,r4,r5,r6,r7⟩:=t.left hm hlo (by omega) (k,v);refine dJ (t:=true) (by simp only[aq,bq,aa,dQ h60]) (bH ?_);simp only[ai,ax,bh,gd,aa,ah,h14,h17,h19,hco,hbd,rZ,hsl2,r1];refine hk _ s' ov' cv ?_ ?_ ?_ ?_ ?_ ?_ (by rw[hp];exact r2) r3 r4 r5 r7
   all_goals simp only[aq,aa,h15]
  ·refine dJ (t:=false) (by simp only[aq,bq,aa,dN h60]) (aC (fU (fM 2 ?_)))
   simp only[au,vS,aN,ay,aa,ah,h15,h17];refine fO (g:=130) (args:=[cv,.str k]) ?_ hcon (by decide) ?_;simp only[ai,callee,aa,hcc];refine fN ?_;simp only[ai,aA,aa,ah];cases he:ys.elem k with
   |true=>
    have hp:lY k v xs ys=(xs,ys):=by simp only[cz,lY,hv,dN h60,he]
    refine dJ (t:=false) (by simp only[aq,bq,aa,dS]) (cL ?_);refine hk _ s ov cv ?_ ?_ ?_ ?_ ?_ ?_ (by rw[hp];exact t) rfl (aU _) hm fun _ _=>rfl
    all_goals simp only[au,aa,h14,h15]
   |false=>
    have hp:lY k v xs ys=(xs,ys++[k]):=by simp only[lY,hv,dN h60,he,cF]
    obtain⟨cv',s',r1,r2,r3,r4,r5,r6,r7⟩:=t.right hm hlo hlen k;refine dJ (t:=true) (by simp only[aq,bq,aa,fy]) (bH ?_);simp only[ai,ax,bh,gd,aa,ah,h15,h17,hcc,rZ,hsl,r1];refine hk _ s' ov cv' ?_ ?_ ?_ ?_ ?_ ?_ (by rw[hp];exact r2) r3 r4 r5 r7
    all_goals simp only[aq,aa,h14]
end
def pB(V:ak->List ak)(k:ak)(st:List be×List ak):List be×List ak:=match V k with
 | [a,b,c]=>lY k ((jZ a b c).getD a) st.1 (oC k a b c st.2)
 |_=>st
def lZ(V:ak->List ak)(ks:List ak)(st:List be×List ak):List be×List ak:=ks.foldl (fun st k=>pB V k st) st
def Vs{v:ak}(hx:xs.length<=60):(lY k v xs ys).1.length<=60/\(lY k v xs ys).2.length<=ys.length+1:=by
 unfold lY;cases v== [] with
 |true=>exact⟨hx,jf _⟩
 |false=>
  by_cases h:xs.length<60;simp only[cK,cz,dQ h];omega;simp only[cF,dN h];cases ys.elem k with
  |true=>exact⟨hx,jf _⟩
  |false=>simp only[cK,cF];omega
variable{st:List be×List ak}
def Vv(hx:st.1.length<=60):(pB V k st).1.length<=60/\(pB V k st).2.length<=st.2.length+2:=by
 unfold pB;split;rename_i a b c _;have h:=Vs (k:=k) (v:=(jZ a b c).getD a) (ys:=oC k a b c st.2) hx;have h2:(oC k a b c st.2).length<=st.2.length+1:=by
  unfold oC;cases jZ a b c with
  |none=>simp
  |some _=>exact jf _
 exact⟨h.1,by omega⟩;exact⟨hx,by omega⟩
variable{s':St}
def TM.keep(t:TM s m lo K V)(hm:m<s.al)(hg: ∀n,n<s.al->s'.get [] n=s.get [] n)(hn:s.al<=s'.al):TM s' m lo K V:=by
 obtain⟨L,h1,h2,h3,h4⟩:=t.ex;refine⟨t.len,t.fits,t.noV,L,h1,(hg m hm).trans h2,fun k v hv=>?_,h4⟩;obtain⟨r,a,b,c,d⟩:=h3 k v hv;exact⟨r,a,b,by omega,(hg r c).trans d⟩
def aoY(h:l.length=3): ∃a b c,l=[a,b,c]:=by
 match l,h with
 | [a,b,c],_=>exact⟨a,b,c,rfl⟩
variable{ks:List ak}
section
variable{sp:bC}{ch:Nat->Nat}
def ahH(h186:sp 223=none)(h121:sp 130=none){s0:St}{lo0 rk:Nat}(t0:TM s0 m lo0 K V)(hm0:m<s0.al)(hrk:rk<s0.al)(hrow:s0.get [] rk=some (.cells (ks.map aF)))(hks: ∀k∈ks,k∈K)(hlen:ks.length<=300):
 ∀(rest pre:List ak) (e:aI) (lc:Ag.Loc) (s:St) (ov cv:ae) (xs:List be) (ys:List ak),ks=pre++rest->kC s0.al s ov cv xs ys->xs.length<=60->ys.length<=2*pre.length->s.ge<=s.al->s0.al<=s.al->(∀n,n<s0.al->s.get [] n=s0.get [] n)->
 aj e 9= .map m->aj e 14=ov->aj e 15=cv->aj e 61= .arr 1 rk 0 ks.length ks.length->aj e 62= .int .i64 (ks.length:Nat)->aj e 63= .int .i64 (pre.length:Nat)->
 W (QM sp ch) 282 (.loop QV) ⟨e,136,lc⟩ s fun x fr s'=>x= .exit 4/\ ∃e' lc' ov' cv',fr=⟨e',136,lc'⟩/\aj e' 14=ov'/\aj e' 15=cv'/\kC s0.al s' ov' cv' (lZ V rest (xs,ys)).1 (lZ V rest (xs,ys)).2/\s'.ci=s.ci:=by
 intro rest
 induction rest with
 |nil=>
  intro pre e lc s ov cv xs ys hpre two hx hy hm hn hold h9 h14 h15 h61 h62 h63;have hl:ks.length=pre.length:=by rw[hpre];simp
  refine bV ?_;refine aw ?_;simp only[ai,bh,ah,h62,h63,hl,cR];refine aC (cJ ?_);refine dL ⟨rfl,_,_,ov,cv,rfl,?_,?_,two,rfl⟩;simp only[au,aa,h14];simp only[au,aa,h15]
 |cons k rest ih=>
  intro pre e lc s ov cv xs ys hpre two hx hy hm hn hold h9 h14 h15 h61 h62 h63;have hlt:pre.length<ks.length:=by rw[hpre];simp
  have hwr:=eE (n:=pre.length) (by omega);have hrd:((ks.map aF).drop pre.length).head?=some (.str k):=by rw[hpre,je,List.drop_left' (by simp)];rfl
  have hgr:s.get [] rk=some (.cells (ks.map aF)):=(hold rk hrk).trans hrow;have t:=t0.keep hm0 hold hn;obtain⟨r,r1,r2,r3,r4,_⟩:=t.row (hks k (by rw[hpre];simp));obtain⟨a,b,c,habc⟩:=aoY (t0.len k);rw[habc] at r3;simp only[dG,List.map_nil,aF] at r3;have hst:lZ V (k::rest) (xs,ys)=lZ V rest (lY k ((jZ a b c).getD a) xs (oC k a b c ys)):=by
   simp only[lZ,vE,pB,habc]
  have hconf:(oC k a b c ys).length<=ys.length+1:=by
   unfold oC;cases jZ a b c with
   |none=>simp
   |some _=>exact jf _
  have hle:=Vs (k:=k) (v:=(jZ a b c).getD a) (ys:=oC k a b c ys) hx;refine bV ?_;refine aw ?_;simp only[ai,bh,ah,h62,h63,hlt];refine aC (bU (cL ?_));simp only[bM];refine aC (bL (aw ?_));simp only[ai,ax,aa,ah,bh,h61,h63,hlt,qG,cO,hgr,cN,hrd];refine aw ?_;simp only[ai,ax,bh,gd,cut,bu,aN,ay,aa,ah,aG,aV,h9,r4,fB,cO,r3,cN,rZ];refine aw ?_;simp only[ai,ax,bh,ay,aa,ah,jg,DQ];refine aC (bL ?_);refine aoI (g:=lc.gen 18+1) (k:=k) (a:=a) (b:=b) (c:=c) two hm hn (by omega) ?_ ?_ ?_ ?_ ?_ ?_ ?_ ?_;simp only[au,aa,h14];simp only[au,aa,h15];simp only[aq,aa];simp only[aq,aa];simp only[aq,aa];simp only[eZ,aa,cT];simp only[ew,cT,bS];intro e1 s1 cv1 g9 g14 g15 g17 g19 g61 g62 g63 two1 c1 n1 m1 o1;simp only[au,aa] at g9 g61 g62 g63;simp only[dA];refine bL ?_;refine aoJ (k:=k) (v:=(jZ a b c).getD a) h186 h121 two1 m1 (by omega) (by omega) hx g14 g15 g17 g19 ?_;intro e2 s2 ov2 cv2 f9 f14 f15 f61 f62 f63 two2 c2 n2 m2 o2;simp only[dA];refine bH ?_;simp only[ai,aA,bh,ah,f63,g63,h63,hwr];refine jr (ih (pre++[k]) _ _ s2 ov2 cv2 _ _ (by rw[hpre];simp) two2 hle.1 (by rw[dX,rB];omega) m2 (by omega) (fun n hn'=>(o2 n hn').trans ((o1 n hn').trans (hold n hn'))) ?_ ?_ ?_ ?_ ?_ ?_) ?_;simp only[au,aa,f9,g9,h9];simp only[au,aa,f14];simp only[au,aa,f15];simp only[au,aa,f61,g61,h61];simp only[au,aa,f62,g62,h62];simp only[aq,cK,aa];rintro x fr s' ⟨rfl,e',lc',ov',cv',rfl,q1,q2,q3,q4⟩;refine⟨rfl,e',lc',ov',cv',rfl,q1,q2,?_,by rw[q4,c2,c1]⟩;rw[hst];exact q3
end
noncomputable def yZ(T:du)(ch:Nat->Nat):bF:=QM (fun f=>cI f T) ch
variable{T:du}
def acY(hT:dc T):Ag.Al (yZ T fun _=>0) where
 mixed:=Lj
 spec f sp hsp args v hv G hp w xs wr hx:=hT _ (Hu hsp) args v hv G hp w xs wr hx
 specH f sp h args v G hp w xs wr hx hv:=by cases h
 specW f sp h:=by
  have h:(bif aJ f 140 then some Az else bif aJ f 192 then some Ay else none)=some sp:=h;cases hb:aJ f 140 with
  |true=>
   have:=iw hb;subst this;rw[hb] at h;injection h with h;subst h
   exact anQ
  |false=>
   rw[hb] at h;cases hb2:aJ f 192 with
   |true=>
    have:=iw hb2;subst this;rw[hb2] at h;injection h with h;subst h
    exact anP
   |false=>rw[hb2] at h;cases h
 names f fn hf:=by
  have hf:ar.funcs[f]? =some fn:=hf
  have:=List.all_eq_true.1 Lp fn (by
   rw[<-Array.getElem?_toList] at hf;exact ku hf)
  simpa using this
def U7(hT:dc T){f:FuncId}{args:List ae}{u:ae}(hp:jn args=true)(hr: ∀ch, ∃v s',aM (yZ T ch) f (ej args) s0 v s'/\dP s'.heap v u)(G:Gh)(h:aZ bf)(w:World)(xs:List Value)(wr:WR G h w)(hx:bP G args xs):
 mh ar f ⟨xs⟩ w fun y w'=> ∃G',WR G' h w'/\cM G h w G' h w' 0 0/\VR G' u y:=by
 obtain⟨N,hN⟩:=fan (B:=1000000) (by omega) (fun ch n=> ∃v s',(cd (yZ T ch) n).call f (ej args) [] s0=some (v,s')/\dP s'.heap v u)
  (fun ch n m hnm ⟨v,s',h1,h2⟩=>⟨v,s',(og (yZ T ch) hnm).call _ _ _ _ _ h1,h2⟩)
  (fun ch n ⟨v,s',h1,h2⟩=>⟨s'.ci,fun ch' hc=>⟨v,s',(sh (yZ T fun _=>0) n).call f _ [] ch s0 v s' h1 ch' hc,h2⟩⟩)
  (fun ch _=>let⟨v,s',⟨n,h1⟩,h2⟩:=hr ch;⟨n,v,s',h1,h2⟩)
 exact Ml (Q:=yZ T fun _=>0) (n:=N) (acY hT) (fun _=>(by decide:0<1000000)) hp (fun ch hi=>hN ch hi) G h w xs wr hx
def iu(b o t:List be):List be×List ak:=lZ (rp b o t) (eX (lP b o t)) ([],[])
def vp(r:List be×List ak):ae:=.tup [fv 2 (r.1.map bD),fv 1 (r.2.map aF)]
def xn: ∀(l:List be) (K:List ak),(jP l K).length<=K.length+l.length
 | [],K=>aU _
 |t::l,K=>by
  have h:=xn l (iW t.1 K);have h2:(iW t.1 K).length<=K.length+1:=by
   unfold iW;cases K.elem t.1 with
   |true=>exact jf _
   |false=>simp
  simp only[jP,vE,cP] at h ⊢;omega
def Bm: ∀(L:List (ak×ae)) (n:Nat),(bX n L).map (·.key)=(L.map (·.1)).map aF
 | [],_=>rfl
 |(a,v)::L,n=>by
  simp only[bX,dG,Bm L (n+1)];rfl
def uE: ∀(L:List (ak×ae)) (n:Nat),(bX n L).length=L.length
 | [],_=>rfl
 |(a,v)::L,n=>by simp only[bX,cP,uE L (n+1)]
def I1: ∀(U:List (ak×ae)) (n:Nat),(bX n U).map (·.born)=List.range' n U.length
 | [],_=>rfl
 |(k,v)::U,n=>by simp only[bX,dG,I1 U (n+1),cP,List.range'_succ]
def OP(L:List (ak×ae)):CV (bX 0 L):=by
 refine⟨fun e he=>?_,by rw[I1];exact List.nodup_range'⟩;have h1:e.born∈(bX 0 L).map (·.born):=dp.2 ⟨e,he,rfl⟩;rw[I1,List.mem_range'_1] at h1;rw[uE];omega
def Sd(mk:aW)(n m o l c:Nat)(s:St):gD ar mk 25 (.arr n m o l c) s=some (.int .i64 (l:Nat)):=by kernel_rfl
section
variable{sp:bC}{ch:Nat->Nat}
def ahw(h120:sp 380=none):aM (QM sp ch) 380 [.map m] s (.func (.func 463) [] [.ptr s.al 0]) (s.new (.cells [.map m])):=by
 refine aM.of2 Fp.1 Fp.2 Fp.3 Fp.4 h120 ?_;refine aw ?_;simp only[ai,bv,bt,gd,ah,aV,adp,ofValue,aX];refine aw ?_;simp only[ai,aa,ah,si];exact bo ⟨rfl,.inr rfl,bz (by simp only[aq,aa]) rfl⟩
def acD(h185:sp 463=none){cb:Nat}{s0:St}{L:List (ak×ae)}(hmw:s0.ge<=s0.al)(hm:m<s0.al)(hcb:cb<s0.al)(hc:s0.get [] cb=some (.cells [.map m]))(hmm:s0.get [] m=some (.map (bX 0 L) L.length))(hL:L.length<=1000000):um (QM sp ch) 1 463 s0 cb (bX 0 L):=by
 intro s bx lo lim lob c ht;refine ahy (Q:=QM sp ch) rfl rfl (ch:=ch) rfl rfl (OP L) (fun i=>by rw[uE];exact hL) h185 rfl rfl hmw hm hcb hc (by rw[uE];exact hmm) c ht fun e he=>?_;have h1:e.key∈(bX 0 L).map (·.key):=dp.2 ⟨e,he,rfl⟩;rw[Bm] at h1;obtain⟨b,_,e2⟩:=dp.1 h1;exact⟨b,e2.symm⟩
def aoP(hs: ∀n,n=102\/n=189\/n=284\/n=140->sp n=none)(h76:sp 282=none)(h59:sp 164=some sR)(h120:sp 380=none)(h185:sp 463=none)(h186:sp 223=none)(h121:sp 130=none)(hb:kX vb b)(ho:kX vo o)(ht:kX vt t)(hm:s.ge<=s.al):
 ∃v s',aM (QM sp ch) 282 [vb,vo,vt] s v s'/\dP s'.heap v (vp (iu b o t)):=by
 have cb:=hb.is.aL;have co:=ho.is.aL;have ct:=ht.is.aL;have cell: ∀ {v:ae} {l:List be},aD 2 bD v l->v.cells=[v]:=fun h=>by rcases h with⟨rfl,_⟩|⟨r,rfl⟩<;>rfl
 have lb:=cell hb.is;have lo:=cell ho.is;have lt:=cell ht.is;have hbd: ∀e,aj e 20=vb->aj e 21=vo->aj e 22=vt->eV ar 441 [(0,.tmp 20),(1,.tmp 21),(2,.tmp 22)] e=some (.agg [vb,vo,vt]):=fun e p q r=>by
  rw[X3];simp only[ce,Wf,cS,evc,ev,p,q,r,cb,co,ct,lb,lo,lt];rfl
 refine aM.ofEx EY.1 EY.2 EY.3 EY.4 h76 ?_;refine aw ?_;simp only[ai,bv,bt,ah,aG,aV,ofValue,aX];refine aw ?_;simp only[ai,ax,bh,gd,bu,aN,ay,aa,ah,aG,aV,hbd,rZ];refine aw ?_;simp only[ai,bh,aa,ah,ajL];refine aC (aC (bH ?_));simp only[ai,ax,aA,bh,cut,aN,ay,aa,ah,aG];refine bL ?_;refine jr (anJ (m:=s.al) h59 hb ho ht (by rw[cp,bS];rfl) (fK _) (ky hm) ?_ ?_ ?_) ?_;simp only[aq,aa];simp only[aq,aa];simp only[aq,aa];rfl;rintro x fr s1 ⟨rfl,e1,lc1,rfl,g9,t1,o1,n1,m1,c1⟩;have n1:s.al+1<=s1.al:=n1;show W (QM sp ch) 282 _ _ _ _;refine aw ?_;simp only[cG,ah,ofValue,aX];refine aw ?_;simp only[cG,ah,ofValue,aX];obtain⟨L,hL1,hL2,_,_⟩:=t1.ex;have hLl:L.length<=180:=by
  have h1:(L.map (·.1)).length=(lP b o t).length:=congrArg List.length hL1;rw[cZ] at h1;have h2:=xn b [];have h3:=xn o (jP b []);have h4:=xn t (jP o (jP b []));have hb:=hb.len;have ho:=ho.len;have ht:=ht.len;simp only[fJ] at h2;unfold lP at h1;omega
 have hg2: ∀n,n<s1.al->(s1.new (.cells [.map s.al])).get [] n=s1.get [] n:=fun n h=>by rw[cp,bN.2 (by omega)];rfl
 obtain⟨v,s2,hr,hgot⟩:=U5 (Q:=QM sp ch) rfl rfl hs (fun _=>rfl) (fun n hn=>by rcases hn with rfl|rfl|rfl<;>rfl) rfl (g:=463) (cb:=s1.al) (s0:=s1.new (.cells [.map s.al])) (es:=bX 0 L) (ks:=lP b o t) (ky m1) (by rw[uE];omega) (by rw[Bm,hL1]) (by kernel_rfl)
  (acD h185 (m:=s.al) (ky m1) (nQ (by omega)) (fK _) (by rw[cp,bS];rfl) ((hg2 _ (by omega)).trans hL2) (by omega))
 have hvc:=hgot.aL;refine aC (aC (fU (fM 1 ?_)));simp only[au,vS,aN,ay,aa,ah,g9];refine fO (g:=380) (args:=[.map s.al]) ?_ (ahw h120) (by decide) ?_;simp only[ai,callee,aa];refine fO (g:=102) (args:=[.func (.func 463) [] [.ptr s1.al 0]]) ?_ hr (by decide) ?_;simp only[ai,callee,aa];refine fN ?_;have hnx:s1.al+1<=s2.al:=hgot.al;have m2:s2.ge<=s2.al:=by
  have h1:=hgot.ge;have h2:(s1.new (.cells [.map s.al])).ge=s1.ge:=rfl;omega
 have hold: ∀n,n<s1.al->s2.get [] n=s1.get [] n:=fun n h=>(hgot.old n (nQ h)).trans (hg2 n h);have t2:=t1.keep (by omega) hold (by omega);obtain⟨ks,hks⟩: ∃ks,ks=eX (lP b o t):=⟨_,rfl⟩;have hperm:=lr (lP b o t);rw[<-hks] at hperm hgot;have hkl:ks.length<=300:=by
  have h1:=hperm.length_eq;have h2:(L.map (·.1)).length=(lP b o t).length:=congrArg List.length hL1;rw[cZ] at h2;omega
 have htags:iu b o t=lZ (rp b o t) ks ([],[]):=by rw[hks];rfl
 have hend: ∀(e3:aI) (lc3:Ag.Loc) (ov cv:ae) (s3:St),aj e3 14=ov->aj e3 15=cv->kC s2.al s3 ov cv (iu b o t).1 (iu b o t).2->
  W (QM sp ch) 282 (.seq (.region Q7) .ret) ⟨e3,136,lc3⟩ s3 fun x fr s'=>(x= .normal\/x= .ret)/\ ∃v,(∃vs,bW (QM sp ch) [] fr s' [.tmp 6,.tmp 7]=some vs/\gG vs=v)/\dP s'.heap v (vp (iu b o t)):=by
  intro e3 lc3 ov cv s3 h14 h15 two;have c1:=two.l.aL;have c2:=two.r.aL;refine aw ?_;simp only[ai,aa,ah,h14,h15];refine bo ⟨.inr rfl,.tup [ov,cv],wM (v:=ov) (w:=cv) ?_ c1 ?_ c2,4,?_⟩;simp only[aq,aa];simp only[aq,aa];have f1:cj s3.heap 3 ov=some (fv 2 ((iu b o t).1.map bD)):=uL two.l (k:=2) fun v hv=>by
   obtain⟨p,_,rfl⟩:=dp.1 hv;rfl
  have f2:cj s3.heap 3 cv=some (fv 1 ((iu b o t).2.map aF)):=uL two.r (k:=2) fun v hv=>by
   obtain⟨p,_,rfl⟩:=dp.1 hv;rfl
  show(de (cj s3.heap 3) [ov,cv]).bind (fun r=>some (ae.tup r))=_;simp only[de,f1,f2,bn,vp]
 rcases hgot.row with⟨rfl,hx⟩|⟨hne,rk,rfl,hk,h4,h5⟩
 have hk0:ks=[]:=ue.1 hx;simp only[ai,ax,aA,bh,gd,aa,ah,rZ];refine bL (bV ?_);refine aw ?_;have h00:bG 0 ((0:Nat):Int)=false:=rfl;simp only[ai,bh,aa,ah,h00];refine aC (cJ ?_);refine dL ?_;refine hend _ _ .AL .AL s2 ?_ ?_ ?_;simp only[aq,aa];simp only[aq,aa];rw[htags,hk0];exact⟨.inl ⟨rfl,rfl⟩,.inl ⟨rfl,rfl⟩,fun k h=>(by cases h)⟩;rw[zx] at hk;simp only[cZ];have hca: ∀n m o l c:Nat,(ae.arr n m o l c).aL=true:=fun _ _ _ _ _=>rfl;simp only[ai,aA,bh,gd,aa,ah,rZ,Sd,hca];refine bL ?_;have two0:kC s2.al s2 .AL .AL [] []:=⟨.inl ⟨rfl,rfl⟩,.inl ⟨rfl,rfl⟩,fun k h=>(by cases h)⟩;have hm2:s.al<s2.al:=by omega
 refine jr (ahH h186 h121 t2 hm2 h5 hk (fun k h=>hperm.mem_iff.1 h) hkl ks [] _ _ s2 .AL .AL [] [] rfl two0 (cV _) (cV _) m2 (aU _) (fun _ _=>rfl) ?_ ?_ ?_ ?_ ?_ ?_) ?_;simp only[au,aa,g9];simp only[aq,aa];simp only[aq,aa];simp only[aq,aa];simp only[aq,aa];simp only[aq,aa];rfl;rintro x fr s3 ⟨rfl,e3,lc3,ov,cv,rfl,q14,q15,two,_⟩;rw[<-htags] at two;exact hend e3 lc3 ov cv s3 q14 q15 two
end
def yE:Sp
 | [u,v,w]=>bif pures [u,v,w] then(fF 2 oP u).bind fun b=>(fF 2 oP v).bind fun o=>(fF 2 oP w).bind fun t=>
     bif(cY b&&pz b)&&((cY o&&pz o)&&(cY t&&pz t)) then some (vp (iu b o t)) else none else none
 |_=>none
def aoN(hb:kX vb b)(ho:kX vo o)(ht:kX vt t)(pb:aQ vb=true)(po:aQ vo=true)(pt:aQ vt=true):yE [vb,vo,vt]=some (vp (iu b o t)):=by
 simp only[ce,yE,pures,pb,po,pt,cH,i8 tg hb.is,i8 tg ho.is,i8 tg ht.is,hb.valid,ho.valid,ht.valid,tT hb.keys,tT ho.keys,tT ht.keys]
def Nv:du:=[(164,sR)]
def W6:dc Nv:=.cons Vu .nil
def aoO:cq ar 282 yE:=by
 intro args x hv G h w xs wr hx;unfold yE at hv;split at hv;rename_i u v t;obtain⟨hp,hv⟩:=bm hv;simp only[Option.bind_eq_some_iff] at hv;obtain⟨a,h1,b,h2,c,h3,hv⟩:=hv;obtain⟨hs,hv⟩:=bm hv;injection hv with hv;subst hv
 simp only[bA] at hs;obtain⟨⟨v1,s1⟩,⟨v2,s2⟩,v3,s3⟩:=hs;have ha:kX u a:=⟨ij (fun v a=>rO) h1,v1,sQ s1⟩;have hb:kX v b:=⟨ij (fun v a=>rO) h2,v2,sQ s2⟩;have hc:kX t c:=⟨ij (fun v a=>rO) h3,v3,sQ s3⟩;exact U7 W6 (args:=[u,v,t]) (kh hp) (fun ch=>by
  rw[gK hp];exact aoP (sp:=fun f=>cI f Nv) (ch:=ch) (fun n hn=>by rcases hn with rfl|rfl|rfl|rfl<;>rfl) rfl rfl rfl rfl rfl rfl ha hb hc (s:=s0) (aU _)) G h w xs wr hx
 cases hv
def Om{b o t p:List ak}(h:lg b o t=some p):p=t\/p=o:=by
 unfold lg at h;cases h1:o==b with
 |true=>rw[h1] at h;injection h with h;exact .inl h.symm
 |false=>
  rw[h1] at h;cases h2:t==b||t==o with
  |true=>rw[h2] at h;injection h with h;exact .inr h.symm
  |false=>rw[h2] at h;cases h
variable{x:ak}
def ai8{b:List ak}{p:Nat}(h:x∈jG b p):x∈b:=by
 unfold jG at h;cases hb:b[p]? with
 |none=>rw[hb] at h;cases h
 |some y=>
  rw[hb] at h;simp only[sZ] at h;subst h;exact ku hb
def UR{b o t:List ak}: ∀ {l:List (Nat×Nat×Nat)} {i j k:Nat} {out r:List ak},j8 b o t l i j k out=some r-> ∀x∈r,x∈out\/x∈b\/x∈o\/x∈t
 | [],_,_,_,out,r,h,x,hx=>by injection h with h;subst h;exact .inl hx
 |(p,q,s)::l,i,j,k,out,r,h,x,hx=>by
  simp only[j8] at h;split at h;cases h;rename_i part hp;rcases UR h x hx with h1|h1
  rcases iE.1 h1 with h1|h1
  rcases iE.1 h1 with h1|h1
  exact .inl h1;rcases Om hp with rfl|rfl
  exact .inr (.inr (.inr (xa (ug h1))));exact .inr (.inr (.inl (xa (ug h1))));exact .inr (.inl (ai8 h1));exact .inr h1
def UQ{b o t:List ak}: ∀ {l:List (Nat×Nat×Nat)} {i j k:Nat} {out r:List ak},nT b.length o.length t.length i j k l->out.length<=i+j+k->i<=b.length+1->j<=o.length+1->k<=t.length+1->j8 b o t l i j k out=some r->r.length<=b.length+o.length+t.length+3
 | [],_,_,_,out,r,_,ho,hi,hj,hk,h=>by injection h with h;subst h;omega
 |(p,q,s)::l,i,j,k,out,r,hR,ho,hi,hj,hk,h=>by
  cases hR with
  |cons r1 r2 r3 r4 r5 r6 r7=>
  simp only[j8] at h;split at h;cases h;rename_i part hp;have h1:=KJ b p;have h2:part.length<=(q-j)+(s-k):=by
   rcases Om hp with rfl|rfl
   rw[oG];omega;rw[oG];omega
  exact UQ r7 (by rw[dX,dX];omega) (by omega) (by omega) (by omega) h
def anx{b o t r:List ak}(h:jB b o t=some r):(∀x∈r,x∈b\/x∈o\/x∈t)/\r.length<=b.length+o.length+t.length+3:=by
 unfold jB at h;cases hl:mN [b,o,t] with
 |true=>rw[hl] at h;cases h
 |false=>
  rw[hl] at h;have h:j8 b o t (rM b o t) 0 0 0 []=some r:=h;refine⟨fun x hx=>?_,UQ (Io b o t) (cV _) (cV _) (cV _) (cV _) h⟩;rcases UR h x hx with h1|h1
  cases h1;exact h1
def Gc{x:ak}: ∀ {l:List be} {K:List ak},x∈jP l K↔x∈K\/ ∃t∈l,t.1=x
 | [],K=>by simp[jP]
 |t::l,K=>by
  have ih:=Gc (x:=x) (l:=l) (K:=iW t.1 K);have h1:jP (t::l) K=jP l (iW t.1 K):=rfl;rw[h1,ih];have h2:x∈iW t.1 K↔x∈K\/x=t.1:=by
   unfold iW;cases h:K.elem t.1 with
   |true=>
    have:=sY h;simp only[cT];exact⟨.inl,fun h=>h.elim id fun e=>e▸this⟩
   |false=>simp
  rw[h2];simp only[cQ,exists_eq_or_imp];constructor;rintro((h|h)|h);exact .inl h;exact .inr (.inl h.symm);exact .inr (.inr h);rintro(h|h|h);exact .inl (.inl h);exact .inl (.inr h.symm);exact .inr h
def SL:x∈lP b o t↔(∃u∈b,u.1=x)\/(∃u∈o,u.1=x)\/ ∃u∈t,u.1=x:=by
 unfold lP;rw[Gc,Gc,Gc];simp only[List.not_mem_nil,false_or,or_assoc]
def aoK{v:ak}:(∀t∈(lY k v xs ys).1,t∈xs\/t=(k,v))/\ ∀y∈(lY k v xs ys).2,y∈ys\/y=k:=by
 unfold lY;cases v== [] with
 |true=>exact⟨fun _ h=>.inl h,fun _ h=>.inl h⟩
 |false=>
  cases decide (xs.length<60) with
  |true=>exact⟨fun _ h=>by simpa using h,fun _ h=>.inl h⟩
  |false=>
   cases ys.elem k with
   |true=>exact⟨fun _ h=>.inl h,fun _ h=>.inl h⟩
   |false=>exact⟨fun _ h=>.inl h,fun _ h=>by simpa using h⟩
def Vw:(∀t∈(pB V k st).1,t∈st.1\/t.1=k)/\ ∀y∈(pB V k st).2,y∈st.2\/y=k:=by
 unfold pB;split;rename_i a b c _;have h:=aoK (k:=k) (v:=(jZ a b c).getD a) (xs:=st.1) (ys:=oC k a b c st.2);refine⟨fun t ht=>(h.1 t ht).imp id fun e=>by rw[e],fun y hy=>?_⟩;rcases h.2 y hy with h2|h2
 unfold oC at h2;cases hp:jZ a b c with
 |some z=>rw[hp] at h2;exact .inl h2
 |none=>rw[hp] at h2;simpa using h2
 exact .inr h2;exact⟨fun _ h=>.inl h,fun _ h=>.inl h⟩
def VE{V:ak->List ak}: ∀ {ks:List ak} {st:List be×List ak},(∀t∈(lZ V ks st).1,t∈st.1\/t.1∈ks)/\ ∀y∈(lZ V ks st).2,y∈st.2\/y∈ks
 | [],st=>⟨fun _ h=>.inl h,fun _ h=>.inl h⟩
 |k::ks,st=>by
  have ih:=VE (V:=V) (ks:=ks) (st:=pB V k st);have h:=Vw (V:=V) (k:=k) (st:=st);have e:lZ V (k::ks) st=lZ V ks (pB V k st):=rfl;rw[e];refine⟨fun t ht=>?_,fun y hy=>?_⟩;rcases ih.1 t ht with h1|h1
  exact(h.1 t h1).imp id fun e=>by simp[e]
  exact .inr (by simp[h1]);rcases ih.2 y hy with h1|h1
  exact(h.2 y h1).imp id fun e=>by simp[e]
  exact .inr (by simp[h1])
def VD{V:ak->List ak}: ∀ {ks:List ak} {st:List be×List ak},st.1.length<=60->(lZ V ks st).1.length<=60/\(lZ V ks st).2.length<=st.2.length+2*ks.length
 | [],st,h=>⟨h,aU _⟩
 |k::ks,st,h=>by
  have h1:=Vv (V:=V) (k:=k) h;have ih:=VD (V:=V) (ks:=ks) h1.1;have e:lZ V (k::ks) st=lZ V ks (pB V k st):=rfl;rw[e,cP];exact⟨ih.1,by omega⟩
def Mw:(∀u∈(iu b o t).1,u.1∈lP b o t)/\(∀y∈(iu b o t).2,y∈lP b o t):=by
 have h:=VE (V:=rp b o t) (ks:=eX (lP b o t)) (st:=([],[]));have hp:=lr (lP b o t);refine⟨fun u hu=>?_,fun y hy=>?_⟩;rcases h.1 u hu with h1|h1
 cases h1;exact hp.mem_iff.1 h1;rcases h.2 y hy with h1|h1
 cases h1;exact hp.mem_iff.1 h1
def CJ(b o t:List be):(iu b o t).1.length<=60/\(iu b o t).2.length<=2*(b.length+o.length+t.length):=by
 have h:=VD (V:=rp b o t) (ks:=eX (lP b o t)) (st:=([],[])) (cV _);have h1:=(lr (lP b o t)).length_eq;have h2:=xn b [];have h3:=xn o (jP b []);have h4:=xn t (jP o (jP b []));simp only[fJ] at h2 h;have h5:(lP b o t).length=(jP t (jP o (jP b []))).length:=rfl;exact⟨h.1,by have:=h.2;show(lZ _ _ _).2.length<=_;omega⟩
def nN(o:Obj)(r:List ak):Obj:=⟨o.id,o.uP,o.x,o.y,fv 1 (r.map aF),o.tagsV,r,o.gT⟩
def sT(o:Obj)(p:Int×Int):Obj:=⟨o.id,o.uP,p.1,p.2,o.refsV,o.tagsV,o.gE,o.gT⟩
def CN(o:Obj)(l:List be):Obj:=⟨o.id,o.uP,o.x,o.y,o.refsV,fv 2 (l.map bD),o.gE,l⟩
def ia(b o t:Obj):Option (List ak):=match jB b.gE o.gE t.gE with
 |some r=>bif ef (nN b r) then some r else none
 |none=>none
def jK(b o t:Obj):Obj:=match ia b o t with
 |some r=>nN b r
 |none=>b
def re(b o t:Obj):Int×Int:=nJ (b.x,b.y) (o.x,o.y) (t.x,t.y)
def nu(b o t:Obj):Obj:=CN (sT (jK b o t) (re b o t)) (iu b.gT o.gT t.gT).1
def oz:ak:=[114,101,102,115]
def sP:ak:=[97,116]
def jm(k:ak):ak:=[116,97,103,32]++k
def kN(b o t:Obj)(C:List Cf):List Cf:=match ia b o t with
 |some _=>C
 |none=>dh (b.id,oz) C
def nl(b o t:Obj)(C:List Cf):List Cf:=bif lp (b.x,b.y) (o.x,o.y) (t.x,t.y) then dh (b.id,sP) C else C
def m8(id:ak)(ks:List ak)(C:List Cf):List Cf:=ks.foldl (fun C k=>dh (id,jm k) C) C
def qN(b o t:Obj)(C:List Cf):List Cf:=m8 b.id (iu b.gT o.gT t.gT).2 (nl b o t (kN b o t C))
def Gr{n:Nat}{α:Type}{enc:α->ae}(l:List α):aD n enc (fv n (l.map enc)) l:=by
 cases l with
 |nil=>exact .inl ⟨rfl,rfl⟩
 |cons a l=>exact .inr ⟨_,rfl⟩
def al2: ∀l:List ak,aQ (fv 1 (l.map aF))=true
 | []=>rfl
 |a::l=>by
  show(pures ((a::l).map aF)&&true)=true;rw[LS];rfl
def LU: ∀l:List be,pures (l.map bD)=true
 | []=>rfl
 |a::l=>by
  show(aQ (bD a)&&pures (l.map bD))=true;rw[LU l];rfl
def al3: ∀l:List be,aQ (fv 2 (l.map bD))=true
 | []=>rfl
 |a::l=>by
  show(pures ((a::l).map bD)&&true)=true;rw[LU];rfl
variable{b:Obj}
def apH(hb:b.Al){r:List ak}(h1:r.length<small)(h2: ∀x∈r,x.length<small):(nN b r).Al:=
 {gE:=Gr r,gT:=hb.gT,id:=hb.id,reflen:=h1,ref:=h2,taglen:=hb.taglen,key:=hb.key,pr:=al2 r,pt:=hb.pt }
def Md{o t:Obj}(gb:b.Al)(go:o.Al)(gt:t.Al){r:List ak}(h:jB b.gE o.gE t.gE=some r):(nN b r).Al:=by
 obtain⟨h1,h2⟩:=anx h;have hl:mN [b.gE,o.gE,t.gE]=false:=by
  cases hl:mN [b.gE,o.gE,t.gE] with
  |false=>rfl
  |true=>simp only[jB,hl,cT] at h;cases h
 simp only[mN,Bool.or_false,kj,i9] at hl;have l1:=of_decide_eq_false hl.1;have l2:=of_decide_eq_false hl.2.1;have l3:=of_decide_eq_false hl.2.2;have hsm:=fg;refine apH gb (by omega) fun x hx=>?_;rcases h1 x hx with h|h|h
 exact gb.ref x h;exact go.ref x h;exact gt.ref x h
structure Fs (s0 s:St) (x mb mo mt mu md:Nat) (C:List Cf) (cs:List ae):Prop where
 row:s.get [] s0.al=some (.cells cs)
 hx:s.get [] x=some (.cells [.map mb,.map mo,.map mt,.map mu,.map md])
 hd:s.get [] md=some (.map (eI 0 C) C.length)
 old: ∀n,n<s0.al->n≠md->s.get [] n=s0.get [] n
 al:s.al=s0.al+1
 ge:s.ge<=s.al
 ci:s.ci=s0.ci
 lt:md<s0.al/\x<s0.al/\x≠md
section
variable{s0 s:St}{x mb mo mt mu md:Nat}{C:List Cf}{cs:List ae}
def Fs.put(f:Fs s0 s x mb mo mt mu md C cs){cs':List ae}(hg: ∀n,s'.get [] n=(s.put s0.al (some (.cells cs'))).get [] n)(hn:s'.al=s.al)(hm:s'.ge<=s'.al)(hc:s'.ci=s.ci):Fs s0 s' x mb mo mt mu md C cs':=by
 obtain⟨l1,l2,l3⟩:=f.lt;refine⟨by rw[hg,bO,bS];rfl,?_,?_,fun n h1 h2=>?_,hn.trans f.al,hm,hc.trans f.ci,f.lt⟩;rw[hg,bO,bN.2 (by omega)];exact f.hx;rw[hg,bO,bN.2 (by omega)];exact f.hd;rw[hg,bO,bN.2 (by omega)];exact f.old n h1 h2
def Fs.note(f:Fs s0 s x mb mo mt mu md C cs)(c:Cf)(hg: ∀n,s'.get [] n=(s.put md (some (.map (eI 0 (dh c C)) (dh c C).length))).get [] n)(hn:s'.al=s.al)(hm:s'.ge<=s'.al)(hc:s'.ci=s.ci):Fs s0 s' x mb mo mt mu md (dh c C) cs:=by
 obtain⟨l1,l2,l3⟩:=f.lt;refine⟨?_,?_,by rw[hg,bO,bS];rfl,fun n h1 h2=>?_,hn.trans f.al,hm,hc.trans f.ci,f.lt⟩;rw[hg,bO,bN.2 (by omega)];exact f.row;rw[hg,bO,bN.2 (by omega)];exact f.hx;rw[hg,bO,bN.2 h2];exact f.old n h1 h2
end
variable{C:List Cf}{mb md mo mt mu pb:Nat}{REST:SC}
section
variable{sp:bC}{ch:Nat->Nat}
def abV(h74:sp 280=some wR)(h36:sp 75=some ve)(h45:sp 187=none){s0:St}{x po pt:Nat}{o t:Obj}(f:Fs s0 s x mb mo mt mu md C b.cells)(ob:s.get [] pb=some (.cells b.cells))(oo:s.get [] po=some (.cells o.cells))(ot:s.get [] pt=some (.cells t.cells))(gb:b.Al)(go:o.Al)(gt:t.Al)(hpb:pb<s0.al/\pb≠md)(h0:aj e 0= .ptr x 0)(h1:aj e 1= .ptr pb 0)(h2:aj e 2= .ptr po 0)(h3:aj e 3= .ptr pt 0)(h9:aj e 9= .ptr s0.al 0)(hk: ∀(e':aI) (s':St),aj e' 0= .ptr x 0->aj e' 1= .ptr pb 0->aj e' 2= .ptr po 0->aj e' 3= .ptr pt 0->aj e' 9= .ptr s0.al 0->Fs s0 s' x mb mo mt mu md (kN b o t C) (jK b o t).cells->W (QM sp ch) 186 REST ⟨e',107,lc⟩ s' P):
 W (QM sp ch) 186 (.seq (.draw Qy Qv) (.seq (.region Qz) (.seq (.seq (.region QA) (.cond (aR 43) (.seq (.region Kb) (.region Kc)) .skip)) REST))) ⟨e,107,lc⟩ s P:=by
 have hseq:=anz gb.gE go.gE gt.gE gb.pr go.pr gt.pr;have cb:=gb.gE.aL;have co:=go.gE.aL;have ct:=gt.gE.aL;have ob':s.get [] pb=some (.cells [.str b.id,.int .i64 b.uP,.int .i64 b.x,.int .i64 b.y,b.refsV,b.tagsV]):=ob;have oo':s.get [] po=some (.cells [.str o.id,.int .i64 o.uP,.int .i64 o.x,.int .i64 o.y,o.refsV,o.tagsV]):=oo;have ot':s.get [] pt=some (.cells [.str t.id,.int .i64 t.uP,.int .i64 t.x,.int .i64 t.y,t.refsV,t.tagsV]):=ot;have hrow:s.get [] s0.al=some (.cells [.str b.id,.int .i64 b.uP,.int .i64 b.x,.int .i64 b.y,b.refsV,b.tagsV]):=f.row;have bad: ∀(e1:aI) (rv:ae) (s1:St),ia b o t=none->Fs s0 s1 x mb mo mt mu md C [.str b.id,.int .i64 b.uP,.int .i64 b.x,.int .i64 b.y,rv,b.tagsV]->aj e1 0= .ptr x 0->aj e1 1= .ptr pb 0->aj e1 2= .ptr po 0->aj e1 3= .ptr pt 0->aj e1 9= .ptr s0.al 0->
  W (QM sp ch) 186 (.seq (.region Kb) (.region Kc)) ⟨e1,107,lc⟩ s1 fun y fr s'=>Ex.next P (fun fr s=>W (QM sp ch) 186 REST fr s P) y fr s':=by
  intro e1 rv s1 hno f1 g0 g1 g2 g3 g9;have hb1:s1.get [] pb=some (.cells [.str b.id,.int .i64 b.uP,.int .i64 b.x,.int .i64 b.y,b.refsV,b.tagsV]):=((f1.old pb hpb.1 hpb.2).trans (f.old pb hpb.1 hpb.2).symm).trans ob;have hnote:=Cd (sp:=sp) (ch:=ch) h45 f1.hx f1.hd b.id oz;refine aC (fU (fM 5 ?_));simp only[ai,ax,bh,aN,ay,aa,ah,g0,g1,fB,cO,hb1,cN];refine fO (g:=187) (args:=[.ptr x 0,.str b.id,.str oz]) ?_ hnote (by decide) ?_;simp only[ai,callee,aa];rfl;refine fN ?_;obtain⟨s2,hs2⟩: ∃a,a=s1.put md (some (.map (eI 0 (dh (b.id,oz) C)) (dh (b.id,oz) C).length)):=⟨_,rfl⟩;rw[<-hs2];have f2:Fs s0 s2 x mb mo mt mu md (dh (b.id,oz) C) _:=f1.note (b.id,oz) (fun n=>by rw[hs2]) (by rw[hs2];rfl) (by rw[hs2];exact ji _ _ _ f1.ge) (by rw[hs2];rfl);have hb2:s2.get [] pb=some (.cells [.str b.id,.int .i64 b.uP,.int .i64 b.x,.int .i64 b.y,b.refsV,b.tagsV]):=((f2.old pb hpb.1 hpb.2).trans (f.old pb hpb.1 hpb.2).symm).trans ob;have hr2:=f2.row;have cell:b.refsV.cells=[b.refsV]:=by rcases gb.gE with⟨h,_⟩|⟨r,h⟩<;>rw[h]<;>rfl
  simp only[nV,bM];refine bH ?_;simp only[ai,ax,aA,bh,bu,aN,ay,aa,ah,aG,aV,cb,cell,g1,g9,fB,cO,hb2,hr2,cN,kg,kf];refine hk _ _ ?_ ?_ ?_ ?_ ?_ ?_;simp only[au,aa,g0];simp only[au,aa,g1];simp only[au,aa,g2];simp only[au,aa,g3];simp only[au,aa,g9];have e1:kN b o t C=dh (b.id,oz) C:=by simp only[kN,hno]
  have e2:jK b o t=b:=by simp only[jK,hno]
  rw[e1,e2];exact f2.put (fun n=>rfl) rfl (ji _ _ _ f2.ge) rfl
 refine W.sdrawQ f.ge ?_;rcases amK (jB b.gE o.gE t.gE) with⟨r,hr,hres,hrl⟩|⟨hr,hres⟩
 rw[hres] at hseq;have crl:=hrl.aL;have cell:(fv 1 (r.map aF)).cells=[fv 1 (r.map aF)]:=by cases r<;>rfl
 have gw:=Md gb go gt hr;have hobj:=Tf gw;simp only[Obj.val,Obj.cells] at hobj;simp only[nN] at hobj;simp only[fG,ai,ax,isStore,bh,uq,ay,aa,ah,h1,h2,h3,cb,co,ct,fB,cO,wc,ob',oo',ot',cN,h74,hseq,dU];refine aw ?_;simp only[ai,ax,bh,bu,aN,ay,aa,ah,aG,aV,h9,crl,cell,hrow,kg,kf];obtain⟨s1,hs1⟩: ∃a,a=s.put s0.al (some (.cells [.str b.id,.int .i64 b.uP,.int .i64 b.x,.int .i64 b.y,fv 1 (r.map aF),b.tagsV])):=⟨_,rfl⟩;rw[<-hs1];have f1:Fs s0 s1 x mb mo mt mu md C [.str b.id,.int .i64 b.uP,.int .i64 b.x,.int .i64 b.y,fv 1 (r.map aF),b.tagsV]:=f.put (fun n=>by rw[hs1]) (by rw[hs1];rfl) (by rw[hs1];exact ji _ _ _ f.ge) (by rw[hs1];rfl);have hr1:=f1.row;refine aC (aC (bH ?_));simp only[ai,ax,aA,bh,uq,cut,aN,ay,aa,ah,aG,h9,cO,hr1,cN,h36,hobj];cases hv:ef (nN b r) with
 |true=>
  have hv':ef ⟨b.id,b.uP,b.x,b.y,fv 1 (r.map aF),b.tagsV,r,b.gT⟩=true:=hv;have hM:ia b o t=some r:=by simp only[ia,hr,hv,cT]
  refine dJ (t:=false) (by simp only[aq,bq,aa,hv',dS]) (cL ?_);simp only[bM];refine hk _ _ ?_ ?_ ?_ ?_ ?_ ?_;simp only[au,aa,h0];simp only[au,aa,h1];simp only[au,aa,h2];simp only[au,aa,h3];simp only[au,aa,h9];have e1:kN b o t C=C:=by simp only[kN,hM]
  have e2:jK b o t=nN b r:=by simp only[jK,hM]
  rw[e1,e2];exact f1
 |false=>
  have hv':ef ⟨b.id,b.uP,b.x,b.y,fv 1 (r.map aF),b.tagsV,r,b.gT⟩=false:=hv;have hM:ia b o t=none:=by simp only[ia,hr,hv,cF]
  refine dJ (t:=true) (by simp only[aq,bq,aa,hv',fy]) ?_;refine bad _ _ s1 hM f1 ?_ ?_ ?_ ?_ ?_;simp only[au,aa,h0];simp only[au,aa,h1];simp only[au,aa,h2];simp only[au,aa,h3];simp only[au,aa,h9]
 rw[hres] at hseq;have hM:ia b o t=none:=by simp only[ia,hr]
 simp only[fG,ai,ax,isStore,bh,uq,ay,aa,ah,h1,h2,h3,cb,co,ct,fB,cO,wc,ob',oo',ot',cN,h74,hseq,dU];refine aw ?_;simp only[ai,ax,bh,bu,aN,ay,aa,ah,aG,aV,h9,zc,hrow,kg,kf];obtain⟨s1,hs1⟩: ∃a,a=s.put s0.al (some (.cells [.str b.id,.int .i64 b.uP,.int .i64 b.x,.int .i64 b.y,.AL,b.tagsV])):=⟨_,rfl⟩;rw[<-hs1];have f1:Fs s0 s1 x mb mo mt mu md C [.str b.id,.int .i64 b.uP,.int .i64 b.x,.int .i64 b.y,.AL,b.tagsV]:=f.put (fun n=>by rw[hs1]) (by rw[hs1];rfl) (by rw[hs1];exact ji _ _ _ f.ge) (by rw[hs1];rfl);refine aC (aC (bH ?_));simp only[ai,aA,aa,ah];refine bU ?_;refine bad _ _ s1 hM f1 ?_ ?_ ?_ ?_ ?_;simp only[au,aa,h0];simp only[au,aa,h1];simp only[au,aa,h2];simp only[au,aa,h3];simp only[au,aa,h9]
end
section
variable{sp:bC}{ch:Nat->Nat}
def abT(h75:sp 281=none)(h118:sp 378=some wC)(h45:sp 187=none){s0:St}{x po pt:Nat}{o t q:Obj}(f:Fs s0 s x mb mo mt mu md C q.cells)(ob:s.get [] pb=some (.cells b.cells))(oo:s.get [] po=some (.cells o.cells))(ot:s.get [] pt=some (.cells t.cells))(h0:aj e 0= .ptr x 0)(h1:aj e 1= .ptr pb 0)(h2:aj e 2= .ptr po 0)(h3:aj e 3= .ptr pt 0)(h9:aj e 9= .ptr s0.al 0)(hk: ∀(e':aI) (s':St),aj e' 0= .ptr x 0->aj e' 1= .ptr pb 0->aj e' 2= .ptr po 0->aj e' 3= .ptr pt 0->aj e' 9= .ptr s0.al 0->Fs s0 s' x mb mo mt mu md (nl b o t C) (sT q (re b o t)).cells->W (QM sp ch) 186 REST ⟨e',107,lc⟩ s' P):
 W (QM sp ch) 186 (.seq (.draw BJ Qw) REST) ⟨e,107,lc⟩ s P:=by
 have ob':s.get [] pb=some (.cells [.str b.id,.int .i64 b.uP,.int .i64 b.x,.int .i64 b.y,b.refsV,b.tagsV]):=ob;have oo':s.get [] po=some (.cells [.str o.id,.int .i64 o.uP,.int .i64 o.x,.int .i64 o.y,o.refsV,o.tagsV]):=oo;have ot':s.get [] pt=some (.cells [.str t.id,.int .i64 t.uP,.int .i64 t.x,.int .i64 t.y,t.refsV,t.tagsV]):=ot;have hcall: ∃s1,aM (QM sp ch) 281 [.ptr x 0,.str b.id,ff (b.x,b.y),ff (o.x,o.y),ff (t.x,t.y)] s.top (ff (re b o t)) s1/\s1.al=s.al/\s1.ci=s.ci/\s1.ge<=s1.al/\Fs s0 (s.Gt s1) x mb mo mt mu md (nl b o t C) q.cells:=by
  cases hbad:lp (b.x,b.y) (o.x,o.y) (t.x,t.y) with
  |false=>
   refine⟨s.top,alY h75 (b.x,b.y) (o.x,o.y) (t.x,t.y) hbad s.top,rfl,rfl,aU _,?_⟩;rw[lQ f.ge];simp only[nl,hbad,cF];exact f
  |true=>
   have hx:s.top.get [] x=some (.cells [.map mb,.map mo,.map mt,.map mu,.map md]):=f.hx;have hd:s.top.get [] md=some (.map (eI 0 C) C.length):=f.hd;refine⟨_,alX h75 h45 h118 hx hd (b.x,b.y) (o.x,o.y) (t.x,t.y) hbad,rfl,rfl,ji _ _ _ (aU _),?_⟩;simp only[nl,hbad,cT];exact f.note (b.id,sP) (fun n=>rfl) rfl (KP f.ge rfl) rfl
 obtain⟨s1,hrun,n1,c1,m1,f1⟩:=hcall;obtain⟨sL,hsL⟩: ∃a,a=s.Gt s1:=⟨_,rfl⟩;have hrow:sL.top.get [] s0.al=some (.cells [.str q.id,.int .i64 q.uP,.int .i64 q.x,.int .i64 q.y,q.refsV,q.tagsV]):=by rw[hsL];exact f1.row
 rw[show BJ=BJ.take 17++BJ.drop 17 from(oH 17 _).symm];refine aC (W.drawD (WD.calmOps f.ge (fun _ h=>by cases h) (fun _ h=>by cases h) ?_));simp only[ai,ax,isStore,bh,cut,aN,ay,aa,ah,aG,h0,h1,h2,h3,fB,cO,wc,ob',oo',ot',cN];intro rs1 hc1 hi1;refine WD.loudCall (g:=281) (args:=[.ptr x 0,.str b.id,ff (b.x,b.y),ff (o.x,o.y),ff (t.x,t.y)]) (YO hc1 hi1) (by decide) ?_ hrun n1 c1 (by decide) (fun rs2 k2=>?_);simp only[ai,callee,aa];rfl;rw[<-hsL] at f1 ⊢;refine WD.fullL (v:=.ptr s0.al 2) (lc:=lc) (s1:=sL.top) (fr1:=⟨_,107,lc⟩) (fun r hr=>(k2 r hr).1) (by decide) rfl ?_ rfl (eM.2 ⟨by decide,rfl⟩) (fun rs3 k3=>?_);simp only[au,TU,bq,yy,bn,bh,Nat.zero_add,aa,OW,h9];rw[lQ f1.ge];refine WD.fullL (v:=fX) (lc:=lc) (s1:=sL.top.put s0.al (some (.cells (sT q (re b o t)).cells))) (fr1:=⟨_,107,lc⟩) k3 (by decide) rfl ?_ rfl rfl (fun rs5 k5=>?_);simp only[ai,ax,bh,bu,aN,ay,aa,ah,aG,aV,kg,hrow,kf,ff];rfl;refine WD.nil ?_;simp only[bM];refine hk _ _ ?_ ?_ ?_ ?_ ?_ (f1.put (fun n=>rfl) rfl (KP f1.ge rfl) rfl);simp only[au,aa,h0];simp only[au,aa,h1];simp only[au,aa,h2];simp only[au,aa,h3];simp only[au,aa,h9]
end
def XB(a b:List UInt8):d8 ar .add 9 (.str a) (.str b)=bif br (a.length+b.length) 1073741824 then some (.str (a++b)) else none:=by kernel_rfl
def NH(h:k.length<=24):d8 ar .add 9 (.str [116,97,103,32]) (.str k)=some (.str (jm k)):=by
 have h1:br ([116,97,103,32]++k:ak).length 1073741824=true:=cu (by rw[dX];show 4+k.length<=_;omega);rw[XB,<-dX,h1];rfl
def Ln(h:gj k=true):k.length<=24:=by
 unfold gj at h;split at h;cases h;simp only[bA] at h;exact Nat.le_of_ble_eq_true h.2
def VF: ∀ {l:List be} {last:ak},m9 last l=true-> ∀t∈l,gj t.1=true
 | [],_,_,_,h=>by cases h
 |a::l,last,h,t,ht=>by
  simp only[m9] at h;cases hb:lX last a with
  |true=>rw[hb] at h;cases h
  |false=>
   rw[hb] at h;rcases cQ.1 ht with rfl|ht
   simp only[lX,kj,Bool.not_eq_false'] at hb;exact hb.1.1.1;exact VF h t ht
def Mu{l:List be}(h:cY l=true): ∀t∈l,gj t.1=true:=by
 simp only[cY,bA] at h;exact VF h.1
def Mx{b:List be}(vb:cY b=true)(vo:cY o=true)(vt:cY t=true): ∀k∈lP b o t,gj k=true:=by
 intro k hk;rcases SL.1 hk with⟨u,hu,rfl⟩|⟨u,hu,rfl⟩|⟨u,hu,rfl⟩
 exact Mu vb u hu;exact Mu vo u hu;exact Mu vt u hu
section
variable{sp:bC}{ch:Nat->Nat}
def ahE(h45:sp 187=none){s0:St}{x:Nat}(hpb:pb<s0.al/\pb≠md)(ob:s0.get [] pb=some (.cells b.cells))(hv:aD 1 aF v ks)(hks:ks.length<=1000000)(hkl: ∀k∈ks,k.length<=24): ∀(rest pre:List ak) (e:aI) (lc:Ag.Loc) (s:St) (C:List Cf),ks=pre++rest->Fs s0 s x mb mo mt mu md C cs->
 aj e 0= .ptr x 0->aj e 1= .ptr pb 0->aj e 9= .ptr s0.al 0->aj e 92=v->aj e 93= .int .i64 (ks.length:Nat)->aj e 94= .int .i64 (pre.length:Nat)->
 W (QM sp ch) 186 (.loop Qx) ⟨e,107,lc⟩ s fun y fr s'=>y= .exit 0/\ ∃e' lc',fr=⟨e',107,lc'⟩/\aj e' 9= .ptr s0.al 0/\Fs s0 s' x mb mo mt mu md (m8 b.id rest C) cs:=by
 have hcl:=hv.aL;intro rest
 induction rest with
 |nil=>
  intro pre e lc s C hpre f h0 h1 h9 h92 h93 h94;have hl:ks.length=pre.length:=by rw[hpre];simp
  refine bV ?_;refine aw ?_;simp only[ai,bh,ah,h93,h94,hl,cR];refine aC (cJ ?_);refine dL ⟨rfl,_,_,rfl,?_,f⟩;simp only[au,aa,h9]
 |cons k rest ih=>
  intro pre e lc s C hpre f h0 h1 h9 h92 h93 h94;have hlt:pre.length<ks.length:=by rw[hpre];simp
  have hat:ks[pre.length]? =some k:=by rw[hpre];simp
  have hia:=fun lc=>hv.at gR hat lc .i64;have hwr:=eE (n:=pre.length) (by omega);have ob':s.get [] pb=some (.cells [.str b.id,.int .i64 b.uP,.int .i64 b.x,.int .i64 b.y,b.refsV,b.tagsV]):=(f.old pb hpb.1 hpb.2).trans ob;have hnote:=Cd (sp:=sp) (ch:=ch) h45 f.hx f.hd b.id (jm k);have hadd:=NH (hkl k (by rw[hpre];simp));refine bV ?_;refine aw ?_;simp only[ai,bh,ah,h93,h94,hlt];refine aC (bU (cL ?_));simp only[bM];refine aC (bL (aw ?_));simp only[ai,ax,bh,ay,aa,ah,h92,h94,hia,aF];refine fU (fM 7 ?_);simp only[ai,ax,bh,aN,ay,aa,ah,h0,h1,fB,cO,ob',cN,hadd];refine fO (g:=187) (args:=[.ptr x 0,.str b.id,.str (jm k)]) ?_ hnote (by decide) ?_;simp only[ai,callee,aa];refine fN ?_;obtain⟨s2,hs2⟩: ∃a,a=s.put md (some (.map (eI 0 (dh (b.id,jm k) C)) (dh (b.id,jm k) C).length)):=⟨_,rfl⟩;rw[<-hs2];have f2:Fs s0 s2 x mb mo mt mu md (dh (b.id,jm k) C) cs:=f.note (b.id,jm k) (fun n=>by rw[hs2]) (by rw[hs2];rfl) (by rw[hs2];exact ji _ _ _ f.ge) (by rw[hs2];rfl);simp only[dA,nV];refine bH ?_;simp only[ai,aA,bh,aa,ah,h94,hwr];refine ih (pre++[k]) _ _ s2 _ (by rw[hpre];simp) f2 ?_ ?_ ?_ ?_ ?_ ?_;simp only[au,aa,h0];simp only[au,aa,h1];simp only[au,aa,h9];simp only[au,aa,h92];simp only[au,aa,h93];simp only[aq,cK,aa]
def abG(h44:sp 186=none)(h74:sp 280=some wR)(h36:sp 75=some ve)(h45:sp 187=none)(h75:sp 281=none)(h118:sp 378=some wC)(h76:sp 282=some yE){s0:St}{x po pt:Nat}{o t:Obj}(hx:s0.get [] x=some (.cells [.map mb,.map mo,.map mt,.map mu,.map md]))(hd:s0.get [] md=some (.map (eI 0 C) C.length))(hlt:x<s0.al/\md<s0.al)(hm:s0.ge<=s0.al)(ob:s0.get [] pb=some (.cells b.cells))(oo:s0.get [] po=some (.cells o.cells))(ot:s0.get [] pt=some (.cells t.cells))(gb:b.Al)(go:o.Al)(gt:t.Al)(hp:pb<s0.al/\po<s0.al/\pt<s0.al)(vb:cY b.gT=true)(vo:cY o.gT=true)(vt:cY t.gT=true):
 ∃s',aM (QM sp ch) 186 [.ptr x 0,.ptr pb 0,.ptr po 0,.ptr pt 0] s0 (.ptr s0.al 0) s'/\Fs s0 s' x mb mo mt mu md (qN b o t C) (nu b o t).cells:=by
 have hxd:x≠md:=fun e=>by subst e;rw[hx] at hd;cases hd
 have hne: ∀ {p:Nat} {l:List ae},s0.get [] p=some (.cells l)->p≠md:=fun h e=>by subst e;rw[hd] at h;cases h
 have ob':s0.get [] pb=some (.cells [.str b.id,.int .i64 b.uP,.int .i64 b.x,.int .i64 b.y,b.refsV,b.tagsV]):=ob;have crb:=gb.gE.aL;have ctb:=gb.gT.aL;have cell: ∀ {n:Nat} {α:Type} {enc:α->ae} {v:ae} {l:List α},aD n enc v l->v.cells=[v]:=fun h=>by rcases h with⟨rfl,_⟩|⟨r,rfl⟩<;>rfl
 have h: ∃v s',aM (QM sp ch) 186 [.ptr x 0,.ptr pb 0,.ptr po 0,.ptr pt 0] s0 v s'/\(v= .ptr s0.al 0/\Fs s0 s' x mb mo mt mu md (qN b o t C) (nu b o t).cells):=by
  refine aM.ofEx Er.1 Er.2 Er.3 Er.4 h44 ?_;refine aw ?_;simp only[ai,bv,bt,ah,aG,aV,iQ];refine aw ?_;simp only[ai,ax,bh,gd,cut,bu,aN,ay,aa,ah,aG,aV,PG,fB,cO,ob',cN,kg,kf,cp];obtain⟨s1,hs1⟩: ∃a,a=(s0.new (.cells [.str [],.int .i64 0,.int .i64 0,.int .i64 0,.AL,.AL])).put s0.al (some (.cells b.cells)):=⟨_,rfl⟩;have e1: ∀n,s1.get [] n=bif n==s0.al then some (.cells b.cells) else s0.get [] n:=fun n=>by
   rw[hs1,bO,cp];cases n==s0.al<;>rfl
  have e2: ∀n,n<s0.al->s1.get [] n=s0.get [] n:=fun n h=>by rw[e1,bN.2 (by omega)];rfl
  have f1:Fs s0 s1 x mb mo mt mu md C b.cells:=⟨by rw[e1,bS];rfl,(e2 x hlt.1).trans hx,(e2 md hlt.2).trans hd,fun n h _=>e2 n h,by rw[hs1];rfl,by rw[hs1];exact ji _ _ _ (ky hm),by rw[hs1];rfl,hlt.2,hlt.1,hxd⟩;have hst:(s0.new (.cells [.str [],.int .i64 0,.int .i64 0,.int .i64 0,.AL,.AL])).put s0.al (some (.cells [.str b.id,.int .i64 b.uP,.int .i64 b.x,.int .i64 b.y,b.refsV,b.tagsV]))=s1:=by rw[hs1];rfl
  rw[hst];have hpb:pb<s0.al/\pb≠md:=⟨hp.1,hne ob⟩;have hpo:po<s0.al/\po≠md:=⟨hp.2.1,hne oo⟩;have hpt:pt<s0.al/\pt≠md:=⟨hp.2.2,hne ot⟩;refine abV h74 h36 h45 f1 ((f1.old pb hpb.1 hpb.2).trans ob) ((f1.old po hpo.1 hpo.2).trans oo) ((f1.old pt hpt.1 hpt.2).trans ot) gb go gt hpb ?_ ?_ ?_ ?_ ?_ ?_;simp only[aq,aa];simp only[aq,aa];simp only[aq,aa];simp only[aq,aa];simp only[aq,aa];intro e2 s2 a0 a1 a2 a3 a9 f2;refine abT h75 h118 h45 f2 ((f2.old pb hpb.1 hpb.2).trans ob) ((f2.old po hpo.1 hpo.2).trans oo) ((f2.old pt hpt.1 hpt.2).trans ot) a0 a1 a2 a3 a9 ?_;intro e3 s3 b0 b1 b2 b3 b9 f3;have ob3:s3.get [] pb=some (.cells [.str b.id,.int .i64 b.uP,.int .i64 b.x,.int .i64 b.y,b.refsV,b.tagsV]):=(f3.old pb hpb.1 hpb.2).trans ob;have oo3:s3.get [] po=some (.cells [.str o.id,.int .i64 o.uP,.int .i64 o.x,.int .i64 o.y,o.refsV,o.tagsV]):=(f3.old po hpo.1 hpo.2).trans oo;have ot3:s3.get [] pt=some (.cells [.str t.id,.int .i64 t.uP,.int .i64 t.x,.int .i64 t.y,t.refsV,t.tagsV]):=(f3.old pt hpt.1 hpt.2).trans ot;have htag:=aoN ⟨gb.gT,vb,gb.key⟩ ⟨go.gT,vo,go.key⟩ ⟨gt.gT,vt,gt.key⟩ gb.pt go.pt gt.pt;have cto:=go.gT.aL;have ctt:=gt.gT.aL;have i1:aD 2 bD (fv 2 ((iu b.gT o.gT t.gT).1.map bD)) (iu b.gT o.gT t.gT).1:=Gr _;have i2:aD 1 aF (fv 1 ((iu b.gT o.gT t.gT).2.map aF)) (iu b.gT o.gT t.gT).2:=Gr _;have c1:=i1.aL;have c2:=i2.aL;have l1:=cell i1;have hln:=fun mk s=>i2.len dB dH mk s;have hrow:=f3.row;simp only[sT,Obj.cells] at hrow;have hlk:(iu b.gT o.gT t.gT).2.length<=1000000:=by
   have h1:=(CJ b.gT o.gT t.gT).2;have h2:b.gT.length<=60:=kX.len ⟨gb.gT,vb,gb.key⟩;have h3:o.gT.length<=60:=kX.len ⟨go.gT,vo,go.key⟩;have h4:t.gT.length<=60:=kX.len ⟨gt.gT,vt,gt.key⟩;omega
  refine W.sdrawQ f3.ge ?_;simp only[fG,ai,ax,isStore,bh,uq,ay,aa,ah,b1,b2,b3,ctb,cto,ctt,fB,cO,wc,ob3,oo3,ot3,cN,h76,htag,vp,dU];refine aw ?_;simp only[ai,ax,bh,bu,aN,ay,aa,ah,aG,aV,b9,c1,l1,hrow,kg,kf];obtain⟨s4,hs4⟩: ∃a,a=s3.put s0.al (some (.cells (nu b o t).cells)):=⟨_,rfl⟩;have f4:Fs s0 s4 x mb mo mt mu md (nl b o t (kN b o t C)) (nu b o t).cells:=f3.put (fun n=>by rw[hs4]) (by rw[hs4];rfl) (by rw[hs4];exact ji _ _ _ f3.ge) (by rw[hs4];rfl);have hs4':s3.put s0.al (some (.cells [.str (jK b o t).id,.int .i64 (jK b o t).uP,.int .i64 (re b o t).1,.int .i64 (re b o t).2,(jK b o t).refsV,fv 2 ((iu b.gT o.gT t.gT).1.map bD)]))=s4:=hs4.symm;rw[hs4'];refine aC (aC (bH ?_));simp only[ai,aA,bh,gd,aa,ah,PG,c2,hln];refine bL ?_;refine jr (ahE h45 hpb ob i2 hlk (fun k hk=>Ln (Mx vb vo vt k (Mw.2 k hk))) (iu b.gT o.gT t.gT).2 [] _ _ s4 _ rfl f4 ?_ ?_ ?_ ?_ ?_ ?_) ?_;simp only[au,aa,b0];simp only[au,aa,b1];simp only[au,aa,b9];simp only[aq,aa];simp only[aq,aa];simp only[aq,aa];rfl;rintro y fr s5 ⟨rfl,e5,lc5,rfl,g9,f5⟩;show W (QM sp ch) 186 _ _ _ _;refine aw ?_;simp only[nV,Db,Hk,GQ,bq,yy,tA,ah,g9];refine bo ⟨.inr rfl,.ptr s0.al 0,bz ?_ rfl,rfl,f5⟩;simp only[ik,aa]
 obtain⟨v,s',r1,rfl,r2⟩:=h;exact⟨s',r1,r2⟩
end
