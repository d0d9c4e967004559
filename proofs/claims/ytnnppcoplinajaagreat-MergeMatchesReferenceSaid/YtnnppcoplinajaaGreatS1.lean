/- Ranges over functions; sorting of rows; small functions of merge. -/
import Derived.Test.YtnnppcoplinajaaGreatZ2
import Derived.Test.YtnnppcoplinajaaGreatK2
set_option linter.defProp false
open Go.Ag.ae renaming aL→nP,cells→kQ
open Array renaming getElem?_eq_none→yJ,getElem?_modify→HC
open Bool renaming and_eq_true→bA,and_false→ki,and_self→cH,false_eq_true→ua,false_or→jd,not_eq_false'→nh,not_eq_true'→qC,not_false→fy,not_true→dS,or_eq_false_iff→kj,or_false→jL,or_self→iR,true_and→jD
open Classical renaming byContradiction→l9
open List renaming all_cons→ma,all_eq_true→fY,append_assoc→mc,append_nil→ii,cons_append→mJ,drop→ay,eq_nil_of_length_eq_zero→ub,filter_cons→rz,filter_filter→HG,getElem?_append_left→rA,getElem?_append_right→sW,getElem?_cons_zero→jN,getElem?_eq_getElem→gL,getElem?_map→vG,length_append→dX,length_cons→cP,length_filter_le→pG,length_map→cZ,map_cons→dG,map_eq_nil_iff→ue,map_nil→pH,mem_append_left→HK,mem_append→iE,mem_cons→cQ,mem_map→dp,mem_singleton→sZ,nil_append→mf,nodup_cons→uh,pairwise_cons→iT,size_toArray→yS,take→aN
open Nat renaming beq→aJ,ble_eq_true_of_le→cu,ble→br,blt→bk,eq_of_beq_eq_true→iw,le_of_ble_eq_true→eG,le_refl→aU,le_succ→jf,le_trans→fh,lt_irrefl→cR,lt_or_ge→ix,lt_succ_self→fK,reduceAdd→aG,reduceBEq→aa,reduceLT→ah,reduceLeDiff→aV,reduceMul→jg,zero_add→gl,zero_lt_succ→eH,zero_mul→kR
open Go.Op renaming bytesLess→c8
open Option renaming bind_eq_some_iff→az,bind_some→bn,some_or→AP
open Option.some renaming injEq→aP
open Prod.mk renaming injEq→bj
open Go.Ag.aM renaming of2→dz
open Go.Proofs.Tryz renaming prog→ar
open Go.Ag.W renaming block→bL,cnFZ→cJ,cnSZ→dq,cnTZ→bU,cond→dJ,exit→dL,loop1→bV,region→fU,reg→bH,ret→bo,sdrawQ→lD,seq→aC,skip→cL,sreg→aw
namespace Go.Proofs.YtnnppcoplinajaaGreat
open Go.Ag
variable{n:Nat}
def vq{b:Nat}(hn:n<=1000000)(hb:b<=88):lW n b=true:=by
 unfold lW;apply cu;have:(n*2+1024)*b<=2001024*88:=Nat.mul_le_mul (by omega) hb;omega
def Dm(a b c d e:Nat):(ae.arr a b c d e).cells=[.arr a b c d e]:=rfl
def zf(a b c d e:Nat):(ae.arr a b c d e).aL=true:=rfl
variable{s:St}
def ol{o:Option bf}(h:s.ge<=n):(s.put n o).ge=s.ge:=by
 show(bif br s.ge n then s.ge else n)=s.ge;rw[cu h];rfl
structure gY (sz:Nat) (s0 s:St) (bx lo lim:Nat) (lob:bf) (xs:List ae):Prop where
 old: ∀n,n<s0.al->s.get [] n=s0.get [] n
 lt:s0.al<=bx/\bx<lo/\lo<=lim/\lim<s.al
 ge:s.ge=s0.ge
 box: ∃v,s.get [] bx=some (.cells [v])/\((v= .AL/\xs=[])\/(xs≠ []/\ ∃k,v= .arr sz k 0 xs.length xs.length/\s.get [] k=some (.cells (bB xs))/\lim<k/\k<s.al))
 loop:s.get [] lo=some lob
def v7: ∀(a b:List ae),bB (a++b)=bB a++bB b
 | [],b=>rfl
 |x::a,b=>by
  have ih:=v7 a b;show x.cells++bB (a++b)=(x.cells++bB a)++bB b;rw[ih,mc]
def Pc{sz:Nat}: ∀ {xs:List ae},(∀x∈xs,x.cells.length=sz)->(bB xs).length=xs.length*sz
 | [],_=>by simp[bB]
 |x::xs,h=>by
  have ih:=Pc (xs:=xs) fun y hy=>h y (by simp[hy]);show(x.cells++bB xs).length=_;rw[dX,ih,h x (by simp),cP,Nat.add_mul];omega
variable{xs:List ae}{bx lim lo sz:Nat}{v:ae}
def NT{t:TypeId}{E:EI}(hE:iI ar t=some E)(hn:E.n=sz)(hb:E.b<=88){s0:St}{x:ae}(hsz: ∀y∈xs++[x],y.cells.length=sz)(hlen:xs.length<1000000)(hm:s0.ge<=s0.al)(_h1: ∀n,n<s0.al->s.get [] n=s0.get [] n)(h2:s0.al<=bx/\bx<lo/\lo<=lim/\lim<s.al)(h3:s.ge=s0.ge)(h4:(v= .AL/\xs=[])\/(xs≠ []/\ ∃k,v= .arr sz k 0 xs.length xs.length/\s.get [] k=some (.cells (bB xs))/\lim<k/\k<s.al)):
 ∃s1,hG ar [] t v (.list sz [x] .GE) true s=some (.arr sz s.al 0 (xs.length+1) (xs.length+1),s1)/\s1.get [] s.al=some (.cells (bB (xs++[x])))/\s1.al=s.al+1/\s1.ge=s0.ge/\(∀n,n<=lim->s1.get [] n=s.get [] n)/\s1.ci=s.ci:=by
 subst hn;have hr:lW (xs.length+1) E.b=true:=vq (by omega) hb;rcases h4 with⟨rfl,rfl⟩|⟨hne,k,rfl,hk,hl,hlt⟩
 refine⟨s.new (.cells (bB [x])),?_,?_,rfl,h3,fun n hn=>?_,rfl⟩;have hr:lW 1 E.b=true:=hr;simp only[ce,jR,hG,hE,jS,fe,bS,ml,kK,hr];rw[cp,bS];rfl;rw[cp,bN.2 (by omega:n≠s.al)];rfl;have hfl:(bB xs).length=xs.length*E.n:=Pc fun y hy=>hsz y (by simp[hy]);have hfx:bB [x]=x.cells:=by show x.cells++bB []=_;simp[bB]
 refine⟨(s.put k none).new (.cells (bB (xs++[x]))),?_,?_,rfl,?_,fun n hn=>?_,rfl⟩;simp only[ce,jR,hG,hE,jS,fe,bS,ml,hk,hr,hfl,cH,List.drop_zero,hfx,v7];rw[cp,sq,bS];rfl;show(s.put k none).ge=_;rw[ol (by omega),h3];rw[cp,sq,bN.2 (by omega:n≠s.al),cF,bO,bN.2 (by omega:n≠k)];rfl
variable{E:aI}
section
variable{sp:bC}{Q:bF}(hP:Q.P=ar)(hh:Q.hint=aH)
include hP hh
def amV{s0:St}{x:ak}(hE:aj E 2= .ptr bx 0)(hsz: ∀y∈xs,y.cells.length=1)(hlen:xs.length<1000000)(hm:s0.ge<=s0.al)(c:gY 1 s0 s bx lo lim (.loop 284 E 13 [7] wn wo none) xs):
 ∃s',te Q lo [.str x] s (.bool true) s'/\gY 1 s0 s' bx lo lim (.loop 284 E 13 [7] wn wo none) (xs++[.str x])/\(∀n,n<=lim->n≠bx->n≠lo->s'.get [] n=s.get [] n)/\s.al<=s'.al:=by
 obtain⟨v,hv,hrow⟩:=c.box;obtain⟨l1,l2,l3,l4⟩:=c.lt;have hg1: ∀n,n≠lo->(s.put lo none).get [] n=s.get [] n:=fun n hn=>by rw[bO,bN.2 hn];rfl
 have hm1:(s.put lo none).ge=s0.ge:=by rw[ol (by rw[c.ge];omega),c.ge]
 have hrow1:(v= .AL/\xs=[])\/(xs≠ []/\ ∃k,v= .arr 1 k 0 xs.length xs.length/\(s.put lo none).get [] k=some (.cells (bB xs))/\lim<k/\k<(s.put lo none).al):=by
  rcases hrow with h|⟨h1,k,h2,h3,h4,h5⟩
  exact .inl h;exact .inr ⟨h1,k,h2,(hg1 k (by omega)).trans h3,h4,h5⟩
 obtain⟨s1,a1,a2,a3,a4,a5,_⟩:=NT qM rfl (by decide) (x:=.str x) (fun y hy=>by
  rcases iE.1 hy with hy|hy
  exact hsz y hy;simp only[sZ] at hy;subst hy;rfl) hlen hm (fun n hn=>(hg1 n (by omega)).trans (c.old n hn)) ⟨l1,l2,l3,l4⟩ hm1 hrow1
 have a3:s1.al=s.al+1:=a3;have hbx1:s1.get [] bx=some (.cells [v]):=by rw[a5 bx (by omega),hg1 bx (by omega)];exact hv
 have hbx0:(s.put lo none).get [] bx=some (.cells [v]):=(hg1 bx (by omega)).trans hv;have hvc:v.aL=true:=by rcases hrow with⟨rfl,_⟩|⟨_,k,rfl,_⟩<;>rfl
 refine⟨(s1.put bx (some (.cells [.arr 1 s.al 0 (xs.length+1) (xs.length+1)]))).put lo (some (.loop 284 E 13 [7] wn wo none)),?_,⟨fun n hn=>?_,⟨l1,l2,l3,?_⟩,?_,⟨.arr 1 s.al 0 (xs.length+1) (xs.length+1),?_,.inr ⟨by simp,s.al,?_,?_,l4,?_⟩⟩,?_⟩,fun n hn h1 h2=>?_,?_⟩;refine te.of (env':=E.set 7 (some (.str x))) c.loop rfl rfl afV afW ?_;refine bH ?_;simp only[ai,ah];refine bL (bH ?_);have hbs: ∀e s,aj e 9= .str x->cx ar 25 1 [(0,.tmp 9)] false e s=some (.list 1 [.str x] .GE,s):=fun e s p=>by
  simp only[ce,jR,cx,qM,cS,evc,ev,p,nP,eW,kQ,bu,kR,jg,fW,cut];rfl
 simp only[ai,ax,aA,bu,aN,ay,aa,ah,aV,hP,hh,hE,cO,hbx0,cN,PK,hbs,hvc,a1,kg,hbx1,kf,Dm,zf]
 try rfl
 rw[bO,bN.2 (by omega:n≠lo),cF,bO,bN.2 (by omega:n≠bx),cF,a5 n (by omega),hg1 n (by omega)];exact c.old n hn;show lim<s1.al;omega;rw[ol,ol,a4];rw[a4];omega;rw[ol (by rw[a4];omega),a4];omega;rw[bO,bN.2 (by omega:bx≠lo),cF,bO,bS];rfl;simp only[cK];rw[bO,bN.2 (by omega:s.al≠lo),cF,bO,bN.2 (by omega:s.al≠bx),cF];exact a2;show s.al<s1.al;omega;rw[bO,bS];rfl;rw[bO,bN.2 h2,cF,bO,bN.2 h1,cF,a5 n hn,hg1 n h2];show s.al<=s1.al;omega
def amW{s0:St}{a b:ak}(hE:aj E 2= .ptr bx 0)(hsz: ∀y∈xs,y.cells.length=2)(hlen:xs.length<1000000)(hm:s0.ge<=s0.al)(c:gY 2 s0 s bx lo lim (.loop 285 E 13 [7] wq wt none) xs):
 ∃s',te Q lo [.agg [.str a,.str b]] s (.bool true) s'/\gY 2 s0 s' bx lo lim (.loop 285 E 13 [7] wq wt none) (xs++[.agg [.str a,.str b]])/\(∀n,n<=lim->n≠bx->n≠lo->s'.get [] n=s.get [] n)/\s.al<=s'.al:=by
 obtain⟨v,hv,hrow⟩:=c.box;obtain⟨l1,l2,l3,l4⟩:=c.lt;obtain⟨sA,hsA⟩: ∃sA,sA=((s.put lo none).new (.cells [.str [],.str []])).put s.al (some (.cells [.str a,.str b])):=⟨_,rfl⟩;have nA:sA.al=s.al+1:=by rw[hsA];rfl
 have hg1: ∀n,n≠lo->n≠s.al->sA.get [] n=s.get [] n:=fun n hn hn2=>by
  rw[hsA,bO,bN.2 hn2,cF,cp,sq,bN.2 hn2,cF,bO,bN.2 hn];rfl
 have hm0:(s.put lo none).ge=s0.ge:=by rw[ol (by rw[c.ge];omega),c.ge]
 have hm1:sA.ge=s0.ge:=by
  rw[hsA,ol];exact hm0;show(s.put lo none).ge<=s.al;rw[hm0];omega
 have hrow1:(v= .AL/\xs=[])\/(xs≠ []/\ ∃k,v= .arr 2 k 0 xs.length xs.length/\sA.get [] k=some (.cells (bB xs))/\lim<k/\k<sA.al):=by
  rcases hrow with h|⟨h1,k,h2,h3,h4,h5⟩
  exact .inl h;exact .inr ⟨h1,k,h2,(hg1 k (by omega) (by omega)).trans h3,h4,by omega⟩
 obtain⟨s1,a1,a2,a3,a4,a5,_⟩:=NT zm rfl (by decide) (x:=.agg [.str a,.str b]) (fun y hy=>by
  rcases iE.1 hy with hy|hy
  exact hsz y hy;simp only[sZ] at hy;subst hy;rfl) hlen hm (fun n hn=>(hg1 n (by omega) (by omega)).trans (c.old n hn)) ⟨l1,l2,l3,by omega⟩ hm1 hrow1
 rw[nA] at a1 a2 a3;have hbx1:s1.get [] bx=some (.cells [v]):=by rw[a5 bx (by omega),hg1 bx (by omega) (by omega)];exact hv
 have hbx0:sA.get [] bx=some (.cells [v]):=(hg1 bx (by omega) (by omega)).trans hv;have hself:sA.get [] s.al=some (.cells [.str a,.str b]):=by rw[hsA,bO,bS];rfl
 have hnew:((s.put lo none).new (.cells [.str [],.str []])).get [] s.al=some (.cells [.str [],.str []]):=by rw[cp,sq,bS];rfl
 have hvc:v.aL=true:=by rcases hrow with⟨rfl,_⟩|⟨_,k,rfl,_⟩<;>rfl
 refine⟨(s1.put bx (some (.cells [.arr 2 (s.al+1) 0 (xs.length+1) (xs.length+1)]))).put lo (some (.loop 285 E 13 [7] wq wt none)),?_,⟨fun n hn=>?_,⟨l1,l2,l3,?_⟩,?_,⟨.arr 2 (s.al+1) 0 (xs.length+1) (xs.length+1),?_,.inr ⟨by simp,s.al+1,?_,?_,by omega,?_⟩⟩,?_⟩,fun n hn h1 h2=>?_,?_⟩;refine te.of (env':=E.set 7 (some (.agg [.str a,.str b]))) c.loop rfl rfl af3 af4 ?_;refine bH ?_;have hpn:(s.put lo none).al=s.al:=rfl;simp only[ai,ax,bu,aN,ay,aa,ah,aG,aV,hP,hh,JJ,kg,hpn,hnew,kf];rw[<-hsA];refine bL (bH ?_);have hbs: ∀e s,aj e 9= .agg [.str a,.str b]->cx ar 80 1 [(0,.tmp 9)] false e s=some (.list 2 [.agg [.str a,.str b]] .GE,s):=fun e s p=>by
  simp only[ce,jR,cx,zm,cS,evc,ev,p,nP,eW,kQ,bu,kR,aG,jg,fW,cut];rfl
 simp only[ai,ax,aA,cut,bu,aN,ay,aa,ah,aG,aV,hP,hh,hE,cO,hbx0,hself,cN,JJ,hbs,hvc,a1,kg,hbx1,kf,Dm,zf]
 try rfl
 rw[bO,bN.2 (by omega:n≠lo),cF,bO,bN.2 (by omega:n≠bx),cF,a5 n (by omega),hg1 n (by omega) (by omega)];exact c.old n hn;show lim<s1.al;omega;rw[ol,ol,a4];rw[a4];omega;rw[ol (by rw[a4];omega),a4];omega;rw[bO,bN.2 (by omega:bx≠lo),cF,bO,bS];rfl;simp only[cK];rw[bO,bN.2 (by omega:s.al+1≠lo),cF,bO,bN.2 (by omega:s.al+1≠bx),cF];exact a2;show s.al+1<s1.al;omega;rw[bO,bS];rfl;rw[bO,bN.2 h2,cF,bO,bN.2 h1,cF,a5 n hn,hg1 n h2 (by omega)];show s.al<=s1.al;omega
end
section
variable{Q:bF}{f:FuncId}{e:aI}{sz:Nat}{lc:Ag.Loc}{s:St}{d:Option Tmp}{g:SG}{mk:aW}
def GU(t:TypeId)(x:Operand):df Q f ⟨d,.range t x,g⟩ mk ⟨e,sz,lc⟩ s=(evc e x).bind fun x=>gH (m7 Q.P mk t x s) lc:=rfl
def sK(x:Operand)(b:Bool):df Q f ⟨d,.next x b,g⟩ mk ⟨e,sz,lc⟩ s=(evc e x).bind fun it=>gH (lV mk Q.ch Q.kmax it b s) lc:=rfl
def GR(x:Operand):df Q f ⟨d,.entry x,g⟩ mk ⟨e,sz,lc⟩ s=(evc e x).bind fun it=>fC (rT mk it s) lc s:=rfl
end
variable{es:List cw}{m:Nat}
def amh{c:Nat}(hs:s.get [] m=some (.map es c)):m7 ar [] 145 (.map m) s=some (.ptr s.al 0,s.new (.iter (some m) c [] c)):=by
 have h:ar.underlying 145=some (.map 9 151):=by kernel_rfl
 simp only[m7,h,bn,hs]
def IZ: ∀(L:List (ak×ae)) (n:Nat) (e:cw),e∈bX n L->n<=e.born/\e.born<n+L.length
 | [],n,e,h=>by cases h
 |(a,v)::L,n,e,h=>by
  rcases cQ.1 h with rfl|h
  exact⟨aU _,by simp only[cP];omega⟩
  have:=IZ L (n+1) e h;simp only[cP];omega
def I2: ∀(L:List (ak×ae)) (n:Nat) (e:cw),e∈bX n L-> ∃k v,e.key= .str k/\e.val=v/\(k,v)∈L
 | [],n,e,h=>by cases h
 |(a,v)::L,n,e,h=>by
  rcases cQ.1 h with rfl|h
  exact⟨a,v,rfl,rfl,by simp⟩;obtain⟨k,u,h1,h2,h3⟩:=I2 L (n+1) e h;exact⟨k,u,h1,h2,by simp[h3]⟩
def OS: ∀(L:List (ak×ae)) (n:Nat) (k:ak) (v:ae),(k,v)∈L-> ∃e∈bX n L,e.key= .str k
 | [],n,k,v,h=>by cases h
 |(a,u)::L,n,k,v,h=>by
  rcases cQ.1 h with h|h
  cases h;exact⟨_,List.mem_cons_self,rfl⟩;obtain⟨e,h1,h2⟩:=OS L (n+1) k v h;exact⟨e,List.mem_cons_of_mem _ h1,h2⟩
def Dy: ∀(L:List (ak×ae)) (n:Nat) (e:cw),e∈bX n L->uG e.born (bX n L)=some e
 | [],n,e,h=>by cases h
 |(a,v)::L,n,e,h=>by
  simp only[bX,uG];rcases cQ.1 h with rfl|h
  simp;have h1:=IZ L (n+1) e h;have:aJ n e.born=false:=by
   rw[fe];exact bN.2 (by omega)
  rw[this];exact Dy L (n+1) e h
variable{seen:List Nat}{e:cw}
def qp:e∈cX seen es↔e∈es/\e.born ∉ seen:=by
 simp only[cX,List.mem_filter,qC,List.any_eq_false];constructor;rintro⟨h1,h2⟩;exact⟨h1,fun hm=>h2 _ hm (by simp)⟩;rintro⟨h1,h2⟩;refine⟨h1,fun b hb hc=>h2 ?_⟩
 have:=iw hc;subst this;exact hb
def Hw: ∀ {es:List cw} {e:cw},e∈cX seen es->(cX (seen++[e.born]) es).length<(cX seen es).length:=by
 intro es e h;have hsub: ∀es:List cw,cX (seen++[e.born]) es=(cX seen es).filter fun x=> !aJ x.born e.born:=by
  intro es;simp only[cX,HG];congr 1;funext x;simp only[List.any_append,List.any_cons,List.any_nil,jL];cases seen.any (aJ x.born)<;>simp
 rw[hsub];refine Nat.lt_of_le_of_ne (pG _ _) fun hc=>?_
 have:=List.length_filter_eq_length_iff.1 hc e h;simp at this
structure It (s:St) (it m:Nat) (L:List (ak×ae)) (seen:List Nat):Prop where
 hi:s.get [] it=some (.iter (some m) L.length seen L.length)
 hm:s.get [] m=some (.map (bX 0 L) L.length)
variable{it:Nat}
def It.calm{L:List (ak×ae)}(c:It s it m L seen)(ch kmax:Nat->Nat):lV [] ch kmax (.ptr it 0) false s=pg ch kmax it m L.length seen L.length (cX seen (bX 0 L)) s:=by
 simp only[lV,c.hi,c.hm,bn,cF];have:(!seen.isEmpty&& !(bX 0 L).isEmpty&&(bX 0 L).all fun e=>br L.length e.born)=false:=by
  cases L with
  |nil=>simp[bX]
  |cons x L=>
   obtain⟨a,v⟩:=x;have:((bX 0 ((a,v)::L)).all fun e=>br ((a,v)::L).length e.born)=false:=by
    simp only[bX,ma,cP];have:br (L.length+1) 0=false:=rfl;rw[this];rfl
   rw[this,ki]
 rw[this];rfl
def It.done{L:List (ak×ae)}(c:It s it m L seen)(ch kmax:Nat->Nat)(h:cX seen (bX 0 L)=[]):lV [] ch kmax (.ptr it 0) false s=some (.tup [.bool false],s):=by
 rw[c.calm,h];rfl
def It.step{L:List (ak×ae)}(c:It s it m L seen)(ch kmax:Nat->Nat)(hk: ∀i,L.length<=kmax i)(h:cX seen (bX 0 L)≠ []):
 ∃e s',e∈cX seen (bX 0 L)/\lV [] ch kmax (.ptr it 0) false s=some (.tup [.bool true,e.key,e.val],s')/\(∀n,s'.get [] n=(s.put it (some (.iter (some m) L.length (seen++[e.born]) L.length))).get [] n)/\s'.al=s.al/\s'.ge=(s.put it none).ge/\s'.ci<=s.ci+1:=by
 rw[c.calm];have hall: ∀e∈cX seen (bX 0 L),bk e.born L.length=true:=fun e he=>by
  have:=IZ L 0 e (qp.1 he).1;exact cu (by omega)
 have hlen:(cX seen (bX 0 L)).length<=L.length:=by
  have h1:(cX seen (bX 0 L)).length<=(bX 0 L).length:=pG _ _;have h2: ∀(L:List (ak×ae)) n,(bX n L).length=L.length:=by
   intro L
   induction L with
   |nil=>intro n;rfl
   |cons x L ih=>intro n;obtain⟨a,v⟩:=x;simp only[bX,cP,ih]
  rw[h2] at h1;exact h1
 cases hu:cX seen (bX 0 L) with
 |nil=>exact absurd hu h
 |cons e r=>
  rw[hu] at hall hlen;have hb:((e::r).all fun e=>bk e.born L.length)=true:=fY.2 hall;cases r with
  |nil=>
   refine⟨e,(rj it m L.length L.length seen e s).2,by simp,?_,fun n=>rfl,rfl,rfl,jf _⟩;simp only[pg,hb,cT];rfl
  |cons e2 r=>
   have hkm:br (e::e2::r).length (kmax s.ci)=true:=cu (fh hlen (hk _));have hlt:ch s.ci % (e::e2::r).length<(e::e2::r).length:=Nat.mod_lt _ (by simp);refine⟨(e::e2::r)[ch s.ci % (e::e2::r).length], { (rj it m L.length L.length seen (e::e2::r)[ch s.ci % (e::e2::r).length] s).2 with ci:=s.ci+1 },List.getElem_mem _,?_,fun n=>rfl,rfl,rfl,aU _⟩;simp only[ce,pg,hb,hkm,gL hlt];rfl
def It.entry{L:List (ak×ae)}(c:It s it m L (seen++[e.born]))(he:e∈bX 0 L):rT [] (.ptr it 0) s=some (.tup [e.key,e.val]):=by
 simp only[ce,rT,c.hi,c.hm,fe,bS,List.getLast?_append,List.getLast?_singleton,AP,Dy L 0 e he]
structure kV (s:St) (it m:Nat) (es:List cw) (seen:List Nat):Prop where
 hi:s.get [] it=some (.iter (some m) es.length seen es.length)
 hm:s.get [] m=some (.map es es.length)
structure CV (es:List cw):Prop where
 lt: ∀e∈es,e.born<es.length
 nd:(es.map (·.born)).Nodup
def O4: ∀ {es:List cw} {e:cw},(es.map (·.born)).Nodup->e∈es->uG e.born es=some e
 | [],_,_,h=>by cases h
 |x::es,e,hn,h=>by
  simp only[dG,uh] at hn;simp only[uG];rcases cQ.1 h with rfl|h
  simp;have:aJ x.born e.born=false:=by
   rw[fe];exact bN.2 fun he=>hn.1 (by rw[he];exact dp.2 ⟨e,h,rfl⟩)
  rw[this];exact O4 hn.2 h
def O3{e:cw}: ∀ {l:List cw},(l.map (·.born)).Nodup->e∈l->l.Perm (e::l.filter fun x=> !aJ x.born e.born)
 | [],_,h=>by cases h
 |x::l,hn,h=>by
  have hn0:=hn;simp only[dG,uh] at hn;rcases cQ.1 h with rfl|h
  have h1:aJ e.born e.born=true:=by simp
  have h2:l.filter (fun x=> !aJ x.born e.born)=l:=List.filter_eq_self.2 fun y hy=>by
   have:aJ y.born e.born=false:=by
    rw[fe];exact bN.2 fun he=>hn.1 (by rw[<-he];exact dp.2 ⟨y,hy,rfl⟩)
   rw[this];rfl
  rw[rz,h1,h2];exact .refl _
  ·have h1:aJ x.born e.born=false:=by
    rw[fe];exact bN.2 fun he=>hn.1 (by rw[he];exact dp.2 ⟨e,h,rfl⟩)
   rw[rz,h1];exact((O3 hn.2 h).cons x).trans (.swap e x _)
def MD(hn:(es.map (·.born)).Nodup)(h:e∈cX seen es):(cX seen es).Perm (e::cX (seen++[e.born]) es):=by
 have hsub:cX (seen++[e.born]) es=(cX seen es).filter fun x=> !aJ x.born e.born:=by
  simp only[cX,HG];congr 1;funext x;simp only[List.any_append,List.any_cons,List.any_nil,jL];cases seen.any (aJ x.born)<;>simp
 rw[hsub];exact O3 (hn.sublist (List.Sublist.map _ List.filter_sublist)) h
section
variable{s:St}{it m:Nat}{es:List cw}{seen:List Nat}(hb:CV es)
include hb
def kV.calm(c:kV s it m es seen)(ch kmax:Nat->Nat):lV [] ch kmax (.ptr it 0) false s=pg ch kmax it m es.length seen es.length (cX seen es) s:=by
 simp only[lV,c.hi,c.hm,bn,cF];have:(!seen.isEmpty&& !es.isEmpty&&es.all fun e=>br es.length e.born)=false:=by
  cases hes:es with
  |nil=>simp
  |cons x l=>
   have h0:=hb.lt x (by rw[hes];simp);have:br (x::l).length x.born=false:=by
    cases hc:br (x::l).length x.born with
    |false=>rfl
    |true=>have:=eG hc;rw[hes] at h0;omega
   simp only[ma,this,Bool.false_and,ki]
 rw[this];rfl
def kV.done(c:kV s it m es seen)(ch kmax:Nat->Nat)(h:cX seen es=[]):lV [] ch kmax (.ptr it 0) false s=some (.tup [.bool false],s):=by
 rw[c.calm hb,h];rfl
def kV.step(c:kV s it m es seen)(ch kmax:Nat->Nat)(hk: ∀i,es.length<=kmax i)(h:cX seen es≠ []):
 ∃e s',e∈cX seen es/\lV [] ch kmax (.ptr it 0) false s=some (.tup [.bool true,e.key,e.val],s')/\(∀n,s'.get [] n=(s.put it (some (.iter (some m) es.length (seen++[e.born]) es.length))).get [] n)/\s'.al=s.al/\s'.ge=(s.put it none).ge:=by
 rw[c.calm hb];have hall: ∀e∈cX seen es,bk e.born es.length=true:=fun e he=>cu (hb.lt e (qp.1 he).1);have hlen:(cX seen es).length<=es.length:=pG _ _;cases hu:cX seen es with
 |nil=>exact absurd hu h
 |cons e r=>
  rw[hu] at hall hlen;have hbb:((e::r).all fun e=>bk e.born es.length)=true:=fY.2 hall;cases r with
  |nil=>
   refine⟨e,(rj it m es.length es.length seen e s).2,by simp,?_,fun n=>rfl,rfl,rfl⟩;simp only[pg,hbb,cT];rfl
  |cons e2 r=>
   have hkm:br (e::e2::r).length (kmax s.ci)=true:=cu (fh hlen (hk _));have hlt:ch s.ci % (e::e2::r).length<(e::e2::r).length:=Nat.mod_lt _ (by simp);refine⟨(e::e2::r)[ch s.ci % (e::e2::r).length], { (rj it m es.length es.length seen (e::e2::r)[ch s.ci % (e::e2::r).length] s).2 with ci:=s.ci+1 },List.getElem_mem _,?_,fun n=>rfl,rfl,rfl⟩;simp only[ce,pg,hbb,hkm,gL hlt];rfl
def kV.entry(c:kV s it m es (seen++[e.born]))(he:e∈es):rT [] (.ptr it 0) s=some (.tup [e.key,e.val]):=by
 simp only[ce,rT,c.hi,c.hm,fe,bS,List.getLast?_append,List.getLast?_singleton,AP,O4 hb.nd he]
end
variable{lob:bf}
def gY.step{s0 s2:St}(c:gY sz s0 s bx lo lim lob xs)(hl:lo<lim)(hm:s0.ge<=s0.al){ob:bf}(hg: ∀n,s2.get [] n=(s.put lim (some ob)).get [] n)(hn:s2.al=s.al)(hw:s2.ge=(s.put lim none).ge):gY sz s0 s2 bx lo lim lob xs:=by
 obtain⟨l1,l2,l3,l4⟩:=c.lt;have key: ∀n,n≠lim->s2.get [] n=s.get [] n:=fun n h=>by rw[hg,bO,bN.2 h];rfl
 refine⟨fun n h=>(key n (by omega)).trans (c.old n h),⟨l1,l2,l3,by omega⟩,?_,?_,(key lo (by omega)).trans c.loop⟩;rw[hw,ol (by rw[c.ge];omega)];exact c.ge;obtain⟨v,h1,h2⟩:=c.box;refine⟨v,(key bx (by omega)).trans h1,?_⟩;rcases h2 with h2|⟨h3,k,h4,h5,h6,h7⟩
 exact .inl h2;exact .inr ⟨h3,k,h4,(key k (by omega)).trans h5,h6,by omega⟩
def uu(Q:bF)(sz:Nat)(s0:St)(bx lo lim:Nat)(lob:bf)(es:List cw):Prop:=
 ∀(s:St) (xs:List ae) (k:ae),gY sz s0 s bx lo lim lob xs->k∈es.map (·.key)->xs.length<es.length->(∀y∈xs,y∈es.map (·.key))-> ∃s',te Q lo [k] s (.bool true) s'/\gY sz s0 s' bx lo lim lob (xs++[k])/\(∀n,n<=lim->n≠bx->n≠lo->s'.get [] n=s.get [] n)/\s.al<=s'.al
variable{av:Array Operand}{ts:Array TypeId}{x:Operand}{e:aI}
def MP(h:ev e x=some (.yld n)):yieldee e ⟨.value x,av,ts⟩=(evcs e av.toList).bind fun args=>some (n,args):=by
 simp only[yieldee,h,bn]
def H5{Q:bF}{f:FuncId}{d:Tmp}{l:List aB}{lc:Ag.Loc}{s1:St}{args:List ae}{N:Fr->St->Prop}(hc:yieldee e ⟨.value x,av,ts⟩=some (n,args))(hr:te Q n args s v s1)(hd:d<sz)(hk:WL Q f l ⟨e.set d (some v),sz,lc⟩ s1 N):
 WL Q f (⟨some d,.call ⟨.value x,av,ts⟩,.aw⟩::l) ⟨e,sz,lc⟩ s N:=
 WL.yld rfl rfl hc hr (eM.2 ⟨hd,rfl⟩) hk
variable{cb:Nat}
section
variable{Q:bF}(hP:Q.P=ar)(hh:Q.hint=aH){ch kmax:Nat->Nat}(hch:Q.ch=ch)(hkm:Q.kmax=kmax)
 {es:List cw} (hb:CV es) (hkx: ∀i,es.length<=kmax i)
include hP hh hch hkm hb hkx
def ahA{s0:St}(hlo:lo<it)(hm:m<s0.al)(hmw:s0.ge<=s0.al)(ht:uu Q sz s0 bx lo it lob es)(hkey: ∀e∈es, ∃k:ak,e.key= .str k): ∀(n:Nat) (seen:List Nat) (e:aI) (lc:Ag.Loc) (s:St) (xs:List ae),(cX seen es).length<=n->gY sz s0 s bx lo it lob xs->kV s it m es seen->(xs++(cX seen es).map (·.key)).Perm (es.map (·.key))->aj e 5= .ptr it 0->aj e 0= .yld lo->
 W Q 190 (.loop ae2) ⟨e,14,lc⟩ s fun x _ s'=>x= .exit 0/\ ∃xs',gY sz s0 s' bx lo it lob xs'/\xs'.Perm (es.map (·.key))/\s.al<=s'.al:=by
 have _:=hP;have _:=hh;intro n
 induction n with
 |zero=>
  intro seen e lc s xs hn c i hp h5 h1;have hu:cX seen es=[]:=ub (Nat.le_zero.1 hn);have hd:=i.done hb ch kmax hu;rw[hu,pH,ii] at hp;refine bV ?_;refine aw ?_;simp only[ai,ah,sK,h5,hch,hkm,hd,dU,jN];refine aC (cJ ?_);exact dL ⟨rfl,xs,c,hp,aU _⟩
 |succ n ih=>
  intro seen e lc s xs hn c i hp h5 h1;by_cases hu:cX seen es=[];have hd:=i.done hb ch kmax hu;rw[hu,pH,ii] at hp;refine bV ?_;refine aw ?_;simp only[ai,ah,sK,h5,hch,hkm,hd,dU,jN];refine aC (cJ ?_);exact dL ⟨rfl,xs,c,hp,aU _⟩;obtain⟨en,s2,hen,hnx,hg,hnn,hw⟩:=i.step hb ch kmax hkx hu;have hmem:=(qp.1 hen).1;obtain⟨l1,l2,l3,l4⟩:=c.lt;have c2:=c.step hlo hmw hg hnn hw;have i2:kV s2 it m es (seen++[en.born]):=⟨by rw[hg,bO,bS];rfl,by rw[hg,bO,bN.2 (by omega:m≠it)];exact i.hm⟩;have hent:=i2.entry hb hmem;have hless:=Hw hen;have hpu:=MD hb.nd hen;have hlen:xs.length<es.length:=by
   have h2:=hp.length_eq;have h3:=hpu.length_eq;simp only[dX,cZ,cP] at h2 h3;omega
  have hxs: ∀y∈xs,y∈es.map (·.key):=fun y hy=>hp.mem_iff.1 (HK _ hy);obtain⟨s3,hy,c3,hg3,hn3⟩:=ht s2 xs en.key c2 (dp.2 ⟨en,hmem,rfl⟩) hlen hxs;have i3:kV s3 it m es (seen++[en.born]):=⟨by rw[hg3 it (aU _) (by omega) (by omega)];exact i2.hi,by rw[hg3 m (by omega) (by omega) (by omega)];exact i2.hm⟩;have hp3:((xs++[en.key])++(cX (seen++[en.born]) es).map (·.key)).Perm (es.map (·.key)):=by
   refine List.Perm.trans ?_ hp;rw[mc];have h9:=(hpu.map (fun e:cw=>e.key)).symm;rw[dG] at h9;exact List.Perm.append_left xs h9
  obtain⟨k,hke⟩:=hkey en hmem;rw[hke] at hnx hent hy c3 hp3;refine bV ?_;refine aw ?_;simp only[ai,ah,sK,h5,hch,hkm,hnx,dU,jN];refine aC (bU (cL ?_));simp only[bM];refine bL (aw ?_);simp only[ai,aa,ah,GR,h5,hent,dU,jN];refine aC (fU (fM 2 ?_));simp only[ai,aN,ay,aa,ah,h1];refine H5 (n:=lo) (args:=[.str k]) ?_ hy (by decide) ?_;rw[MP (n:=lo) (by simp only[aq,bq,aa])];simp only[ai,aa];refine fN ?_;simp only[ai,aA,aa,ah];refine dq ?_;simp only[dA];refine(ih (seen++[en.born]) _ _ s3 _ (by omega) c3 i3 hp3 (by simp only[au,aa, *]) (by simp only[au,aa, *])).mono ?_;rintro x fr s' ⟨rfl,xs',q1,q2,q3⟩;exact⟨rfl,xs',q1,q2,by omega⟩
def ahB(hsp:Q.spec 190=none)(hsH:Q.specH 190=none)(hsW:Q.specW 190=none){s0:St}(hmw:s0.ge<=s0.al)(hm:m<s0.al)(hcb:cb<s0.al)(hc:s0.get [] cb=some (.cells [.map m]))(hmm:s0.get [] m=some (.map es es.length))(c:gY sz s0 s bx lo lim lob [])(ht:uu Q sz s0 bx lo s.al lob es)(hkey: ∀e∈es, ∃k:ak,e.key= .str k): ∃s',aM Q 190 [.yld lo,.ptr cb 0] s (.tup []) s'/\ ∃xs lim',gY sz s0 s' bx lo lim' lob xs/\xs.Perm (es.map (·.key))/\s.al<=s'.al:=by
 obtain⟨l1,l2,l3,l4⟩:=c.lt;have hr:m7 ar [] 145 (.map m) s=some (.ptr s.al 0,s.new (.iter (some m) es.length [] es.length)):=by
  have h:ar.underlying 145=some (.map 9 151):=by kernel_rfl
  simp only[m7,h,bn,(c.old m hm).trans hmm]
 have hcb2:s.get [] cb=some (.cells [.map m]):=(c.old cb hcb).trans hc;have hg2: ∀n,n<s.al->(s.new (.iter (some m) es.length [] es.length)).get [] n=s.get [] n:=fun n h=>by rw[cp,bN.2 (by omega:n≠s.al)];rfl
 have c2:gY sz s0 (s.new (.iter (some m) es.length [] es.length)) bx lo s.al lob []:=by
  obtain⟨v,b1,b2⟩:=c.box;refine⟨fun n h=>(hg2 n (by omega)).trans (c.old n h),⟨l1,l2,by omega,fK _⟩,c.ge,⟨v,(hg2 bx (by omega)).trans b1,.inl ?_⟩,(hg2 lo (by omega)).trans c.loop⟩;rcases b2 with b2|⟨b2,_⟩
  exact b2;exact absurd rfl b2
 have i2:kV (s.new (.iter (some m) es.length [] es.length)) s.al m es []:=⟨by rw[cp,bS];rfl,by rw[hg2 m (by omega)];exact(c.old m hm).trans hmm⟩;have key: ∃u s',aM Q 190 [.yld lo,.ptr cb 0] s u s'/\(u= .tup []/\ ∃xs lim',gY sz s0 s' bx lo lim' lob xs/\xs.Perm (es.map (·.key))/\s.al<=s'.al):=by
  refine aM.ofEx (by rw[hP];exact Ev.1) Ev.2 Ev.3 Ev.4 hsp ?_ hsH hsW;refine aw ?_;simp only[ai,ax,bv,bt,ay,aa,ah,aG,aV,hP,cO,hcb2,cN,GU,hr];refine bL ?_;refine(ahA hP hh hch hkm hb hkx (by omega:lo<s.al) hm hmw ht hkey es.length [] _ _ _ [] (pG _ _) c2 i2 ?_ (by simp only[aq,aa, *]) (by simp only[aq,aa, *])).mono ?_;rw[mf];have:cX [] es=es:=by simp[cX]
  rw[this];rintro x ⟨e,sz',lc⟩ s' ⟨rfl,xs,q1,q2,q3⟩;exact⟨.inl rfl,.tup [],⟨[],rfl,rfl⟩,rfl,xs,_,q1,q2,fh (jf _) q3⟩
 obtain⟨u,s',k1,rfl,k2⟩:=key;exact⟨s',k1,k2⟩
def ahx{s0:St}(hlo:lo<it)(hm:m<s0.al)(hmw:s0.ge<=s0.al)(ht:uu Q sz s0 bx lo it lob es)(hkey: ∀e∈es, ∃k:ak,e.key= .str k): ∀(n:Nat) (seen:List Nat) (e:aI) (lc:Ag.Loc) (s:St) (xs:List ae),(cX seen es).length<=n->gY sz s0 s bx lo it lob xs->kV s it m es seen->(xs++(cX seen es).map (·.key)).Perm (es.map (·.key))->aj e 5= .ptr it 0->aj e 0= .yld lo->
 W Q 463 (.loop agU) ⟨e,14,lc⟩ s fun x _ s'=>x= .exit 0/\ ∃xs',gY sz s0 s' bx lo it lob xs'/\xs'.Perm (es.map (·.key))/\s.al<=s'.al:=by
 have _:=hP;have _:=hh;intro n
 induction n with
 |zero=>
  intro seen e lc s xs hn c i hp h5 h1;have hu:cX seen es=[]:=ub (Nat.le_zero.1 hn);have hd:=i.done hb ch kmax hu;rw[hu,pH,ii] at hp;refine bV ?_;refine aw ?_;simp only[ai,ah,sK,h5,hch,hkm,hd,dU,jN];refine aC (cJ ?_);exact dL ⟨rfl,xs,c,hp,aU _⟩
 |succ n ih=>
  intro seen e lc s xs hn c i hp h5 h1;by_cases hu:cX seen es=[];have hd:=i.done hb ch kmax hu;rw[hu,pH,ii] at hp;refine bV ?_;refine aw ?_;simp only[ai,ah,sK,h5,hch,hkm,hd,dU,jN];refine aC (cJ ?_);exact dL ⟨rfl,xs,c,hp,aU _⟩;obtain⟨en,s2,hen,hnx,hg,hnn,hw⟩:=i.step hb ch kmax hkx hu;have hmem:=(qp.1 hen).1;obtain⟨l1,l2,l3,l4⟩:=c.lt;have c2:=c.step hlo hmw hg hnn hw;have i2:kV s2 it m es (seen++[en.born]):=⟨by rw[hg,bO,bS];rfl,by rw[hg,bO,bN.2 (by omega:m≠it)];exact i.hm⟩;have hent:=i2.entry hb hmem;have hless:=Hw hen;have hpu:=MD hb.nd hen;have hlen:xs.length<es.length:=by
   have h2:=hp.length_eq;have h3:=hpu.length_eq;simp only[dX,cZ,cP] at h2 h3;omega
  have hxs: ∀y∈xs,y∈es.map (·.key):=fun y hy=>hp.mem_iff.1 (HK _ hy);obtain⟨s3,hy,c3,hg3,hn3⟩:=ht s2 xs en.key c2 (dp.2 ⟨en,hmem,rfl⟩) hlen hxs;have i3:kV s3 it m es (seen++[en.born]):=⟨by rw[hg3 it (aU _) (by omega) (by omega)];exact i2.hi,by rw[hg3 m (by omega) (by omega) (by omega)];exact i2.hm⟩;have hp3:((xs++[en.key])++(cX (seen++[en.born]) es).map (·.key)).Perm (es.map (·.key)):=by
   refine List.Perm.trans ?_ hp;rw[mc];have h9:=(hpu.map (fun e:cw=>e.key)).symm;rw[dG] at h9;exact List.Perm.append_left xs h9
  obtain⟨k,hke⟩:=hkey en hmem;rw[hke] at hnx hent hy c3 hp3;refine bV ?_;refine aw ?_;simp only[ai,ah,sK,h5,hch,hkm,hnx,dU,jN];refine aC (bU (cL ?_));simp only[bM];refine bL (aw ?_);simp only[ai,aa,ah,GR,h5,hent,dU,jN];refine aC (fU (fM 2 ?_));simp only[ai,aN,ay,aa,ah,h1];refine H5 (n:=lo) (args:=[.str k]) ?_ hy (by decide) ?_;rw[MP (n:=lo) (by simp only[aq,bq,aa])];simp only[ai,aa];refine fN ?_;simp only[ai,aA,aa,ah];refine dq ?_;simp only[dA];refine(ih (seen++[en.born]) _ _ s3 _ (by omega) c3 i3 hp3 (by simp only[au,aa, *]) (by simp only[au,aa, *])).mono ?_;rintro x fr s' ⟨rfl,xs',q1,q2,q3⟩;exact⟨rfl,xs',q1,q2,by omega⟩
def ahy(hsp:Q.spec 463=none)(hsH:Q.specH 463=none)(hsW:Q.specW 463=none){s0:St}(hmw:s0.ge<=s0.al)(hm:m<s0.al)(hcb:cb<s0.al)(hc:s0.get [] cb=some (.cells [.map m]))(hmm:s0.get [] m=some (.map es es.length))(c:gY sz s0 s bx lo lim lob [])(ht:uu Q sz s0 bx lo s.al lob es)(hkey: ∀e∈es, ∃k:ak,e.key= .str k): ∃s',aM Q 463 [.yld lo,.ptr cb 0] s (.tup []) s'/\ ∃xs lim',gY sz s0 s' bx lo lim' lob xs/\xs.Perm (es.map (·.key))/\s.al<=s'.al:=by
 obtain⟨l1,l2,l3,l4⟩:=c.lt;have hr:m7 ar [] 442 (.map m) s=some (.ptr s.al 0,s.new (.iter (some m) es.length [] es.length)):=by
  have h:ar.underlying 442=some (.map 9 443):=by kernel_rfl
  simp only[m7,h,bn,(c.old m hm).trans hmm]
 have hcb2:s.get [] cb=some (.cells [.map m]):=(c.old cb hcb).trans hc;have hg2: ∀n,n<s.al->(s.new (.iter (some m) es.length [] es.length)).get [] n=s.get [] n:=fun n h=>by rw[cp,bN.2 (by omega:n≠s.al)];rfl
 have c2:gY sz s0 (s.new (.iter (some m) es.length [] es.length)) bx lo s.al lob []:=by
  obtain⟨v,b1,b2⟩:=c.box;refine⟨fun n h=>(hg2 n (by omega)).trans (c.old n h),⟨l1,l2,by omega,fK _⟩,c.ge,⟨v,(hg2 bx (by omega)).trans b1,.inl ?_⟩,(hg2 lo (by omega)).trans c.loop⟩;rcases b2 with b2|⟨b2,_⟩
  exact b2;exact absurd rfl b2
 have i2:kV (s.new (.iter (some m) es.length [] es.length)) s.al m es []:=⟨by rw[cp,bS];rfl,by rw[hg2 m (by omega)];exact(c.old m hm).trans hmm⟩;have key: ∃u s',aM Q 463 [.yld lo,.ptr cb 0] s u s'/\(u= .tup []/\ ∃xs lim',gY sz s0 s' bx lo lim' lob xs/\xs.Perm (es.map (·.key))/\s.al<=s'.al):=by
  refine aM.ofEx (by rw[hP];exact FF.1) FF.2 FF.3 FF.4 hsp ?_ hsH hsW;refine aw ?_;simp only[ai,ax,bv,bt,ay,aa,ah,aG,aV,hP,cO,hcb2,cN,GU,hr];refine bL ?_;refine(ahx hP hh hch hkm hb hkx (by omega:lo<s.al) hm hmw ht hkey es.length [] _ _ _ [] (pG _ _) c2 i2 ?_ (by simp only[aq,aa, *]) (by simp only[aq,aa, *])).mono ?_;rw[mf];have:cX [] es=es:=by simp[cX]
  rw[this];rintro x ⟨e,sz',lc⟩ s' ⟨rfl,xs,q1,q2,q3⟩;exact⟨.inl rfl,.tup [],⟨[],rfl,rfl⟩,rfl,xs,_,q1,q2,fh (jf _) q3⟩
 obtain⟨u,s',k1,rfl,k2⟩:=key;exact⟨s',k1,k2⟩
def ahC{s0:St}(hlo:lo<it)(hm:m<s0.al)(hmw:s0.ge<=s0.al)(ht:uu Q sz s0 bx lo it lob es)(hkey: ∀e∈es, ∃a b:ak,e.key= .agg [.str a,.str b]): ∀(n:Nat) (seen:List Nat) (e:aI) (lc:Ag.Loc) (s:St) (xs:List ae),(cX seen es).length<=n->gY sz s0 s bx lo it lob xs->kV s it m es seen->(xs++(cX seen es).map (·.key)).Perm (es.map (·.key))->aj e 5= .ptr it 0->aj e 0= .yld lo->
 W Q 193 (.loop ae4) ⟨e,14,lc⟩ s fun x _ s'=>x= .exit 0/\ ∃xs',gY sz s0 s' bx lo it lob xs'/\xs'.Perm (es.map (·.key))/\s.al<=s'.al:=by
 intro n
 induction n with
 |zero=>
  intro seen e lc s xs hn c i hp h5 h1;have hu:cX seen es=[]:=ub (Nat.le_zero.1 hn);have hd:=i.done hb ch kmax hu;rw[hu,pH,ii] at hp;refine bV ?_;refine aw ?_;simp only[ai,ah,sK,h5,hch,hkm,hd,dU,jN];refine aC (cJ ?_);exact dL ⟨rfl,xs,c,hp,aU _⟩
 |succ n ih=>
  intro seen e lc s xs hn c i hp h5 h1;by_cases hu:cX seen es=[];have hd:=i.done hb ch kmax hu;rw[hu,pH,ii] at hp;refine bV ?_;refine aw ?_;simp only[ai,ah,sK,h5,hch,hkm,hd,dU,jN];refine aC (cJ ?_);exact dL ⟨rfl,xs,c,hp,aU _⟩;obtain⟨en,s2,hen,hnx,hg,hnn,hw⟩:=i.step hb ch kmax hkx hu;have hmem:=(qp.1 hen).1;obtain⟨l1,l2,l3,l4⟩:=c.lt;have c2:=c.step hlo hmw hg hnn hw;have i2:kV s2 it m es (seen++[en.born]):=⟨by rw[hg,bO,bS];rfl,by rw[hg,bO,bN.2 (by omega:m≠it)];exact i.hm⟩;have hent:=i2.entry hb hmem;have hless:=Hw hen;have hpu:=MD hb.nd hen;have hlen:xs.length<es.length:=by
   have h2:=hp.length_eq;have h3:=hpu.length_eq;simp only[dX,cZ,cP] at h2 h3;omega
  have hxs: ∀y∈xs,y∈es.map (·.key):=fun y hy=>hp.mem_iff.1 (HK _ hy);obtain⟨s3,hy,c3,hg3,hn3⟩:=ht s2 xs en.key c2 (dp.2 ⟨en,hmem,rfl⟩) hlen hxs;have i3:kV s3 it m es (seen++[en.born]):=⟨by rw[hg3 it (aU _) (by omega) (by omega)];exact i2.hi,by rw[hg3 m (by omega) (by omega) (by omega)];exact i2.hm⟩;have hp3:((xs++[en.key])++(cX (seen++[en.born]) es).map (·.key)).Perm (es.map (·.key)):=by
   refine List.Perm.trans ?_ hp;rw[mc];have h9:=(hpu.map (fun e:cw=>e.key)).symm;rw[dG] at h9;exact List.Perm.append_left xs h9
  obtain⟨a,b,hke⟩:=hkey en hmem;rw[hke] at hnx hent hy c3 hp3;refine bV ?_;refine aw ?_;simp only[ai,ah,sK,h5,hch,hkm,hnx,dU,jN];refine aC (bU (cL ?_));simp only[bM];refine bL (aw ?_);simp only[ai,ax,bu,aN,ay,aa,ah,aG,aV,adf,hP,hh,GR,h5,hent,dU,jN];refine aC (fU (fM 2 ?_));simp only[ai,ax,cut,aN,ay,aa,ah,aG,hP,h1];refine H5 (n:=lo) (args:=[.agg [.str a,.str b]]) ?_ hy (by decide) ?_;rw[MP (n:=lo) (by simp only[aq,bq,aa])];simp only[ai,aa];refine fN ?_;simp only[ai,aA,aa,ah];refine dq ?_;simp only[dA];refine(ih (seen++[en.born]) _ _ s3 _ (by omega) c3 i3 hp3 (by simp only[au,aa, *]) (by simp only[au,aa, *])).mono ?_;rintro x fr s' ⟨rfl,xs',q1,q2,q3⟩;exact⟨rfl,xs',q1,q2,by omega⟩
def ahD(hsp:Q.spec 193=none)(hsH:Q.specH 193=none)(hsW:Q.specW 193=none){s0:St}(hmw:s0.ge<=s0.al)(hm:m<s0.al)(hcb:cb<s0.al)(hc:s0.get [] cb=some (.cells [.map m]))(hmm:s0.get [] m=some (.map es es.length))(c:gY sz s0 s bx lo lim lob [])(ht:uu Q sz s0 bx lo s.al lob es)(hkey: ∀e∈es, ∃a b:ak,e.key= .agg [.str a,.str b]): ∃s',aM Q 193 [.yld lo,.ptr cb 0] s (.tup []) s'/\ ∃xs lim',gY sz s0 s' bx lo lim' lob xs/\xs.Perm (es.map (·.key))/\s.al<=s'.al:=by
 obtain⟨l1,l2,l3,l4⟩:=c.lt;have hr:m7 ar [] 147 (.map m) s=some (.ptr s.al 0,s.new (.iter (some m) es.length [] es.length)):=by
  have h:ar.underlying 147=some (.map 143 4):=by kernel_rfl
  simp only[m7,h,bn,(c.old m hm).trans hmm]
 have hcb2:s.get [] cb=some (.cells [.map m]):=(c.old cb hcb).trans hc;have hg2: ∀n,n<s.al->(s.new (.iter (some m) es.length [] es.length)).get [] n=s.get [] n:=fun n h=>by rw[cp,bN.2 (by omega:n≠s.al)];rfl
 have c2:gY sz s0 (s.new (.iter (some m) es.length [] es.length)) bx lo s.al lob []:=by
  obtain⟨v,b1,b2⟩:=c.box;refine⟨fun n h=>(hg2 n (by omega)).trans (c.old n h),⟨l1,l2,by omega,fK _⟩,c.ge,⟨v,(hg2 bx (by omega)).trans b1,.inl ?_⟩,(hg2 lo (by omega)).trans c.loop⟩;rcases b2 with b2|⟨b2,_⟩
  exact b2;exact absurd rfl b2
 have i2:kV (s.new (.iter (some m) es.length [] es.length)) s.al m es []:=⟨by rw[cp,bS];rfl,by rw[hg2 m (by omega)];exact(c.old m hm).trans hmm⟩;have key: ∃u s',aM Q 193 [.yld lo,.ptr cb 0] s u s'/\(u= .tup []/\ ∃xs lim',gY sz s0 s' bx lo lim' lob xs/\xs.Perm (es.map (·.key))/\s.al<=s'.al):=by
  refine aM.ofEx (by rw[hP];exact Ey.1) Ey.2 Ey.3 Ey.4 hsp ?_ hsH hsW;refine aw ?_;simp only[ai,ax,bv,bt,ay,aa,ah,aG,aV,hP,cO,hcb2,cN,GU,hr];refine bL ?_;refine(ahC hP hh hch hkm hb hkx (by omega:lo<s.al) hm hmw ht hkey es.length [] _ _ _ [] (pG _ _) c2 i2 ?_ (by simp only[aq,aa, *]) (by simp only[aq,aa, *])).mono ?_;rw[mf];have:cX [] es=es:=by simp[cX]
  rw[this];rintro x ⟨e,sz',lc⟩ s' ⟨rfl,xs,q1,q2,q3⟩;exact⟨.inl rfl,.tup [],⟨[],rfl,rfl⟩,rfl,xs,_,q1,q2,fh (jf _) q3⟩
 obtain⟨u,s',k1,rfl,k2⟩:=key;exact⟨s',k1,k2⟩
end
structure pN (sz:Nat) (s0 s:St) (v:ae) (xs:List ae):Prop where
 old: ∀n,n<s0.al->s.get [] n=s0.get [] n
 al:s0.al<=s.al
 ge:s.ge=s0.ge
 row:(v= .AL/\xs=[])\/(xs≠ []/\ ∃k,v= .arr sz k 0 xs.length xs.length/\s.get [] k=some (.cells (bB xs))/\s0.al<=k/\k<s.al)
def pN.aL{s0:St}(g:pN sz s0 s v xs):v.aL=true:=by
 rcases g.row with⟨rfl,_⟩|⟨_,k,rfl,_⟩<;>rfl
def vR:List ae->Option (List ak)
 | []=>some []
 | .str a::l=>(vR l).bind fun r=>some (a::r)
 |_=>none
def uv:List ae->Option (List (ak×ak))
 | []=>some []
 | .str a:: .str b::l=>(uv l).bind fun r=>some ((a,b)::r)
 |_=>none
def NY: ∀l:List ak,vR (l.map aF)=some l
 | []=>rfl
 |a::l=>by
  show(vR (l.map aF)).bind _=_;rw[NY l];rfl
def zc:(ae.AL).cells=[.AL]:=rfl
def zx: ∀l:List ak,bB (l.map aF)=l.map aF
 | []=>rfl
 |a::l=>by
  show(aF a).cells++bB (l.map aF)=_;rw[zx l];rfl
def cg(c:ak×ak):ae:=.agg [.str c.1,.str c.2]
def NW: ∀l:List (ak×ak),uv (bB (l.map cg))=some l
 | []=>rfl
 |a::l=>by
  show(uv (bB (l.map cg))).bind _=_;rw[NW l];rfl
def Bt: ∀l:List (ak×ak),(bB (l.map cg)).length=l.length*2
 | []=>rfl
 |a::l=>by
  show([ae.str a.1,ae.str a.2]++bB (l.map cg)).length=_;rw[dX,Bt l,cP,cP,cP,List.length_nil];omega
def fH(a b:ak×ak):Int:=bif aK (dv a.1 b.1) 0 then dv a.2 b.2 else dv a.1 b.1
def F6(a b:ak×ak):Bool:=bG (fH a b) 0
def xR(x:ak×ak):List (ak×ak)->List (ak×ak)
 | []=>[x]
 |y::l=>bif F6 y x then y::xR x l else x::y::l
def ic:List (ak×ak)->List (ak×ak)
 | []=>[]
 |x::l=>xR x (ic l)
def JT(x:ak×ak): ∀l,(xR x l).Perm (x::l)
 | []=>.refl _
 |y::l=>by
  simp only[xR];cases F6 y x with
  |true=>exact((JT x l).cons y).trans (.swap x y l)
  |false=>exact .refl _
def vu: ∀l,(ic l).Perm l
 | []=>.refl _
 |x::l=>(JT x _).trans ((vu l).cons x)
def Az:List ae->Option vP
 | [.AL]=>some none
 | [.arr 1 m 0 len _]=>some (some (m,fun cs=>Ct (bif aJ cs.length len&&bk len 1000001 then(vR cs).bind fun l=>some ((eX l).map aF) else none)))
 |_=>none
def Ay:List ae->Option vP
 | [.AL,.func (.func 107) [] []]=>some none
 | [.arr 2 m 0 len _,.func (.func 107) [] []]=>some (some (m,fun cs=>Ct (bif aJ cs.length (len*2)&&bk len 1000001 then(uv cs).bind fun l=>some (bB ((ic l).map cg)) else none)))
 |_=>none
variable{ks:List (ak×ak)}{g:Nat}
section
variable{Q:bF}(hP:Q.P=ar)(hh:Q.hint=aH)
include hP hh
def aoV{s0:St}(hE:aj E 2= .ptr bx 0)(hm:s0.ge<=s0.al)(hes:es.length<=1000000)(hkey: ∀e∈es, ∃k:ak,e.key= .str k):uu Q 1 s0 bx lo lim (.loop 284 E 13 [7] wn wo none) es:=by
 intro s xs k c hk hl hxs;obtain⟨e,he,rfl⟩:=dp.1 hk;obtain⟨b,hb⟩:=hkey e he;rw[hb];refine amV hP hh hE (fun y hy=>?_) (by omega) hm c;obtain⟨e2,he2,rfl⟩:=dp.1 (hxs y hy);obtain⟨b2,hb2⟩:=hkey e2 he2;rw[hb2];rfl
def aoW{s0:St}(hE:aj E 2= .ptr bx 0)(hm:s0.ge<=s0.al)(hes:es.length<=1000000)(hkey: ∀e∈es, ∃a b:ak,e.key= .agg [.str a,.str b]):uu Q 2 s0 bx lo lim (.loop 285 E 13 [7] wq wt none) es:=by
 intro s xs k c hk hl hxs;obtain⟨e,he,rfl⟩:=dp.1 hk;obtain⟨a,b,hb⟩:=hkey e he;rw[hb];refine amW hP hh hE (fun y hy=>?_) (by omega) hm c;obtain⟨e2,he2,rfl⟩:=dp.1 (hxs y hy);obtain⟨a2,b2,hb2⟩:=hkey e2 he2;rw[hb2];rfl
def um(Q:bF)(sz g:Nat)(s0:St)(cb:Nat)(es:List cw):Prop:=
 ∀(s:St) (bx lo lim:Nat) (lob:bf),gY sz s0 s bx lo lim lob []->uu Q sz s0 bx lo s.al lob es-> ∃s',aM Q g [.yld lo,.ptr cb 0] s (.tup []) s'/\ ∃xs lim',gY sz s0 s' bx lo lim' lob xs/\xs.Perm (es.map (·.key))/\s.al<=s'.al
def XI(h78:Q.spec 284=none)(hH78:Q.specH 284=none)(hW78:Q.specW 284=none){s0:St}(hm:s0.ge<=s0.al)(hes:es.length<=1000000)(hkey: ∀e∈es, ∃k:ak,e.key= .str k)(hg:n7 ar g=true)(hgv:um Q 1 g s0 cb es):
 ∃v s',aM Q 284 [.AL,.func (.func g) [] [.ptr cb 0]] s0 v s'/\ ∃xs,pN 1 s0 s' v xs/\xs.Perm (es.map (·.key)):=by
 refine aM.ofEx (by rw[hP];exact E3.1) E3.2 E3.3 E3.4 h78 ?_ hH78 hW78;refine aw ?_;simp only[ai,bv,bt,aa,ah,aG,aV,PK,hh,ofValue,aX,zc];refine aC (aw ?_);simp only[ai,aa,ah];have hg1: ∀n o,n<s0.al->((s0.new (.cells [.AL])).new o).get [] n=s0.get [] n:=fun n o h=>by
  rw[cp,jy,bN.2 (by omega:n≠s0.al+1),cF,cp,bN.2 (by omega:n≠s0.al)];rfl
 have hcol: ∀lob,gY 1 s0 ((s0.new (.cells [.AL])).new lob) s0.al (s0.al+1) (s0.al+1) lob []:=fun lob=>
  ⟨fun n h=>hg1 n lob h,⟨aU _,fK _,aU _,fK _⟩,rfl,⟨.AL,by rw[cp,jy,bN.2 (by omega:s0.al≠s0.al+1),cF,cp,bS];rfl,.inl ⟨rfl,rfl⟩⟩,by rw[cp,jy,bS];rfl⟩
 obtain⟨s1,hr,xs,lim',c1,hp,hn1⟩:=hgv _ s0.al (s0.al+1) (s0.al+1) _ (hcol (.loop 284 ((((bt 0 [.AL,.func (.func g) [] [.ptr cb 0]]).set 2 (some (.ptr s0.al 0))).set 4 (some .AL)).set 6 (some (.func (.func g) [] [.ptr cb 0]))) 13 [7] wn wo none)) (aoV hP hh (by simp only[aq,aa, *]) hm hes hkey);obtain⟨l1,l2,l3,l4⟩:=c1.lt;obtain⟨v,hv,hrow⟩:=c1.box;have hvc:v.aL=true:=by rcases hrow with⟨rfl,_⟩|⟨_,k,rfl,_⟩<;>rfl
 have hk1: ∀n,n≠s0.al+1->(s1.put (s0.al+1) none).get [] n=s1.get [] n:=fun n h=>by rw[bO,bN.2 h];rfl
 have hbx:(s1.put (s0.al+1) none).get [] s0.al=some (.cells [v]):=(hk1 _ (by omega)).trans hv;refine bL (W.rfun (h:=g) (first:=[]) (captured:=[.ptr cb 0]) (v:=.tup []) (s1:=s1) (by simp only[aq,bq,aa]) ?_ hr c1.loop ?_);rw[hP,hg,afX];rfl;simp only[dA,yo,jy];refine aw ?_;simp only[ai,ax,ay,aa,ah,hP,cO,hbx,cN];refine bo ⟨.inr rfl,v,bz (by simp only[aq,aa, *]) hvc,xs,⟨fun n h=>(hk1 n (by omega)).trans (c1.old n h),?_,?_,?_⟩,hp⟩;show s0.al<=s1.al;omega;rw[ol (by rw[c1.ge];omega)];exact c1.ge;rcases hrow with h|⟨h1,k,h2,h3,h4,h5⟩
 exact .inl h;exact .inr ⟨h1,k,h2,(hk1 k (by omega)).trans h3,by omega,h5⟩
def ZO(h78:Q.spec 284=none)(hH78:Q.specH 284=none)(hW78:Q.specW 284=none)(h47:Q.spec 189=none)(hH47:Q.specH 189=none)(hW47:Q.specW 189=none){s0:St}(hm:s0.ge<=s0.al)(hes:es.length<=1000000)(hkey: ∀e∈es, ∃k:ak,e.key= .str k)(hg:n7 ar g=true)(hgv:um Q 1 g s0 cb es):
 ∃v s',aM Q 189 [.func (.func g) [] [.ptr cb 0]] s0 v s'/\ ∃xs,pN 1 s0 s' v xs/\xs.Perm (es.map (·.key)):=by
 obtain⟨v,s',hr,xs,hgot,hp⟩:=XI hP hh h78 hH78 hW78 hm hes hkey hg hgv;have hvc:=hgot.aL;refine⟨v,s',dz (by rw[hP];exact Eu.1) Eu.2 Eu.3 Eu.4 h47 ?_ hH47 hW47,xs,hgot,hp⟩;refine aw ?_;simp only[ai,bv,bt,ah,aV,ofValue,aX];refine aC (fU (fM 1 ?_));simp only[ai,aN,ay,aa,ah];refine fO (g:=284) (args:=[.AL,.func (.func g) [] [.ptr cb 0]]) ?_ hr (by decide) ?_;simp only[ai,callee,aa,ofValue,aX];refine fN ?_;simp only[ai,aA,aa,ah];exact bo ⟨rfl,.inr rfl,bz (by simp only[aq,aa, *]) hvc⟩
def XJ(h81:Q.spec 285=none)(hH81:Q.specH 285=none)(hW81:Q.specW 285=none){s0:St}(hm:s0.ge<=s0.al)(hes:es.length<=1000000)(hkey: ∀e∈es, ∃a b:ak,e.key= .agg [.str a,.str b])(hg:n7 ar g=true)(hgv:um Q 2 g s0 cb es):
 ∃v s',aM Q 285 [.AL,.func (.func g) [] [.ptr cb 0]] s0 v s'/\ ∃xs,pN 2 s0 s' v xs/\xs.Perm (es.map (·.key)):=by
 refine aM.ofEx (by rw[hP];exact E4.1) E4.2 E4.3 E4.4 h81 ?_ hH81 hW81;refine aw ?_;simp only[ai,bv,bt,aa,ah,aG,aV,JJ,hh,ofValue,aX,zc];refine aC (aw ?_);simp only[ai,aa,ah];have hg1: ∀n o,n<s0.al->((s0.new (.cells [.AL])).new o).get [] n=s0.get [] n:=fun n o h=>by
  rw[cp,jy,bN.2 (by omega:n≠s0.al+1),cF,cp,bN.2 (by omega:n≠s0.al)];rfl
 have hcol: ∀lob,gY 2 s0 ((s0.new (.cells [.AL])).new lob) s0.al (s0.al+1) (s0.al+1) lob []:=fun lob=>
  ⟨fun n h=>hg1 n lob h,⟨aU _,fK _,aU _,fK _⟩,rfl,⟨.AL,by rw[cp,jy,bN.2 (by omega:s0.al≠s0.al+1),cF,cp,bS];rfl,.inl ⟨rfl,rfl⟩⟩,by rw[cp,jy,bS];rfl⟩
 obtain⟨s1,hr,xs,lim',c1,hp,hn1⟩:=hgv _ s0.al (s0.al+1) (s0.al+1) _ (hcol (.loop 285 ((((bt 0 [.AL,.func (.func g) [] [.ptr cb 0]]).set 2 (some (.ptr s0.al 0))).set 4 (some .AL)).set 6 (some (.func (.func g) [] [.ptr cb 0]))) 13 [7] wq wt none)) (aoW hP hh (by simp only[aq,aa, *]) hm hes hkey);obtain⟨l1,l2,l3,l4⟩:=c1.lt;obtain⟨v,hv,hrow⟩:=c1.box;have hvc:v.aL=true:=by rcases hrow with⟨rfl,_⟩|⟨_,k,rfl,_⟩<;>rfl
 have hk1: ∀n,n≠s0.al+1->(s1.put (s0.al+1) none).get [] n=s1.get [] n:=fun n h=>by rw[bO,bN.2 h];rfl
 have hbx:(s1.put (s0.al+1) none).get [] s0.al=some (.cells [v]):=(hk1 _ (by omega)).trans hv;refine bL (W.rfun (h:=g) (first:=[]) (captured:=[.ptr cb 0]) (v:=.tup []) (s1:=s1) (by simp only[aq,bq,aa]) ?_ hr c1.loop ?_);rw[hP,hg,af5];rfl;simp only[dA,yo,jy];refine aw ?_;simp only[ai,ax,ay,aa,ah,hP,cO,hbx,cN];refine bo ⟨.inr rfl,v,bz (by simp only[aq,aa, *]) hvc,xs,⟨fun n h=>(hk1 n (by omega)).trans (c1.old n h),?_,?_,?_⟩,hp⟩;show s0.al<=s1.al;omega;rw[ol (by rw[c1.ge];omega)];exact c1.ge;rcases hrow with h|⟨h1,k,h2,h3,h4,h5⟩
 exact .inl h;exact .inr ⟨h1,k,h2,(hk1 k (by omega)).trans h3,by omega,h5⟩
def ZP(h81:Q.spec 285=none)(hH81:Q.specH 285=none)(hW81:Q.specW 285=none)(h50:Q.spec 191=none)(hH50:Q.specH 191=none)(hW50:Q.specW 191=none){s0:St}(hm:s0.ge<=s0.al)(hes:es.length<=1000000)(hkey: ∀e∈es, ∃a b:ak,e.key= .agg [.str a,.str b])(hg:n7 ar g=true)(hgv:um Q 2 g s0 cb es):
 ∃v s',aM Q 191 [.func (.func g) [] [.ptr cb 0]] s0 v s'/\ ∃xs,pN 2 s0 s' v xs/\xs.Perm (es.map (·.key)):=by
 obtain⟨v,s',hr,xs,hgot,hp⟩:=XJ hP hh h81 hH81 hW81 hm hes hkey hg hgv;have hvc:=hgot.aL;refine⟨v,s',dz (by rw[hP];exact Ew.1) Ew.2 Ew.3 Ew.4 h50 ?_ hH50 hW50,xs,hgot,hp⟩;refine aw ?_;simp only[ai,bv,bt,ah,aV,ofValue,aX];refine aC (fU (fM 1 ?_));simp only[ai,aN,ay,aa,ah];refine fO (g:=285) (args:=[.AL,.func (.func g) [] [.ptr cb 0]]) ?_ hr (by decide) ?_;simp only[ai,callee,aa,ofValue,aX];refine fN ?_;simp only[ai,aA,aa,ah];exact bo ⟨rfl,.inr rfl,bz (by simp only[aq,aa, *]) hvc⟩
omit hP hh in
def aoh{ks:List ak}(h:xs.Perm (ks.map aF)): ∃l:List ak,xs=l.map aF/\l.Perm ks:=by
 have hx: ∃l:List ak,xs=l.map aF:=by
  have: ∀(xs:List ae),(∀x∈xs, ∃b:ak,x=aF b)-> ∃l:List ak,xs=l.map aF:=by
   intro xs
   induction xs with
   |nil=>exact fun _=>⟨[],rfl⟩
   |cons x xs ih=>
    intro hx;obtain⟨b,rfl⟩:=hx x (by simp);obtain⟨l,rfl⟩:=ih fun y hy=>hx y (by simp[hy]);exact⟨b::l,rfl⟩
  refine this xs fun x hx=>?_;obtain⟨b,_,e⟩:=dp.1 (h.mem_iff.1 hx);exact⟨b,e.symm⟩
 obtain⟨l,rfl⟩:=hx;have hinj:Function.Injective aF:=fun a b e=>by
  have e:ae.str a=ae.str b:=e;injection e
 have key: ∀(l r:List ak),(l.map aF).Perm (r.map aF)->l.Perm r:=by
  intro l r hp;have h1:=hp.map (fun v=>match v with| .str b=>b|_=>([]:ak));have h2: ∀l:List ak,(l.map aF).map (fun v=>match v with| .str b=>b|_=>([]:ak))=l:=by
   intro l
   induction l with
   |nil=>rfl
   |cons a l ih=>
    rw[dG,dG,ih];rfl
  rw[h2,h2] at h1;exact h1
 exact⟨l,rfl,key l ks h⟩
omit hP hh in
def Ze(h:xs.Perm (ks.map cg)): ∃l:List (ak×ak),xs=l.map cg/\l.Perm ks:=by
 have hx: ∃l:List (ak×ak),xs=l.map cg:=by
  have: ∀(xs:List ae),(∀x∈xs, ∃b:ak×ak,x=cg b)-> ∃l:List (ak×ak),xs=l.map cg:=by
   intro xs
   induction xs with
   |nil=>exact fun _=>⟨[],rfl⟩
   |cons x xs ih=>
    intro hx;obtain⟨b,rfl⟩:=hx x (by simp);obtain⟨l,rfl⟩:=ih fun y hy=>hx y (by simp[hy]);exact⟨b::l,rfl⟩
  refine this xs fun x hx=>?_;obtain⟨b,_,e⟩:=dp.1 (h.mem_iff.1 hx);exact⟨b,e.symm⟩
 obtain⟨l,rfl⟩:=hx;have key: ∀(l r:List (ak×ak)),(l.map cg).Perm (r.map cg)->l.Perm r:=by
  intro l r hp;have h1:=hp.map (fun v=>match v with| .agg [.str a,.str b]=>(a,b)|_=>(([],[]):ak×ak));have h2: ∀l:List (ak×ak),(l.map cg).map (fun v=>match v with| .agg [.str a,.str b]=>(a,b)|_=>(([],[]):ak×ak))=l:=by
   intro l
   induction l with
   |nil=>rfl
   |cons a l ih=>
    rw[dG,dG,ih];rfl
  rw[h2,h2] at h1;exact h1
 exact⟨l,rfl,key l ks h⟩
def U5(hs: ∀n,n=102\/n=189\/n=284\/n=140->Q.spec n=none)(hH: ∀n,Q.specH n=none)(hW: ∀n,n=102\/n=189\/n=284->Q.specW n=none)(hW48:Q.specW 140=some Az){s0:St}{ks:List ak}(hm:s0.ge<=s0.al)(hes:es.length<=1000000)(hks:es.map (·.key)=ks.map aF)(hg:n7 ar g=true)(hgv:um Q 1 g s0 cb es):
 ∃v s',aM Q 102 [.func (.func g) [] [.ptr cb 0]] s0 v s'/\pN 1 s0 s' v ((eX ks).map aF):=by
 have hkey: ∀e∈es, ∃k:ak,e.key= .str k:=fun e he=>by
  have h1:e.key∈ks.map aF:=by rw[<-hks];exact dp.2 ⟨e,he,rfl⟩
  obtain⟨b,_,e2⟩:=dp.1 h1;exact⟨b,e2.symm⟩
 obtain⟨v,s1,hr,xs,hgot,hp⟩:=ZO hP hh (hs _ (by simp)) (hH _) (hW _ (by simp)) (hs _ (by simp)) (hH _) (hW _ (by simp)) hm hes hkey hg hgv;rw[hks] at hp;obtain⟨l,rfl,hl⟩:=aoh hp;have hsl:eX l=eX ks:=UY hl;have hlen:l.length<=1000000:=by
  have h1:=hl.length_eq;have h2:=congrArg List.length hks;simp only[cZ] at h2;omega
 have hvc:=hgot.aL;have hsort: ∃s2,aM Q 140 [v] s1 (.tup []) s2/\pN 1 s0 s2 v ((eX ks).map aF):=by
  rcases hgot.row with⟨rfl,hx⟩|⟨hne,k,rfl,hk,h4,h5⟩
  refine⟨s1,aM.specW0 (hs _ (by simp)) (hH _) hW48 rfl,hgot.old,hgot.al,hgot.ge,.inl ⟨rfl,?_⟩⟩;have hl0:l=[]:=ue.1 hx;rw[<-hsl,hl0];rfl;have hg1: ∀n o,n≠k->(s1.put k o).get [] n=s1.get [] n:=fun n o h=>by rw[bO,bN.2 h];rfl
  rw[zx] at hk;have hsll:(eX l).length=l.length:=(lr l).length_eq;refine⟨_,aM.specWp (n:=k) (cs':=(eX l).map aF) (hs _ (by simp)) (hH _) hW48 rfl hk ?_,fun n h=>(hg1 n _ (by omega)).trans (hgot.old n h),hgot.al,?_,.inr ⟨?_,k,?_,?_,h4,h5⟩⟩;show(bif aJ (l.map aF).length (l.map aF).length&&bk (l.map aF).length 1000001 then(vR (l.map aF)).bind fun l=>some ((eX l).map aF) else none)=_;have:bk (l.map aF).length 1000001=true:=cu (by rw[cZ];omega);rw[this,fe,bS,NY];rfl;rw[ol (by rw[hgot.ge];omega)];exact hgot.ge;rw[<-hsl];intro hc;have hc:=ue.1 hc;rw[hc] at hsll;exact hne (by rw[ub hsll.symm];rfl);rw[<-hsl,cZ,cZ,hsll];rw[bO,bS,zx,hsl];rfl
 obtain⟨s2,hr2,hgot2⟩:=hsort;refine⟨v,s2,dz (by rw[hP];exact DV.1) DV.2 DV.3 DV.4 (hs _ (by simp)) ?_ (hH _) (hW _ (by simp)),hgot2⟩;refine aw ?_;simp only[ai,bv,bt,ah,aV,ofValue,aX];refine aC (fU (fM 1 ?_));simp only[ai,aN,ay,aa,ah];refine fO (g:=189) (args:=[.func (.func g) [] [.ptr cb 0]]) ?_ hr (by decide) ?_;simp only[ai,callee,aa];refine fN ?_;simp only[ai,aA,aa,ah];refine aC (fU (fM 1 ?_));simp only[ai,aN,ay,aa,ah];refine fO (g:=140) (args:=[v]) ?_ hr2 (by decide) ?_;simp only[ai,callee,aa,hvc];refine fN ?_;simp only[nV,bM];refine aw ?_;simp only[ai,aa,ah];exact bo ⟨rfl,.inr rfl,bz (by simp only[aq,aa, *]) hvc⟩
def anR(hs: ∀n,n=105\/n=191\/n=285\/n=192->Q.spec n=none)(hH: ∀n,Q.specH n=none)(hW: ∀n,n=105\/n=191\/n=285->Q.specW n=none)(hW51:Q.specW 192=some Ay){s0:St}(hm:s0.ge<=s0.al)(hes:es.length<=1000000)(hks:es.map (·.key)=ks.map cg)(hg:n7 ar g=true)(hgv:um Q 2 g s0 cb es):
 ∃v s',aM Q 105 [.func (.func g) [] [.ptr cb 0],.func (.func 107) [] []] s0 v s'/\ ∃l,l.Perm ks/\pN 2 s0 s' v ((ic l).map cg):=by
 have hkey: ∀e∈es, ∃a b:ak,e.key= .agg [.str a,.str b]:=fun e he=>by
  have h1:e.key∈ks.map cg:=by rw[<-hks];exact dp.2 ⟨e,he,rfl⟩
  obtain⟨b,_,e2⟩:=dp.1 h1;exact⟨b.1,b.2,e2.symm⟩
 obtain⟨v,s1,hr,xs,hgot,hp⟩:=ZP hP hh (hs _ (by simp)) (hH _) (hW _ (by simp)) (hs _ (by simp)) (hH _) (hW _ (by simp)) hm hes hkey hg hgv;rw[hks] at hp;obtain⟨l,rfl,hl⟩:=Ze hp;have hlen:l.length<=1000000:=by
  have h1:=hl.length_eq;have h2:=congrArg List.length hks;simp only[cZ] at h2;omega
 have hvc:=hgot.aL;have hsort: ∃s2,aM Q 192 [v,.func (.func 107) [] []] s1 (.tup []) s2/\pN 2 s0 s2 v ((ic l).map cg):=by
  rcases hgot.row with⟨rfl,hx⟩|⟨hne,k,rfl,hk,h4,h5⟩
  refine⟨s1,aM.specW0 (hs _ (by simp)) (hH _) hW51 rfl,hgot.old,hgot.al,hgot.ge,.inl ⟨rfl,?_⟩⟩;have hl0:l=[]:=ue.1 hx;rw[hl0];rfl;have hg1: ∀n o,n≠k->(s1.put k o).get [] n=s1.get [] n:=fun n o h=>by rw[bO,bN.2 h];rfl
  have hsll:(ic l).length=l.length:=(vu l).length_eq;refine⟨_,aM.specWp (n:=k) (cs':=bB ((ic l).map cg)) (hs _ (by simp)) (hH _) hW51 rfl hk ?_,fun n h=>(hg1 n _ (by omega)).trans (hgot.old n h),hgot.al,?_,.inr ⟨?_,k,?_,?_,h4,h5⟩⟩;show(bif aJ (bB (l.map cg)).length ((l.map cg).length*2)&&bk (l.map cg).length 1000001 then(uv (bB (l.map cg))).bind fun l=>some (bB ((ic l).map cg)) else none)=_;have:bk (l.map cg).length 1000001=true:=cu (by rw[cZ];omega);rw[this,Bt,cZ,fe,bS,NW];rfl;rw[ol (by rw[hgot.ge];omega)];exact hgot.ge;intro hc;have hc:=ue.1 hc;rw[hc] at hsll;exact hne (by rw[ub hsll.symm];rfl);rw[cZ,cZ,hsll];rw[bO,bS];rfl
 obtain⟨s2,hr2,hgot2⟩:=hsort;refine⟨v,s2,dz (by rw[hP];exact DY.1) DY.2 DY.3 DY.4 (hs _ (by simp)) ?_ (hH _) (hW _ (by simp)),l,hl,hgot2⟩;refine aw ?_;simp only[ai,bv,bt,ah,aG,aV,ofValue,aX];refine aC (fU (fM 1 ?_));simp only[ai,aN,ay,aa,ah];refine fO (g:=191) (args:=[.func (.func g) [] [.ptr cb 0]]) ?_ hr (by decide) ?_;simp only[ai,callee,aa];refine fN ?_;simp only[ai,aA,aa,ah];refine aC (fU (fM 2 ?_));simp only[ai,aN,ay,aa,ah];refine fO (g:=192) (args:=[v,.func (.func 107) [] []]) ?_ hr2 (by decide) ?_;simp only[ai,callee,aa,hvc];refine fN ?_;simp only[nV,bM];refine aw ?_;simp only[ai,aa,ah];exact bo ⟨rfl,.inr rfl,bz (by simp only[aq,aa, *]) hvc⟩
end
end Go.Proofs.YtnnppcoplinajaaGreat
namespace Go.Proofs.YtnnppcoplinajaaGreat
open Go.Ag
open Go.Sort (putRow putCells mapBlock onCells grow heap_grow_old Holds SWO)
structure Na (w w':World):Prop where
 os:w'.os=w.os
 output:w'.output=w.output
 size:w.heap.size<=w'.heap.size
 block: ∀k,k<w.heap.size->w'.heap[k]? =w.heap[k]?
 tape:w'.tape=w.tape
 drawn:w.drawn<=w'.drawn
variable{G:Gh}{w:World}{h:aZ bf}
def XA{w':World}(wr:WR G h w)(bl:Na w w')(f:Nat->Nat->Option ae)(hf: ∀b o v,f b o=some v->w.heap.size<=b/\v.scal=true/\ ∃x,w'.cell? ⟨b,o,none⟩=some x/\VR G v x):
 ∃G':Gh,(∀b o v,f b o=some v->G'.ro b o=some v)/\G.le G'/\WR G' h w'/\cM G h w G' h w' 0 0:=by
 let G':Gh:= {at_:=G.at_,ro:=fun b o=>if b<w.heap.size then G.ro b o else f b o,dim:=G.dim }
 have hlt: ∀b o v,G.ro b o=some v->b<w.heap.size:=fun b o v e=>by
  obtain⟨_,x,hx,_⟩:=wr.ro b o v e;exact World.block_lt_of_cell? w ⟨b,o,none⟩ hx
 have hle:G.le G':=⟨fun _ _ e=>e,fun b o v e=>by
  show(if b<w.heap.size then G.ro b o else f b o)=some v;rw[iP (hlt b o v e)];exact e,fun _ _ e=>e⟩
 have hro: ∀b o v,G'.ro b o=some v->(b<w.heap.size/\G.ro b o=some v)\/(¬b<w.heap.size/\f b o=some v):=fun b o v e=>by
  have e:(if b<w.heap.size then G.ro b o else f b o)=some v:=e;by_cases hb:b<w.heap.size;rw[iP hb] at e;exact .inl ⟨hb,e⟩;rw[iN hb] at e;exact .inr ⟨hb,e⟩
 refine⟨G',fun b o v e=>?_,hle,⟨?_,?_,?_,?_,?_,?_⟩,hle,bl.size,fun b hb _=>bl.block b hb,fun b _ o=>o,fun n a e e0=>(by have e:G.at_ n=some a:=e;rw[e] at e0;cases e0),?_,bl.os,bl.output,bl.size,fun a ha=>World.frozen?_of_block (bl.block _ ha),bl.tape,bl.drawn⟩;show(if b<w.heap.size then G.ro b o else f b o)=some v
 have:=(hf b o v e).1;rw[iN (by omega)];exact e;intro n o e;obtain⟨a,h1,h2,h3⟩:=wr.obj n o e;exact⟨a,h1,h2,(h3.of_block (bl.block _ (wr.below n a h1))).mono hle⟩;exact wr.sep;intro b o v e;rcases hro b o v e with⟨hb,e⟩|⟨hb,e⟩
 obtain⟨h1,x,h2,h3⟩:=wr.ro b o v e;exact⟨h1,x,(World.cell?_of_block (bl.block b hb)).trans h2,h3.mono hle⟩;obtain⟨_,h1,x,h2,h3⟩:=hf b o v e;exact⟨h1,x,h2,h3.mono hle⟩;intro n ob a i v e ea er;rcases hro _ _ _ er with⟨_,er⟩|⟨hb,_⟩
 exact wr.apart n ob a i v e ea er;exact absurd (wr.below n a ea) hb;intro b d e;obtain⟨C,el,h1,h2⟩:=wr.dim b d e;have hb:b<w.heap.size:=by
  rcases ix b w.heap.size with hb|hb
  exact hb;rw[yJ hb] at h1;cases h1
 exact⟨C,el,(bl.block b hb).trans h1,h2⟩;exact fun n a e=>Nat.lt_of_lt_of_le (wr.below n a e) bl.size;intro b o v hb e e0;rcases hro b o v e with⟨_,e⟩|⟨hb',_⟩
 rw[e] at e0;cases e0;exact absurd hb hb'
section
variable{α:Type}[Inhabited α]
def Ui(enc:α->Value)(off:Nat)(d:Array α)(C:Array Value):(putCells enc off d C).size=C.size:=by simp[putCells]
def amb(enc:α->Value)(off:Nat)(d:Array α)(C:Array Value){i:Nat}(hi:i<d.size)(hc:off+i<C.size):(putCells enc off d C)[off+i]? =some (enc d[i]!):=by
 simp[putCells,hc,hi]
def anT(enc:α->Value)(w:World)(blk off n:Nat)(d:Array α)(os:Array Go.Obj){C:Array Value}{e:TypeId}(hb:w.heap[blk]? =some (.cells C e (0,0)))(k:Nat)(hk:k<w.heap.size):
 (grow (putRow enc (Sort.ahead w n) blk off d) os).heap[k]? =if k=blk then some (.cells (putCells enc off d C) e (0,0)) else w.heap[k]? :=by
 rw[heap_grow_old _ _ (by simpa using hk)];by_cases h:k=blk;subst h;simp[putRow,mapBlock,Sort.ahead,HC,hb,onCells];have h': ¬blk=k:=fun e=>h e.symm;simp[putRow,mapBlock,Sort.ahead,HC,h,h']
def UC(wr:WR G h w){m:Nat}{a:Addr}{cs cs':List ae}(hl:h.get m=some (.cells cs))(ha:G.at_ m=some a)(enc:α->Value)(d:Array α)(n:Nat)(os:Array Go.Obj)(hd: ∀C e,w.heap[a.block]? =some (.cells C e (0,0))->a.off+d.size<=C.size)(hc: ∀(i:Nat) v,cs'[i]? =some v->i<d.size/\v.scal=true/\VR G v (enc d[i]!)):
 ∃G',WR G' (h.set m (some (.cells cs'))) (grow (putRow enc (Sort.ahead w n) a.block a.off d) os)/\cM G h w G' (h.set m (some (.cells cs'))) (grow (putRow enc (Sort.ahead w n) a.block a.off d) os) 0 0/\VR G' (.tup []) (.tuple #[]):=by
 obtain⟨b,hb,_,C,e,hC,hdim,_⟩:=wr.obj m _ hl;rw[ha] at hb;injection hb with hb;subst hb
 have hlt:=wr.below m a ha;have hdC:=hd C e hC;have hself:(dx w a.block (.cells (putCells enc a.off d C) e (0,0))).heap[a.block]? =some (.cells (putCells enc a.off d C) e (0,0)):=by rw[jb _ _ _ _ hlt,iP rfl]
 obtain⟨c1,c2⟩:=wr.changed (o':=.cells cs') (ob:=.cells (putCells enc a.off d C) e (0,0)) hl ha
  ⟨_,e,hself,by rw[Ui];exact hdim,fun i v hi=>by
    obtain⟨h1,h2,h3⟩:=hc i v hi;exact⟨h2,_,amb enc a.off d C h1 (by omega),h3⟩⟩
  (fun i v hv=>by
   have:=(wr.apart m _ a i v hl ha hv).1;cases this)
  (fun d' hd'=>by
   rw[hdim] at hd';injection hd' with hd'
   exact⟨_,e,rfl,by rw[Ui];exact hd'⟩)
  rfl
 have hst:Na (dx w a.block (.cells (putCells enc a.off d C) e (0,0))) (grow (putRow enc (Sort.ahead w n) a.block a.off d) os):=by
  refine⟨rfl,rfl,?_,fun k hk=>?_,rfl,?_⟩;rw[Ak];simp[grow];rw[Ak] at hk;rw[anT enc w a.block a.off n d os hC k hk,jb _ _ _ _ hlt];show w.drawn<=w.drawn+n;omega
 obtain⟨G',_,_,g3,g4⟩:=XA c1 hst (fun _ _=>none) (by intro b o v e;cases e);exact⟨G',g3,(c2 0 0).trans g4 (aU _) (aU _),.tup .nil⟩
end
def NX: ∀ {cs:List ae} {l:List ak},vR cs=some l->cs=l.map aF
 | [],l,h=>by
   simp only[vR,aP] at h;subst h;rfl
 |v::cs,l,h=>by
  unfold vR at h;split at h;rename_i e;cases e;rename_i a r e;injection e with e1 e2
  subst e1;subst e2;simp only[az,aP] at h;obtain⟨l,h1,rfl⟩:=h;rw[NX h1];rfl;cases h
def NV: ∀ {cs:List ae} {l:List (ak×ak)},uv cs=some l->cs=bB (l.map cg)
 | [],l,h=>by
   simp only[uv,aP] at h;subst h;rfl
 | [v],l,h=>by
   unfold uv at h;split at h;rename_i e;cases e;rename_i e;cases e;cases h
 |v::u::cs,l,h=>by
  unfold uv at h;split at h;rename_i e;cases e;rename_i a b r e;injection e with e1 e2
  injection e2 with e2 e3
  subst e1;subst e2;subst e3;simp only[az,aP] at h;obtain⟨l,h1,rfl⟩:=h;rw[NV h1];rfl;cases h
def Nx(f:FuncId)(sp:List ae->Option vP):Prop:=
 ∀args (G:Gh) (h:aZ bf) (w:World) (xs:List Value),WR G h w->bP G args xs->
  (sp args=some none->mh ar f ⟨xs⟩ w fun y w'=> ∃G',WR G' h w'/\cM G h w G' h w' 0 0/\VR G' (.tup []) y)/\
  ∀n g cs cs',sp args=some (some (n,g))->h.get n=some (.cells cs)->kP h.get (g cs)=some (.agg cs')->
   mh ar f ⟨xs⟩ w fun y w'=> ∃G',WR G' (h.set n (some (.cells cs'))) w'/\cM G h w G' (h.set n (some (.cells cs'))) w' 0 0/\VR G' (.tup []) y
def NU{sz m len lcap:Nat}{y:Value}(h:VR G (.arr sz m 0 len lcap) y): ∃(a b:Addr) (cap:Nat),y= .slice (some a) len cap/\G.at_ m=some b/\a.spot=none/\len<=cap/\(len=0\/(a.block=b.block/\a.off=b.off))/\(∃d,G.dim b.block=some d/\b.off+cap*sz<=d):=by
 cases h with
 |arr h1 h2 h3 h4 h5 h6 h7 h8=>
  rename_i a b cap d;refine⟨a,b,cap,rfl,h1,h2,by omega,?_,d,h7,by simpa using h8⟩;rcases h6 with h6|h6
  exact .inl (by omega);exact .inr (by simpa using h6)
def anQ:Nx 140 Az:=by
 intro args G h w xs wr hx;refine⟨fun hsp=>?_,fun n g cs cs' hsp hl hg=>?_⟩;unfold Az at hsp;split at hsp;cases hx with
 |cons p q=>
  cases q;cases p;refine .inr ⟨Go.Proofs.enters_of Tryz.func140 (by kernel_rfl) rfl _ _,(AnyM.slices_Sort_string_none Tryz.sort48 none 0 w).mono ?_⟩;rintro e w' ⟨rfl,rfl⟩;exact⟨_,rfl,G,wr,.refl,.tup .nil⟩
 cases hsp;cases hsp;unfold Az at hsp;split at hsp;cases hsp;rename_i m len lcap;simp only[aP,bj] at hsp;obtain⟨rfl,rfl⟩:=hsp;have hg:=Ul hg;obtain⟨hb,hg⟩:=bm hg;simp only[bA] at hb;have hlen:=iw hb.1;have hsm:=eG hb.2;simp only[az,aP] at hg;obtain⟨l,h1,rfl⟩:=hg;have hcs:=NX h1;subst hcs;rw[cZ] at hlen;cases hx with
 |cons p q=>
  cases q;obtain⟨a,b,cap,rfl,hat,hspot,hcap,hab,d,hdim,hd⟩:=NU p;obtain⟨b',hb',_,C,e,hC,hdimC,hcs⟩:=wr.obj m _ hl;rw[hat] at hb';injection hb' with hb';subst hb'
  rw[hdimC] at hdim;injection hdim with hdim
  have hCs: ∀i (hi:i<l.length),C[b.off+i]? =some (encStr l[i]):=fun i hi=>by
   obtain⟨_,x,hx1,hx2⟩:=hcs i (aF l[i]) (by rw[vG,gL hi];rfl);cases hx2;exact hx1
  have hsl:(eX l).length=l.length:=(lr l).length_eq;have hfin: ∀n os, ∃G',WR G' (h.set m (some (.cells ((eX l).map aF)))) (grow (putRow encStr (Sort.ahead w n) b.block b.off (eX l).toArray) os)/\cM G h w G' (h.set m (some (.cells ((eX l).map aF)))) (grow (putRow encStr (Sort.ahead w n) b.block b.off (eX l).toArray) os) 0 0/\VR G' (.tup []) (.tuple #[]):=fun n os=>by
   refine UC wr hl hat encStr (eX l).toArray n os (fun C' e' hC'=>?_) (fun i v hi=>?_);rw[hC] at hC';injection hC' with hC';injection hC' with hC' _ _;subst hC'
   rw[yS,hsl,hdim];omega;rw[vG,Option.map_eq_some_iff] at hi;obtain⟨s,hs,rfl⟩:=hi;obtain⟨hi,hs⟩:=List.getElem?_eq_some_iff.1 hs;refine⟨by simpa using hi,rfl,?_⟩;have:(eX l).toArray[i]! =s:=by simp[hi,hs]
   rw[this];exact .str s
  rcases hab with h0|⟨hab1,hab2⟩
  have hl0:l=[]:=ub (by omega);subst hl0;have h0':len=0:=h0;subst h0';refine .inr ⟨Go.Proofs.enters_of Tryz.func140 (by kernel_rfl) rfl _ _,(AnyM.slices_Sort_string_none Tryz.sort48 (some a) cap w).mono ?_⟩;rintro e' w' ⟨rfl,rfl⟩;obtain⟨G',g1,g2,g3⟩:=hfin 0 #[];have hw:grow (putRow encStr (Sort.ahead w' 0) b.block b.off (eX []).toArray) #[]=w':=by
   rw[Go.Sort.grow_empty,Go.Sort.ahead_zero];exact Go.Sort.putRow_self encStr w' b.block b.off _ (fun j hj=>by simp[eX] at hj)
  rw[hw] at g1 g2;exact⟨_,rfl,G',g1,g2,g3⟩;obtain⟨ab,ao,asp⟩:=a;simp only at hab1 hab2 hspot;subst hab1;subst hab2;subst hspot;have hH:Holds encStr w b.block b.off l.toArray:=fun j hj=>by
   have hj':j<l.length:=by simpa using hj
   refine⟨?_,by simp[World.frozen?,hC]⟩;rw[qc hC,hCs j hj'];simp[hj']
  have hbl:=wr.below m b hat;rw[<-hlen];refine .inr ⟨Go.Proofs.enters_of Tryz.func140 (by kernel_rfl) rfl _ _,(AnyM.slices_Sort_string Tryz.sort48 b.block b.off cap l w hH hbl (by omega)).mono ?_⟩;rintro e' w' ⟨rfl,n,os,rfl⟩;rw[Mh];obtain⟨G',g1,g2,g3⟩:=hfin n os;exact⟨_,rfl,G',g1,g2,g3⟩
 cases hsp
end Go.Proofs.YtnnppcoplinajaaGreat
namespace Go.Proofs.YtnnppcoplinajaaGreat
open Go.Ag
def bc(k:ak):List Obj->Option Obj
 | []=>none
 |o::l=>bif k==o.id then some o else bc k l
def iO{k:ak}: ∀ {l:List Obj} {q:Obj},bc k l=some q->q∈l/\q.id=k
 | [],_,h=>by cases h
 |o::r,q,h=>by
  simp only[bc] at h;cases hb:k==o.id with
  |true=>
   rw[hb] at h;injection h with h;subst h
   have:k=o.id:=by simpa using hb
   exact⟨by simp,this.symm⟩
  |false=>
   rw[hb] at h;obtain⟨h1,h2⟩:=iO h;exact⟨by simp[h1],h2⟩
def xX(p k:ak):c8 p k= !Ag.leBytes k p:=by
 rw[Ag.leBytes_iff,Go.Proofs.bytesLess_eq];by_cases h:k<=p;have h1: ¬p<k:=List.not_lt.2 h;simp[lk,h,h1];have h1:p<k:=List.not_le.1 h;simp[lk,h,h1]
variable{k:ak}
def R2(h:gj k=true):Ag.leBytes k []=false:=by
 cases k with
 |nil=>cases h
 |cons a k=>rfl
def ajU(h:gj k=true):(k== [])=false:=by
 cases k with
 |nil=>cases h
 |cons a k=>rfl
def VH: ∀(l:List be) (p:Option ak) (last:ak),(p=none/\last=[]\/p=some last)->j6 p l=true->m9 last l=true
 | [],_,_,_,_=>rfl
 |t::r,p,last,hp,h=>by
  simp only[j6] at h;cases hb:lA p t with
  |true=>rw[hb] at h;cases h
  |false=>
   rw[hb] at h;simp only[lA,kj,nh] at hb;obtain⟨⟨⟨h1,h2⟩,h3⟩,h4⟩:=hb;have h5:Ag.leBytes t.1 last=false:=by
    rcases hp with⟨rfl,rfl⟩|rfl
    exact R2 h1;simp only[mY,nh] at h4;rw[xX,qC] at h4;exact h4
   have h6:(t.2== [])=false:=by
    have: ¬t.2.length<1:=of_decide_eq_false h2;cases ht:t.2 with
    |nil=>rw[ht] at this;simp at this
    |cons _ _=>rfl
   simp only[m9,lX,h1,h5,h6,h3,dS,iR,cF];exact VH r (some t.1) t.1 (.inr rfl) h
def Uq(uP:Int): ∀(l:List ak) (p:Option ak) (last:ak) (seen:List ak),(p=none/\last=[]\/p=some last)->mZ uP p seen l=true->nk uP last seen l=false
 | [],_,_,_,_,_=>rfl
 |r::l,p,last,seen,hp,h=>by
  simp only[mZ] at h;cases hb:rf uP p seen r with
  |true=>rw[hb] at h;cases h
  |false=>
   rw[hb] at h;simp only[rf,kj,nh] at hb;obtain⟨⟨h1,h2⟩,h3⟩:=hb;have h4:(aK uP 2&&(r==last))=false:=by
    rcases hp with⟨rfl,rfl⟩|rfl
    rw[ajU h1,ki];have:yq (some last) r=(r==last):=by
     show(last==r)=(r==last);by_cases e:r=last;subst e;rfl;rw[bN.2 e,bN.2 (Ne.symm e)]
    rw[this] at h2;exact h2
   simp only[nk,wW,h1,h3,h4,dS,iR,jd];exact Uq uP l (some r) r (lH r seen) (.inr rfl) h
variable{o:Obj}
def Uo(h:mH o=true):ef o=true:=by
 simp only[mH,bA,qC] at h;obtain⟨⟨⟨⟨h1,h2⟩,h3⟩,h4⟩,h5⟩:=h;unfold iq at h4;cases h60:decide (60<o.gT.length) with
 |true=>rw[h60] at h4;cases h4
 |false=>
 rw[h60] at h4;have ht:cY o.gT=true:=by
  have: ¬60<o.gT.length:=of_decide_eq_false h60;simp only[cY,VH o.gT none [] (.inl ⟨rfl,rfl⟩) h4,jD];exact dQ (by omega)
 unfold rh at h5;cases h20:decide (2000<o.gE.length) with
 |true=>rw[h20] at h5;cases h5
 |false=>
 rw[h20] at h5;cases hr:mZ o.uP none [] o.gE with
 |false=>rw[hr] at h5;cases h5
 |true=>
 rw[hr] at h5;simp only[cz] at h5;have hw:=Uq o.uP o.gE none [] [] (.inl ⟨rfl,rfl⟩) hr;have hleast:decide (o.gE.length<qn o.uP)=false:=by
  apply dN;unfold qn;unfold rS at h5;cases k1:aK o.uP 1 with
  |true=>
   have e:o.uP=1:=by simpa[aK] using k1
   rw[e];exact Nat.not_lt_zero _
  |false=>
  rw[k1] at h5;cases k2:aK o.uP 2 with
  |true=>rw[k2] at h5;simp only[cz,dE] at h5 ⊢;omega
  |false=>
  rw[k2] at h5;cases k3:aK o.uP 3 with
  |true=>rw[k3] at h5;simp only[cz,dE] at h5 ⊢;omega
  |false=>
  rw[k3] at h5;cases k4:aK o.uP 4 with
  |true=>rw[k4] at h5;simp only[cz,dE] at h5 ⊢;omega
  |false=>
  rw[k4] at h5;simp only[cF,bE] at h5;cases aK o.uP 5<;>simp only[cz]<;>omega
 have hh:kI o=false:=by simp only[kI,h2,h1,ht,hleast,h20,dS,iR]
 unfold ef;rw[hh,hw];simp only[cF];unfold xw at h3;unfold rS at h5;cases k1:aK o.uP 1 with
 |true=>
  rw[k1] at h3 h5;simp only[cT] at h3 h5 ⊢;rw[h5,h3];rfl
 |false=>
  rw[k1] at h3 h5;simp only[cF] at h3 h5 ⊢;cases k5:aK o.uP 5 with
  |false=>simp only[cF];exact h3
  |true=>
   have e:o.uP=5:=by simpa[aK] using k5
   rw[e] at h5;have h5:(o.gE.length==3)=true:=h5;simp only[cT,h5,h3,cH]
def Tp: ∀(l:List Obj) (p:Option ak) (last:ak),(p=none/\last=[]\/p=some last)->rg p l=true->mX last l=true
 | [],_,_,_,_=>rfl
 |o::r,p,last,hp,h=>by
  simp only[rg] at h;cases hb:tH p o with
  |true=>rw[hb] at h;cases h
  |false=>
   rw[hb] at h;simp only[tH,kj,nh] at hb;obtain⟨h1,h4⟩:=hb;have hn:gj o.id=true:=by
    simp only[mH,bA] at h1;exact h1.1.1.1.1
   have h5:Ag.leBytes o.id last=false:=by
    rcases hp with⟨rfl,rfl⟩|rfl
    exact R2 hn;simp only[mY,nh] at h4;rw[xX,qC] at h4;exact h4
   simp only[mX,Uo h1,h5,dS,iR,cF];exact Tp r (some o.id) o.id (.inr rfl) h
variable{l:List Obj}
def amF(h:sO l=true):gU l=true:=by
 unfold sO at h;cases hl:decide (1000000<l.length) with
 |true=>rw[hl] at h;cases h
 |false=>
  rw[hl] at h;have: ¬1000000<l.length:=of_decide_eq_false hl;simp only[gU,Tp l none [] (.inl ⟨rfl,rfl⟩) h,jD];exact dQ (by omega)
def PX: ∀(l:List Obj) (last:ak),mX last l=true->(∀k∈l.map (·.id),c8 last k=true)/\(l.map (·.id)).Pairwise (fun a b=>c8 a b=true)
 | [],_,_=>⟨fun k h=>(by cases h),List.Pairwise.nil⟩
 |o::r,last,h=>by
  simp only[mX] at h;cases hb:(!ef o||Ag.leBytes o.id last) with
  |true=>rw[hb] at h;cases h
  |false=>
   rw[hb] at h;simp only[kj] at hb;obtain⟨h1,h2⟩:=PX r o.id h;have h3:c8 last o.id=true:=by rw[xX,hb.2];rfl
   refine⟨fun k hk=>?_,iT.2 ⟨h1,h2⟩⟩;rcases cQ.1 hk with rfl|hk
   exact h3;have h4:=h1 k hk;rw[Go.Proofs.bytesLess_eq,dE] at h3 h4 ⊢;exact List.lt_trans h3 h4
def zL(k:ak):c8 k k=false:=by
 rw[Go.Proofs.bytesLess_eq];exact dN (List.lt_irrefl k)
def JQ(h:gU l=true):(l.map (·.id)).Nodup:=by
 simp only[gU,bA] at h;refine(PX l [] h.1).2.imp fun hab e=>?_;subst e;rw[zL] at hab;cases hab
def yf:bc k l≠none↔k∈l.map (·.id):=by
 constructor;intro h;cases e:bc k l with
 |none=>exact absurd e h
 |some q=>
  obtain⟨h1,h2⟩:=iO e;exact dp.2 ⟨q,h1,h2⟩
 intro h
 induction l with
 |nil=>cases h
 |cons o r ih=>
  simp only[bc];cases hb:k==o.id with
  |true=>simp
  |false=>
   have hne:k≠o.id:=by simpa using hb
   simp only[dG,cQ] at h;exact ih (h.resolve_left hne)
def uJ{g:ae->Option ae}: ∀ {l:List ae},(∀v∈l,g v=some v)->de g l=some l
 | [],_=>rfl
 |v::l,h=>by
  have ih:=uJ (g:=g) (l:=l) fun u hu=>h u (by simp[hu]);simp only[de,h v (by simp),ih,bn]
def Jw(h:aZ bf){k n:Nat}{xs:List ae}{r:fu}(hp:aQ (.list n xs r)=true)(hx: ∀v∈xs,cj h k v=some v):cj h (k+1) (.list n xs r)=some (.list n xs r):=by
 simp only[cj,uJ hx,bn];cases r with
 |own m=>simp[aQ] at hp
 |_=>rfl
def DF(h:aZ bf)(ho:o.Al)(k:Nat):cj h (k+4) o.val=some o.val:=by
 have hr:cj h (k+3) o.refsV=some o.refsV:=by
  have hp:=ho.pr;rcases ho.gE with⟨e,_⟩|⟨r,e⟩
  rw[e];rfl;rw[e] at hp ⊢;refine Jw h hp fun v hv=>?_;obtain⟨s,_,rfl⟩:=dp.1 hv;rfl
 have ht:cj h (k+3) o.tagsV=some o.tagsV:=by
  have hp:=ho.pt;rcases ho.gT with⟨e,_⟩|⟨r,e⟩
  rw[e];rfl;rw[e] at hp ⊢;refine Jw h hp fun v hv=>?_;obtain⟨s,_,rfl⟩:=dp.1 hv;rfl
 show(de (cj h (k+3)) o.cells).bind (fun r=>some (ae.agg r))=_;rw[uJ (l:=o.cells) fun v hv=>?_];rfl;simp only[Obj.cells,cQ,List.not_mem_nil,or_false] at hv;rcases hv with rfl|rfl|rfl|rfl|rfl|rfl
 rfl;rfl;rfl;rfl;exact hr;exact ht
def FZ(l:List ak):aD 1 aF (BU (l.map aF)) l:=by
 cases l with
 |nil=>exact .inl ⟨rfl,rfl⟩
 |cons a l=>exact .inr ⟨.no,rfl⟩
def fan{B:Nat}(_hB:0<B)(p:(Nat->Nat)->Nat->Prop)(mono: ∀ch n m,n<=m->p ch n->p ch m)(loc: ∀ch n,p ch n-> ∃k, ∀ch',(∀i,i<k->ch' i=ch i)->p ch' n)(all: ∀ch,(∀i,ch i<B)-> ∃n,p ch n): ∃N, ∀ch,(∀i,ch i<B)->p ch N:=by
 classical
 let Al:List Nat->Prop:=fun l=> ∃N, ∀ch:Nat->Nat,(∀i,ch i<B)->(∀i x,l[i]? =some x->ch i=x)->p ch N
 have step: ∀l, ¬Al l-> ∃c,c<B/\ ¬Al (l++[c]):=by
  intro l hl;refine l9 fun hc=>hl ?_;have hc: ∀c,c<B->Al (l++[c]):=fun c h=>l9 fun h'=>hc ⟨c,h,h'⟩;have hall: ∀m,m<=B-> ∃N, ∀c,c<m-> ∀ch:Nat->Nat,(∀i,ch i<B)->(∀i x,(l++[c])[i]? =some x->ch i=x)->p ch N:=by
   intro m
   induction m with
   |zero=>exact fun _=>⟨0,fun c h=>by omega⟩
   |succ m ih=>
    intro hm;obtain⟨N1,h1⟩:=ih (by omega);obtain⟨N2,h2⟩:=hc m (by omega);refine⟨max N1 N2,fun c hcm ch a b=>?_⟩;by_cases h:c<m;exact mono _ _ _ (Nat.le_max_left _ _) (h1 c h ch a b);have:c=m:=by omega
    subst this;exact mono _ _ _ (Nat.le_max_right _ _) (h2 ch a b)
  obtain⟨N,hN⟩:=hall B (aU _);refine⟨N,fun ch a b=>hN (ch l.length) (a _) ch a fun i x hx=>?_⟩;rcases ix i l.length with h|h
  rw[rA h] at hx;exact b i x hx;rw[sW h] at hx;cases hi:i-l.length with
  |zero=>
   rw[hi] at hx;simp only[jN,aP] at hx;have:i=l.length:=by omega
   rw[this,hx]
  |succ j=>rw[hi] at hx;simp at hx
 refine l9 fun hbad=>?_;have h0: ¬Al []:=fun⟨N,hN⟩=>hbad ⟨N,fun ch a=>hN ch a fun i x hx=>by simp at hx⟩
 let pre:Nat-> {l:List Nat // ¬Al l}:=fun n=>Nat.rec ⟨[],h0⟩ (fun _ q=>⟨q.1++[(step q.1 q.2).choose],(step q.1 q.2).choose_spec.2⟩) n
 have hlen: ∀n,(pre n).1.length=n:=by
  intro n
  induction n with
  |zero=>rfl
  |succ n ih=>
   show((pre n).1++[_]).length=_;rw[dX,ih];rfl
 let ch:Nat->Nat:=fun n=>(step (pre n).1 (pre n).2).choose
 have hch: ∀n,ch n<B:=fun n=>(step (pre n).1 (pre n).2).choose_spec.1;have hget: ∀n i,i<n->(pre n).1[i]? =some (ch i):=by
  intro n
  induction n with
  |zero=>intro i h;omega
  |succ n ih=>
   intro i h;show((pre n).1++[ch n])[i]? =_;rcases ix i n with h2|h2
   rw[rA (by rw[hlen];exact h2)];exact ih i h2;have:i=n:=by omega
   subst this;rw[sW (by rw[hlen];exact aU _),hlen];simp
 obtain⟨n,hn⟩:=all ch hch;obtain⟨k,hk⟩:=loc ch n hn;exact(pre k).2 ⟨n,fun ch' _ b=>hk ch' fun i hi=>b i _ (hget k i hi)⟩
def Yy(P:Program)(t:TypeId)(a b:List UInt8):d8 P .gtr t (.str a) (.str b)=some (.bool (!Ag.leBytes a b)):=rfl
def ahY(a b:ak):(!Ag.leBytes a b)=c8 b a:=(xX b a).symm
def zW:Sp
 | [.int .i64 _a]=>some (.bool false)
 |_=>none
variable{sp:bC}
def ajX(h0:sp 328=none)(a:Int)(s:St):aM (QS sp) 328 [.int .i64 a] s (.bool false) s:=by
 refine dz Fc.1 Fc.2 Fc.3 Fc.4 h0 ?_;refine aw ?_;simp only[ai,bv,bt,ah,aV];refine aw ?_;simp only[ai,aa,ah,qQ];exact bo ⟨rfl,.inr rfl,bz (by simp only[aq,aa, *]) rfl⟩
def ajW:cq ar 328 zW:=by
 intro args x hv G h w xs wr hx;unfold zW at hv;split at hv;rename_i a;injection hv with hv;subst hv
 exact eA (Q:=QT []) (ep .nil) (fun _=>eH 1) (args:=[.int .i64 a]) (v:=.bool false) (s':=s0) rfl (ajX (sp:=fun f=>cI f []) rfl a s0) rfl ⟨1,rfl⟩ G h w xs wr hx;cases hv
def gp(a b:Int):Int:=bif bG a b then-1 else bif bG b a then 1 else 0
def rQ:Sp
 | [.int .i64 a,.int .i64 b]=>some (.int .i64 (gp a b))
 |_=>none
def Zy(h0:sp 232=none)(h1:sp 328=some zW)(a b:Int)(s:St):aM (QS sp) 232 [.int .i64 a,.int .i64 b] s (.int .i64 (gp a b)) s:=by
 have ha:zW [.int .i64 a]=some (.bool false):=rfl;have hb:zW [.int .i64 b]=some (.bool false):=rfl;refine dz EO.1 EO.2 EO.3 EO.4 h0 ?_;refine aw ?_;simp only[ai,bv,bt,ah,aG,aV];refine aw ?_;simp only[ai,aa,ah,h1,ha];refine aw ?_;simp only[ai,aa,ah,h1,hb];refine aC (aw ?_);simp only[ai,aa,ah];refine dq ?_;simp only[bM];refine aC (aw ?_);simp only[ai,aa,ah];refine dq ?_;simp only[bM];refine aC (aw ?_);simp only[ai,aa,ah];cases h2:bG a b with
 |true=>
  refine bU (aw ?_);simp only[cG,hQ,ah];exact bo ⟨rfl,.inr rfl,bz (by simp only[aq,aa,gp,h2]) rfl⟩
 |false=>
  refine dq ?_;simp only[bM];refine aC (aw ?_);simp only[ai,aa,ah];cases h3:bG b a with
  |true=>
   refine bU (aw ?_);simp only[cG,hQ,ah];exact bo ⟨rfl,.inr rfl,bz (by simp only[aq,aa,gp,h2,h3]) rfl⟩
  |false=>
   refine dq ?_;simp only[bM];refine aw ?_;simp only[cG,hQ,ah];exact bo ⟨rfl,.inr rfl,bz (by simp only[aq,aa,gp,h2,h3]) rfl⟩
def Ia:du:=[(328,zW)]
def Xq:dc Ia:=.cons ajW .nil
def Oz:cq ar 232 rQ:=by
 intro args x hv G h w xs wr hx;unfold rQ at hv;split at hv;rename_i a b;injection hv with hv;subst hv
 exact eA (Q:=QT Ia) (ep Xq) (fun _=>eH 1) (args:=[.int .i64 a,.int .i64 b]) (v:=.int .i64 (gp a b)) (s':=s0) rfl (Zy (sp:=fun f=>cI f Ia) rfl rfl a b s0) rfl ⟨1,rfl⟩ G h w xs wr hx;cases hv
def zX:Sp
 | [.str _a]=>some (.bool false)
 |_=>none
def ajZ(h0:sp 325=none)(a:ak)(s:St):aM (QS sp) 325 [.str a] s (.bool false) s:=by
 refine dz Fb.1 Fb.2 Fb.3 Fb.4 h0 ?_;refine aw ?_;simp only[ai,bv,bt,ah,aV];refine aw ?_;simp only[ai,aa,ah];exact bo ⟨rfl,.inr rfl,bz (by simp only[aq,aa, *]) rfl⟩
def ajY:cq ar 325 zX:=by
 intro args x hv G h w xs wr hx;unfold zX at hv;split at hv;rename_i a;injection hv with hv;subst hv
 exact eA (Q:=QT []) (ep .nil) (fun _=>eH 1) (args:=[.str a]) (v:=.bool false) (s':=s0) rfl (ajZ (sp:=fun f=>cI f []) rfl a s0) rfl ⟨1,rfl⟩ G h w xs wr hx;cases hv
def kG(a b:ak):Int:=bif c8 a b then-1 else bif c8 b a then 1 else 0
def zh:Sp
 | [.str a,.str b]=>some (.int .i64 (kG a b))
 |_=>none
def ZE(h0:sp 228=none)(h1:sp 325=some zX)(a b:ak)(s:St):aM (QS sp) 228 [.str a,.str b] s (.int .i64 (kG a b)) s:=by
 have ha:zX [.str a]=some (.bool false):=rfl;have hb:zX [.str b]=some (.bool false):=rfl;refine dz EN.1 EN.2 EN.3 EN.4 h0 ?_;refine aw ?_;simp only[ai,bv,bt,ah,aG,aV];refine aw ?_;simp only[ai,aa,ah,h1,ha];refine aw ?_;simp only[ai,aa,ah,h1,hb];refine aC (aw ?_);simp only[ai,aa,ah];refine dq ?_;simp only[bM];refine aC (aw ?_);simp only[ai,aa,ah];refine dq ?_;simp only[bM];refine aC (aw ?_);simp only[ai,aa,ah];cases h2:c8 a b with
 |true=>
  refine bU (aw ?_);simp only[cG,hQ,ah];exact bo ⟨rfl,.inr rfl,bz (by simp only[aq,aa,kG,h2]) rfl⟩
 |false=>
  refine dq ?_;simp only[bM];refine aC (aw ?_);simp only[ai,aa,ah,Yy,ahY];cases h3:c8 b a with
  |true=>
   refine bU (aw ?_);simp only[cG,hQ,ah];exact bo ⟨rfl,.inr rfl,bz (by simp only[aq,aa,kG,h2,h3]) rfl⟩
  |false=>
   refine dq ?_;simp only[bM];refine aw ?_;simp only[cG,hQ,ah];exact bo ⟨rfl,.inr rfl,bz (by simp only[aq,aa,kG,h2,h3]) rfl⟩
def Ie:du:=[(325,zX)]
def Xt:dc Ie:=.cons ajY .nil
def ZB:cq ar 228 zh:=by
 intro args x hv G h w xs wr hx;unfold zh at hv;split at hv;rename_i a b;injection hv with hv;subst hv
 exact eA (Q:=QT Ie) (ep Xt) (fun _=>eH 1) (args:=[.str a,.str b]) (v:=.int .i64 (kG a b)) (s':=s0) rfl (ZE (sp:=fun f=>cI f Ie) rfl rfl a b s0) rfl ⟨1,rfl⟩ G h w xs wr hx;cases hv
def gu(n:Int):ae:=.int .i64 n
def asInt:ae->Option Int
 | .int .i64 n=>some n
 |_=>none
variable{v:ae}
def XQ{n:Int}(h:asInt v=some n):v=gu n:=by
 unfold asInt at h;split at h;injection h with h;subst h;rfl
 cases h
def ff(p:Int×Int):ae:=.agg [.int .i64 p.1,.int .i64 p.2]
def uw:ae->Option (Int×Int)
 | .agg [.int .i64 a,.int .i64 b]=>some (a,b)
 |_=>none
def xt{p:Int×Int}(h:uw v=some p):v=ff p:=by
 unfold uw at h;split at h;injection h with h;subst h;rfl
 cases h
def qv:List Int->Int
 | []=>0
 |x::l=>bif aK x 0 then qv l else x
variable{l:List Int}{s:St}
def alm(hl:aD 1 gu v l)(hsmall:l.length<small){lc:Ag.Loc}: ∀(rest pre:List Int) (e:aI),l=pre++rest->
 aj e 3= .int .i64 0->aj e 6=v->aj e 7= .int .i64 (l.length:Nat)->aj e 8= .int .i64 (pre.length:Nat)->
 W (QS sp) 108 (.loop aef) ⟨e,18,lc⟩ s fun x fr s'=>s'=s/\fr.size=18/\((x= .exit 0/\qv rest=0/\aj fr.env 3= .int .i64 0)\/(x= .ret/\aj fr.env 2= .int .i64 (qv rest))):=by
 intro rest;have hcl:=hl.aL;have hsm:=fg
 induction rest with
 |nil=>
  intro pre e hpre h3 h6 h7 h8;have hl':l.length=pre.length:=by rw[hpre];simp
  refine bV ?_;refine aw ?_;simp only[ai,ah,h7,h8,hl',cR];refine aC (cJ ?_);exact dL ⟨rfl,rfl,.inl ⟨rfl,rfl,by simp only[au,aa, *]⟩⟩
 |cons a rest ih=>
  intro pre e hpre h3 h6 h7 h8;have hlt:pre.length<l.length:=by rw[hpre];simp
  have hat:l[pre.length]? =some a:=by rw[hpre];simp
  have hia:=fun lc=>hl.at BC hat lc .i64;have hwr:=eE (n:=pre.length) (by omega);refine bV ?_;refine aw ?_;simp only[ai,ah,h7,h8,hlt];refine aC (bU (cL ?_));simp only[bM];refine aC (bL (aw ?_));simp only[ai,ax,ay,aa,ah,h6,h8,hia,gu];refine aw ?_;simp only[ai,aa,ah,h3];cases hz:aK a 0 with
  |false=>
   refine dJ (t:=true) (by simp only[aq,bq,aa,fy]) (aw ?_);simp only[ai,aa,ah];exact bo ⟨rfl,rfl,.inr ⟨rfl,by simp only[aq,aa,qv,hz]⟩⟩
  |true=>
   refine dJ (t:=false) (by simp only[aq,bq,aa,dS]) (cL ?_);simp only[dA];refine bH ?_;simp only[ai,aA,aa,ah,h8,hwr];refine(ih (pre++[a]) _ (by rw[hpre];simp) (by simp only[au,aa, *]) (by simp only[au,aa, *]) (by simp only[au,aa, *]) (by simp only[aq,cK,aa])).mono ?_;simp only[qv,hz,cT];exact fun _ _ _ h=>h
def aln(h0:sp 108=none)(hl:aD 1 gu v l)(hsmall:l.length<small)(s:St):aM (QS sp) 108 [v] s (.int .i64 (qv l)) s:=by
 have hlen:=fun mk s=>hl.len ah8 ah7 mk s;have hcl:=hl.aL;refine dz D1.1 D1.2 D1.3 D1.4 h0 ?_;refine aw ?_;simp only[ai,bv,bt,ah,aV];refine aw ?_;simp only[cG,hQ,ah];refine aC (aw ?_);simp only[ai,aa,ah,ac8,hcl,hlen];refine bL ?_;refine(alm hl hsmall l [] _ rfl (by simp only[aq,aa, *]) (by simp only[aq,aa, *]) (by simp only[aq,aa, *]) (by simp only[aq,aa];rfl)).mono ?_;rintro x ⟨e,sz,lc⟩ s' ⟨rfl,hs,⟨rfl,hok,h3⟩|⟨rfl,h2⟩⟩;have hs:sz=18:=hs;subst hs;have h3:aj e 3= .int .i64 0:=h3;show W (QS sp) 108 _ _ _ _;refine aw ?_;simp only[ai,ah,h3];exact bo ⟨rfl,.inr rfl,bz (by simp only[aq,aa,hok]) rfl⟩;exact⟨rfl,.inr rfl,bz h2 rfl⟩
def sJ:Sp
 | [a]=>bif pures [a] then(fF 1 asInt a).bind fun l=>bif bk l.length small then some (.int .i64 (qv l)) else none else none
 |_=>none
def TP:cq ar 108 sJ:=by
 intro args x hv G h w xs wr hx;unfold sJ at hv;split at hv;rename_i a;obtain⟨hp,hv⟩:=bm hv;simp only[az] at hv;obtain⟨l,h1,hv⟩:=hv;obtain⟨hs,hv⟩:=bm hv;injection hv with hv;subst hv
 have hl:=ij (fun v a=>XQ) h1;exact eA (Q:=QT []) (ep .nil) (fun _=>eH 1) (args:=[a]) (v:=.int .i64 (qv l)) (s':=s0) (kh hp) (by rw[gK hp];exact aln (sp:=fun f=>cI f []) rfl hl (eG hs) s0) rfl ⟨1,rfl⟩ G h w xs wr hx;cases hv
def uI:List (Int×Int)->Int
 | []=>0
 |p::l=>bif aK (gp p.1 p.2) 0 then uI l else gp p.1 p.2
variable{l:List (Int×Int)}
def abM(h122:sp 232=some rQ)(hl:aD 2 ff v l)(hsmall:l.length<small): ∀(rest pre:List (Int×Int)) (e:aI) (lc:Ag.Loc),l=pre++rest->
 aj e 6=v->aj e 7= .int .i64 (l.length:Nat)->aj e 8= .int .i64 (pre.length:Nat)->
 W (QS sp) 462 (.loop agT) ⟨e,21,lc⟩ s fun x fr s'=>s'=s/\fr.size=21/\((x= .exit 0/\uI rest=0)\/(x= .ret/\aj fr.env 2= .int .i64 (uI rest))):=by
 intro rest;have hcl:=hl.aL;have hsm:=fg
 induction rest with
 |nil=>
  intro pre e lc hpre h6 h7 h8;have hl':l.length=pre.length:=by rw[hpre];simp
  refine bV ?_;refine aw ?_;simp only[ai,ah,h7,h8,hl',cR];refine aC (cJ ?_);exact dL ⟨rfl,rfl,.inl ⟨rfl,rfl⟩⟩
 |cons a rest ih=>
  intro pre e lc hpre h6 h7 h8;have hlt:pre.length<l.length:=by rw[hpre];simp
  have hat:l[pre.length]? =some a:=by rw[hpre];simp
  have hia:=fun lc=>hl.at adC hat lc .i64;have hsp:rQ [.int .i64 a.1,.int .i64 a.2]=some (.int .i64 (gp a.1 a.2)):=rfl;have hwr:=eE (n:=pre.length) (by omega);have n0: ∀k,eK (.int k 0)=some 0:=fun _=>rfl;have n1: ∀k,eK (.int k 1)=some 1:=fun _=>rfl;refine bV ?_;refine aw ?_;simp only[ai,ah,h7,h8,hlt];refine aC (bU (cL ?_));simp only[bM];refine aC (bL (aw ?_));simp only[ai,ax,cut,bu,aN,ay,aa,ah,aG,aV,PP,h6,h8,hia,ff];refine aw ?_;simp only[ai,ax,ay,aa,ah,jg,n0,n1,h122,hsp];refine aw ?_;simp only[ai,aa,ah];cases hz:aK (gp a.1 a.2) 0 with
  |false=>
   refine dJ (t:=true) (by simp only[aq,bq,aa,fy]) (aw ?_);simp only[ai,aa,ah];exact bo ⟨rfl,rfl,.inr ⟨rfl,by simp only[aq,aa,uI,hz]⟩⟩
  |true=>
   refine dJ (t:=false) (by simp only[aq,bq,aa,dS]) (cL ?_);simp only[dA];refine bH ?_;simp only[ai,aA,aa,ah,h8,hwr];refine(ih (pre++[a]) _ _ (by rw[hpre];simp) (by simp only[au,aa, *]) (by simp only[au,aa, *]) (by simp only[aq,cK,aa])).mono ?_;simp only[uI,hz,cT];exact fun _ _ _ h=>h
def abN(h0:sp 462=none)(h122:sp 232=some rQ)(hl:aD 2 ff v l)(hsmall:l.length<small)(s:St):aM (QS sp) 462 [v] s (.int .i64 (uI l)) s:=by
 have hlen:=fun mk s=>hl.len aid aic mk s;have hcl:=hl.aL;refine dz FE.1 FE.2 FE.3 FE.4 h0 ?_;refine aw ?_;simp only[ai,bv,bt,ah,aV];refine aC (aw ?_);simp only[ai,aa,ah,PP,hcl,hlen];refine bL ?_;refine(abM h122 hl hsmall l [] _ _ rfl (by simp only[aq,aa, *]) (by simp only[aq,aa, *]) (by simp only[aq,aa];rfl)).mono ?_;rintro x ⟨e,sz,lc⟩ s' ⟨rfl,hs,⟨rfl,hok⟩|⟨rfl,h2⟩⟩;have hs:sz=21:=hs;subst hs;show W (QS sp) 462 _ _ _ _;refine aw ?_;simp only[cG,hQ,ah];exact bo ⟨rfl,.inr rfl,bz (by simp only[ik,aa,hok]) rfl⟩;exact⟨rfl,.inr rfl,bz h2 rfl⟩
def Br:Sp
 | [a]=>bif pures [a] then(fF 2 uw a).bind fun l=>bif bk l.length small then some (.int .i64 (uI l)) else none else none
 |_=>none
def Ic:du:=[(232,rQ)]
def Xs:dc Ic:=.cons Oz .nil
def abL:cq ar 462 Br:=by
 intro args x hv G h w xs wr hx;unfold Br at hv;split at hv;rename_i a;obtain⟨hp,hv⟩:=bm hv;simp only[az] at hv;obtain⟨l,h1,hv⟩:=hv;obtain⟨hs,hv⟩:=bm hv;injection hv with hv;subst hv
 have hl:=ij (fun v a=>xt) h1;exact eA (Q:=QT Ic) (ep Xs) (fun _=>eH 1) (args:=[a]) (v:=.int .i64 (uI l)) (s':=s0) (kh hp) (by rw[gK hp];exact abN (sp:=fun f=>cI f Ic) rfl rfl hl (eG hs) s0) rfl ⟨1,rfl⟩ G h w xs wr hx;cases hv
def oS(a b:Int×Int):Int:=uI [(a.1,b.1),(a.2,b.2)]
def Ys{e:aI}{x y:Operand}{a b c d:ae}(hx:ev e x=some (.agg [a,b]))(hy:ev e y=some (.agg [c,d]))(s:St):cx ar 535 2 [(0,x),(1,y)] false e s=some (.list 2 [.agg [a,b],.agg [c,d]] .GE,s):=by
 simp only[ce,jR,cx,Z7,cS,evc,hx,hy,nP,eW,kQ,bu,kR,aG,jg,fW,cut];rfl
def al0(h0:sp 379=none)(h184:sp 462=some Br)(a b:Int×Int)(s:St):aM (QS sp) 379 [ff a,ff b] s (.int .i64 (oS a b)) s:=by
 have hbs: ∀e s,aj e 9= .agg [.int .i64 a.1,.int .i64 b.1]->aj e 14= .agg [.int .i64 a.2,.int .i64 b.2]->cx ar 535 2 [(0,.tmp 9),(1,.tmp 14)] false e s=some (.list 2 [.agg [.int .i64 a.1,.int .i64 b.1],.agg [.int .i64 a.2,.int .i64 b.2]] .GE,s):=fun e s p q=>Ys (by rw[bq,p]) (by rw[bq,q]) s;have hsp:Br [.list 2 [.agg [.int .i64 a.1,.int .i64 b.1],.agg [.int .i64 a.2,.int .i64 b.2]] .GE]=some (.int .i64 (oS a b)):=rfl;refine dz Fo.1 Fo.2 Fo.3 Fo.4 h0 ?_;refine aw ?_;simp only[ai,bv,bt,aa,ah,aG,aV,PO,ff];refine aw ?_;simp only[ai,ax,bu,aN,ay,aa,ah,aG,jg,aV,PO,cS,hbs,h184,hsp];exact bo ⟨rfl,.inr rfl,bz (by simp only[aq,aa, *]) rfl⟩
def tM:Sp
 | [a,b]=>(uw a).bind fun p=>(uw b).bind fun q=>some (.int .i64 (oS p q))
 |_=>none
def H9:du:=[(462,Br)]
def Xp:dc H9:=.cons abL .nil
def T8:cq ar 379 tM:=by
 intro args x hv G h w xs wr hx;unfold tM at hv;split at hv;simp only[az,aP] at hv;obtain⟨p,h1,q,h2,rfl⟩:=hv;have h1:=xt h1;have h2:=xt h2;subst h1;subst h2;exact eA (Q:=QT H9) (ep Xp) (fun _=>eH 1) (args:=[ff p,ff q]) (v:=.int .i64 (oS p q)) (s':=s0) rfl (al0 (sp:=fun f=>cI f H9) rfl rfl p q s0) rfl ⟨1,rfl⟩ G h w xs wr hx;cases hv
end Go.Proofs.YtnnppcoplinajaaGreat
namespace Go.Proofs.YtnnppcoplinajaaGreat
open Go.Ag
open Go.Sort (putRow grow Holds SWO HoldsK putRowK flatK get_flatK size_flatK)
variable{sp:bC}
def ZJ(h0:sp 194=none)(h83:sp 287=some oU)(a b:ak)(s:St):aM (QS sp) 194 [.str a,.str b] s (.int .i64 (dv a b)) s:=by
 have hsp:oU [.str a,.str b]=some (.int .i64 (dv a b)):=rfl;refine dz Ez.1 Ez.2 Ez.3 Ez.4 h0 ?_;refine aw ?_;simp only[ai,bv,bt,ah,aG,aV];refine aw ?_;simp only[ai,aa,ah,h83,hsp];exact bo ⟨rfl,.inr rfl,bz (by simp only[aq,aa, *]) rfl⟩
def ZI(h32:sp 109=none)(h0:sp 194=none)(h83:sp 287=some oU)(a b:ak)(s:St):aM (QS sp) 109 [.str a,.str b] s (.int .i64 (dv a b)) s:=by
 refine dz D2.1 D2.2 D2.3 D2.4 h32 ?_;refine aw ?_;simp only[ai,bv,bt,ah,aG,aV];refine aC (fU (fM 2 ?_));simp only[ai,aN,ay,aa,ah];refine fO (g:=194) (args:=[.str a,.str b]) ?_ (ZJ h0 h83 a b s) (by decide) ?_;simp only[ai,callee,aa];refine fN ?_;simp only[ai,aA,aa,ah];exact bo ⟨rfl,.inr rfl,bz (by simp only[aq,aa, *]) rfl⟩
def Ii:du:=[(287,oU)]
def Xw:dc Ii:=.cons IL .nil
def ZH:cq ar 109 oU:=by
 intro args x hv G h w xs wr hx;unfold oU at hv;split at hv;rename_i a b;injection hv with hv;subst hv
 exact eA (Q:=QT Ii) (ep Xw) (fun _=>eH 1) (args:=[.str a,.str b]) (v:=.int .i64 (dv a b)) (s':=s0) rfl (ZI (sp:=fun f=>cI f Ii) rfl rfl rfl a b s0) rfl ⟨1,rfl⟩ G h w xs wr hx;cases hv
def alk(x y:Int):qv [x,y]=bif aK x 0 then y else x:=by
 simp only[qv];cases h:aK y 0 with
 |true=>
  have:y=0:=by simpa[aK] using h
  subst this;cases aK x 0<;>rfl
 |false=>cases aK x 0<;>rfl
def Yv{e:aI}{x y:Operand}{a b:Int}(hx:ev e x=some (.int .i64 a))(hy:ev e y=some (.int .i64 b))(s:St):cx ar 26 2 [(0,x),(1,y)] false e s=some (.list 1 [.int .i64 a,.int .i64 b] .GE,s):=by
 simp only[ce,jR,cx,IV,cS,evc,hx,hy,nP,eW,kQ,bu,kR,aG,jg,fW,cut];rfl
def Y8(h0:sp 107=none)(h32:sp 109=some oU)(h31:sp 108=some sJ)(a b:ak×ak){s:St}(hm:s.ge<=s.al):aM (QS sp) 107 [cg a,cg b] s (.int .i64 (fH a b)) s:=by
 have hs1:oU [.str a.1,.str b.1]=some (.int .i64 (dv a.1 b.1)):=rfl;have hs2:oU [.str a.2,.str b.2]=some (.int .i64 (dv a.2 b.2)):=rfl;have hor:sJ [.list 1 [.int .i64 (dv a.1 b.1),.int .i64 (dv a.2 b.2)] .GE]=some (.int .i64 (fH a b)):=by
  have h1:sJ [.list 1 [.int .i64 (dv a.1 b.1),.int .i64 (dv a.2 b.2)] .GE]=some (.int .i64 (qv [dv a.1 b.1,dv a.2 b.2])):=rfl;rw[h1,alk];rfl
 have hbs: ∀e s,aj e 9= .int .i64 (dv a.1 b.1)->aj e 14= .int .i64 (dv a.2 b.2)->cx ar 26 2 [(0,.tmp 9),(1,.tmp 14)] false e s=some (.list 1 [.int .i64 (dv a.1 b.1),.int .i64 (dv a.2 b.2)] .GE,s):=fun e s p q=>Yv (by rw[bq,p]) (by rw[bq,q]) s;refine dz D0.1 D0.2 D0.3 D0.4 h0 ?_;refine aw ?_;simp only[ai,bv,bt,aa,ah,aG,aV,PC,cg];refine lD hm ?_;simp only[ai,ax,isStore,ay,aa,ah,PC,h32,hs1,hs2,hbs,h31,hor];exact bo ⟨rfl,.inr rfl,bz (by simp only[aq,aa, *]) rfl⟩
def vQ:ae->Option (ak×ak)
 | .agg [.str a,.str b]=>some (a,b)
 |_=>none
variable{c:ak×ak}
def A2{v:ae}(h:vQ v=some c):v=cg c:=by
 unfold vQ at h;split at h;injection h with h;subst h;rfl
 cases h
def Oh:Sp
 | [p,q]=>(vQ p).bind fun a=>(vQ q).bind fun b=>some (.int .i64 (fH a b))
 |_=>none
def Ih:du:=[(109,oU),(108,sJ)]
def Xv:dc Ih:=.cons ZH (.cons TP .nil)
def Y7:cq ar 107 Oh:=by
 intro args x hv G h w xs wr hx;unfold Oh at hv;split at hv;simp only[az,aP] at hv;obtain⟨a,h1,b,h2,rfl⟩:=hv;have h1:=A2 h1;have h2:=A2 h2;subst h1;subst h2;exact eA (Q:=QT Ih) (ep Xv) (fun _=>eH 1) (args:=[cg a,cg b]) (v:=.int .i64 (fH a b)) (s':=s0) rfl (Y8 (sp:=fun f=>cI f Ih) rfl rfl rfl a b (aU _)) rfl ⟨1,rfl⟩ G h w xs wr hx;cases hv
def Dq: ∀a:ak,dv a a=0
 | []=>rfl
 |x::a=>by
  have:bk x.toNat x.toNat=false:=by rw[jU];exact dN (cR _)
  simp only[dv,this,cF,Dq a]
def OA(a b:ak):dv b a= -dv a b:=by
 induction a generalizing b with
 |nil=>cases b<;>rfl
 |cons x a ih=>
  cases b with
  |nil=>rfl
  |cons y b=>
   simp only[dv];rcases Nat.lt_trichotomy x.toNat y.toNat with h|h|h
   have h1:bk x.toNat y.toNat=true:=cu h;have h2:bk y.toNat x.toNat=false:=by rw[jU];exact dN (by omega)
   rw[h1,h2];rfl;have h1:bk x.toNat y.toNat=false:=by rw[jU];exact dN (by omega)
   have h2:bk y.toNat x.toNat=false:=by rw[jU];exact dN (by omega)
   rw[h1,h2];exact ih b;have h1:bk x.toNat y.toNat=false:=by rw[jU];exact dN (by omega)
   have h2:bk y.toNat x.toNat=true:=cu h;rw[h1,h2];rfl
def Be{a b:ak}(h:dv a b=0):a=b:=by
 induction a generalizing b with
 |nil=>cases b with
  |nil=>rfl
  |cons y b=>simp[dv] at h
 |cons x a ih=>
  cases b with
  |nil=>simp[dv] at h
  |cons y b=>
   simp only[dv] at h;cases h1:bk x.toNat y.toNat with
   |true=>rw[h1] at h;simp at h
   |false=>
    rw[h1] at h;cases h2:bk y.toNat x.toNat with
    |true=>rw[h2] at h;simp at h
    |false=>
     rw[h2] at h;have e:x.toNat=y.toNat:=by
      rw[jU] at h1 h2
      have:=of_decide_eq_false h1
      have:=of_decide_eq_false h2;omega
     rw[UInt8.toNat_inj.1 e,ih h]
def OB{a b c:ak}(h1:dv a b<0)(h2:dv b c<0):dv a c<0:=by
 induction a generalizing b c with
 |nil=>
  cases b with
  |nil=>simp[dv] at h1
  |cons y b=>
   cases c with
   |nil=>simp[dv] at h2
   |cons z c=>simp[dv]
 |cons x a ih=>
  cases b with
  |nil=>simp[dv] at h1
  |cons y b=>
   cases c with
   |nil=>simp[dv] at h2
   |cons z c=>
    simp only[dv,jU] at h1 h2 ⊢;by_cases p:x.toNat<y.toNat;by_cases q:y.toNat<z.toNat;simp[show x.toNat<z.toNat by omega];by_cases q2:z.toNat<y.toNat;simp[q,q2] at h2;simp[show x.toNat<z.toNat by omega];by_cases p2:y.toNat<x.toNat;simp[p,p2] at h1;by_cases q:y.toNat<z.toNat;simp[show x.toNat<z.toNat by omega];by_cases q2:z.toNat<y.toNat;simp[q,q2] at h2;simp only[p,p2,q,q2,dF,cF] at h1 h2;simp only[show¬x.toNat<z.toNat by omega,show¬z.toNat<x.toNat by omega,dF,cF];exact ih h1 h2
def xE(a b:ak×ak):fH a b=if dv a.1 b.1=0 then dv a.2 b.2 else dv a.1 b.1:=by
 unfold fH;by_cases h:dv a.1 b.1=0;have:aK (dv a.1 b.1) 0=true:=by simp[aK,h]
 rw[this,iP h];rfl;have:aK (dv a.1 b.1) 0=false:=by simp[aK,h]
 rw[this,iN h];rfl
def Bf(a b:ak×ak):fH b a= -fH a b:=by
 rw[xE,xE,OA a.1 b.1,OA a.2 b.2];by_cases h:dv a.1 b.1=0;rw[iP h,iP (by omega)];rw[iN h,iN (by omega)]
def Dr{a b:ak×ak}(h:fH a b=0):a=b:=by
 rw[xE] at h;by_cases h1:dv a.1 b.1=0;rw[iP h1] at h;exact Prod.ext (Be h1) (Be h);rw[iN h1] at h;exact absurd h h1
def OC(a:ak×ak):fH a a=0:=by
 rw[xE,iP (Dq _),Dq]
def IJ{a b:ak×ak}(h1:fH a b<0)(h2:fH b c<0):fH a c<0:=by
 rw[xE] at h1 h2 ⊢;by_cases p:dv a.1 b.1=0;rw[iP p] at h1;have e:=Be p;by_cases q:dv b.1 c.1=0;rw[iP q] at h2;rw[e,iP q];exact OB h1 h2;rw[iN q] at h2;rw[e,iN q];exact h2;rw[iN p] at h1;by_cases q:dv b.1 c.1=0;have e:=Be q;rw[<-e,iN p];exact h1;rw[iN q] at h2
 have:=OB h1 h2;rw[iN (by omega)];exact this
def yD:SWO (ltOf fH) where
 irrefl x:=by simp[ltOf,OC]
 trans x y z h1 h2:=by
  simp only[ltOf,dE] at*;exact IJ h1 h2
 ntrans x y z h1 h2:=by
  simp only[ltOf,decide_eq_false_iff_not] at*;intro h3;rcases Int.lt_trichotomy (fH x y) 0 with p|p|p
  exact h1 p;rw[Dr p] at h3;exact h2 h3;have p2:fH y x<0:=by rw[Bf x y];omega
  exact h2 (IJ p2 h3)
def VJ(x y:ak×ak)(h1:ltOf fH x y=false)(h2:ltOf fH y x=false):x=y:=by
 simp only[ltOf,decide_eq_false_iff_not] at h1 h2;rw[Bf x y] at h2;exact Dr (by omega)
def Sw(x y:ak×ak):F6 x y=ltOf fH x y:=rfl
def P0(x:ak×ak): ∀l:List (ak×ak),l.Pairwise (fun a b=>(!ltOf fH b a)=true)->(xR x l).Pairwise (fun a b=>(!ltOf fH b a)=true)
 | [],_=>by simp[xR]
 |y::l,h=>by
  simp only[xR];cases e:F6 y x with
  |true=>
   refine iT.2 ⟨fun z hz=>?_,P0 x l (iT.1 h).2⟩;rcases cQ.1 ((JT x l).mem_iff.1 hz) with rfl|hz
   rw[Sw] at e;cases hc:ltOf fH z y with
   |false=>rfl
   |true=>have:=yD.trans _ _ _ hc e;rw[yD.irrefl] at this;cases this
   exact(iT.1 h).1 z hz
  |false=>
   rw[Sw] at e;refine iT.2 ⟨fun z hz=>?_,h⟩;rcases cQ.1 hz with rfl|hz
   rw[e];rfl;have h1:=(iT.1 h).1 z hz;simp only[qC] at h1 ⊢;exact yD.ntrans _ _ _ h1 e
def CG: ∀l,(ic l).Pairwise (fun a b=>(!ltOf fH b a)=true)
 | []=>.nil
 |x::l=>P0 x _ (CG l)
def U0{l r:List (ak×ak)}(h:l.Perm r)(hl:l.Pairwise (fun a b=>(!ltOf fH b a)=true))(hr:r.Pairwise (fun a b=>(!ltOf fH b a)=true)):l=r:=by
 refine List.Perm.eq_of_pairwise (le:=fun a b=>(!ltOf fH b a)=true) (fun a b _ _ h1 h2=>?_) hl hr h;simp only[qC] at h1 h2;exact VJ a b h2 h1
def anO(l:List (ak×ak)):l.mergeSort (fun x y=> !(ltOf fH) y x)=ic l:=by
 refine U0 ((List.mergeSort_perm l _).trans (vu l).symm) (List.pairwise_mergeSort (fun a b c h1 h2=>?_) (fun a b=>?_) l) (CG l);simp only[qC] at*;exact yD.ntrans _ _ _ h2 h1;cases h:ltOf fH b a with
 |false=>rfl
 |true=>
  cases h2:ltOf fH a b with
  |false=>rfl
  |true=>have:=yD.trans _ _ _ h h2;rw[yD.irrefl] at this;cases this
def UZ{l r:List (ak×ak)}(h:l.Perm r):ic l=ic r:=
 U0 (((vu l).trans h).trans (vu r).symm) (CG l) (CG r)
def qe(c:ak×ak):List Value:=[.string ⟨⟨c.1⟩⟩,.string ⟨⟨c.2⟩⟩]
def G0:Gh:= {at_:=fun _=>none,ro:=fun _ _=>none,dim:=fun _=>none }
def wr0(w:World):WR G0 .nil w:=
 ⟨fun _ _ h=>(by cases h),fun _ _ _ _ h=>absurd rfl h,fun _ _ _ h=>(by cases h),fun _ _ _ _ _ h=>(by cases h),fun _ _ h=>(by cases h),fun _ _ h=>(by cases h)⟩
def ap3{a b:World}(h1:a.heap=b.heap)(h2:a.tape=b.tape)(h3:a.drawn=b.drawn)(h4:a.os=b.os)(h5:a.output=b.output):a=b:=by
 obtain⟨_,_,_,_,_⟩:=a;obtain⟨_,_,_,_,_⟩:=b;cases h1;cases h2;cases h3;cases h4;cases h5;rfl
def ZL{α:Type}[Inhabited α]{g:Nat}{sp:Sp}(hsp:cq ar g sp)(eg: ∀args w,(callFunc g args).run ar w= .ok (.enter g args) w){enc:α->List Value}{encA:α->ae}(hv: ∀G x,VR G (encA x) (.agg (enc x).toArray)){cf:α->α->Int}(hcf: ∀x y,sp [encA x,encA y]=some (.int .i64 (cf x y)))(k blk off size:Nat)(w:World):CmpLays ar g #[] enc k cf blk off size w:=by
 intro m os dk _ x y;generalize sortWorldK enc k w blk off m dk os=W;have hc:=hsp _ _ (hcf x y) G0 .nil W [.agg (enc x).toArray,.agg (enc y).toArray] (wr0 W) (.cons (hv _ x) (.cons (hv _ y) .nil));rcases hc with⟨y',w',h1,_⟩|⟨_,h2⟩
 rw[eg] at h1;cases h1;refine h2.mono ?_;rintro e w' ⟨v,rfl,G',_,x1,x2⟩;cases x2;refine⟨rfl,w'.drawn-W.drawn,w'.heap.extract W.heap.size w'.heap.size,?_⟩;have hq:=x1.quiet;have hsz:=x1.size;have hheap:w'.heap=W.heap++w'.heap.extract W.heap.size w'.heap.size:=by
  apply Array.ext_getElem?;intro i;by_cases hi:i<W.heap.size;rw[Array.getElem?_append_left hi];exact x1.keep i hi fun ho=>by
   obtain⟨n,a,h,_⟩:=ho;exact h rfl
  rw[Array.getElem?_append_right (by omega),Array.getElem?_extract];by_cases hj:i-W.heap.size<w'.heap.size-W.heap.size;rw[iP (by omega),show W.heap.size+(i-W.heap.size)=i by omega];rw[iN (by omega),yJ (by omega)]
 have hd:=hq.2.2.2.2.2;refine ap3 hheap hq.2.2.2.2.1 ?_ hq.1 hq.2.1;show w'.drawn=W.drawn+(w'.drawn-W.drawn);omega
def Jf: ∀(l:List (ak×ak)) (t:Nat) (v:ae),(bB (l.map cg))[t]? =some v-> ∃h:t / 2<l.length, ∃s:ak,v= .str s/\(qe l[t / 2])[t % 2]! = .string ⟨⟨s⟩⟩
 | [],t,v,h=>by simp[bB] at h
 |c::l,0,v,h=>by
  have h:some (ae.str c.1)=some v:=h;injection h with h;subst h
  exact⟨by simp,c.1,rfl,rfl⟩
 |c::l,1,v,h=>by
  have h:some (ae.str c.2)=some v:=h;injection h with h;subst h
  exact⟨by simp,c.2,rfl,rfl⟩
 |c::l,t+2,v,h=>by
  have h:(bB (l.map cg))[t]? =some v:=h;obtain⟨h1,s,h2,h3⟩:=Jf l t v h;have e1:(t+2) / 2=t / 2+1:=by omega
  have e2:(t+2) % 2=t % 2:=by omega
  refine⟨by rw[e1,cP];omega,s,h2,?_⟩;rw[<-h3];simp[e1,e2]
def anP:Nx 192 Ay:=by
 have eg: ∀args w,(callFunc 107 args).run ar w= .ok (.enter 107 args) w:=Go.Proofs.enters_of Tryz.func107 (by kernel_rfl) rfl;intro args G h w xs wr hx;refine⟨fun hsp=>?_,fun n g cs cs' hsp hl hg=>?_⟩;unfold Ay at hsp;split at hsp;cases hx with
 |cons p q=>
  cases q with
  |cons q r=>
   cases r;cases p;cases q with
   |func q1 q2=>
    cases q1;cases q2;refine .inr ⟨Go.Proofs.enters_of Tryz.func192 (by kernel_rfl) rfl _ _,(AnyF.slices_SortFunc_none Tryz.sortF51 none 0 (.func (.func 107) #[] #[]) w).mono ?_⟩;rintro e w' ⟨rfl,rfl⟩;exact⟨_,rfl,G,wr,.refl,.tup .nil⟩
 cases hsp;cases hsp
 ·unfold Ay at hsp
  split at hsp;cases hsp
  ·rename_i m len lcap
   simp only[aP,bj] at hsp;obtain⟨rfl,rfl⟩:=hsp;have hg:=Ul hg;obtain⟨hb,hg⟩:=bm hg;simp only[bA] at hb;have hlen:=iw hb.1;have hsm:=eG hb.2;simp only[az,aP] at hg;obtain⟨l,h1,rfl⟩:=hg;have hcs:=NV h1;subst hcs;rw[Bt] at hlen;have hlen:l.length=len:=by omega
   cases hx with
   |cons p q=>
    cases q with
    |cons q r=>
    cases r;cases q with
    |func q1 q2=>
    cases q1;cases q2;obtain⟨a,b,cap,rfl,hat,hspot,hcap,hab,d,hdim,hd⟩:=NU p;obtain⟨b',hb',_,C,e,hC,hdimC,hcs⟩:=wr.obj m _ hl;rw[hat] at hb';injection hb' with hb';subst hb'
    rw[hdimC] at hdim;injection hdim with hdim
    have hsl:(ic l).length=l.length:=(vu l).length_eq;have hfin: ∀n os, ∃G',WR G' (h.set m (some (.cells (bB ((ic l).map cg))))) (sortWorldK qe 2 w b.block b.off n (ic l).toArray os)/\cM G h w G' (h.set m (some (.cells (bB ((ic l).map cg))))) (sortWorldK qe 2 w b.block b.off n (ic l).toArray os) 0 0/\VR G' (.tup []) (.tuple #[]):=fun n os=>by
     refine UC wr hl hat id (flatK qe 2 (ic l).toArray) n os (fun C' e' hC'=>?_) (fun i v hi=>?_);rw[hC] at hC';injection hC' with hC';injection hC' with hC' _ _;subst hC'
     rw[size_flatK,yS,hsl,hdim];omega;obtain⟨h1,s,rfl,h3⟩:=Jf (ic l) i v hi;have hi2:i<(ic l).toArray.size*2:=by rw[yS];omega
     refine⟨by rw[size_flatK];exact hi2,rfl,?_⟩;show VR G (.str s) ((flatK qe 2 (ic l).toArray)[i]!);rw[get_flatK _ _ _ _ hi2];have:(ic l).toArray[i / 2]! =(ic l)[i / 2]:=by simp[h1]
     rw[this,h3];exact .str s
    rcases hab with h0|⟨hab1,hab2⟩
    have hl0:l=[]:=ub (by omega);subst hl0;have h0':len=0:=h0;subst h0';refine .inr ⟨Go.Proofs.enters_of Tryz.func192 (by kernel_rfl) rfl _ _,(AnyF.slices_SortFunc_none Tryz.sortF51 (some a) cap (.func (.func 107) #[] #[]) w).mono ?_⟩;rintro e' w' ⟨rfl,rfl⟩;obtain⟨G',g1,g2,g3⟩:=hfin 0 #[];have hw:sortWorldK qe 2 w' b.block b.off 0 (ic []).toArray #[]=w':=by
     show grow (putRowK qe 2 (Go.Sort.ahead w' 0) b.block b.off (ic []).toArray) #[]=w';rw[Go.Sort.grow_empty,Go.Sort.ahead_zero];exact Go.Sort.putRowK_self qe 2 w' b.block b.off _ (fun j hj=>by rw[size_flatK] at hj;simp[ic] at hj)
    rw[hw] at g1 g2;exact⟨_,rfl,G',g1,g2,g3⟩;obtain⟨ab,ao,asp⟩:=a;simp only at hab1 hab2 hspot;subst hab1;subst hab2;subst hspot;have hH:HoldsK qe 2 w b.block b.off l.toArray:=fun j hj=>by
     have hj':j<l.toArray.size*2:=by rw[size_flatK] at hj;exact hj
     have hj2:j<(bB (l.map cg)).length:=by rw[Bt];simpa using hj'
     refine⟨?_,by simp[World.frozen?,hC]⟩;obtain⟨_,x,hx1,hx2⟩:=hcs j _ (gL hj2);obtain⟨h1,s,h2,h3⟩:=Jf l j _ (gL hj2);rw[h2] at hx2;cases hx2;rw[qc hC,hx1];show some _=some ((flatK qe 2 l.toArray)[j]!);rw[get_flatK _ _ _ _ hj'];have e1:l.toArray[j / 2]! =l[j / 2]:=by simp[h1]
     rw[e1,h3]
    have hbl:=wr.below m b hat;have hO:=AnyQ.slices_SortFunc_total Tryz.sortF51 2 Tryz.isAgg143 Tryz.sizeOf143 qe (fun _=>rfl) (fun x v hv=>by simp[qe] at hv;rcases hv with rfl|rfl<;>rfl) fH yD 107 #[] b.block b.off cap l.toArray w eg
     (ZL Y7 eg (encA:=cg) (fun G x=>.agg rfl (.cons (.str _) (.cons (.str _) .nil))) (fun x y=>rfl) 2 b.block b.off _ w) hH hbl (by rw[yS];omega) VJ
    rw[<-hlen];refine .inr ⟨Go.Proofs.enters_of Tryz.func192 (by kernel_rfl) rfl _ _,Calls.mono (R:=fun e w'=>e= .returned (.tuple #[])/\ ∃n os,w'=sortWorldK qe 2 w b.block b.off n (l.mergeSort fun x y=> !(ltOf fH) y x).toArray os) (by simp at hO;exact hO) ?_⟩;rintro e' w' ⟨rfl,n,os,rfl⟩;rw[anO];obtain⟨G',g1,g2,g3⟩:=hfin n os;exact⟨_,rfl,G',g1,g2,g3⟩
  cases hsp
end Go.Proofs.YtnnppcoplinajaaGreat
namespace Go.Proofs.YtnnppcoplinajaaGreat
open Go.Ag
def gQ:List ak->List ak->Int
 | [],[]=>0
 | [],_::_=> -1
 |_::_,[]=>1
 |a::x,b::y=>bif aK (kG a b) 0 then gQ x y else kG a b
variable{lc:Ag.Loc}{s:St}{u v:ae}{sp:bC}
def aog(h188:sp 228=some zh){l r:List ak}(hl:aD 1 aF v l)(hr:aD 1 aF u r)(hsmall:l.length<small): ∀(rest rest2 pre pre2:List ak) (e:aI),l=pre++rest->r=pre2++rest2->pre.length=pre2.length->
 aj e 0=v->aj e 1=u->aj e 9=v->aj e 10= .int .i64 (l.length:Nat)->aj e 11= .int .i64 (pre.length:Nat)->
 W (QS sp) 136 (.loop aeG) ⟨e,36,lc⟩ s fun x fr s'=>s'=s/\fr.size=36/\((x= .exit 0/\gQ rest rest2=(bif decide (l.length<r.length) then-1 else 0)/\aj fr.env 0=v/\aj fr.env 1=u)\/(x= .ret/\aj fr.env 4= .int .i64 (gQ rest rest2))):=by
 intro rest;have hcl:=hl.aL;have hcr:=hr.aL;have hlen2:=fun mk s=>hr.len dB dH mk s;have hsm:=fg
 induction rest with
 |nil=>
  intro rest2 pre pre2 e hpre hpre2 hpp h0 h1 h9 h10 h11;have hl':l.length=pre.length:=by rw[hpre];simp
  have hr':r.length=pre2.length+rest2.length:=by rw[hpre2];simp
  refine bV ?_;refine aw ?_;simp only[ai,ah,h10,h11,hl',cR];refine aC (cJ ?_);refine dL ⟨rfl,rfl,.inl ⟨rfl,?_,by simp only[au,aa, *],by simp only[au,aa, *]⟩⟩;cases rest2 with
  |nil=>
   have:decide (pre.length<r.length)=false:=dN (by simp at hr';omega);rw[this];rfl
  |cons b y=>
   have:decide (pre.length<r.length)=true:=dQ (by simp at hr';omega);rw[this];rfl
 |cons a rest ih=>
  intro rest2 pre pre2 e hpre hpre2 hpp h0 h1 h9 h10 h11;have hlt:pre.length<l.length:=by rw[hpre];simp
  have hat:l[pre.length]? =some a:=by rw[hpre];simp
  have hr':r.length=pre2.length+rest2.length:=by rw[hpre2];simp
  have hia:=fun lc=>hl.at gR hat lc .i64;have hwr:=eE (n:=pre.length) (by omega);refine bV ?_;refine aw ?_;simp only[ai,ah,h10,h11,hlt];refine aC (bU (cL ?_));simp only[bM];refine aC (bL (aw ?_));simp only[ai,ax,ay,aa,ah,h9,h11,hia,aF];refine aC (aw ?_);have hge:ec ((r.length:Nat):Int) ((pre.length:Nat):Int)=decide (r.length<=pre.length):=lj _ _;simp only[ai,aa,ah,h1,hcr,hlen2,hge];cases rest2 with
  |nil=>
   have:decide (r.length<=pre.length)=true:=dQ (by simp at hr';omega);refine dJ (t:=true) (by simp only[aq,bq,aa,this]) (aw ?_);simp only[cG,hQ,ah];exact bo ⟨rfl,rfl,.inr ⟨rfl,by simp only[aq,aa,gQ]⟩⟩
  |cons b y=>
   have hnle:decide (r.length<=pre.length)=false:=dN (by simp at hr';omega);have hat2:r[pre.length]? =some b:=by rw[hpre2,hpp];simp
   have hib:=fun lc=>hr.at gR hat2 lc .i64;have hsp:zh [.str a,.str b]=some (.int .i64 (kG a b)):=rfl;refine dJ (t:=false) (by simp only[aq,bq,aa,hnle]) (cL ?_);simp only[bM];refine aw ?_;simp only[ai,ax,ay,aa,ah,h1,hib,aF];refine aw ?_;simp only[ai,aa,ah,h188,hsp];refine aw ?_;simp only[ai,aa,ah];cases hz:aK (kG a b) 0 with
   |false=>
    refine dJ (t:=true) (by simp only[aq,bq,aa,fy]) (aw ?_);simp only[ai,aa,ah];exact bo ⟨rfl,rfl,.inr ⟨rfl,by simp only[aq,aa,gQ,hz]⟩⟩
   |true=>
    refine dJ (t:=false) (by simp only[aq,bq,aa,dS]) (cL ?_);simp only[dA];refine bH ?_;simp only[ai,aA,aa,ah,h11,hwr];refine(ih y (pre++[a]) (pre2++[b]) _ (by rw[hpre];simp) (by rw[hpre2];simp) (by simp[hpp]) (by simp only[au,aa, *]) (by simp only[au,aa, *]) (by simp only[au,aa, *]) (by simp only[au,aa, *]) (by simp only[aq,cK,aa])).mono ?_;simp only[gQ,hz,cT];exact fun _ _ _ h=>h
def aoi(h0:sp 136=none)(h188:sp 228=some zh){l r:List ak}(hl:aD 1 aF v l)(hr:aD 1 aF u r)(hsmall:l.length<small)(s:St):aM (QS sp) 136 [v,u] s (.int .i64 (gQ l r)) s:=by
 have hlen:=fun mk s=>hl.len dB dH mk s;have hlen2:=fun mk s=>hr.len dB dH mk s;have hcl:=hl.aL;have hcr:=hr.aL;refine dz Ee.1 Ee.2 Ee.3 Ee.4 h0 ?_;refine aw ?_;simp only[ai,bv,bt,ah,aG,aV];refine aC (aw ?_);simp only[ai,aa,ah,PF,hcl,hlen];refine bL ?_;refine(aog h188 hl hr hsmall l r [] [] _ rfl rfl rfl (by simp only[aq,aa, *]) (by simp only[aq,aa, *]) (by simp only[aq,aa, *]) (by simp only[aq,aa, *]) (by simp only[aq,aa];rfl)).mono ?_;rintro x ⟨e,sz,lc⟩ s' ⟨rfl,hs,⟨rfl,hok,e0,e1⟩|⟨rfl,h2⟩⟩;have hs:sz=36:=hs;subst hs;have e0:aj e 0=v:=e0;have e1:aj e 1=u:=e1;show W (QS sp) 136 _ _ _ _;refine aC (aw ?_);simp only[ai,aa,ah,PF,e0,e1,hcl,hcr,hlen,hlen2];cases hd:decide (l.length<r.length) with
 |true=>
  refine bU (aw ?_);simp only[cG,hQ,ah];exact bo ⟨rfl,.inr rfl,bz (by simp only[aq,aa,hok,hd]) rfl⟩
 |false=>
  refine dq ?_;simp only[bM];refine aw ?_;simp only[cG,hQ,ah];exact bo ⟨rfl,.inr rfl,bz (by simp only[aq,aa,hok,hd]) rfl⟩
 exact⟨rfl,.inr rfl,bz h2 rfl⟩
def wS:Sp
 | [a,b]=>bif pures [a,b] then(fF 1 mS a).bind fun l=>(fF 1 mS b).bind fun r=>bif bk l.length small then some (.int .i64 (gQ l r)) else none else none
 |_=>none
def Ib:du:=[(228,zh)]
def Xr:dc Ib:=.cons ZB .nil
def aof:cq ar 136 wS:=by
 intro args x hv G h w xs wr hx;unfold wS at hv;split at hv;rename_i a b;obtain⟨hp,hv⟩:=bm hv;simp only[az] at hv;obtain⟨l,h1,r,h2,hv⟩:=hv;obtain⟨hs,hv⟩:=bm hv;injection hv with hv;subst hv
 have hl:=ij (fun v a=>pZ) h1;have hr:=ij (fun v a=>pZ) h2;exact eA (Q:=QT Ib) (ep Xr) (fun _=>eH 1) (args:=[a,b]) (v:=.int .i64 (gQ l r)) (s':=s0) (kh hp) (by rw[gK hp];exact aoi (sp:=fun f=>cI f Ib) rfl rfl hl hr (eG hs) s0) rfl ⟨1,rfl⟩ G h w xs wr hx;cases hv
def dR:List be->List ak
 | []=>[]
 |t::l=>t.1::t.2::dR l
def CO: ∀l:List be,(dR l).length=2*l.length
 | []=>rfl
 |t::l=>by simp only[dR,cP,CO l];omega
def vN(s:St)(ov:ae)(acc:List ak):Prop:=(ov= .AL/\acc=[])\/(acc≠ []/\ ∃k,ov= .list 1 (acc.map aF) (.own k)/\s.get [] k=some .tok)
variable{acc:List ak}{ov:ae}
def vN.aL(h:vN s ov acc):ov.aL=true:=by
 rcases h with⟨rfl,_⟩|⟨_,k,rfl,_⟩<;>rfl
variable{x y:Operand}{e:aI}
def N9{a b:ak}(hx:ev e x=some (.str a))(hy:ev e y=some (.str b))(s:St):cx ar 25 2 [(0,x),(1,y)] false e s=some (.list 1 [.str a,.str b] .GE,s):=by
 simp only[ce,jR,cx,qM,cS,evc,hx,hy,nP,eW,kQ,bu,kR,aG,jg,fW,cut];rfl
def XN(h:vN s ov acc)(hlen:acc.length<900000)(a b:ak):
 ∃ov' s',hG ar [] 25 ov (.list 1 [.str a,.str b] .GE) false s=some (ov',s')/\vN s' ov' (acc++[a,b])/\s'.ci=s.ci:=by
 rcases h with⟨rfl,rfl⟩|⟨hne,k,rfl,hk⟩
 refine⟨.list 1 [.str a,.str b] (.own s.al),s.new .tok,?_,.inr ⟨by simp,s.al,rfl,?_⟩,rfl⟩;have:lW 2 16=true:=vq (by omega) (by omega);simp only[ce,jR,hG,qM,jS,fe,bS,ml,kK,aG,this,cF];rw[cp,bS];rfl;refine⟨.list 1 ((acc++[a,b]).map aF) (.own s.al),(s.put k none).new .tok,?_,.inr ⟨by simp,s.al,rfl,?_⟩,rfl⟩;have:lW (acc.length+2) 16=true:=vq (by omega) (by omega);simp only[ce,jR,hG,qM,jS,fe,bS,ml,hk,cZ,aG,this,cH,List.map_append,dG,pH,aF];rw[cp,sq,bS];rfl
variable{l:List be}
def apY(hl:aD 2 bD v l)(hsmall:l.length<=400000): ∀(rest pre:List be) (e:aI) (lc:Ag.Loc) (s:St) (ov:ae),l=pre++rest->vN s ov (dR pre)->
 aj e 3=ov->aj e 6=v->aj e 7= .int .i64 (l.length:Nat)->aj e 8= .int .i64 (pre.length:Nat)->
 W (QS sp) 381 (.loop agL) ⟨e,21,lc⟩ s fun x fr s'=>x= .exit 0/\fr.size=21/\s'.ci=s.ci/\ ∃ov',vN s' ov' (dR l)/\aj fr.env 3=ov':=by
 have wapp: ∀(p q:List be),dR (p++q)=dR p++dR q:=by
  intro p q
  induction p with
  |nil=>rfl
  |cons t p ih=>simp only[mJ,dR,ih]
 intro rest;have hcl:=hl.aL
 induction rest with
 |nil=>
  intro pre e lc s ov hpre hO h3 h6 h7 h8;have hl':l.length=pre.length:=by rw[hpre];simp
  have hpp:pre=l:=by rw[hpre];simp
  refine bV ?_;refine aw ?_;simp only[ai,ah,h7,h8,hl',cR];refine aC (cJ ?_);exact dL ⟨rfl,rfl,rfl,ov,by rw[<-hpp];exact hO,by simp only[au,aa, *]⟩
 |cons t rest ih=>
  intro pre e lc s ov hpre hO h3 h6 h7 h8;have hlt:pre.length<l.length:=by rw[hpre];simp
  have hat:l[pre.length]? =some t:=by rw[hpre];simp
  have hia:=fun lc=>hl.at lO hat lc .i64;have hwr:=eE (n:=pre.length) (by omega);obtain⟨ov',s',happ,hO',hci⟩:=XN hO (by rw[CO];omega) t.1 t.2;have hoc:=hO.aL;have hoc':=hO'.aL;have hbs: ∀e s,aj e 14= .str t.1->aj e 16= .str t.2->cx ar 25 2 [(0,.tmp 14),(1,.tmp 16)] false e s=some (.list 1 [.str t.1,.str t.2] .GE,s):=fun e s p q=>N9 (by rw[bq,p]) (by rw[bq,q]) s;refine bV ?_;refine aw ?_;simp only[ai,ah,h7,h8,hlt];refine aC (bU (cL ?_));simp only[bM];refine aC (bL (aw ?_));simp only[ai,ax,cut,bu,aN,ay,aa,ah,aG,aV,JK,h6,h8,hia,bD];refine bH ?_;simp only[ai,ax,aA,ay,aa,ah,JK,h3,hoc,hbs,happ];refine bH ?_;simp only[ai,aA,aa,ah,h8,hwr];refine(ih (pre++[t]) _ _ s' ov' (by rw[hpre];simp) (by rw[wapp];exact hO') (by simp only[aq,aa, *]) (by simp only[au,aa, *]) (by simp only[au,aa, *]) (by simp only[aq,cK,aa])).mono ?_;rintro x fr s'' ⟨h1,h2,h4,h5⟩;exact⟨h1,h2,h4.trans hci,h5⟩
def apZ(h0:sp 381=none)(hl:aD 2 bD v l)(hsmall:l.length<=400000)(s:St): ∃ov s',aM (QS sp) 381 [v] s ov s'/\(vN s' ov (dR l)/\s'.ci=s.ci):=by
 have hlen:=fun mk s=>hl.len jw jv mk s;have hcl:=hl.aL;refine aM.ofEx Fq.1 Fq.2 Fq.3 Fq.4 h0 ?_;refine aw ?_;simp only[ai,bv,bt,ah,aV,ofValue,aX];refine aw ?_;simp only[cG,ah,ofValue,aX];refine aC (aw ?_);simp only[ai,aa,ah,JK,hcl,hlen];refine bL ?_;refine(apY hl hsmall l [] _ _ s .AL rfl (.inl ⟨rfl,rfl⟩) (by simp only[aq,aa, *]) (by simp only[aq,aa, *]) (by simp only[aq,aa, *]) (by simp only[aq,aa];rfl)).mono ?_;rintro x ⟨e,sz,lc⟩ s' ⟨rfl,hs,hci,ov',hO,h3⟩;have hs:sz=21:=hs;subst hs;have h3:aj e 3=ov':=h3;show W (QS sp) 381 _ _ _ _;refine aw ?_;simp only[ai,ah,h3];exact bo ⟨.inr rfl,ov',bz (by simp only[aq,aa, *]) hO.aL,hO,hci⟩
def wV:Sp
 | [a]=>bif pures [a] then(fF 2 oP a).bind fun l=>bif br l.length 400000 then some (BU ((dR l).map aF)) else none else none
 |_=>none
def acg(h:vN s ov acc):dP s.heap ov (BU (acc.map aF)):=by
 rcases h with⟨rfl,rfl⟩|⟨hne,k,rfl,_⟩
 exact⟨1,rfl⟩;refine⟨2,?_⟩;show(de (cj s.heap 1) (acc.map aF)).bind (fun ys=>some (ae.list 1 ys .no))=_;rw[uJ fun v hv=>?_];cases acc with
 |nil=>exact absurd rfl hne
 |cons a l=>rfl
 obtain⟨o,_,rfl⟩:=dp.1 hv;rfl
def apX:cq ar 381 wV:=by
 intro args x hv G h w xs wr hx;unfold wV at hv;split at hv;rename_i a;obtain⟨hp,hv⟩:=bm hv;simp only[az] at hv;obtain⟨l,h1,hv⟩:=hv;obtain⟨hs,hv⟩:=bm hv;injection hv with hv;subst hv
 have hl:=ij (fun v a=>rO) h1;obtain⟨ov,s',hr,hO,hci⟩:=apZ (sp:=fun f=>cI f []) rfl hl (eG hs) s0;exact eA (Q:=QT []) (ep .nil) (fun _=>eH 1) (args:=[a]) (kh hp) (by rw[gK hp];exact hr) hci (acg hO) G h w xs wr hx;cases hv
noncomputable def QM(sp:bC)(ch:Nat->Nat):bF:= {P:=ar,hint:=aH,spec:=sp,ch:=ch,kmax:=fun _=>1000000,specW:=fun f=>bif aJ f 140 then some Az else bif aJ f 192 then some Ay else none }
def bh(sp:bC)(ch:Nat->Nat):(QM sp ch).P=ar:=rfl
def gd(sp:bC)(ch:Nat->Nat):(QM sp ch).hint=aH:=rfl
def uq(sp:bC)(ch:Nat->Nat):(QM sp ch).spec=sp:=rfl
noncomputable def S2(s:St):ae->Option (ae×St)
 | .int _ _=>some (.map s.al,s.new (.map [] 0))
 |_=>none
def ajK(s:St)(k:IntKind)(n:Int):S2 s (.int k n)=some (.map s.al,s.new (.map [] 0)):=rfl
def ajM(e:aI)(x:Operand)(s:St):oh ar 145 e (some x) s=(ev e x).bind (S2 s):=by
 have h:ar.underlying 145=some (.map 9 151):=by kernel_rfl
 simp only[oh,h,bn];rfl
def eP:Obj:=⟨[],0,0,0,.AL,.AL,[],[]⟩
def pT:List (ak×ae)->Nat->List Obj->List (ak×ae)
 |L,_,[]=>L
 |L,p,o::r=>pT (dY o.id (.ptr p 0) L) (p+1) r
noncomputable def yg(s:St)(o:Obj)(m:Nat)(L:List (ak×ae)):St:=
 ((s.new (.cells eP.cells)).put s.al (some (.cells o.cells))).put m (some (.map (bX 0 (dY o.id (.ptr s.al 0) L)) (dY o.id (.ptr s.al 0) L).length))
structure HW (s s':St) (m k:Nat) (rest:List Obj) (L:List (ak×ae)):Prop where
 al:s'.al=k+rest.length
 ci:s'.ci=s.ci
 ge:s'.ge=s.ge
 old: ∀n,n<k->n≠m->s'.get [] n=s.get [] n
 map:s'.get [] m=some (.map (bX 0 L) L.length)
 obj: ∀(i:Nat) (o:Obj),rest[i]? =some o->s'.get [] (k+i)=some (.cells o.cells)
variable{l:List Obj}{m:Nat}
section
variable{sp:bC}{ch:Nat->Nat}
def akb(hl:aD 6 Obj.val v l)(hsmall:l.length<small): ∀(rest pre:List Obj) (e:aI) (lc:Ag.Loc) (s:St) (L:List (ak×ae)),l=pre++rest->m<s.al->s.ge<=m->
 s.get [] m=some (.map (bX 0 L) L.length)->aj e 3= .map m->aj e 11=v->aj e 12= .int .i64 (l.length:Nat)->aj e 13= .int .i64 (pre.length:Nat)->
 W (QM sp ch) 100 (.loop J1) ⟨e,22,lc⟩ s fun x fr s'=>x= .exit 0/\fr.size=22/\aj fr.env 3= .map m/\HW s s' m s.al rest (pT L s.al rest):=by
 intro rest;have hcl:=hl.aL;have hsm:=fg
 induction rest with
 |nil=>
  intro pre e lc s L hpre hm hmw hs h3 h11 h12 h13;have hl:l.length=pre.length:=by rw[hpre];simp
  refine bV ?_;refine aw ?_;simp only[ai,bh,ah,h12,h13,hl,cR];refine aC (cJ ?_);refine dL ⟨rfl,rfl,?_,rfl,rfl,rfl,fun _ _ _=>rfl,hs,fun i o h=>by simp at h⟩;simp only[au,aa, *]
 |cons o rest ih=>
  intro pre e lc s L hpre hm hmw hs h3 h11 h12 h13;have hlt:pre.length<l.length:=by rw[hpre];simp
  have hat:l[pre.length]? =some o:=by rw[hpre];simp
  have hia:=fun lc=>hl.at o7 hat lc .i64;have hwr:=eE (n:=pre.length) (by omega);have hne:(m==s.al)=false:=bN.2 (by omega);have hs1:((s.new (.cells eP.cells)).put s.al (some (.cells o.cells))).get [] m=some (.map (bX 0 L) L.length):=by
   rw[bO,cp,hne];exact hs
  have hup:=AC tn Gk hs1 o.id (.ptr s.al 0);simp only[Obj.cells,eP] at hup;have hS:W (QM sp ch) 100 (.loop J1) ⟨e,22,lc⟩ s=W (QM sp ch) 100 (.loop J1) ⟨e,22,lc⟩ s:=rfl;refine bV ?_;refine aw ?_;simp only[ai,bh,ah,h12,h13,hlt];refine aC (bU (cL ?_));simp only[bM];refine aC (bL (aw ?_));simp only[ai,ax,bh,gd,cut,bu,aN,ay,aa,ah,aG,aV,DM,h11,h13,hia,Obj.val,Obj.cells,kg,kf,cp];refine bH ?_;simp only[ai,ax,aA,bh,ay,aa,ah,h3,cO,cN,bO,hup];refine bH ?_;simp only[ai,aA,bh,aa,ah,h13,hwr];have hst:((s.new (.cells eP.cells)).put s.al (some (.cells o.cells))).put m (some (.map (bX 0 (dY o.id (.ptr s.al 0) L)) (dY o.id (.ptr s.al 0) L).length))=yg s o m L:=rfl;simp only[Obj.cells,eP] at hst;rw[hst];have hn:(yg s o m L).al=s.al+1:=rfl;have hg: ∀n,(yg s o m L).get [] n=bif n==m then some (.map (bX 0 (dY o.id (.ptr s.al 0) L)) (dY o.id (.ptr s.al 0) L).length) else bif n==s.al then some (.cells o.cells) else s.get [] n:=by
   intro n;simp only[yg,bO,cp];cases n==m<;>cases n==s.al<;>rfl
  have hmin:(yg s o m L).ge=s.ge:=by
   simp only[yg,St.put,St.new];have h1:br s.ge s.al=true:=cu (by omega);have h2:br s.ge m=true:=cu hmw;simp only[h1,h2,cT]
  refine(ih (pre++[o]) _ _ (yg s o m L) (dY o.id (.ptr s.al 0) L) (by rw[hpre];simp) (by rw[hn];omega) (by rw[hmin];exact hmw) (by rw[hg];simp) (by simp only[au,aa, *]) (by simp only[au,aa, *]) (by simp only[au,aa, *]) (by simp only[aq,cK,aa])).mono ?_;rintro x fr s' ⟨rfl,h1,h2,a1,a2,a3,a4,a5,a6⟩;rw[hn] at a1 a4 a5 a6;refine⟨rfl,h1,h2,by rw[a1,cP];omega,a2,a3.trans hmin,fun n h3 h4=>?_,a5,fun i q hq=>?_⟩;rw[a4 n (by omega) h4,hg,bN.2 h4,bN.2 (by omega:n≠s.al)];rfl;cases i with
  |zero=>
   simp only[jN,aP] at hq;subst hq;rw[Nat.add_zero,a4 s.al (by omega) (by omega),hg,bN.2 (by omega:s.al≠m)];simp
  |succ i=>
   rw[show s.al+(i+1)=s.al+1+i by omega];exact a6 i q (by simpa using hq)
def LC(h23:sp 100=none)(hl:aD 6 Obj.val v l)(hsmall:l.length<small)(s:St)(hm:s.ge<=s.al): ∃s',aM (QM sp ch) 100 [.agg [v]] s (.map s.al) s'/\HW s s' s.al (s.al+1) l (pT [] (s.al+1) l):=by
 have hlen:=fun mk s=>hl.len pf o9 mk s;have hcl:=hl.aL;have key: ∃u s',aM (QM sp ch) 100 [.agg [v]] s u s'/\(u= .map s.al/\HW s s' s.al (s.al+1) l (pT [] (s.al+1) l)):=by
  refine aM.ofEx DT.1 DT.2 DT.3 DT.4 h23 ?_;refine aw ?_;simp only[ai,bv,bt,gd,ah,aV,DM,ofValue,aX];refine aw ?_;simp only[ai,ax,bh,gd,ay,aa,ah,DM,hcl,hlen,ajM,ajK];refine aC (aw ?_);simp only[ai,ax,bh,gd,ay,aa,ah,DM,hcl,hlen];refine bL ?_;refine(akb hl hsmall (m:=s.al) l [] _ _ (s.new (.map [] 0)) [] rfl (by show s.al<s.al+1;omega) hm ?_ (by simp only[aq,aa, *]) (by simp only[aq,aa, *]) (by simp only[aq,aa, *]) (by simp only[aq,aa];rfl)).mono ?_;rw[cp,bS];rfl;rintro x ⟨e,sz,lc⟩ s' ⟨rfl,hs,h3,a1,a2,a3,a4,a5,a6⟩;have hs:sz=22:=hs;subst hs;have h3:aj e 3= .map s.al:=h3;show W (QM sp ch) 100 _ _ _ _;refine aw ?_;simp only[ai,ah,h3];refine bo ⟨.inr rfl,.map s.al,bz ?_ rfl,rfl,a1,a2,a3,fun n h4 h5=>?_,a5,a6⟩;simp only[aq,aa, *];rw[a4 n h4 h5,cp,bN.2 h5];rfl
 obtain⟨u,s',h1,rfl,h2⟩:=key;exact⟨s',h1,h2⟩
end
inductive PV (s:St):ae->Option Obj->Prop
 |nil:PV s .nilp none
 |at_ {p:Nat} {o:Obj}:s.get [] p=some (.cells o.cells)->o.Al->PV s (.ptr p 0) (some o)
def cU:Option Obj->Option Obj->Bool
 |none,none=>true
 |some o,some q=>jV o q
 |_,_=>false
def Ah:d8 ar .eql 151 .nilp .nilp=some (.bool true):=by kernel_rfl
def Ai(n o:Nat):d8 ar .eql 151 (.ptr n o) .nilp=some (.bool false):=by kernel_rfl
def alS(n o:Nat):d8 ar .eql 151 .nilp (.ptr n o)=some (.bool false):=by kernel_rfl
def yp:d8 ar .neq 151 .nilp .nilp=some (.bool false):=by kernel_rfl
def vj(n o:Nat):d8 ar .neq 151 (.ptr n o) .nilp=some (.bool true):=by kernel_rfl
def iQ:ofValue (.pointer none)=some .nilp:=rfl
def iY:(ae.nilp).aL=true:=rfl
def fB(lc:Ag.Loc)(n o:Nat):wE lc (.ptr n o)=some (.ptr n o):=rfl
def wc(s:St)(mk:aW)(n:Nat):s.top.get mk n=s.get mk n:=rfl
variable{p:Option Obj}{a b:ae}
section
variable{sp:bC}{ch:Nat->Nat}
def Mb(h43:sp 185=none)(h16:sp 279=some wH)(hm:s.ge<=s.al){q:Option Obj}(ha:PV s a p)(hb:PV s b q):aM (QM sp ch) 185 [a,b] s (.bool (cU p q)) s:=by
 refine dz Ep.1 Ep.2 Ep.3 Ep.4 h43 ?_;refine aw ?_;simp only[ai,bv,bt,ah,aG,aV];refine aC (aw ?_);cases ha with
 |nil=>
  cases hb with
  |nil=>
   simp only[ai,bh,aa,ah,iQ,iY,Ah];refine bU (aw ?_);simp only[ai,bh,aa,ah,iY,Ah];exact bo ⟨rfl,.inr rfl,bz (by simp only[aq,aa,cU]) rfl⟩
  |at_ h1 h2=>
   simp only[ai,bh,aa,ah,iQ,iY,Ah];refine bU (aw ?_);simp only[ai,bh,aa,ah,iY,alS];exact bo ⟨rfl,.inr rfl,bz (by simp only[aq,aa,cU]) rfl⟩
 |at_ h1 h2=>
  cases hb with
  |nil=>
   simp only[ai,bh,aa,ah,iQ,iY,Ah,Ai];refine bU (aw ?_);simp only[ai,bh,aa,ah,iY,Ai];exact bo ⟨rfl,.inr rfl,bz (by simp only[aq,aa,cU]) rfl⟩
  |at_ h3 h4=>
   have hos:=alo h2 h4;simp only[Obj.val,Obj.cells] at hos;simp only[Obj.cells] at h1 h3;simp only[ai,bh,aa,ah,iQ,iY,Ai];refine dq ?_;simp only[bM];refine lD hm ?_;simp only[ai,ax,isStore,bh,uq,cut,aN,ay,aa,ah,aG,fB,cO,wc,h1,h3,cN,h16,hos];exact bo ⟨rfl,.inr rfl,bz (by simp only[aq,aa,cU]) rfl⟩
def at_(k:ak)(L:List (ak×ae)):ae:=(look k L).getD .nilp
def uV{L:List (ak×ae)}{c:Nat}(hs:s.get [] m=some (.map (bX 0 L) c))(k:ak):mU ar [] 145 (.map m) (.str k) false s=some (at_ k L):=F5 tn Gk aqb hs k
def PV.aL(h:PV s a p):a.aL=true:=by cases h<;>rfl
end
abbrev Cf:=ak×ak
def qL(c:Cf):ae:=.agg [.str c.1,.str c.2]
def eI(n:Nat):List Cf->List cw
 | []=>[]
 |c::l=>⟨qL c,.bool true,n⟩::eI (n+1) l
def nq(a b:Cf):Bool:=bif a.1==b.1 then bif a.2==b.2 then true else false else false
def A8(a b:Cf):nq a b=true↔a=b:=by
 obtain⟨a1,a2⟩:=a;obtain⟨b1,b2⟩:=b;unfold nq;constructor;intro h;cases h1:a1==b1 with
 |false=>simp only[h1,cF,ua] at h
 |true=>
  cases h2:a2==b2 with
  |false=>simp only[cz,h1,h2,ua] at h
  |true=>rw[eq_of_beq h1,eq_of_beq h2]
 intro h;cases h;simp
def n8(k:Cf):List Cf->Bool
 | []=>false
 |c::l=>bif nq k c then true else n8 k l
def dh(k:Cf)(l:List Cf):List Cf:=bif n8 k l then l else l++[k]
def qx(k:Cf):List Cf->Nat
 | []=>0
 |c::l=>bif nq k c then 0 else qx k l+1
def Lb{k:Cf}: ∀ {l:List Cf},n8 k l=true↔k∈l
 | []=>by simp[n8]
 |c::l=>by
  simp only[n8,cQ];cases h:nq k c with
  |true=>simp[(A8 k c).1 h]
  |false=>
   have hne:k≠c:=fun e=>by rw[(A8 k c).2 e] at h;cases h
   simp[hne,Lb (l:=l)]
variable{l:List Cf}
def sk{k x:Cf}:x∈dh k l↔x=k\/x∈l:=by
 unfold dh;cases h:n8 k l with
 |true=>
  have:=Lb.1 h;simp only[cT];exact⟨.inr,fun h'=>h'.elim (fun e=>e▸this) id⟩
 |false=>simp only[cF,iE,sZ];exact⟨Or.symm,Or.symm⟩
def xm{k:Cf}(h:l.Nodup):(dh k l).Nodup:=by
 unfold dh;cases hk:n8 k l with
 |true=>exact h
 |false=>
  have hn:k ∉ l:=fun hm=>by rw[Lb.2 hm] at hk;cases hk
  refine List.nodup_append.2 ⟨h,by simp,fun a ha b hb e=>?_⟩;simp only[sZ] at hb;subst hb;subst e;exact hn ha
def ajO(a b:List UInt8):qm ar 147 (.agg [.str a,.str b])=some (143,4):=by kernel_rfl
def aai(a b c d:List UInt8):lL ar 8 143 (.agg [.str a,.str b]) (.agg [.str c,.str d])=some (nq (a,b) (c,d)):=by
 have h:lL ar 8 143 (.agg [.str a,.str b]) (.agg [.str c,.str d])=(some (a==c)).bind fun r=>bif r then(some (b==d)).bind fun r=>bif r then some true else some false else some false:=by kernel_rfl
 rw[h];unfold nq;cases a==c<;>cases b==d<;>rfl
def O8: ∀(l:List Cf) (k:Cf) (n i:Nat),lN ar 143 (qL k) (eI n l) i=some (bif n8 k l then some (i+qx k l,⟨qL k,.bool true,n+qx k l⟩) else none)
 | [],k,n,i=>rfl
 |c::l,k,n,i=>by
  have he:lL ar 8 143 (qL k) (qL c)=some (nq k c):=aai _ _ _ _;simp only[eI,lN,he,bn,n8,qx];cases h:nq k c with
  |true=>
   have:=(A8 k c).1 h;subst this;simp
  |false=>
   simp only[cF];rw[O8 l k (n+1) (i+1)];cases n8 k l with
   |false=>rfl
   |true=>
    simp only[cT];rw[show i+1+qx k l=i+(qx k l+1) by omega,show n+1+qx k l=n+(qx k l+1) by omega]
def OM: ∀(l r:List Cf) (n:Nat),eI n (l++r)=eI n l++eI (n+l.length) r
 | [],r,n=>rfl
 |a::l,r,n=>by simp only[mJ,eI,OM l r (n+1),cP];congr 3;omega
def ON{k:Cf}: ∀ {l:List Cf} {n:Nat},n8 k l=true->(eI n l).set (qx k l) ⟨qL k,.bool true,n+qx k l⟩=eI n l
 | [],_,h=>by cases h
 |c::l,n,h=>by
  simp only[n8] at h;simp only[qx,eI];cases hc:nq k c with
  |true=>
   have:=(A8 k c).1 hc;subst this;simp
  |false=>
   rw[hc] at h;have ih:=ON (l:=l) (n:=n+1) h;simp only[cF,List.set_cons_succ];rw[show n+(qx k l+1)=n+1+qx k l by omega,ih]
def apc(hs:s.get [] m=some (.map (eI 0 l) l.length))(k:Cf):
 nM ar [] 147 (.map m) (qL k) (.bool true) s=some (s.put m (some (.map (eI 0 (dh k l)) (dh k l).length))):=by
 have hk:qm ar 147 (qL k)=some (143,4):=ajO _ _;simp only[nM,hk,bn,hs,O8 l k 0 0,dh];cases h:n8 k l with
 |false=>simp only[cK,cF,OM,gl];rfl
 |true=>
  have hks:wA (qL k) (qL k)=true:=by simp[qL,wA,xD,Au]
  have:=ON (n:=0) h;rw[gl] at this;simp only[cT,gl,hks,this]
variable{C:List Cf}
section
variable{sp:bC}{ch:Nat->Nat}
def Cd(h45:sp 187=none){x mb mo mt mu md:Nat}(hx:s.get [] x=some (.cells [.map mb,.map mo,.map mt,.map mu,.map md]))(hd:s.get [] md=some (.map (eI 0 C) C.length))(id what:ak):
 aM (QM sp ch) 187 [.ptr x 0,.str id,.str what] s (gG []) (s.put md (some (.map (eI 0 (dh (id,what) C)) (dh (id,what) C).length))):=by
 have hup:=apc hd (id,what);simp only[qL] at hup;refine dz Es.1 Es.2 Es.3 Es.4 h45 ?_;refine bH ?_;have hbd: ∀e,aj e 10= .str id->aj e 11= .str what->eV ar 143 [(0,.tmp 10),(1,.tmp 11)] e=some (.agg [.str id,.str what]):=fun e p q=>by
  rw[NZ];simp only[ce,Wb,cS,evc,ev,p,q,Bb];rfl
 simp only[ai,ax,bv,bt,bh,ay,aa,ah,aG,aV,fB,cO,hx,cN,hbd,hup];exact⟨.inl trivial,[],rfl,rfl⟩
end
def Vm{l r:List ak}(hl:aD 1 aF v l)(hu:aD 1 aF u r)(hv:aQ v=true)(hu2:aQ u=true)(hs:l.length<small):wS [v,u]=some (.int .i64 (gQ l r)):=by
 have q1:bk l.length small=true:=cu hs;simp only[ce,wS,pures,hv,hu2,cH,i8 p8 hl,i8 p8 hu,q1]
def V6{l:List be}(hl:aD 2 bD v l)(hv:aQ v=true)(hs:l.length<=400000):wV [v]=some (BU ((dR l).map aF)):=by
 have q1:br l.length 400000=true:=cu hs;simp only[ce,wV,pures,hv,cH,i8 tg hl,q1]
def Sc(l:List ak):aQ (BU (l.map aF))=true:=by
 cases l with
 |nil=>rfl
 |cons a l=>
  show(pures ((a::l).map aF)&&true)=true;rw[Cp Vi];rfl
def tk(a b:Obj):Int:=qv [gp a.uP b.uP,oS (a.x,a.y) (b.x,b.y),gQ a.gE b.gE,gQ (dR a.gT) (dR b.gT)]
def Yu{z u:Operand}{a b c d:Int}(hx:ev e x=some (.int .i64 a))(hy:ev e y=some (.int .i64 b))(hz:ev e z=some (.int .i64 c))(hu:ev e u=some (.int .i64 d))(s:St):cx ar 26 4 [(0,x),(1,y),(2,z),(3,u)] false e s=some (.list 1 [.int .i64 a,.int .i64 b,.int .i64 c,.int .i64 d] .GE,s):=by
 simp only[ce,jR,cx,IV,cS,evc,hx,hy,hz,hu,nP,eW,kQ,bu,kR,aG,jg,fW,cut];rfl
variable{av:Array Operand}{ts:Array TypeId}{t:Tmp}{Q:bF}
section
variable{sp:bC}{ch:Nat->Nat}
def ZM(h77:sp 283=none)(h122:sp 232=some rQ)(h119:sp 379=some tM)(h123:sp 136=some wS)(h124:sp 381=some wV)(h31:sp 108=some sJ)(hm:s.ge<=s.al){p q:Nat}{a b:Obj}(ha:s.get [] p=some (.cells a.cells))(hb:s.get [] q=some (.cells b.cells))(ga:a.Al)(gb:b.Al)(ta:a.gT.length<=400000)(tb:b.gT.length<=400000):
 aM (QM sp ch) 283 [.ptr p 0,.ptr q 0] s (.int .i64 (tk a b)) s:=by
 have ha:s.top.get [] p=some (.cells a.cells):=ha;have hb:s.top.get [] q=some (.cells b.cells):=hb;simp only[Obj.cells] at ha hb;have c1:=ga.gE.aL;have c2:=gb.gE.aL;have c3:=ga.gT.aL;have c4:=gb.gT.aL;have k1:rQ [.int .i64 a.uP,.int .i64 b.uP]=some (.int .i64 (gp a.uP b.uP)):=rfl;have k2:tM [.agg [.int .i64 a.x,.int .i64 a.y],.agg [.int .i64 b.x,.int .i64 b.y]]=some (.int .i64 (oS (a.x,a.y) (b.x,b.y))):=rfl;have k3:=Vm ga.gE gb.gE ga.pr gb.pr ga.reflen;have k4:=V6 ga.gT ga.pt ta;have k5:=V6 gb.gT gb.pt tb;have k6:=Vm (FZ (dR a.gT)) (FZ (dR b.gT)) (Sc _) (Sc _) (by have hsm:=fg;rw[CO];omega);have c5:=(FZ (dR a.gT)).aL;have c6:=(FZ (dR b.gT)).aL;have k7:sJ [.list 1 [.int .i64 (gp a.uP b.uP),.int .i64 (oS (a.x,a.y) (b.x,b.y)),.int .i64 (gQ a.gE b.gE),.int .i64 (gQ (dR a.gT) (dR b.gT))] .GE]=some (.int .i64 (tk a b)):=rfl;have hbs: ∀e s,aj e 13= .int .i64 (gp a.uP b.uP)->aj e 22= .int .i64 (oS (a.x,a.y) (b.x,b.y))->aj e 31= .int .i64 (gQ a.gE b.gE)->aj e 42= .int .i64 (gQ (dR a.gT) (dR b.gT))->cx ar 26 4 [(0,.tmp 13),(1,.tmp 22),(2,.tmp 31),(3,.tmp 42)] false e s=some (.list 1 [.int .i64 (gp a.uP b.uP),.int .i64 (oS (a.x,a.y) (b.x,b.y)),.int .i64 (gQ a.gE b.gE),.int .i64 (gQ (dR a.gT) (dR b.gT))] .GE,s):=fun e s p q r t=>Yu (by rw[bq,p]) (by rw[bq,q]) (by rw[bq,r]) (by rw[bq,t]) s;refine dz E0.1 E0.2 E0.3 E0.4 h77 ?_;refine aw ?_;simp only[ai,bv,bt,ah,aG,aV];refine lD hm ?_;simp only[ai,ax,isStore,bh,gd,uq,cut,aN,ay,aa,ah,aG,adn,fB,cO,ha,hb,cN,c1,c2,c3,c4,c5,c6,h122,k1,h119,k2,h123,k3,h124,k4,k5,k6,hbs,h31,k7];exact bo ⟨rfl,.inr rfl,bz (by simp only[aq,aa, *]) rfl⟩
def sg(a b:ae)(p q:Option Obj):ae:=
 match p,q with
 |none,_=>b
 |some _,none=>a
 |some o,some t=>bif bG (tk t o) 0 then b else a
def Xc{f:FuncId}{d:Tmp}{bb:Bool}{l:List aB}{sz:Nat}{s1:St}{g:FuncId}{args:List ae}{N:Fr->St->Prop}(hw:pC (aj e t) bb=true)(hc:callee e ⟨.value x,av,ts⟩=some (g,args))(hr:aM Q g args s v s1)(hd:d<sz)(hk:WL Q f l ⟨e.set d (some v),sz,lc⟩ s1 N):
 WL Q f (⟨some d,.call ⟨.value x,av,ts⟩,.when t bb⟩::l) ⟨e,sz,lc⟩ s N:=
 WL.call (by rw[sS];exact hw) rfl (fun b=>by simp) hc hr (eM.2 ⟨hd,rfl⟩) hk
def Sa(h46:sp 188=none)(h77:sp 283=none)(h122:sp 232=some rQ)(h119:sp 379=some tM)(h123:sp 136=some wS)(h124:sp 381=some wV)(h31:sp 108=some sJ)(hm:s.ge<=s.al){q:Option Obj}(ha:PV s a p)(hb:PV s b q)(tp: ∀o,p=some o->o.gT.length<=400000)(tq: ∀o,q=some o->o.gT.length<=400000):aM (QM sp ch) 188 [a,b] s (sg a b p q) s:=by
 have ca:=ha.aL;have cb:=hb.aL;refine dz Et.1 Et.2 Et.3 Et.4 h46 ?_;refine aw ?_;simp only[ai,bv,bt,ah,aG,aV,iQ];cases ha with
 |nil=>
  refine aC (aw ?_);simp only[ai,bh,aa,ah,iQ,iY,Ah];refine bU (aw ?_);simp only[ai,aa,ah];exact bo ⟨rfl,.inr rfl,bz (by simp only[aq,aa,sg]) cb⟩
 |at_ h1 h2=>
  cases hb with
  |nil=>
   refine aC (aw ?_);simp only[ai,bh,aa,ah,iQ,iY,Ai,yp];refine dq ?_;simp only[bM];refine aw ?_;simp only[ai,aa,ah];exact bo ⟨rfl,.inr rfl,bz (by simp only[aq,aa,sg]) rfl⟩
  |at_ h3 h4=>
   rename_i pa oa pb ob;have hcmp:=ZM (ch:=ch) h77 h122 h119 h123 h124 h31 hm h3 h1 h4 h2 (tq _ rfl) (tp _ rfl);refine aC (aC (fU (fM 8 ?_)));simp only[ai,bh,aN,ay,aa,ah,iQ,iY,Ai,vj];refine Xc (g:=283) (args:=[.ptr pb 0,.ptr pa 0]) (by simp only[aq,aa,VU]) ?_ hcmp (by decide) ?_;simp only[ai,callee,aa];refine fN ?_;simp only[ai,aA,bh,aa,ah];cases hl:bG (tk ob oa) 0 with
   |true=>
    refine bU (aw ?_);simp only[ai,aa,ah];exact bo ⟨rfl,.inr rfl,bz (by simp only[aq,aa,sg,hl]) (by simp only[sg,hl,cT];rfl)⟩
   |false=>
    refine dq ?_;simp only[bM];refine aw ?_;simp only[ai,aa,ah];exact bo ⟨rfl,.inr rfl,bz (by simp only[aq,aa,sg,hl]) (by simp only[sg,hl,cF];rfl)⟩
end
def qS(a b:Int×Int):Int×Int:=bif bG (oS b a) 0 then b else a
def YK(h:ev e x=some (.func (.func 379) [] [])):callee e ⟨.value x,av,ts⟩=(evcs e av.toList).bind fun args=>some (379,args):=by
 simp only[callee,h,bn,mf,ii]
def Am(hP:Q.P=ar){n g:Nat}(h:aj e t= .Ge t g 0)(hl:lc.get t g=some [a,b]): ∃vs,bW Q [] ⟨e,n,lc⟩ s [.cell t 49]=some vs/\gG vs= .agg [a,b]:=by
 refine⟨[.agg [a,b]],?_,rfl⟩;simp only[ai,ax,bW,dy,h,hP,hl,cut,aN,aG]
def ajC(h118:sp 378=none)(h119:sp 379=some tM)(a b:Int×Int)(hm:s.ge<=s.al):aM (QS sp) 378 [.list 2 [ff a,ff b] .GE,.func (.func 379) [] []] s (ff (qS a b)) s:=by
 have hsp:tM [.agg [.int .i64 b.1,.int .i64 b.2],.agg [.int .i64 a.1,.int .i64 a.2]]=some (.int .i64 (oS b a)):=rfl;have w2:IntKind.i64.wrap (1+1)=2:=rfl;have t1:bG ((2:Nat):Int) 1=false:=rfl;have t2:bG 1 ((2:Nat):Int)=true:=rfl;have t3:bG 2 ((2:Nat):Int)=false:=rfl;have n0: ∀k,eK (.int k 0)=some 0:=fun _=>rfl;have n1: ∀k,eK (.int k 1)=some 1:=fun _=>rfl;have a0: ∀x y:ae,iA [x,y] 0=x:=fun _ _=>rfl;have a1: ∀x y:ae,iA [x,y] 1=y:=fun _ _=>rfl;refine dz Fm.1 Fm.2 Fm.3 Fm.4 h118 ?_;refine aw ?_;simp only[ai,ax,bv,bt,ah,aG,aV,zC,ff];refine aC (aC (bH ?_));simp only[ai,ax,aA,aa,ah,aG,zC,t1];refine dq ?_;simp only[bM];refine aw ?_;simp only[ai,ax,cut,bu,aN,ay,aa,ah,aG,aV,zC,n0,a0];refine aC (aw ?_);simp only[cG,hQ,ah];refine bL (bV ?_);refine aC (aC (bH ?_));simp only[ai,ax,aA,aa,ah,aG,zC,t2];refine bU (cL ?_);simp only[bM];refine aC (bL (lD hm ?_));simp only[ai,ax,isStore,cut,aN,ay,aa,ah,aG,n1,a1,YK,h119,hsp];cases hz:bG (oS b a) 0 with
 |true=>
  have hm2:qS a b=b:=by simp only[qS,hz,cT]
  rw[hm2];refine bU (bH ?_);simp only[ai,ax,aA,cut,bu,aN,ay,aa,ah,aG,aV,n1,a1];refine bH ?_
  try unfold Rh
  simp only[ai,aA,aa,ah,w2];refine bV ?_
  try unfold Rf
  refine aC (aC (bH ?_))
  try unfold Rg
  simp only[ai,ax,aA,aa,ah,aG,zC,t3];refine cJ (dL ?_);show W (QS sp) 378 _ _ _ _;refine aw ?_;simp only[ai,ax,cut,bu,aN,ay,aa,ah,aG,aV];refine bo ⟨rfl,.inr rfl,?_⟩;exact Am (g:=1) rfl (by simp only[aq,aa, *]) (by simp only[cz,ew,aa])
 |false=>
  have hm2:qS a b=a:=by simp only[qS,hz,cF]
  rw[hm2];refine dq ?_;simp only[dA];refine bH ?_
  try unfold Rh
  simp only[ai,aA,aa,ah,w2];refine bV ?_
  try unfold Rf
  refine aC (aC (bH ?_))
  try unfold Rg
  simp only[ai,ax,aA,aa,ah,aG,zC,t3];refine cJ (dL ?_);show W (QS sp) 378 _ _ _ _;refine aw ?_;simp only[ai,ax,cut,bu,aN,ay,aa,ah,aG,aV];refine bo ⟨rfl,.inr rfl,?_⟩;exact Am (g:=1) rfl (by simp only[aq,aa, *]) (by simp only[cz,ew,aa])
def wC:Sp
 | [.list 2 [p,q] .GE,.func (.func 379) [] []]=>(uw p).bind fun a=>(uw q).bind fun b=>some (ff (qS a b))
 |_=>none
def H8:du:=[(379,tM)]
def Xo:dc H8:=.cons T8 .nil
def ajB:cq ar 378 wC:=by
 intro args x hv G h w xs wr hx;unfold wC at hv;split at hv;simp only[az,aP] at hv;obtain⟨a,h1,b,h2,rfl⟩:=hv;have h1:=xt h1;have h2:=xt h2;subst h1;subst h2;exact eA (Q:=QT H8) (ep Xo) (fun _=>eH 1) (args:=[.list 2 [ff a,ff b] .GE,.func (.func 379) [] []]) (s':=s0) rfl (ajC (sp:=fun f=>cI f H8) rfl rfl a b (aU _)) rfl ⟨2,rfl⟩ G h w xs wr hx;cases hv
def jJ(a b:Int×Int):Bool:=bif aK a.1 b.1 then bif aK a.2 b.2 then true else false else false
def lp(b o t:Int×Int):Bool:= !(jJ o t||jJ t b||jJ o b)
def nJ(b o t:Int×Int):Int×Int:=bif jJ o t||jJ t b then o else bif jJ o b then t else qS o t
def Yq{c d:ae}(hx:ev e x=some (.agg [a,b]))(hy:ev e y=some (.agg [c,d]))(s:St):cx ar 218 2 [(0,x),(1,y)] false e s=some (.list 2 [.agg [a,b],.agg [c,d]] .GE,s):=by
 simp only[ce,jR,cx,Z4,cS,evc,hx,hy,nP,eW,kQ,bu,kR,aG,jg,fW,cut];rfl
section
variable{sp:bC}{ch:Nat->Nat}
def alY(h75:sp 281=none){x:Nat}{id:ak}(b o t:Int×Int)(hb:lp b o t=false)(s:St):aM (QM sp ch) 281 [.ptr x 0,.str id,ff b,ff o,ff t] s (ff (nJ b o t)) s:=by
 refine dz wh.1 wh.2 wh.3 wh.4 h75 ?_;refine aw ?_;simp only[ai,ax,bv,bt,bh,gd,aa,ah,aG,aV,JI,ff];refine aC (bL (aC (aC (bH ?_))));have f1:(bif aK o.1 t.1 then bif aK o.2 t.2 then true else false else false)=jJ o t:=rfl;have f2:(bif aK t.1 b.1 then bif aK t.2 b.2 then true else false else false)=jJ t b:=rfl;have f3:(bif aK o.1 b.1 then bif aK o.2 b.2 then true else false else false)=jJ o b:=rfl;simp only[ai,ax,aA,bh,cut,aN,ay,aa,ah,aG,mG,f1];cases h1:jJ o t with
 |true=>
  have hm:nJ b o t=o:=by simp only[nJ,h1,Bool.true_or,cT]
  rw[hm];refine bU (cL ?_);simp only[bM];refine bU (aw ?_);simp only[ai,ax,bh,cut,bu,aN,ay,aa,ah,aG,aV];refine bo ⟨rfl,.inr rfl,?_⟩;exact Am (g:=1) rfl (by simp only[aq,aa, *]) (by simp only[cz,ew,aa])
 |false=>
  refine cJ (bH ?_);simp only[ai,ax,aA,bh,cut,aN,ay,aa,ah,aG,mG,f2];cases h2:jJ t b with
  |true=>
   have hm:nJ b o t=o:=by simp only[nJ,h1,h2,jd,cT]
   rw[hm];refine bU (aw ?_);simp only[ai,ax,bh,cut,bu,aN,ay,aa,ah,aG,aV];refine bo ⟨rfl,.inr rfl,?_⟩;exact Am (g:=1) rfl (by simp only[aq,aa, *]) (by simp only[cz,ew,aa])
  |false=>
   have h3:jJ o b=true:=by
    simp only[lp,h1,h2,jd,nh] at hb;exact hb
   have hm:nJ b o t=t:=by simp only[cz,nJ,h1,h2,h3,iR]
   rw[hm];refine cJ ?_;refine aC (bH ?_);simp only[ai,ax,aA,bh,cut,aN,ay,aa,ah,aG,mG,f3];refine dJ (t:=true) (by simp only[aq,bq,aa,h3]) (aw ?_);simp only[ai,ax,bh,cut,bu,aN,ay,aa,ah,aG,aV];refine bo ⟨rfl,.inr rfl,?_⟩;exact Am (g:=1) rfl (by simp only[aq,aa, *]) (by simp only[cz,ew,aa])
def alX(h75:sp 281=none)(h45:sp 187=none)(h118:sp 378=some wC){x mb mo mt mu md:Nat}(hx:s.get [] x=some (.cells [.map mb,.map mo,.map mt,.map mu,.map md]))(hd:s.get [] md=some (.map (eI 0 C) C.length)){id:ak}(b o t:Int×Int)(hb:lp b o t=true):
 aM (QM sp ch) 281 [.ptr x 0,.str id,ff b,ff o,ff t] s (ff (nJ b o t)) (s.put md (some (.map (eI 0 (dh (id,[97,116]) C)) (dh (id,[97,116]) C).length))):=by
 have hnote:=Cd (ch:=ch) h45 hx hd id [97,116];simp only[lp,qC,kj] at hb;obtain⟨⟨h1,h2⟩,h3⟩:=hb;have hm:nJ b o t=qS o t:=by simp only[nJ,h1,h2,h3,iR,cF]
 have hms:wC [.list 2 [.agg [.int .i64 o.1,.int .i64 o.2],.agg [.int .i64 t.1,.int .i64 t.2]] .GE,.func (.func 379) [] []]=some (.agg [.int .i64 (qS o t).1,.int .i64 (qS o t).2]):=rfl;have hbs: ∀e s,aj e 27= .agg [.int .i64 o.1,.int .i64 o.2]->aj e 28= .agg [.int .i64 t.1,.int .i64 t.2]->cx ar 218 2 [(0,.tmp 27),(1,.tmp 28)] false e s=some (.list 2 [.agg [.int .i64 o.1,.int .i64 o.2],.agg [.int .i64 t.1,.int .i64 t.2]] .GE,s):=fun e s p q=>Yq (by rw[bq,p]) (by rw[bq,q]) s;have f1:(bif aK o.1 t.1 then bif aK o.2 t.2 then true else false else false)=false:=h1;have f2:(bif aK t.1 b.1 then bif aK t.2 b.2 then true else false else false)=false:=h2;have f3:(bif aK o.1 b.1 then bif aK o.2 b.2 then true else false else false)=false:=h3;rw[hm];refine dz wh.1 wh.2 wh.3 wh.4 h75 ?_;refine aw ?_;simp only[ai,ax,bv,bt,bh,gd,aa,ah,aG,aV,JI,ff];refine aC (bL (aC (aC (bH ?_))));simp only[ai,ax,aA,bh,cut,aN,ay,aa,ah,aG,mG,f1];refine cJ (bH ?_);simp only[ai,ax,aA,bh,cut,aN,ay,aa,ah,aG,mG,f2];refine cJ (aC (bH ?_));simp only[ai,ax,aA,bh,cut,aN,ay,aa,ah,aG,mG,f3];refine dq ?_;simp only[dA];refine aC (fU (fM 2 ?_));simp only[ai,aN,ay,aa,ah];refine fO (g:=187) (args:=[.ptr x 0,.str id,.str [97,116]]) ?_ hnote (by decide) ?_;simp only[ai,callee,aa];refine fN ?_;simp only[nV,bM];refine aw ?_;simp only[ai,ax,bh,gd,uq,cut,bu,aN,ay,aa,ah,aG,aV,JI,hbs,h118,hms];refine bo ⟨rfl,.inr rfl,?_⟩;exact Am (g:=1) rfl (by simp only[aq,aa, *]) (by simp only[cz,ew,aa])
end
