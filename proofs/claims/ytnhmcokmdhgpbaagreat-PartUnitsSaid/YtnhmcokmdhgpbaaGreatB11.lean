/- Lemmas for PartUnits. -/
import Derived.Test.YtnhmcokmdhgpbaaGreatB10
import Derived.Calls
import Derived.RunT
import Derived.Shelf.Strings.OnBuilder
import Derived.Test.YtnhmcokmdhgpbaaGreatProg
import Derived.Test.YtnhmcokmdhgpbaaGreatB4
import Derived.Test.YtnhmcokmdhgpbaaGreatZ1
import Derived.Test.YtnhmcokmdhgpbaaGreatB8
import Derived.ProofKit
import Derived.Carry
import Derived.Test.YtnhmcokmdhgpbaaGreatRows
set_option linter.all false
open Option renaming some→X,none→Z,bind_eq_some_iff→an,bind_some→aH,isNone_none→Fb,map_eq_some_iff→pH,map_none→nQ,map_some→kL
open Bool renaming true→O,false→I,and_eq_true→bh,and_self→cj,false_eq_true→EX,not_eq_false'→EY,or_eq_false_iff→v6,true_and→jf,true_or→AC
open List renaming length→J,all_cons→pD,all_eq_true→fK,append_assoc→mJ,append_nil→iw,drop_succ_cons→uq,drop_zero→kz,eq_nil_of_length_eq_zero→su,flatMap_append→It,flatMap_cons→ur,getElem?_cons_succ→Cp,getElem?_cons_zero→AH,getElem?_eq_getElem→dp,getElem?_eq_some_iff→gn,getElem?_map→gZ,length_append→bK,length_cons→bT,length_drop→kd,length_eraseIdx_of_lt→E7,length_map→bj,length_nil→bn,length_set→nN,length_singleton→yy,length_take→jw,map_append→db,map_cons→cU,map_nil→oJ,mem_append→fA,mem_cons_of_mem→iE,mem_cons_self→gG,mem_cons→dG,mem_filter→AK,mem_flatMap→sD,mem_map→cC,mem_of_getElem?→co,mem_singleton→kg,not_mem_nil→pF,pairwise_map→ux,replicate→fB,set_eq_take_append_cons_drop→Nx,sum_cons→qK,take_left'→IB,take_succ_cons→wt,take_zero→wu
open Go.Ag.aa renaming cells→m8
open Go.Ag.cx renaming meets→oI
open Go.IntKind renaming wrap_i64→nf
open List.cons renaming injEq→lP
open Go.Ag.bg renaming put→qM
open Nat renaming add_assoc→sE,beq→aB,ble_eq_true_of_le→bH,ble→aP,eq_of_beq_eq_true→fL,eq_zero_or_pos→IE,le_of_ble_eq_true→im,le_refl→aD,le_succ_of_le→cr,le_succ→io,le_trans→dj,lt_irrefl→bJ,lt_succ_self→gN,mul_le_mul_right→kX,zero_add→dP,zero_le→fN
open Go.Operand renaming tmp→aG
open Go.Proofs.Tryz renaming prog→ae
open Go.Ag.W renaming loopC→aF
open Go.Ag.WC renaming sound→aM
namespace Go.Proofs.YtnhmcokmdhgpbaaGreat
open Go.Ag
def Ib:ae.underlying 51=X (.slice 105):=k_
def M6:cW ae 105=X 2:=k_
def akp(mu:Bool)(s:St)(m n c:Nat)(cs:az)(h:s.get [] m=X (.cells cs))(A:J cs=n*2+2):fQ ae [] .clear [51] mu [.arr 2 m (0+n*2) 1 c] s=X (.tup [],s.put m (X (.cells (cs.take (n*2)++[.str [],.str []])))):=by
 have z:aP (n*2+2) (J cs)=O:=bH w_;have q:cs.drop (n*2+2)=[]:=List.drop_of_length_le w_;have j:aB 1 0=I:=rfl;have B:((1:Nat)==0)=I:=rfl;simp only[ce,fQ,Ib,aH,ri,j,B,cF,MN,h,eZ,m8,iw,gL,bT,bn,dP,Nat.reduceAdd,z,q]
variable{Q:ay}[Std Q]
variable{l:wf}{i m:Nat}{s:St}
def alc(V:s.gE<=s.aL)(hm:s.get [] m=X (.cells (au (l.map bZ))))(hi:i<J l)(hl:J l<=1000):
 ∃v s',ai Q 157 [.arr 2 m 0 (J l) (J l),ak i,ak (i+1)] s v s'/\∃j,v=.arr 2 m 0 (J l-1) (J l)/\s'.get [] m=X (.cells (au ((l.eraseIdx i).map bZ)++j)):=by
 have q1:∀env s,ac env 9=ak i->ac env 10=ak (i+1)->ac env 12=ak (J l)->eH ae [] 51 (.arr 2 m 0 (J l) (J l)) (X (.tmp 9)) (X (.tmp 10)) (X (.tmp 12)) env s=X (.arr 2 m (0+i*2) (i+1-i) (J l-i)):=λenv s a b c=>by
  have D:aP i (i+1)=O:=bH (io i);have B:aP (i+1) (J l)=O:=bH hi;have h:aP (J l) (J l)=O:=bH (aD _);rw[Ak Ib M6,kI (x:=.tmp 9) (by rw[eC,a]),kI (x:=.tmp 10) (by rw[eC,b]),kI (x:=.tmp 12) (by rw[eC,c])];simp only[fb,D,B,h,Option.isSome_some,Bool.or_true]
 have q3:∀env s,ac env 21=ak i->eH ae [] 51 (.arr 2 m 0 (J l) (J l)) Z (X (.tmp 21)) Z env s=X (.arr 2 m 0 i (J l)):=λenv s a=>by
  have D:aP 0 i=O:=bH (fN i);have B:aP i (J l)=O:=bH (Nat.le_of_lt hi);have h:aP (J l) (J l)=O:=bH (aD _);rw[Ak Ib M6,kI (by rw[eC,a])];simp only[fb,dK,D,B,h,Fb,AC,Nat.zero_mul,Nat.add_zero,Nat.sub_zero]
 have q4:∀env s,ac env 24=ak (i+1)->eH ae [] 51 (.arr 2 m 0 (J l) (J l)) (X (.tmp 24)) Z Z env s=X (.arr 2 m (0+(i+1)*2) (J l-(i+1)) (J l-(i+1))):=λenv s a=>by
  have B:aP (i+1) (J l)=O:=bH hi;have h:aP (J l) (J l)=O:=bH (aD _);rw[Ak Ib M6,kI (x:=.tmp 24) (by rw[eC,a])];simp only[fb,dK,B,h,Fb,AC]
 have q5:∀env s,ac env 29=ak (J l-1)->ac env 30=ak (J l)->eH ae [] 51 (.arr 2 m 0 (J l-1) (J l)) (X (.tmp 29)) (X (.tmp 30)) Z env s=X (.arr 2 m (0+(J l-1)*2) 1 1):=λenv s a b=>by
  have D:aP (J l-1) (J l)=O:=bH (Nat.sub_le _ _);have h:aP (J l) (J l)=O:=bH (aD _);have e4:J l-(J l-1)=1:=w_
  rw[Ak Ib M6,kI (x:=.tmp 29) (by rw[eC,a]),kI (x:=.tmp 30) (by rw[eC,b])];simp only[fb,dK,D,h,Fb,AC,e4]
 have ln:∀Y s n c,fZ ae Y 51 (.arr 2 m 0 n c) s=X (ak n):=λY s n c=>k_
 have T:aj (i:Int) ((i+1:Nat):Int)=I:=dN w_;have q:s.top.get [] m=X (.cells (au (l.map bZ))):=hm
 let⟨o,j,ha,ho,hz⟩:=Ws qa MN d_ q hi w_ I
 obtain⟨u,G⟩:=cw ((bif o then s.top.put m (X (.cells (au ((l.eraseIdx i).map bZ)++j)))else s.top));have ug:(s.xW u).get [] m=X (.cells (au ((l.eraseIdx i).map bZ)++j)):=by
  rw[jH,<-G];cases o;rw[cF,q,ho rfl];rw[cT,aN,bS];rfl
 rw[G,dP]at ha;have N:s.aL<=u.aL:=by rw[<-G];cases o<;>exact aD _
 have R:u.ci=s.ci:=by rw[<-G];cases o<;>rfl
 have z:(au ((l.eraseIdx i).map bZ)++j).length=(J l-1)*2+2:=by
  rw[bK,qa.size,E7 hi,hz]
 have A:=λmu=>akp mu (s.xW u) m (J l-1) 1 _ ug z;have S:(au ((l.eraseIdx i).map bZ)++j).take ((J l-1)*2)=au ((l.eraseIdx i).map bZ):=by
  rw[IB (by rw[qa.size,E7 hi])]
 simp only[S,dP]at A;refine ai.ofNRZ atb (aM ?_);simp only[go_sem,seval,ln,q1,T,q3,q4,ha,N,R,q5,A,V];refine⟨_,rfl,[.str [],.str []],rfl,?_⟩;rw[aN,bS];rfl
def xU(l:wf):aa:=.list 2 (l.map bZ) .no
def FD:aa->wf->aa
 |.uP,_=>.uP
 |_,[]=>.list 2 [] .Al
 |_,l=>xU l
def js(tv:aa)(l:wf)(k v:ag):wf×aa×Int:=
 bif !jl l||(!eD k||aQ 200 (J v:Nat))then([],.uP,1)
 else bif tg l k then bif v== []then(l.eraseIdx (eR l k),xU (l.eraseIdx (eR l k)),0)else(l.set (eR l k) (((l[eR l k]?).getD ([],[])).1,v),xU (l.set (eR l k) (((l[eR l k]?).getD ([],[])).1,v)),0)
 else bif v== []then(l,FD tv l,0)else bif aj (J l:Nat) 60 then([],.uP,2)else(l.take (eR l k)++(k,v)::l.drop (eR l k),xU (l.take (eR l k)++(k,v)::l.drop (eR l k)),0)
inductive yO (s:St):aa->wf->aa->Prop where
 |uP:yO s .uP [] .uP
 |none:yO s (.list 2 [] .Al) [] (.list 2 [] .Al)
 |row {m c:Nat} {l:wf} {zs:az}:s.get [] m=some (.cells (au (l.map bZ)++zs))->yO s (.arr 2 m 0 l.length c) l (xU l)
def arz{l c:Nat}(hi:i<l)(lc:Ag.Loc):fR ae lc 51 (.arr 2 m 0 l c) (ak i)=X (.ptr m (i*2)):=by
 have h:=jj.2.2.2.1 lc 2 m 0 l c (ak i);have j:Nat.blt i l=O:=bH hi;rw[h,mV,aH,j];simp
def aFr{R:wf}(h:s.get [] m=X (.cells (au (R.map bZ)))){t:dw}(hi:R[i]?=X t)(v:ag)(lc:Ag.Loc):EL lc s m (i*2+1) (.str v) (s.get [] m)=X (lc,s.put m (X (.cells (au ((R.set i (t.1,v)).map bZ))))):=by
 let⟨hlt,_⟩:=gn.1 hi
 have j:=qa.size R;have D:aP (i*2+1+1) (au (R.map bZ)).length=O:=bH (by rw[j];omega);rw[h,du];show(bif aP (i*2+1+1) (au (R.map bZ)).length then X ((au (R.map bZ)).take (i*2+1)++([.str v]++(au (R.map bZ)).drop (i*2+1+1)))else Z).bind _=_;rw[D,cT,aH];have e:(au (R.map bZ)).take (i*2+1)++([.str v]++(au (R.map bZ)).drop (i*2+1+1))=au ((R.set i (t.1,v)).map bZ):=by
  have q:(au (R.map bZ)).drop (i*2)=.str t.1:: .str t.2::au ((R.drop (i+1)).map bZ):=by
   rw[qa.drop,List.drop_eq_getElem_cons hlt,(gn.1 hi).2];rfl
  have B:(au (R.map bZ)).take (i*2+1)=au ((R.take i).map bZ)++[.str t.1]:=by
   rw[List.take_add,qa.take,q];rfl
  have A:(au (R.map bZ)).drop (i*2+1+1)=au ((R.drop (i+1)).map bZ):=by
   rw[show i*2+1+1=(i+1)*2 from w_,qa.drop]
  have z:R.set i (t.1,v)=R.take i++(t.1,v)::R.drop (i+1):=Nx .. |>.trans (by rw[iP hlt])
  rw[B,A,z,db,mQ,cU];simp[au,bZ,m8]
 rw[e]
def aFn(x:dw)(l:wf)(p:Nat):jo 2 p (bZ x).cells (au (l.map bZ))=au ((l.take p++x::l.drop p).map bZ):=by
 unfold jo;rw[qa.take,qa.drop,db,cU,mQ,au]
variable{tv:aa}
def aDz(a5:Q.spec 105=X Ao)(a6:Q.spec 104=X jg)(a7:Q.spec 155=X kD)(q:Q.spec 158=Z)(N:Q.specW 158=X (nD 2))(R:Q.anew 158=O)(b1:No Q 93)(ho:aq 2 bZ tv l)(b0:∀t∈l,J t.1<small)(hl:J l<small){k v:ag}(hk:J k<small)(hv:J v<small)(a9:s.gE<=s.aL):
 ∃u s',ai Q 93 [tv,.str k,.str v] s u s'/\∃ov,u=.tup [ov,ah (js tv l k v).2.2]/\yO s' ov (js tv l k v).1 (js tv l k v).2.1:=by
 have b6:=aae;have B:=ho.cs;have a3:=ho.lenS jj;have D:=afE ho hl b0;have G:=xE hk;refine ai.ofNRZ av1 (aM ?_);unfold js;cases c1:jl l<;>cases c2:eD k<;>cases c3:aQ 200 (J v:Nat)<;>rw[c1]at D<;>rw[c2]at G<;>simp only[go_sem,seval,B,a5,D,a6,G,c3]
 case true.true.false=>
  have b2:J l<=60:=by
   simp only[jl,bh,dE]at c1;exact c1.2
  have a1:eR l k<=J l:=Jg l k (J l) 0 (J l) (fN _);refine aV.of (aiW a7 ho w_ k s) d_ ?_;obtain⟨c,A,a0,hc⟩:∃c A,ai Q 156 [tv] s c A/\((c=.uP/\tv=.uP/\l=[]/\A=s)\/(c=.list 2 [] .Al/\tv≠.uP/\l=[]/\A=s)\/(l≠[]/\tv≠.uP/\c=.arr 2 s.aL 0 (J l) (J l)/\A=s.new (.cells (au (l.map bZ))))):=by
   rcases ho with⟨rfl,rfl⟩|⟨r,rfl⟩
   exact⟨_,_,aja,.inl ⟨rfl,rfl,rfl,rfl⟩⟩;rcases l with _|⟨o,l⟩
   exact⟨_,_,ai9,.inr (.inl ⟨rfl,(λh=>by cases h),rfl,rfl⟩)⟩;exact⟨_,_,ajb w_,.inr (.inr ⟨by simp,(λh=>by cases h),rfl,rfl⟩)⟩
  have cc:c.gt=O/\c.cells=[c]:=by rcases hc with⟨rfl,_⟩|⟨rfl,_⟩|⟨_,_,rfl,_⟩<;>exact R_
  simp only[go_sem,seval,B];refine aV.of a0 d_ ?_;cases c4:tg l k with
  |true=>
   obtain⟨t,T,_⟩:∃t,l[eR l k]?=X t/\t.1=k:=by
    unfold tg at c4;split at c4
    ·next t ht=>exact⟨t,ht,by simpa using c4⟩
    cases c4
   have j:=(gn.1 T).1;obtain⟨rfl,rfl⟩:c=.arr 2 s.aL 0 (J l) (J l)/\A=s.new (.cells (au (l.map bZ))):=by
    rcases hc with⟨_,_,rfl,_⟩|⟨_,_,rfl,_⟩|⟨_,_,h⟩
    cases j;cases j;exact h
   generalize hz:s.new (.cells (au (l.map bZ)))=z;have zg:z.get [] s.aL=X (.cells (au (l.map bZ))):=by rw[<-hz];exact cu
   have a8:=cm (n:=eR l k) w_;cases c5:v== []with
   |true=>
    obtain⟨u,s2,Y,zs,rfl,S⟩:=alc (Q:=Q) (by rw[<-hz];exact cr a9) zg j w_;simp only[go_sem,seval,cc,c5,a8];refine aV.of Y d_ ?_;simp only[go_sem,seval];refine⟨_,rfl,_,rfl,?_⟩
    have:=yO.row (c:=J l) S;rwa [E7 j]at this
   |false=>
    simp only[go_sem,seval,cc,c5,arz j,dl,aFr zg T v];refine⟨_,rfl,_,rfl,?_⟩
    have:=yO.row (zs:=[]) (c:=J l) (l:=l.set (eR l k) (t.1,v)) (s:=z.put s.aL (X (.cells (au ((l.set (eR l k) (t.1,v)).map bZ))))) (m:=s.aL) (by rw[aN,bS,iw];rfl);rw[nN]at this;rwa [T]
  |false=>
   cases c5:v== []with
   |true=>
    simp only[go_sem,seval,cc,c5];refine⟨_,rfl,c,rfl,?_⟩;rcases hc with⟨rfl,rfl,rfl,rfl⟩|⟨rfl,e1,rfl,rfl⟩|⟨a2,e1,rfl,rfl⟩
    exact .uP;rw[show FD tv []=.list 2 [] .Al by cases tv<;>first|rfl|exact absurd rfl e1];exact .none;rw[show FD tv l=xU l by cases l<;>cases tv<;>first|rfl|exact absurd rfl a2|exact absurd rfl e1];exact .row (zs:=[]) (by rw[iw];exact cu)
   |false=>
    cases c6:aj (J l:Nat) 60 with
    |true=>
     simp only[go_sem,seval,B,c5,a3,c6];exact⟨_,rfl,_,rfl,.uP⟩
    |false=>
     obtain⟨m,s2,V,S⟩:∃m s2,ai Q 158 [c,ak (eR l k),.arr 2 A.aL 0 1 1] (A.new (.cells [.str k,.str v])) (.arr 2 m 0 (J l+1) (J l+1)) s2/\s2.get [] m=X (.cells (au ((l.take (eR l k)++(k,v)::l.drop (eR l k)).map bZ))):=by
      have a4:jo 2 (eR l k) [.str k,.str v] (au (l.map bZ))=_:=aFn (k,v) l (eR l k);rcases hc with⟨rfl,_,rfl,rfl⟩|⟨rfl,_,rfl,rfl⟩|⟨a2,_,rfl,rfl⟩
      case inr.inr=>
       refine⟨_,_,ai.specN R q (Std.H _) N (n:=s.aL) (g:=λcs=>.ask (s.aL+1) (xg 2 (eR l k) (J l) cs)) (cs:=au (l.map bZ)) (cs':=jo 2 (eR l k) [.str k,.str v] (au (l.map bZ))) (sz:=2) (a:=0) (b:=0) (len:=J l+1) (c:=0) ?_ ?_ ?_,?_⟩;have q1:aB s.aL (s.aL+1)=I:=by rw[fa];exact bN.2 w_
       have q2:aP (eR l k) (J l)=O:=bH a1;have q3:aP (J l) 1000000=O:=bH w_;show(bif(aB 2 2&&aB 2 2)&&(!(aB s.aL (s.aL+1))&&(aP (eR l k) (J l)&&aP (J l) 1000000))then _ else _)=_;rw[q1,q2,q3];rfl;rw[eA,bN.2 (by show s.aL≠s.aL+1;omega)];exact cu;show(((s.new (.cells (au (l.map bZ)))).new (.cells [.str k,.str v])).get [] (s.new (.cells (au (l.map bZ)))).aL).bind (λv=>em _ (xg 2 (eR l k) (J l) (au (l.map bZ)) v))=_;rw[cu,aH];show(bif aB (au (l.map bZ)).length (J l*2)&&aB 2 2 then _ else _)=_;rw[qa.size,fa,bS];rfl;rw[<-a4];exact cu
      all_goals
       refine⟨_,_,ai.specN R q (Std.H _) N (n:=A.aL) (cs:=[.str k,.str v]) (cs':=jo 2 0 [.str k,.str v] []) rfl cu rfl,?_⟩;rw[<-a4];exact cu
     simp only[go_sem,seval,B,cc,c5,a3,c6,q,sB];refine aV.of V d_ ?_;simp only[go_sem,seval];refine⟨_,rfl,_,rfl,?_⟩
     have:=yO.row (zs:=[]) (c:=J l+1) (by rw[iw];exact S);rwa [show(l.take (eR l k)++(k,v)::l.drop (eR l k)).length=J l+1 by rw[bK,bT,jw,kd];omega]at this
 all_goals exact⟨_,rfl,_,rfl,.uP⟩
variable{ov:aa}
def anZ{u:aa}(h:yO s ov l u)(e:Int):eY s.heap (.tup [ov,ah e]) (.tup [u,ah e]):=by
 have j:∃k,bW s.heap k ov=X u:=by
  cases h with
  |uP=>exact⟨1,rfl⟩
  |none=>exact⟨2,rfl⟩
  |row B=>
   rename_i m c z
   let⟨k,e⟩:=JO (h:=s.heap) (k:=2) (xs:=l.map bZ) (ys:=l.map bZ) (o8 λv A=>by
    obtain⟨o,_,rfl⟩:=cC.1 A;rfl)
   refine⟨k+1,?_⟩;show(match s.heap.get m with
    |some (.cells cs)=>(cut cs 0 (J l*2)).bind λc=>(cK (bW s.heap k) c).bind λN=>(chunk (!aB 2 1) 2 (J l) N).bind λxs=>X (aa.list 2 xs .no)
    |_=>Z)=_
   rw[show s.heap.get m=_ from B];have D:cut (au (l.map bZ)++z) 0 (J l*2)=X (au (l.map bZ)):=by
    simp only[ce,cut,kz,IB (qa.size l),qa.size]
   have q:chunk (!aB 2 1) 2 (J l) (au (l.map bZ))=X (l.map bZ):=qa.chunk l;simp only[D,aH,e,q];rfl
 let⟨k,e1⟩:=j
 refine⟨k+2,?_⟩;have G:=Dj s.heap (io k) e1;show(cK (bW s.heap (k+1)) [_,_]).bind _=_;simp only[cK,G,aH];rfl
def Et:Sp
 |[tv,.str k,.str v]=>(fH 2 sU tv).bind λl=>bif decide (J l<small)&&(l.all (λt=>decide (J t.1<small))&&(decide (J k<small)&&decide (J v<small)))then X (.tup [(js (dh tv) l k v).2.1,ah (js (dh tv) l k v).2.2])else Z
 |_=>Z
def UY:de:=[(105,Ao),(104,jg),(155,kD)]
def ag7:eh UY:=.cons afF (.cons Hk (.cons Wf .nil))
def aDC:da ae 93 Et:=by
 intro args u j G h w xs wr q;unfold Et at j;split at j;rename_i tv k v;simp only[an]at j
 let⟨l,h1,j⟩:=j
 let⟨h2,j⟩:=bf j
 simp only[bh,dE,fK]at h2;have j:=sI j;subst j
 let⟨ht,hi⟩:=qh H6 (lX (λv a=>Je) h1)
 refine TQ ag7 (args:=[tv,.str k,.str v]) (by simp only[dW,ht,Ag.d8,jf];rfl) (λB=>?_) G h w xs wr q;obtain⟨y,s',z,ov,rfl,A⟩:=aDz (Q:=QN UY B) rfl rfl rfl rfl rfl rfl R_ hi h2.2.1 h2.1 h2.2.2.1 h2.2.2.2 (s:=s0) (aD _);exact⟨_,_,z,anZ A _⟩;cases j
def aDE(z:aq 2 bZ tv l)(q:∀t∈l,J t.1<small)(B:J l<small){k v:ag}(N:J k<small):aq 2 bZ (js tv l k v).2.1 (js tv l k v).1/\br (js tv l k v).2.1=O/\(js tv l k v).1.length<small/\∀t∈(js tv l k v).1,J t.1<small:=by
 have G:=aae;have j:∀r:wf,aq 2 bZ (xU r) r/\br (xU r)=O:=λr=>⟨.inr ⟨.no,rfl⟩,by
  simp only[xU,br,Bool.and_true];exact Go.Ag.pures_all.2 λv D=>by
   obtain⟨y,_,rfl⟩:=cC.1 D;rfl⟩
 have nil:aq 2 bZ .uP ([]:wf)/\br .uP=O/\([]:wf).length<small/\∀t∈([]:wf),J t.1<small:=⟨.inl R_,rfl,d_,λt h=>by cases h⟩;unfold js;cases c1:(!jl l||(!eD k||aQ 200 (J v:Nat)))with
 |true=>exact nil
 |false=>
  have A:J l<=60:=by
   simp only[v6,EY,jl,bh,dE]at c1;exact c1.1.2
  cases c4:tg l k with
  |true=>
   cases c5:v== []with
   |true=>exact⟨(j _).1,(j _).2,by show(l.eraseIdx _).length<_;have:=List.length_eraseIdx_le l (eR l k);omega,λt h=>q t (List.mem_of_mem_eraseIdx h)⟩
   |false=>
    refine⟨(j _).1,(j _).2,by show(l.set _ _).length<_;rw[nN];exact B,λt h=>?_⟩;have h:t∈l.set (eR l k) (((l[eR l k]?).getD ([],[])).1,v):=h;rcases List.mem_or_eq_of_mem_set h with h|rfl
    exact q t h
    ·show((l[eR l k]?).getD ([],[])).1.length<small
     unfold tg at c4;split at c4
     ·next t ht=>rw[ht];exact q t (co ht)
     cases c4
  |false=>
   cases c5:v== [];cases c6:aj (J l:Nat) 60;refine⟨(j _).1,(j _).2,?_,λt h=>?_⟩;show(l.take (eR l k)++(k,v)::l.drop (eR l k)).length<small;rw[bK,bT,jw,kd];omega;have h:t∈l.take (eR l k)++(k,v)::l.drop (eR l k):=h;rcases fA.1 h with h|h
   exact q t (List.mem_of_mem_take h);rcases dG.1 h with rfl|h
   exact N;exact q t (List.mem_of_mem_drop h);exact nil;refine⟨?_,?_,B,q⟩;show aq 2 bZ (FD tv l) l;rcases z with⟨rfl,rfl⟩|⟨r,rfl⟩
   exact .inl R_;rcases l with _|⟨t,r⟩
   exact .inr ⟨.Al,rfl⟩;exact(j _).1;show br (FD tv l)=O;rcases z with⟨rfl,rfl⟩|⟨r,rfl⟩
   rfl;rcases l with _|⟨t,r⟩
   rfl;exact(j _).2
def aDB{h:wf}(k v:ag)(hi:aq 2 bZ tv h)(B:br tv=O)(h1:∀t∈h,J t.1<small)(z:J h<small)(q:J k<small)(G:J v<small):
 Et [tv,.str k,.str v]=X (.tup [(js tv h k v).2.1,ah (js tv h k v).2.2])/\aq 2 bZ (js tv h k v).2.1 (js tv h k v).1/\br (js tv h k v).2.1=O/\(js tv h k v).1.length<small/\∀t∈(js tv h k v).1,J t.1<small:=by
 have D:fH 2 sU tv=X h:=oo Jf hi;have j:(h.all λt=>decide (J t.1<small))=O:=fK.2 λt A=>dQ (h1 t A);exact⟨by simp only[fb,Et,D,dQ z,j,dQ q,dQ G,x8 B],aDE hi h1 z q⟩
def Rm:SC:=
 .seq (.seq (.region auP)
 (.block 0 (.seq (.region auQ)
 (.cond (aG 101) (.region auR) (.seq (.region auS)
 (.cond (aG 106) (.seq (.region auT)
 (.seq (.region auV)
 (.seq (.region auW)
 (.cond (aG 121) (.seq (.region auX)
 .ret) .skip)))) (.seq (.region auY)
 (.cond (aG 124) (.seq (.seq (.region auZ)
 (.seq (.region au0)
 (.cond (aG 131) (.seq (.region au1)
 .ret) .skip)))
 (.seq (.draw au2 Ri)
 .ret)) (.seq (.region au3)
 (.cond (aG 139) (.seq (.seq (.region au4)
 (.cond (aG 145) (.seq (.region au6)
 .ret) .skip))
 (.seq (.region au7)
 .ret)) (.seq (.region au8)
 (.cond (aG 150) (.seq (.region au9)
 .ret) (.seq (.region ava)
 (.cond (aG 156) (.seq (.region avb)
 .ret) .skip))))))))))))))
 (.seq (.region avc)
 .ret)
def aaU:SC:=
 (.seq (.region auI)
 (.seq (.seq (.region auJ)
 (.cond (aG 19) (.seq (.seq (.draw auU Rh)
 (.seq (.region au5)
 (.cond (aG 31) (.seq (.region avd)
 .ret) .skip)))
 (.seq (.draw ave Rj)
 .ret)) .skip))
 (.seq (.draw avf Rk)
 (.seq (.seq (.draw avg Rl)
 (.seq (.region avh)
 (.cond (aG 71) (.seq (.region avi)
 .ret) .skip)))
 (.seq (.region auK)
 (.seq (.region auL)
 (.seq (.seq (.region auM)
 (.seq (.region auN)
 (.cond (aG 97) (.seq (.region auO)
 .ret) .skip)))
 Rm)))))))
def auH:(Tryz.f51.body).map dZ=X aaU:=KX.2
attribute[go_sem]aaU
noncomputable def M9(l:ba)(e:aA)(o:Obj):N_:=by
 classical
 exact
  bif aj e.op 2 then X ([{o with x:=e.x,y:=e.y }],[])
  else bif aj e.op 3 then bif aj (js o.tagsV o.mt e.key e.value).2.2 0 then X ([{o with tagsV:=(js o.tagsV o.mt e.key e.value).2.1,mt:=(js o.tagsV o.mt e.key e.value).1 }],[])else Z
  else bif aj e.op 4 then bif dC (o.withR e.refsV e.gT)&&decide (uC l o.mT e.gT)then X ([o.withR e.refsV e.gT],[])else Z
  else bif aj e.op 5 then bif l.any (qA I [e.id])then Z else X ([],e.id)
  else bif aj e.op 6 then TS l e o
  else bif aj e.op 7 then(ct e.other l).bind (PO l e o)else X ([o],[])
structure NS (Q:ay) extends toTEd:NR Q where
 h274:Q.spec 93=some Et
variable{lc:Ag.Loc}{K:gk}{l:ba}{bx:Nat}{e:aw}
def afH(T:NS Q)(M:qS s bx m ov l){j:aA}(ge:j.rf)(hr:J j.gT<=20){o:Obj}(ho:o∈l)(hid:o.id=j.id)(a1:rm j.op o.mT=O)(a9:j.id≠[])(hj:aj j.op 7=O->∃p,ct j.other l=X p)(h0:ac e 0=.ptr bx 0)(G:ac e 3=.uV 3 1 0)(V:ac e 4=.uV 4 1 0)(B:ac e 11=.uV 11 1 0)(g3:lc.gen 3=1)(g4:lc.gen 4=1)(Y:lc.gen 11=1)(R:lc.get 3 1=X j.cells)(l4:lc.get 4 1=X [.uP,.str [],ah 0])(A:lc.get 11 1=X o.cells)(hK:∀x e lc s' pv put d z,(x=.normal\/x=.ret)->Up s s'->aq 6 Obj.val pv put->CF l (M9 l j o) put d z->ac e 4=.uV 4 1 0->lc.get 4 1=X [pv,.str d,ah z]->K x ⟨e,165,lc⟩ s'):WC Q 51 Rm ⟨e,165,lc⟩ s K:=by
 have b1:=aae;have go:=M.good o ho;have rc:=go.all;have ec:=ge.gT.cs;have oc:=ge.obj.all;have a0:=M.mw;have a5:=iL a0;have uR:=Up.refl a0;have a6:J l<=1000000:=by have:=M.len;omega
 have a8:∀q∈l,J q.gT<=1000000:=λq hq=>by have:=z7 hq;have:=M.gT;omega
 simp only[aA.cells]at R;simp only[Obj.cells]at A;have D:∀{o2:Obj},o2.rf->o2.id=o.id->o2.mT=o.mT->o2.gT=o.gT->wC l [o2] []:=λ{o2} g h1 h2 G=>
  .one ⟨g,λq hq e=>by rw[xd M.valid hq ho (e.trans h1),h2],λi r hi=>by rw[G]at hi;rw[h2];exact M.clo o ho i r hi⟩ (.inr ⟨o,ho,h1.symm,by rw[G];exact aD _⟩)
 have HK:∀{e:aw}{lc:Ag.Loc}{s':St}{pv:aa}(put:ba)(d:ag)(z:Int),Up s s'->aq 6 Obj.val pv put->CF l (M9 l j o) put d z->(a:ac e 4=.uV 4 1 0:=by simp only[sN,seval,V])->(b:lc.get 4 1=X [pv,.str d,ah z]:=by simp only[sL,seval,Obj.val,Obj.cells,Obj.withR,cU,oJ])->K .ret ⟨e,165,lc⟩ s':=λput d z u h1 h2 a b=>hK .ret _ _ _ _ put d z (.inr rfl) u h1 h2 a b;unfold Rm;unfold M9 at HK;cases e2:aj j.op 2 with
 |true=>
  simp only[go_sem,seval,G,V,B,g3,Y,R,l4,A,e2,sB];exact HK [{o with x:=j.x,y:=j.y }] [] 0 uR (.inr ⟨.Al,rfl⟩) (.inr ⟨rfl,by rw[e2];rfl,D ⟨⟨go.gT,go.mt,go.id,go.reflen,go.ref,go.taglen,go.key⟩,go.pr,go.pt⟩ rfl rfl rfl⟩)
 |false=>
 cases e3:aj j.op 3 with
 |true=>
  have a2:=T.h274;obtain⟨hu,t1,t2,t3,t4⟩:=aDB j.key j.value go.mt go.pt go.key go.taglen ge.key ge.value;have tc:=t1.cs;cases he:aj (js o.tagsV o.mt j.key j.value).2.2 0;simp only[go_sem,seval,G,V,B,g3,Y,R,l4,A,rc,e2,e3,a2,hu,tc,he,sB];exact HK [] [] _ uR (.inl R_) (.inl ⟨of_decide_eq_false he,by rw[e2,e3,he];rfl⟩);simp only[go_sem,seval,G,V,B,g3,Y,R,l4,A,rc,e2,e3,a2,hu,tc,he,sB];exact HK [{o with tagsV:=(js o.tagsV o.mt j.key j.value).2.1,mt:=(js o.tagsV o.mt j.key j.value).1 }] [] 0 uR (.inr ⟨.Al,rfl⟩) (.inr ⟨rfl,by rw[e2,e3,he];rfl,D ⟨⟨go.gT,t1,go.id,go.reflen,go.ref,t3,t4⟩,go.pr,t2⟩ rfl rfl rfl⟩)
 |false=>
 cases e4:aj j.op 4 with
 |true=>
  have g2:(o.withR j.refsV j.gT).rf:=go.withR ge.gT ge.pr w_ ge.ref;have N:=LK g2;have a7:=T.h75;simp only[Obj.val,Obj.cells,Obj.withR]at N;cases hv:dC (o.withR j.refsV j.gT);have a3:=hv;simp only[Obj.withR]at hv;rw[hv]at N;simp only[go_sem,seval,G,V,B,g3,Y,R,l4,A,ec,e2,e3,e4,a7,N,sB];exact HK [] [] 1 uR (.inl R_) (.inl ⟨d_,by rw[e2,e3,e4,a3];rfl⟩);have a3:=hv;simp only[Obj.withR]at hv;rw[hv]at N
  let⟨z,r182,S⟩:=Tb (Q:=Q) (s:=s.top) ⟨M.at_.box,M.at_.kin,M.at_.b0,M.at_.m0⟩ g2 (by show J j.gT<=_;omega)
  simp only[Obj.val,Obj.cells,Obj.withR]at r182;simp only[go_sem,seval,h0,G,B,g3,Y,R,A,ec,e2,e3,e4,a7,N,sB];refine⟨a0,?_⟩;refine iX.quiet r182 d_ (by simp[eU,jN,oI]) ?_;simp only[go_sem,seval,V,l4,a5,sB];refine HK [o.withR j.refsV j.gT] [] z uR (.inr ⟨.Al,rfl⟩) ?_;have S:z=0↔uC l o.mT j.gT:=S;rw[e2,e3,e4,a3];by_cases h:z=0;exact .inr ⟨h,by classical rw[dQ (S.1 h)];rfl,.one ⟨g2,λq hq e=>by rw[xd M.valid hq ho e];rfl,λi r hi=>(Mm M.valid).1 (S.1 h i r hi)⟩ (.inl hr)⟩;exact .inl ⟨h,by classical rw[dN λg=>h (S.2 g)];rfl⟩
 |false=>
 cases e5:aj j.op 5 with
 |true=>
  obtain⟨_,s2,a4,rfl,u⟩:=S9 T.h130 M.at_ a0 M.isL M.good a6 a8 (ys:=.list 1 [.str j.id] .Al) (b:=[j.id]) (.inr ⟨.Al,rfl⟩) (by simp) I;simp only[go_sem,seval,h0,G,g3,R,e2,e3,e4,e5,sB];refine aV.of a4 d_ ?_;cases hrf:l.any (qA I [j.id]);simp only[go_sem,seval,G,V,g3,R,l4,ey];refine HK [] j.id 0 u (.inl R_) (.inr ⟨rfl,by rw[e2,e3,e4,e5,hrf];rfl,.drop a9 λy hy r hr e'=>?_⟩);have h:=List.any_eq_false.1 hrf y hy;refine h ?_;simp only[qA,Bool.not_false,AC,jf,List.any_eq_true];exact⟨r,hr,by rw[e'];simp⟩;simp only[go_sem,seval,V,l4,ey];exact HK [] [] 14 u (.inl R_) (.inl ⟨d_,by rw[e2,e3,e4,e5,hrf];rfl⟩)
 |false=>
 cases e6:aj j.op 6 with
 |true=>
  have hk:o.mT=2:=by
   have h:=a1;unfold rm at h;rw[e2,e4,e6]at h;exact of_decide_eq_true h
  have r:=aEn T.toTEd M ge ho hk;simp only[aA.val,aA.cells,Obj.val,Obj.cells]at r;simp only[go_sem,seval,h0,G,B,g3,R,A,e2,e3,e4,e5,e6,sB];refine r.k d_ λs' pv put dr z u h1 h2=>?_;have pc:=h1.cs;simp only[go_sem,seval,V,l4];exact HK put dr z u h1 (by rw[e2,e3,e4,e5,e6];exact h2)
 |false=>
 cases e7:aj j.op 7;simp only[go_sem,seval,G,V,B,g3,R,l4,A,e2,e3,e4,e5,e6,e7,sB];exact HK [o] [] 0 uR (.inr ⟨.Al,rfl⟩) (.inr ⟨rfl,by rw[e2,e3,e4,e5,e6,e7];rfl,D go rfl rfl rfl⟩);have hk:o.mT=2:=by
  have h:=a1;unfold rm at h;rw[e2,e4,e6,e7]at h;exact of_decide_eq_true h
 let⟨p,hp⟩:=hj e7
 have r:=asm T.toTEd M ge ho hk hid hp;simp only[aA.val,aA.cells,Obj.val,Obj.cells]at r;simp only[go_sem,seval,h0,G,B,g3,R,A,e2,e3,e4,e5,e6,e7,sB];refine r.k d_ λs' pv put dr z u h1 h2=>?_;have pc:=h1.cs;simp only[go_sem,seval,V,l4];exact HK put dr z u h1 (by rw[e2,e3,e4,e5,e6,e7,hp];exact h2)
def anu(s:St)(B:s.gE<=s.aL):∃z q j h,mF ae [] 184 (.map s.aL) (.int .i64 2) (.list 1 [.int .i64 1] .Al) (s.new (.map [] 0))=X z/\mF ae [] 184 (.map s.aL) (.int .i64 4) (.list 1 [.int .i64 2,.int .i64 3,.int .i64 4] .Al) z=X q/\mF ae [] 184 (.map s.aL) (.int .i64 6) (.list 1 [.int .i64 2] .Al) q=X j/\mF ae [] 184 (.map s.aL) (.int .i64 7) (.list 1 [.int .i64 2] .Al) j=X h/\bg ah h s.aL JH/\Up s h:=by
 have A:bg ah (s.new (.map [] 0)) s.aL []:=cu;have U:Up s (s.new (.map [] 0)):=(Up.refl B).new _;refine⟨_,_,_,_,lN G3 G4 A 2 _,lN G3 G4 qM 4 _,lN G3 G4 qM 6 _,lN G3 G4 qM 7 _,?_,(((U.put (aD _) _).put (aD _) _).put (aD _) _).put (aD _) _⟩;exact qM
variable{Q:ay}[Std Q]{f:FuncId}
def ad2{d:il}{g:SG}{mk:aK}{sz:Nat}(t:TypeId)(m k x:Operand):dL Q f ⟨d,.insert t m k x,g⟩ mk ⟨e,sz,lc⟩ s=(evc e m).bind λm=>(evc e k).bind λk=>(evc e x).bind λx=>mA (mF Q.P mk t m k x s) lc:=rfl
noncomputable def Md(l:ba)(e:aA):N_:=by
 classical
 exact
  bif aj e.op 1 then bif(ct e.obj.id l).isSome|| !decide (uC l e.obj.mT e.obj.gT)then Z else X ([e.obj],[])
  else(ct e.id l).bind λo=>bif(aj e.op 7&&(ct e.other l).isNone)|| !rm e.op o.mT then Z else M9 l e o
variable{e:aA}
set_option maxHeartbeats 4000000 in
set_option maxRecDepth 4000 in
def aA2(T:NS Q)(M:qS s bx m ov l)(ge:e.rf)(hr:J e.gT<=20)(a2:J e.obj.gT<=20):Fc Q 51 [.ptr bx 0,e.val] s l (Md l e):=by
 have ec:=ge.gT.cs;have oc:=ge.obj.all;have Y:=M.at_.box;have j:=M.mw;have S:=iL j;have a0:J l<=1000000:=by have:=M.len;omega
 refine ai.ofNR KX.1 auH KX.3 KX.4 (aM ?_);unfold Md;cases e1:aj e.op 1 with
 |true=>
  have B:=nG fY rJ uf (s:=s.top) M.at_.kin e.obj.id;rw[DL]at B
  let⟨A,r182,hif⟩:=Tb (Q:=Q) (s:=s.top) ⟨M.at_.box,M.at_.kin,M.at_.b0,M.at_.m0⟩ ge.obj w_
  simp only[Obj.val,Obj.cells]at r182;simp only[go_sem,seval,aA.val,aA.cells,e1];refine⟨j,?_⟩;cases hq:ct e.obj.id l with
  |some q=>
   rw[hq]at B;simp only[kL,ii]at B;simp only[go_sem,seval,Y,B,ey];exact⟨_,rfl,Up.refl j,_,[],_,_,rfl,.inl R_,.inl (by simp)⟩
  |none=>
   rw[hq]at B;simp only[nQ,ii]at B;simp only[go_sem,seval,Y,B,S,sB,j];refine iX.quiet r182 d_ (by simp[eU,jN,oI]) ?_;simp only[go_sem,seval,S,sB];refine⟨_,rfl,Up.refl j,_,[e.obj],[],A,rfl,.inr ⟨.Al,rfl⟩,?_⟩;by_cases he:A=0
   rotate_left
   exact .inl ⟨he,by classical rw[dN λg=>he (hif.2 g)];rfl⟩;refine .inr ⟨he,by classical rw[dQ (hif.1 he)];rfl,.one ⟨ge.obj,λq a1 e'=>?_,λi r hi=>(Mm M.valid).1 (hif.1 he i r hi)⟩ (.inl a2)⟩;have h:=BG M.valid a1;rw[e',hq]at h;cases h
 |false=>
  have z:=nG fY rJ uf (s:=s.top) M.at_.kin e.id;have G:=nG fY rJ uf (s:=s.top) M.at_.kin e.other;rw[DL]at z G;obtain⟨k2,b2,a3,a5,a4⟩:∃(k2:Int)(b2:Bool),ii (ah 0) ((ct e.other l).map λq=>ah q.mT)=.tup [ah k2,.bool b2]/\(b2=O->∃p,ct e.other l=X p)/\(ct e.other l).isNone= !b2:=by
   rcases h:ct e.other l with _|p
   exact⟨0,I,rfl,(λh=>by cases h),rfl⟩;exact⟨p.mT,O,rfl,(λ_=>⟨p,rfl⟩),rfl⟩
  rw[a4];rw[a3]at G;cases hq:ct e.id l with
  |none=>
   rw[hq]at z;simp only[nQ,ii]at z;simp only[go_sem,seval,aA.val,aA.cells,e1,ey,Y,z,G,j];exact⟨_,rfl,Up.refl j,_,[],_,_,rfl,.inl R_,.inl (by simp)⟩
  |some o=>
   let⟨hol,hoid⟩:=oA hq
   rw[aH];have go:=M.good o hol;have rc:=go.all;have R:=M.valid;simp only[bw,bh]at R;have hide:e.id≠[]:=by rw[<-hoid];exact Nd (rR l [] R.1 o hol)
   rw[hq]at z;simp only[kL,ii]at z
   let⟨s1,r272,u1⟩:=Xy T.h32 M.at_ j M.isL M.good a0 hq
   have M1:=M.up u1;simp only[Obj.val,Obj.cells]at r272
   let⟨x1,x2,x3,x4,y1,y2,y3,y4,hF,u2⟩:=anu s1 u1.mw
   have M4:=M1.up u2;have uu:=u1.trans u2;have D:=nG G3 G4 agl hF e.op;have hK:∀r x e lc s' V put d A,(x=.normal\/x=.ret)->Up x4 s'->aq 6 Obj.val V put->CF l r put d A->ac e 4=.uV 4 1 0->lc.get 4 1=X [V,.str d,ah A]->(x=Ex.normal\/x=Ex.ret)/\∃v,(jb Q [] (⟨e,165,lc⟩:Fr) s' [ResultVar.cell 4 108]).map mY=X v/\(Up s s'/\∃V put d A,v=.agg [V,.str d,ah A]/\aq 6 Obj.val V put/\CF l r put d A):=λr x e lc s' V put d A hx u h1 h2 h4 l4=>by
    have pc:=h1.cs;refine⟨hx,?_⟩;simp only[go_sem,seval,h4,l4];exact⟨_,rfl,uu.trans u,_,put,_,_,rfl,h1,h2⟩
   simp only[go_sem,seval]at hK;cases e7:aj e.op 7<;>cases b2
   case true.false=>
    simp only[go_sem,seval,aA.val,aA.cells,e1,ey,Y,z,G,e7,j];exact⟨_,rfl,Up.refl j,_,[],_,_,rfl,.inl R_,.inl (by simp)⟩
   all_goals
    have hj:aj e.op 7=O->∃p,ct e.other l=X p:=λh=>by first|exact a5 rfl|exact absurd (e7.symm.trans h) d_
    rcases ant e.op with⟨fl,f1,f2,f3⟩|⟨f1,f3⟩
    have N:=akU (Q:=Q) (v:=wX fl) (.inr ⟨.Al,rfl⟩) w_ o.mT x4;rw[f3]at N;rw[f1]at D;simp only[ii]at D;have fc:(wX fl).gt=O/\(wX fl).cells=[wX fl]:=R_;simp only[go_sem,seval,aA.val,aA.cells,e1,Y,z,G,e7,j];refine aV.of r272 d_ ?_;simp only[go_sem,seval,jq,ad2,y1,y2,y3,y4,D,fc,sB];refine aV.of N d_ ?_;cases hfit:rm e.op o.mT with
    |false=>
     simp only[go_sem,seval,ey];exact⟨_,rfl,uu,_,[],_,_,rfl,.inl R_,.inl (by simp)⟩
    |true=>
     simp only[go_sem,seval];refine afH T M4 ge hr hol hoid hfit hide hj ?_ ?_ ?_ ?_ ?_ ?_ ?_ ?_ ?_ ?_ (hK _)<;>first|(simp only[sN,seval];done)|rfl
    rw[f1]at D;simp only[ii]at D;simp only[go_sem,seval,aA.val,aA.cells,e1,Y,z,G,e7,j];refine aV.of r272 d_ ?_;simp only[go_sem,seval,jq,ad2,y1,y2,y3,y4,D,sB];rw[f3];refine afH T M4 ge hr hol hoid (f3 _) hide hj ?_ ?_ ?_ ?_ ?_ ?_ ?_ ?_ ?_ ?_ (hK _)<;>first|(simp only[sN,seval];done)|rfl
structure IR (l l':ba):Prop where
 good:∀o∈l',o.rf
 valid:bw l'=true
 clo:ni l'
 len:l'.length<=l.length+2
 gT:dB l'<=dB l+20
variable{x:Obj}
def Dp(q:∀o∈l,o.rf)(z:x.rf):∀o∈fy l x,o.rf:=λo j=>by
 rcases aeo j with rfl|h
 exact z;exact q o h
def gi(l:ba)(put:ba):ba:=put.foldl fy l
def yL.step{y:Obj}(z:bw l=O)(A:yL l x)(j:yL l y)(B:x.mT=y.mT):yL (fy l x) y where
 good:=j.good
 mT o ho e:=by
  rcases(zQ z x o).1 ho with rfl|⟨h,_⟩
  exact B;exact j.mT o h e
 ref i r hi:=by
  let⟨q,hq,h2,h3⟩:=j.ref i r hi
  by_cases e:q.id=x.id;exact⟨x,(zQ z x x).2 (.inl rfl),e.symm.trans h2,by rw[<-h3,A.mT q hq e]⟩;exact⟨q,(zQ z x q).2 (.inr ⟨hq,e⟩),h2,h3⟩
variable{d:ag}
def alA{put:ba}(h:wC l put d):(∀x∈put,x.rf)/\J put<=2:=by
 cases h with
 |one h _=>exact⟨λx j=>by rw[kg]at j;rw[j];exact h.good,by simp⟩
 |two h g _ _ _ _=>
  refine⟨λx j=>?_,by simp⟩;simp only[dG,pF,or_false]at j;rcases j with rfl|rfl
  exact h.good;exact g.good
 |drop _ _=>exact⟨λx j=>(by cases j),by simp⟩
 |join h _ _ _ _ _ _ _=>exact⟨λx j=>by rw[kg]at j;rw[j];exact h.good,by simp⟩
def alB{put:ba}(j:bw l=O)(N:∀o∈l,o.rf)(R:ni l)(hl:J l<=900)(h:wC l put d)(A:∀x∈put,dC x=O):
 (d=[]->IR l (gi l put))/\(d≠[]->gz (gi l put) d (dM d (gi l put))=O->IR l (kE (gi l put) d)):=by
 cases h with
 |one r sz=>
  rename_i x;refine⟨λ_=>?_,λh=>absurd rfl h⟩
  let⟨n1,n2,n3⟩:=Ej j x
  refine⟨Dp N r.good,EP j (A x (by simp)) w_,Jp j R r.mT r.ref,cr n1,?_⟩;show dB (fy l x)<=_;rcases sz with h|⟨o,q,e,h⟩
  omega
  have:=n3 o q e;omega
 |two B ry hk q hid sz=>
  rename_i x y o;refine⟨λ_=>?_,λh=>absurd rfl h⟩;have h1:bw (fy l x)=O:=EP j (A x (by simp)) w_
  let⟨n1,n2,n3⟩:=Ej j x
  have h2:bw (fy (fy l x) y)=O:=EP h1 (A y (by simp)) w_
  let⟨m1,m2,m3⟩:=Ej h1 y
  have c1:=Jp j R B.mT B.ref;have D:=B.step j ry hk;have e1:=n3 o q hid;refine⟨Dp (Dp N B.good) ry.good,h2,Jp h1 c1 D.mT D.ref,?_,?_⟩;show(fy (fy l x) y).length<=_;omega;show dB (fy (fy l x) y)<=_;omega
 |drop hd hn=>
  refine⟨λh=>absurd h hd,λ_ z=>?_⟩;have z:gz l d (dM d l)=O:=z
  let⟨n1,n2⟩:=aeA j z
  let⟨o,q,hid⟩:=Dg z
  have:=n2 o (co q) hid;refine⟨λo A=>N o ((Lw j z o).1 A).1,af0 j d,Wa j R z λo A _ r S=>hn o A r S,?_,?_⟩;exact dj n1 (Nat.le_add_right _ _);show dB (kE l d)<=_;have:dB (kE l d)+J o.gT=dB l:=this;omega
 |join B q V hid Y T sz hn=>
  rename_i x o p;refine⟨λh=>absurd h T,λ_ z=>?_⟩;have G:bw (fy l x)=O:=EP j (A x (by simp)) w_;have z:gz (fy l x) p.id (dM p.id (fy l x))=O:=z
  let⟨n1,n2,n3⟩:=Ej j x
  have c1:=Jp j R B.mT B.ref
  let⟨m1,m2⟩:=aeA G z
  have e1:=n3 o q hid;have e2:=m2 p ((zQ j x p).2 (.inr ⟨V,λe=>Y (hid.trans e.symm)⟩)) rfl;have g1:=Dp N B.good;refine⟨λo A=>g1 o ((Lw G z o).1 A).1,af0 G p.id,Wa G c1 z λy hy h r S=>?_,?_,?_⟩;refine hn y ?_ h r S;rcases(zQ j x y).1 hy with h|h
  exact .inl h;exact .inr h.1;show(kE (fy l x) p.id).length<=_;omega;show dB (kE (fy l x) p.id)<=_;omega
def aBt(j:∀o∈l,o.rf):∀{put:ba},(∀x∈put,x.rf)->∀o∈gi l put,o.rf:=λ{put}=>by
 induction put generalizing l with
 |nil=>exact λ_=>j
 |cons x r q=>exact λh=>q (Dp j (h x gG)) λy z=>h y (iE _ z)
variable{n:Nat}
def aeq(h:bw l=O)(A:J l<=n):∀{put:ba},n+J put<=1000->(∀x∈put,dC x=O)->bw (gi l put)=O/\(gi l put).length<=n+J put:=λ{put}=>by
 induction put generalizing l n with
 |nil=>exact λ_ _=>⟨h,A⟩
 |cons x r q=>
  intro B j;have D:=(Ej h x).1;simp only[bT]at B⊢
  let⟨a,b⟩:=q (n:=n+1) (EP h (j x gG) w_) w_ w_ λy z=>j y (iE _ z)
  exact⟨a,by show(gi (fy l x) r).length<=_;omega⟩
def aBv{put:ba}(h:bw l=O)(q:J l<=900)(z:J put<=2)(j:∀x∈put,dC x=O):bw (gi l put)=O:=(aeq h q w_ j).1
def aBu{put:ba}(h:bw l=O)(q:J l<=900)(z:J put<=2)(j:∀x∈put,dC x=O):(gi l put).length<=902:=dj (aeq h q w_ j).2 w_
def aBl(j:aq 6 Obj.val ov l)(A:∀q∈l,q.rf)(z:J l<=1000)(B:x.rf):BV [.agg [ov],x.val]=X (bif bw l&&dC x then D4 (fy l x)else Db 1):=by
 have h:=aae;simp only[fq,BV,sS j A w_,Fv B,dQ z]
def alu(j:aq 6 Obj.val ov l)(A:∀q∈l,q.rf)(z:J l<=1000)(id:ag):C9 [.agg [ov],.str id]=X (bif bw l&&gz l id (dM id l)then D4 (kE l id)else Db (bif bw l then 11 else 1)):=by
 have h:=aae;simp only[fq,C9,sS j A w_,dQ z]
structure IV (Q:ay) extends toTPf:NS Q where
 h34:Q.spec 52=some BV
 h184:Q.spec 53=some C9
 h31:Q.spec 36=some gV
 h180:Q.spec 47=some Ih
 w43:No Q 12
def aBr(a1:Q.spec 52=X BV){put:ba}(hg:∀o∈l,o.rf)(hv:bw l=O)(hl:J l<=900){pv:aa}(hp:aq 6 Obj.val pv put)(gp:∀x∈put,x.rf)(Y:J put<=2){x6:az}(S:∀e lc lv,aq 6 Obj.val lv (gi l put)->(∀x∈put,dC x=O)->ac e 4=.uV 4 1 0->ac e 6=.uV 6 1 0->ac e 7=.uV 7 1 0->lc.gen 4=1->lc.gen 6=1->lc.gen 7=1->lc.get 4 1=X [.uP]->lc.get 6 1=X x6->lc.get 7 1=X [lv]->K (.exit 0) ⟨e,58,lc⟩ s)(hr:∀e lc,put.all dC=I->ac e 4=.uV 4 1 0->ac e 5=ah 1->lc.gen 4=1->lc.get 4 1=X [.uP]->K .ret ⟨e,58,lc⟩ s):
 ∀(rest j:ba)(e:aw)(lc:Ag.Loc)(lv:aa),put=j++rest->aq 6 Obj.val lv (gi l j)->(∀x∈j,dC x=O)->bw (gi l j)=O->(∀o∈gi l j,o.rf)->(gi l j).length<=J l+J j->
  ac e 4=.uV 4 1 0->ac e 6=.uV 6 1 0->ac e 7=.uV 7 1 0->ac e 30=pv->ac e 31=ak (J put)->ac e 32=ak (J j)->lc.gen 4=1->lc.gen 6=1->lc.gen 7=1->lc.get 4 1=X [.uP]->lc.get 6 1=X x6->lc.get 7 1=X [lv]->W Q 30 (.loop KC) ⟨e,58,lc⟩ s K:=by
 intro rest;have a9:=hp.cs
 induction rest with
 |nil=>
  intro j e lc lv h1 D T B V a6 e4 e6 e7 N A G g4 g6 g7 l4 l6 l7;have a8:=cz h1;have Y:j=put:=by rw[h1];simp
  subst Y;refine aF ?_;simp only[go_sem,seval,KC,A,G,bJ];exact S _ _ lv D T (by simp only[sN,seval,e4]) (by simp only[sN,seval,e6]) (by simp only[sN,seval,e7]) g4 g6 g7 l4 l6 l7
 |cons x rest ih=>
  intro j e lc lv h1 D T B V a6 e4 e6 e7 N A G g4 g6 g7 l4 l6 l7
  let⟨hlt,hat⟩:=cH h1
  have gx:=gp x (co hat);have rc:=gx.all;have a7:=D.cs;have a0:=λlc k=>hp.at dY.2.2.1 hat lc k;have a4:=cm (n:=J j) w_;have z:=aBl D V w_ gx;rw[B,jf]at z;have q:gi l (j++[x])=fy (gi l j) x:=by unfold gi;rw[List.foldl_append];rfl
  simp only[Obj.val,Obj.cells]at z;have a2:aj 1 0=I:=rfl;have a3:aj 0 0=O:=rfl;refine aF ?_;cases S:dC x with
  |false=>
   rw[S]at z;simp only[cF,Db]at z;simp only[go_sem,seval,KC,e4,e7,N,A,G,l4,l7,hlt,a0,Obj.val,Obj.cells,a1,z,a2,ey];refine hr _ _ (List.all_eq_false.2 ⟨x,co hat,by simp[S]⟩) ?_ ?_ ?_ ?_<;>simp only[sL,seval,e4,g4]
  |true=>
   rw[S]at z;have R:aq 6 Obj.val (.list 6 ((fy (gi l j) x).map Obj.val) .no) (gi l (j++[x])):=.inr ⟨.no,by rw[q]⟩;have nc:=R.cs;have a5:bw (gi l (j++[x]))=O:=by rw[q];exact EP B S w_
   have hn:=(Ej B x).1;rw[<-q]at hn;simp only[cT,D4]at z;simp only[go_sem,seval,KC,e7,N,A,G,l7,hlt,a0,Obj.val,Obj.cells,a1,z,a3,a4];refine ih (j++[x]) _ _ _ (cP h1) R (λy hy=>?_) a5 (by rw[q];exact Dp V gx) (by simp only[jW];omega) ?_ ?_ ?_ ?_ ?_ ?_ ?_ ?_ ?_ ?_ ?_ ?_;rcases fA.1 hy with h|h
   exact T y h;rw[kg]at h;rw[h];exact S
   all_goals simp only[sL,seval,e4,e6,e7,N,A,g4,g6,g7,l4,l6,sA]
noncomputable def yV(l:ba)(e:aA):Option ba:=
 bif Ud e then(Md l e).bind λp=>bif p.1.all dC then bif p.2== []then X (gi l p.1)else bif gz (gi l p.1) p.2 (dM p.2 (gi l p.1))then X (kE (gi l p.1) p.2)else Z else Z else Z
def ahz(T:IV Q)(M:qS s bx m ov l)(ge:e.rf)(hr:J e.gT<=20)(a3:J e.obj.gT<=20):
 ∃v s',ai Q 30 [.ptr bx 0,e.val] s v s'/\(Up s s'/\∃lv q,v=.tup [.agg [lv],ah q]/\((q≠0/\lv=.uP/\yV l e=Z)\/(q=0/\∃l',aq 6 Obj.val lv l'/\IR l l'/\yV l e=X l'))):=by
 have ec:=ge.gT.cs;have oc:=ge.obj.all;have a4:=M.mw;have D:=T.h180;have z:=M.isL.cs
 let⟨b,q180⟩:=aGH ge
 have G:=aGI q180;have A:=aA2 T.toTPf M ge hr a3;simp only[aA.val,aA.cells]at q180 A;refine ai.ofNRZ auq (aM ?_);cases b with
 |false=>
  simp only[go_sem,seval,aA.val,aA.cells,D,q180,ey];exact⟨_,rfl,Up.refl a4,_,1,rfl,.inl ⟨d_,rfl,by unfold yV;rw[G];rfl⟩⟩
 |true=>
  simp only[go_sem,seval,aA.val,aA.cells,D,q180];refine A.k d_ λs' pv put d q u h1 h2=>?_;have pc:=h1.cs;have M2:=M.up u;have hb:=M2.at_.box;have a0:=h1.lenS dY;cases he:aj q 0 with
  |false=>
   simp only[go_sem,seval,he,iL u.mw,ey,u.mw];rcases h2 with⟨S,h4⟩|⟨S,_⟩
   exact⟨_,rfl,u,_,q,rfl,.inl ⟨S,rfl,by unfold yV;rw[G,h4];rfl⟩⟩;exact absurd S (of_decide_eq_false he)
  |true=>
   obtain⟨a2,ef⟩:Md l e=X (put,d)/\wC l put d:=by
    rcases h2 with⟨S,_⟩|⟨_,S⟩
    exact absurd (of_decide_eq_true he) S;exact S
   have hA:yV l e=bif put.all dC then bif d== []then X (gi l put)else bif gz (gi l put) d (dM d (gi l put))then X (kE (gi l put) d)else Z else Z:=by unfold yV;rw[G,a2];rfl
   let⟨gp,hpl⟩:=alA ef
   simp only[go_sem,seval,pc,he,hb,a0];refine aBr T.h34 M.good M.valid M.len h1 gp hpl (x6:=[pv,.str d,ah q]) (λe lc lv N z e4 e6 e7 g4 g6 g7 V l6 l7=>?_) (λe lc Y e4 e5 g4 V=>?_) put [] _ _ ov rfl M.isL (λx h=>by cases h) M.valid M.good (aD _) ?_ ?_ ?_ ?_ ?_ ?_ ?_ ?_ ?_ ?_ ?_ ?_;have vc:=N.cs;rw[fK.2 z,cT]at hA
   let⟨n1,n2⟩:=alB M.valid M.good M.clo M.len ef z
   cases hd:d== [];have R:d≠[]:=λe=>by rw[e]at hd;cases hd
   have a5:∀o∈gi l put,o.rf:=aBt M.good gp;have a1:bw (gi l put)=O:=aBv M.valid M.len hpl z;have j:=alu N a5 (by have:=aBu M.valid M.len hpl z;have:=M.len;omega) d;rw[a1,jf]at j;cases hf:gz (gi l put) d (dM d (gi l put));rw[hf]at j;simp only[cF,cT,Db]at j;simp only[go_sem,seval,e4,e6,e7,g6,V,l6,l7,hd,T.h184,j];exact⟨_,rfl,u,_,11,rfl,.inl ⟨d_,rfl,by rw[hA,hd,hf];rfl⟩⟩;rw[hf]at j;simp only[cT,D4]at j;have B:aq 6 Obj.val (.list 6 ((kE (gi l put) d).map Obj.val) .no) (kE (gi l put) d):=.inr ⟨.no,rfl⟩;have nc:=B.cs;simp only[go_sem,seval,e4,e6,e7,g6,V,l6,l7,hd,T.h184,j];exact⟨_,rfl,u,_,0,rfl,.inr ⟨rfl,_,B,n2 R hf,by rw[hA,hd,hf];rfl⟩⟩;have R:d=[]:=by simpa using hd
   simp only[go_sem,seval,e4,e6,e7,g6,V,l6,l7,hd];exact⟨_,rfl,u,_,0,rfl,.inr ⟨rfl,_,N,n1 R,by rw[hA,hd];rfl⟩⟩;simp only[go_sem,seval,e4,e5,V];exact⟨_,rfl,u,_,1,rfl,.inl ⟨d_,rfl,by rw[hA,Y];rfl⟩⟩
   all_goals first|rfl|simp only[sN,sL,seval,bn]
   all_goals rfl
structure nV (n:Nat) (l l':ba):Prop where
 good:∀o∈l',o.rf
 valid:bw l'=true
 clo:ni l'
 len:l'.length<=l.length+2*n
 gT:dB l'<=dB l+20*n
def nV.step{j h:ba}(a:nV n l j)(b:IR j h):nV (n+1) l h:=
 ⟨b.good,b.valid,b.clo,by have:=a.len;have:=b.len;omega,by have:=a.gT;have:=b.gT;omega⟩
structure nS (e:aA):Prop extends toGood:e.rf where
 r20:e.gT.length<=20
 o20:e.obj.gT.length<=20
noncomputable def lW:ba->vy->Option ba
 |l,[]=>X l
 |l,e::es=>(yV l e).bind λh=>lW h es
def U9:∀(a:vy){b:vy}{l j:ba},lW l a=X j->lW l (a++b)=lW j b
 |[],b,l,j,h=>by cases h;rfl
 |e::a,b,l,j,h=>by
  simp only[lW,an]at h;obtain⟨A,z,q⟩:=h;show(yV l e).bind _=_;rw[z];exact U9 a q
variable{es:vy}
def ahC(T:IV Q)(hl:J l<=800)(a4:dB l<=700){ev:aa}(he:aq 15 aA.val ev es)(hf:∀e∈es,nS e)(a5:J es<=10){s0:St}(hx:∀e lc s bx m ov l',Up s0 s->qS s bx m ov l'->nV (J es) l l'->lW l es=X l'->ac e 4=.uV 4 1 0->ac e 7=.ptr bx 0->lc.gen 4=1->lc.get 4 1=X [.uP]->K (.exit 0) ⟨e,42,lc⟩ s)(hr:∀e lc s (i q:Int),Up s0 s->q≠0->lW l es=Z->ac e 4=.uV 4 1 0->ac e 5=ah i->ac e 6=ah q->lc.gen 4=1->lc.get 4 1=X [.uP]->K .ret ⟨e,42,lc⟩ s):
 ∀(rest h:vy)(e:aw)(lc:Ag.Loc)(s:St)(bx m:Nat)(ov:aa)(l':ba),es=h++rest->Up s0 s->qS s bx m ov l'->nV (J h) l l'->lW l es=lW l' rest->
  ac e 4=.uV 4 1 0->ac e 7=.ptr bx 0->ac e 17=ev->ac e 18=ak (J es)->ac e 19=ak (J h)->lc.gen 4=1->lc.get 4 1=X [.uP]->W Q 12 (.loop Kf) ⟨e,42,lc⟩ s K:=by
 intro rest;have a6:=he.cs
 induction rest with
 |nil=>
  intro h e lc s bx m ov l' h1 hu M N hA e4 e7 B A z g4 l4;have S:=cz h1;rw[S]at N;refine aF ?_;simp only[go_sem,seval,Kf,A,z,S,bJ];exact hx _ _ _ _ _ _ _ hu M N hA (by simp only[sN,seval,e4]) (by simp only[sN,seval,e7]) g4 l4
 |cons x rest ih=>
  intro h e lc s bx m ov l' h1 hu M N hA e4 e7 B A z g4 l4
  let⟨hlt,hat⟩:=cH h1
  have Y:=hf x (co hat);have xc:=Y.gT.cs;have yc:=Y.obj.all;have V:=λlc k=>he.at kx.2.2.1 hat lc k;have a1:=cm (n:=J h) w_;obtain⟨v,s1,D,u1,lv,q,rfl,j⟩:=ahz T M Y.toGood Y.r20 Y.o20;simp only[aA.val,aA.cells]at D;rcases j with⟨R,rfl,hM⟩|⟨rfl,l2,G,N2,hM⟩
  have a2:aj q 0=I:=dN R;refine aF ?_;simp only[go_sem,seval,Kf,e7,B,A,z,hlt,V,aA.val,aA.cells];refine aV.of D d_ ?_;simp only[go_sem,seval,e4,l4,a2,ey];refine hr _ _ s1 (J h:Nat) q (hu.trans u1) R (by rw[hA,lW,hM];rfl) ?_ ?_ ?_ ?_ ?_<;>simp only[sL,seval,e4,g4];have a3:aj 0 0=O:=rfl;have vc:=G.cs;have N3:=N.step N2;have b1:=N3.len;have b2:=N3.gT
  let⟨v2,s2,r96,u2,j⟩:=adm T.h31 G N2.good w_ (λo ho=>by have:=z7 ho;omega) u1.mw
  rcases j with⟨_,hn⟩|⟨a0,m2,rfl,C2,v3,c3⟩
  exact absurd ⟨N2.valid,(OD N2.valid).2 N2.clo⟩ hn;have M2:qS s2 a0 m2 lv l2:=⟨C2,u2.mw,G,N2.good,N2.valid,N2.clo,w_,w_⟩;refine aF ?_;simp only[go_sem,seval,Kf,e7,B,A,z,hlt,V,aA.val,aA.cells];refine aV.of D d_ ?_;simp only[go_sem,seval,a3];refine aV.of r96 d_ ?_;simp only[go_sem,seval,z,a1];refine ih (h++[x]) _ _ s2 a0 m2 lv l2 (cP h1) ((hu.trans u1).trans u2) M2 (by simpa using N3) (by rw[hA,lW,hM];rfl) ?_ ?_ ?_ ?_ ?_ ?_ ?_<;>simp only[sL,seval,e4,B,A,g4,l4,sA]
def ahD(T:IV Q)(G:aq 6 Obj.val ov l)(hg:∀o∈l,o.rf)(hl:J l<=800)(D:dB l<=700){ev:aa}(he:aq 15 aA.val ev es)(hf:∀e∈es,nS e)(a0:J es<=10)(V:s.gE<=s.aL):
 ∃v s',ai Q 12 [.agg [ov],ev] s v s'/\(Up s s'/\∃mv i j,v=.tup [.agg [mv],ah i,ah j]/\((j≠0/\mv=.uP/\(ni l->bw l=O->lW l es=Z))\/(j=0/\∃B,aq 6 Obj.val mv B/\nV (J es) l B/\lW l es=X B/\ni l/\bw l=O))):=by
 have a4:=G.cs;have a2:=T.w43;have a1:=he.cs;have Y:=he.lenS kx
 let⟨v,s1,r96,u1,hres⟩:=adm T.h31 G hg w_ (λo h=>by have:=z7 h;omega) V
 refine ai.ofNRZ asZ (aM ?_);rcases hres with⟨rfl,R⟩|⟨bx,m,rfl,C,q,hc⟩
 have e1:cN ae .eql 82 .nilp .nilp=X (.bool O):=k_
 simp only[go_sem,seval];refine aV.of r96 d_ ?_;simp only[go_sem,seval,CZ,e1,ey];exact⟨_,rfl,u1,_, -1,1,rfl,.inl ⟨d_,rfl,λh1 h2=>absurd ⟨h2,(OD h2).2 h1⟩ R⟩⟩
 ·have e1:cN ae .eql 82 (.ptr bx 0) .nilp=X (.bool I):=by kernel_rfl
  have M:qS s1 bx m ov l:=⟨C,u1.mw,G,hg,q,(OD q).1 hc,w_,w_⟩;simp only[go_sem,seval];refine aV.of r96 d_ ?_;simp only[go_sem,seval,CZ,e1,a1,Y];refine ahC T hl D he hf a0 (s0:=s1) (λe lc s2 a5 m2 a3 l2 z M2 N hA e4 e7 g4 A=>?_) (λe lc s2 i j z S hA e4 e5 e6 g4 A=>?_) es [] _ _ s1 bx m ov l rfl (Up.refl u1.mw) M ⟨hg,q,M.clo,aD _,aD _⟩ rfl ?_ ?_ ?_ ?_ ?_ ?_ ?_;have hb:=M2.at_.box;have vc:=M2.isL.cs;simp only[go_sem,seval,e4,e7,A,hb];exact⟨_,rfl,u1.trans z,_, -1,0,rfl,.inr ⟨rfl,_,M2.isL,N,hA,M.clo,q⟩⟩;simp only[go_sem,seval,e4,e5,e6,A];exact⟨_,rfl,u1.trans z,_,i,j,rfl,.inl ⟨S,rfl,λ_ _=>hA⟩⟩
  all_goals first|rfl|simp only[sN,sL,seval,bn]
  all_goals rfl
end Go.Proofs.YtnhmcokmdhgpbaaGreat
namespace Go.Ag
open Go
variable{α:Type}
def ahV(a:Ask α):∀w:World,w.drawn<=(w.ask a).2.drawn:=by
 induction a with
 |done a=>exact λw=>aD _
 |ask j h k q=>
  intro w;simp only[World.ask];split;exact q _ _;exact Nat.le_of_succ_le (q _ {w with drawn:=w.drawn+1 })
def aEO(w:World)(c:Sys):w.drawn<=(w.sys c).2.drawn:=by
 have h:=ahV (Kernel.perform c w.os) w;unfold World.sys;split;exact aD _;rename_i e;rw[e]at h;exact h
def wR{α:Type}:Result α->World|.ok _ w=>w|.halt _ w=>w
variable{p:Program}{v:Value}{w w':World}
def am9{a:Addr}{b:Bool}{l:List Addr}(h:w.farStore p a v b=.ok (w',l)):w.drawn<=w'.drawn:=by
 unfold World.farStore at h;split at h
 ·split at h
  ·rename_i e
   cases h;simp only[World.viewStore,bind,Except.bind,pure,Except.pure]at e
   repeat' first
    |(cases e;done)
    |(injection e with e;injection e with e _;subst e;exact aD _)
    |split at e
  cases h
 cases h
def aDc(p:Program)(e:Sem α):∀w,w.drawn<=(wR (e.run p w)).drawn:=by
 induction e with
 |pure a=>exact λw=>aD _
 |halt h=>exact λw=>aD _
 |load m a k j=>intro w;simp only[Sem.run];(repeat' split)<;>first|exact j _ w|exact aD _
 |store m a v k j=>
  intro w;cases v<;>simp only[Sem.run]<;>(repeat' split)<;>first
   |exact aD _
   |exact j (w.setCell _ _)
   |exact dj (am9 ‹_›) (j _)
 |new o k j=>exact λw=>j _ {w with heap:=w.heap.push o }
 |shape r k j=>exact λw=>j _ w
 |freeze a n k j=>
  intro w;refine dj ?_ (j (w.freeze a n));unfold World.freeze;split<;>exact aD _
 |frozen a k j=>exact λw=>j _ w
 |getObj r k j=>intro w;simp only[Sem.run];(repeat' split)<;>first|exact j _ w|exact aD _
 |setObj r o k j=>intro w;simp only[Sem.run];(repeat' split)<;>first|exact j {w with heap:=w.heap.setIfInBounds r o }|exact aD _
 |choose q k j=>intro w;simp only[Sem.run];split<;>first|exact j _ w|exact Nat.le_of_succ_le (j _ {w with drawn:=w.drawn+1 })
 |sys c k j=>exact λw=>dj (aEO w c) (j _ _)
 |program k j=>exact λw=>j _ w
 |mark m k j=>exact λw=>j w
def pm{e:Sem α}{r:Result α}(h:e.run p w=r):w.drawn<=(wR r).drawn:=h▸aDc p e w
def aC6{e:Sem α}{l l':Array Event}{r:Result α}(h:e.runT p w l=(r,l')):w.drawn<=(wR r).drawn:=
 pm (by rw[<-Sem.runT_fst p e w l,h])
def wG:GStep->Option World
 |.go _ w _|.comm _ _ _ _ w _|.spawn _ _ w _|.count _ w _|.timer _ _ w _|.alone _ _ w _|.newcoro _ _ _ w _|.coroswitch _ _ _ w _|.collect _ w _|.watch _ w _=>X w
 |.ended .. =>Z
structure iU (n:Nat) (s:GStep):Prop where
 le:∀w,wG s=some w->n<=w.drawn
variable{s:GStep}{n:Nat}
def iU.to{m:Nat}(h:iU m s)(h1:n<=m):iU n s:=⟨λw e=>dj h1 (h.le w e)⟩
variable{a:GStep}
def iU.ite{c:Prop}[Decidable c]{b:GStep}(h1:iU n a)(h:iU n b):iU n (if c then a else b):=by
 split<;>assumption
def iU.elim{o:Option α}{f:α->GStep}(h1:iU n a)(h:∀k,iU n (f k)):iU n (o.elim a f):=by
 cases o;exact h1;exact h _
def G5{es:Array Event}(h:iU n s):iU n (s.after es):=by
 cases s<;>exact⟨λw e=>h.le w e⟩
def rK{p:Prop}(h:p:=by refine⟨λw0 j=>?_⟩;first|(cases j;done)|(cases j;first|exact aD _|exact pm ‹_›)):p:=h
def Na(fr:Frame)(m:String)(w:World):iU w.drawn (endThrow fr m w):=by
 unfold endThrow dieOf;exact rK
def aed(p:Program)(fr:Frame)(v:Value)(w:World):iU w.drawn (endPrinting p fr v w):=by
 unfold endPrinting;simp only[]
 repeat' first
  |exact Na _ _ _
  |exact rK
  |split
def W5(p:Program)(fr:Frame)(cs:List Frame)(d:Option Dying)(m:String)(w:World):iU w.drawn (endFatal p fr cs d m w):=by
 unfold endFatal dieOf;simp only[]
 repeat' first
  |exact rK
  |split
def aG9(p:Program)(fr:Frame)(d:Dying)(f:Fatal)(w:World):iU w.drawn (writeOn p fr d f w):=by
 unfold writeOn;simp only[];split;exact rK;generalize hr:Sem.runT p _ w #[]=r;have j:=aC6 (r:=r.1) (l':=r.2) hr
 repeat' first
  |(refine⟨λw0 h=>?_⟩;first|(cases h;done)|(cases h;exact j))
  |split
def alj(p:Program)(fr:Frame)(d:Dying)(w:World):iU w.drawn (die p fr d w):=by
 unfold die endWith;simp only[Sem.runT_fst]
 repeat' first
  |exact aG9 ..
  |exact rK
  |exact(aed ..).to (pm ‹_›)
  |apply G5
  |split
def Tf(p:Program)(h:Bool)(fr:Frame)(cs:List Frame)(d:Option Dying)(v:Value)(w:World):iU w.drawn (doReturn p h fr cs d v w):=by
 unfold doReturn;simp only[]
 repeat' first
  |exact rK
  |split
def alx(p:Program)(fr:Frame)(cs:List Frame)(d:Option Dying)(g:Nat)(w:World):iU w.drawn (early p fr cs d g w):=by
 unfold early;simp only[]
 repeat' first
  |exact rK
  |split
def ala(p:Program)(fr:Frame)(cs:List Frame)(d:Option Dying)(h:Deferred)(w:World):iU w.drawn (callDeferred p fr cs d h w):=by
 unfold callDeferred;simp only[Sem.runT_fst];refine .ite (by exact rK) (G5 ?_)
 repeat' first
  |exact rK
  |exact(W5 ..).to (pm ‹_›)
  |exact(Na ..).to (pm ‹_›)
  |split
def aGr(p:Program)(h:Bool)(fr:Frame)(cs:List Frame)(d:Option Dying)(w:World):iU w.drawn (unwind p h fr cs d w):=by
 unfold unwind;simp only[Sem.runT_fst]
 repeat' first
  |exact rK
  |exact ala ..
  |exact aed ..
  |exact Tf ..
  |exact(Tf ..).to (pm ‹_›)
  |apply G5
  |split
def N5(p:Program)(b:Bool)(fr:Frame)(cs:List Frame)(d:Option Dying)(s:Sem Next)(w:World):iU w.drawn (stepG.apply p b fr cs d s w):=by
 unfold stepG.apply;have z:∀r,(if b=O then s.runT p w #[]else(s.run p w,#[])).1=r->w.drawn<=(wR r).drawn:=λr h=>by
  cases b<;>simp only[if_true,EX,if_false,Sem.runT_fst]at h<;>exact pm h
 simp only[];apply G5;split<;>rename_i A
 all_goals have j:=z _ A
 all_goals repeat' first
  |(refine⟨λw0 q=>?_⟩;first|(cases q;done)|(cases q;exact j))
  |exact(W5 ..).to j
  |exact(Na ..).to j
  |exact(alx ..).to j
  |split
def aAl(p:Program)(b:Bool)(fr:Frame)(cs:List Frame)(d:Option Dying)(w:World):iU w.drawn (stepG.oper p b fr cs d w):=by
 unfold stepG.oper
 repeat' first
  |exact rK
  |exact N5 ..
  |split
def al6(p:Program)(h b:Bool)(fr:Frame)(cs:List Frame)(d:Option Dying)(w:World):iU w.drawn (stepG.exec p h b fr cs d w):=by
 unfold stepG.exec;simp only[Sem.runT_fst]
 repeat' first
  |exact rK
  |refine iU.elim ?_ λ_=>?_
  |exact N5 ..
  |exact aAl ..
  |exact(Tf ..).to (pm ‹_›)
  |exact(N5 ..).to (pm ‹_›)
  |apply G5
  |split
def aEt(p:Program)(h b:Bool)(g:Goroutine)(w:World):iU w.drawn (stepG p h g w b):=by
 unfold stepG;simp only[]
 repeat' first
  |exact alj ..
  |exact al6 ..
  |exact aGr ..
  |split
structure yK (n:Nat) (s:Stepped):Prop where
 le:∀m,s=.next m->n<=m.world.drawn
def yK.to{m:Nat}{s:Stepped}(h:yK m s)(h1:n<=m):yK n s:=⟨λw e=>dj h1 (h.le w e)⟩
def aGJ{rest:Rest}{cs:Array CommCase}(h:waitingAt rest cs w=X w'):w.drawn<=w'.drawn:=by
 unfold waitingAt at h
 repeat' first
  |(cases h;first|done|exact aD _)
  |split at h
def RX{p:Prop}(h:p:=by refine⟨λw0 j=>?_⟩;first|(cases j;done)|(cases j;first|exact aD _|exact pm ‹_› |(apply aGJ;assumption)|exact dj (pm ‹_›) (pm ‹_›))):p:=h
def akQ(p:Program)(rest:Rest)(j:Array Goroutine)(i:Nat)(g:Goroutine)(cs:Array CommCase)(b:Bool)(h:CommShape)(w:World):yK w.drawn (communicate p rest j i g cs b h w).1:=by
 unfold communicate;simp only[]
 repeat' first
  |exact RX
  |split
def R8(p:Program)(h:Array Goroutine)(rest:Rest)(w:World):yK w.drawn (look p h rest w):=by
 unfold look;simp only[]
 repeat' first
  |exact RX
  |split
def aDy(p:Program)(m:Machine)(k:Nat):yK m.world.drawn (serve p m k):=by
 unfold serve;simp only[]
 repeat' first
  |exact RX
  |split
def alq(w:World)(c:Nat):(drain w c).2.drawn=w.drawn:=by
 unfold drain;split<;>rfl
def aeI(m:Machine)(k:Nat)(t:Timer)(a b:Nat):(retime m k t a b).2.world.drawn=m.world.drawn:=by
 unfold retime;simp only[];rcases t.chan with _|c
 rfl;exact alq _ _
variable{m m':Machine}
def aAj{v:Addr}(h:timerOp.opened m v=X m'):m'.world.drawn=m.world.drawn:=by
 unfold timerOp.opened at h
 repeat' first
  |(cases h;first|done|rfl)
  |split at h
def aFv{op:TimerOp}(h:timerOp m op=.ok (v,m')):m'.world.drawn=m.world.drawn:=by
 unfold timerOp timerOp.named at h
 repeat' first
  |(cases h;done)
  |(injection h with h;injection h with _ h;subst h;first|rfl|exact aeI ..)
  |(injection h with h;have j:=congrArg (λx=>x.2.world.drawn) h;simp only[aeI]at j;first|exact j.symm|exact j.symm.trans (aAj ‹_›))
  |split at h
def aC5(p:Program)(m:Machine)(i:Nat)(b:Bool):yK m.world.drawn (runT p m i b).1:=by
 simp only[runT];generalize m.gs.swapAt! _ _=gg;have j:=aEt p (i==0) b gg.1 m.world;generalize stepG p _ gg.1 m.world b=s at j;cases s<;>simp only[]
 all_goals first|have h:=j.le _ rfl|skip
 all_goals repeat' first
  |exact(akQ ..).to h
  |exact(R8 ..).to h
  |(refine⟨λw0 q=>?_⟩;first|(cases q;done)|(cases q;first|exact h|exact dj h (Nat.le_of_eq (aFv ‹timerOp _ _=_›).symm)|exact dj h ((Na ..).le _ (by rw[‹_›];rfl))))
  |split
def ahy(m:Machine)(t:Nat):(m.advanceTo t).world.drawn=m.world.drawn:=rfl
structure AU (n:Nat) (s:Move):Prop where
 go:∀m i,s=.goroutine m i->n<=m.world.drawn
 at_:∀m ops,s=.machine (.next m) ops->n<=m.world.drawn
def AU.to{m:Nat}{s:Move}(h:AU m s)(h1:n<=m):AU n s:=⟨λw i e=>dj h1 (h.go w i e),λw i e=>dj h1 (h.at_ w i e)⟩
def My{e:Sem α}{a:α}(h:e.run p w=.ok a w'):w.drawn<=w'.drawn:=pm h
def aeT{e:Sem α}{a:α}(h:e.run p w=.ok a w')(j:n<=w.drawn):n<=w'.drawn:=dj j (pm h)
def Oe(p:Program)(m:Machine):AU m.world.drawn (askOn p m):=by
 unfold askOn;simp only[];split;exact⟨λ_ _ h=>(nomatch h),λ_ _ h=>(nomatch h)⟩;have q:=My ‹Sem.run _ _ _=_›;split;refine⟨λ_ _ h=>(nomatch h),λw0 z j=>?_⟩;injection j with j _
 exact dj q ((aDy ..).le _ j)
 repeat' first
  |(refine⟨λw0 z j=>?_,λw0 z j=>?_⟩<;>first|(cases j;done)|(cases j;repeat' first|exact q|refine aeT (by assumption) ?_|exact cr (aeT (by assumption) q)|refine cr ?_|simp only[ahy]))
  |split
def WA{o:Outcome}{ops:Array MemOp}:AU n (.machine (.ended o w) ops):=⟨λ_ _ h=>(nomatch h),λ_ _ h=>(nomatch h)⟩
def Vr(p:Program)(m:Machine):AU m.world.drawn (ask p m):=by
 unfold ask
 repeat' first
  |exact Oe ..
  |exact WA
  |exact(Oe ..).to (My ‹_›)
  |exact(Oe ..).to (dj (My ‹_›) ((R8 ..).le _ ‹_›))
  |(refine⟨λ_ _ h=>(nomatch h),λw0 q j=>?_⟩;injection j with j _;exact dj (My ‹Sem.run _ _ _=_›) ((R8 ..).le _ j))
  |split
def ax0(p:Program)(m:Machine):AU m.world.drawn (move p m):=by
 unfold move
 repeat' first
  |exact WA
  |exact Vr p m
  |exact Vr p {m with rest:= {m.rest with slice:=Z } }
  |(refine⟨λw0 j h=>?_,λw0 j h=>?_⟩<;>first|(cases h;done)|(cases h;exact aD _))
  |split
def aEA(p:Program)(m:Machine):yK m.world.drawn (step p m):=by
 have h:=ax0 p m;unfold step stepT;split;rename_i e;exact(aC5 ..).to (h.go _ _ e);rename_i e;exact⟨λm' e'=>h.at_ m' _ (by rw[e];exact congrArg (λx=>Move.machine x _) e')⟩
def aft(h:Steps p m m'):m.world.drawn<=m'.world.drawn:=by
 obtain⟨n,j⟩:=h
 induction n generalizing m with
 |zero=>cases j;exact aD _
 |succ n q=>
  simp only[runN]at j;have h:=aEA p m;split at j;rename_i e;exact dj (h.le _ e) (q j);rename_i e;rw[j]at h;exact h.le _ rfl
def Ou{P:Program}{f:FuncId}{args:gy}{R:Ending->World->Prop}(h:Calls P f args w R):Calls P f args w λe w'=>R e w'/\(e=.outgrown\/w.drawn<=w'.drawn):=by
 intro cs
 let⟨e,w',fr,h1,h2,h3⟩:=h cs
 refine⟨e,w',fr,⟨h1,?_⟩,h2,h3⟩;cases e with
 |outgrown=>exact .inl rfl
 |returned v=>exact .inr (aft h2)
 |panicked c=>exact .inr (aft h2)
end Go.Ag
namespace Go.Proofs
open Go.Shelf
def Tryz.join177_ren:Ren:=⟨λ|156=>44|165=>82|166=>83|169=>84|240=>135|241=>136|276=>211|277=>212|n=>n,λ|31=>25|72=>169|76=>173|70=>166|37=>167|75=>172|127=>233|164=>302|80=>175|n=>n,λ|n=>n⟩
def Tryz.join177:Lays.n156 ae Tryz.join177_ren:=by
 constructor<;>first|kernel_rfl|(intro _;kernel_rfl)|decide
def Tryz.join177x:Builder.Extra ae Tryz.join177_ren:=by
 constructor<;>first|kernel_rfl|(constructor<;>kernel_rfl)|(intro _;kernel_rfl)|decide
end Go.Proofs
namespace Go.Proofs.YtnhmcokmdhgpbaaGreat
open Go.Ag
def xj(l:cf)(sep:ag):ag:=Lib.join l sep
def qi:Sp
 |[.list sz xs _,.str sep]=>bif aB sz 1 then(rd xs).bind λl=>bif aP (xj l sep).length 140737488355328&&aP (J l) 140737488355328 then X (.str (xj l sep))else Z else Z
 |_=>Z
def YL:da ae 44 qi:=by
 intro a3 v T G h w xs wr hx;unfold qi at T;split at T;rename_i sz ys r z
 let⟨D,hv1⟩:=bf T
 clear T;have D:=fL D;subst D;rw[an]at hv1
 let⟨l,hl,hv2⟩:=hv1
 let⟨A,hv3⟩:=bf hv2
 cases hv3;simp only[bh]at A;have R:=im A.1;have hn:=im A.2;have a0:=Jd hl;subst a0;cases hx with
 |cons p q=>
  cases q with
  |cons p2 q2=>
   cases q2;cases p2;cases p with
   |list Y h2 h3 h4 h5 h6=>
    rename_i a N;have fin:∀w',RowKit.Below w.heap.size w w'->w.drawn<=w'.drawn->∃V,WR V h w'/\ck G h w V h w' 0 0/\VR V (.str (xj l z)) (.string ⟨⟨xj l z⟩⟩):=λw' A hd=>by
     let⟨V,_,_,g1,g2⟩:=U7 wr ⟨A.os,A.output,A.size,A.block,A.tape,hd⟩ (λ_ _=>Z) (λ_ _ _ e=>by cases e)
     exact⟨V,g1,g2,.str _⟩
    rw[bj]at h4⊢;refine .inr ⟨Go.Proofs.enters_of Tryz.func44 k_ rfl _ _,?_⟩;rcases Y with h0|Y
    have a1:l=[]:=su w_;subst a1;refine(Ou (Any.strings_Join_none Tryz.join177 Tryz.join177x (X a) N ⟨⟨z⟩⟩ w)).mono ?_;rintro e w' ⟨⟨rfl,rfl⟩,_⟩;exact⟨_,rfl,fin _ (RowKit.Below.refl _ _) (aD _)⟩
    let⟨ab,ao,asp⟩:=a
    simp only at Y;subst Y;have B:∀(j:Nat) s,l[j]?=X s->w.cell? ⟨ab,ao+j,Z⟩=X (.string ⟨⟨s⟩⟩):=λj s R=>by
     have hf:(au (l.map ax))[j]?=X (ax s):=by rw[rp,gZ,R];rfl
     let⟨_,x,hx1,hx2⟩:=wr.ro _ _ _ (h5 j _ hf)
     cases hx2;exact hx1
    rcases l with _|⟨s,l⟩
    refine(Ou (Any.strings_Join_none Tryz.join177 Tryz.join177x (X ⟨ab,ao,Z⟩) N ⟨⟨z⟩⟩ w)).mono ?_;rintro e w' ⟨⟨rfl,rfl⟩,_⟩;exact⟨_,rfl,fin _ (RowKit.Below.refl _ _) (aD _)⟩;have a2:ab<w.heap.size:=World.block_lt_of_cell? w ⟨ab,ao+0,Z⟩ (B 0 s rfl);have e1:((s::l).map λs=>(⟨⟨s⟩⟩:ByteArray)).map (·.data.toList)=s::l:=by rw[List.map_map];exact List.map_id _
    have S:=Ou (Any.strings_Join Tryz.join177 Tryz.join177x ab ao N ((s::l).map λs=>(⟨⟨s⟩⟩:ByteArray)) ⟨⟨z⟩⟩ w (λj x R=>by
     rw[gZ,pH]at R;obtain⟨t,ht,rfl⟩:=R;exact B j t ht) a2 (by rw[bj];exact hn) (by rw[bj];exact h4) (by rw[e1];exact R))
    rw[e1,bj]at S;refine S.mono ?_;rintro e w' ⟨⟨rfl,A⟩,hd⟩;exact⟨_,rfl,fin _ A (hd.resolve_left (by intro e;cases e))⟩
 cases T
variable{Q:ay}[Std Q]
def ou(p:VE):ag×Int×ag:=(p.1,p.2.1,xj p.2.2.1 [32])
def mh(q:ag×Int×ag):aa:=.agg [.str q.1,ah q.2.1,.str q.2.2]
def AR(ids:cf):Prop:=J ids<=140737488355328/\(xj ids [32]).length<=140737488355328
def aso{ids:cf}(h:AR ids)(r:gS):qi [.list 1 (ids.map ax) r,.str [32]]=X (.str (xj ids [32])):=by
 have q:=bH h.1;have j:=bH h.2;show(bif aB 1 1 then(rd (ids.map ax)).bind _ else Z)=_;rw[Fx];show(bif aP _ _&&aP _ _ then X _ else Z)=_;rw[q,j];rfl
variable{s:St}{p:VE}
def abT(q:Q.spec 44=X qi)(D:AR p.2.2.1)(A:s.gE<=s.aL):ai Q 21 [jG p] s (mh (ou p)) s:=by
 let⟨n,k,ids,b⟩:=p
 obtain⟨r,B⟩:∃r,jG (n,k,ids,b)=.agg [.str n,ah k,.list 1 (ids.map ax) r]:=by
  cases b;exact⟨.Al,rfl⟩;exact⟨.no,rfl⟩
 rw[B];have j:=aso (ids:=ids) D r;have z:∃v s',ai Q 21 [.agg [.str n,ah k,.list 1 (ids.map ax) r]] s v s'/\(v=mh (ou (n,k,ids,b))/\s'=s):=by
  refine ai.ofNRZ atX (aM ?_);simp only[go_sem,seval,QA];refine⟨A,?_⟩;simp only[go_sem,seval,q,j,ey,evc,Ov,V8];exact⟨_,rfl,rfl,iL A⟩
 obtain⟨_,_,h,rfl,rfl⟩:=z;exact h
abbrev VK:=ag×Int×ag
def alW(a d:ag)(b e:Int)(c f:ag):i9 ae 8 67 (.agg [.str a,ah b,.str c]) (.agg [.str d,ah e,.str f])=X ((a==d)&&(aj b e&&c==f)):=by
 have h:i9 ae 8 67 (.agg [.str a,ah b,.str c]) (.agg [.str d,ah e,.str f])=(X (a==d)).bind λr=>bif r then(X (aj b e)).bind λr=>bif r then(X (c==f)).bind λr=>bif r then X O else X I else X I else X I:=k_
 rw[h];cases a==d<;>cases aj b e<;>cases c==f<;>rfl
def RS:wF ae 67 mh where
 eq a b:=by
  let⟨a1,a2,a3⟩:=a
  let⟨b1,b2,b3⟩:=b
  show i9 ae 8 67 (.agg [.str a1,ah a2,.str a3]) (.agg [.str b1,ah b2,.str b3])=_;rw[alW];by_cases h1:a1=b1<;>by_cases h2:a2=b2<;>by_cases h3:a3=b3<;>simp[aj,h1,h2,h3]
 same a:=by simp[mh,pd,uN,se,aj]
 gt _:=rfl
def RU(k:VK):jV ae 63 (mh k)=X (67,4):=k_
abbrev GE:=List (VK×aa)
def ql:p_->GE->GE
 |[],L=>L
 |v::l,L=>ql l (dt (ou v) (.bool O) L)
def acu(k:VK):∀(l:p_)(L:GE),bX k (ql l L)=if k∈l.map ou then X (.bool O)else bX k L
 |[],L=>by simp[ql]
 |v::l,L=>by
  rw[ql,acu k l,G8];by_cases h:k=ou v;simp[h];by_cases h2:k∈l.map ou<;>simp[h,h2]
def Wz(p:VE):∃r,jG p=.agg [.str p.1,ah p.2.1,.list 1 (p.2.2.1.map ax) r]:=by
 let⟨n,k,ids,b⟩:=p
 cases b;exact⟨.Al,rfl⟩;exact⟨.no,rfl⟩
variable{K:gk}{l:p_}{m:Nat}{cv:aa}
def awe(G:Q.spec 44=X qi)(hc:aq 3 jG cv l)(hk:∀p∈l,AR p.2.2.1)(hl:J l<=1000000000){s0:St}(hx:∀e lc s,ac e 5=.map m->dz m s0 s->bg mh s m (ql l [])->K (.exit 0) ⟨e,22,lc⟩ s):
 ∀(rest h:p_)(L:GE)(e:aw)(lc:Ag.Loc)(s:St),l=h++rest->ql rest L=ql l []->ac e 5=.map m->ac e 11=cv->ac e 12=ak (J l)->ac e 13=ak (J h)->dz m s0 s->bg mh s m L->
  W Q 18 (.loop Qm) ⟨e,22,lc⟩ s K:=by
 have hs:=aae;intro rest
 induction rest with
 |nil=>
  intro h L e lc s N h2 R z q j S Y;have V:=cz N;refine aF ?_;simp only[go_sem,seval,Qm,q,j,V,bJ];exact hx _ _ _ (by simp only[sN,seval,R]) S (by rw[<-h2];exact Y)
 |cons v rest ih=>
  intro h L e lc s N h2 R z q j S Y
  let⟨hlt,hat⟩:=cH N
  let⟨r,hr⟩:=Wz v
  have D:=λlc k=>hc.at kw.2.2.1 hat lc k;rw[hr]at D;have T:=cm (n:=J h) w_;have a0:=hc.gt;have A:=abT G (p:=v) (hk v (by rw[N];simp)) S.mw;rw[hr]at A;have B:=lN RS RU Y (ou v) (.bool O);simp only[mh]at B A;refine aF ?_;simp only[go_sem,seval,Qm,R,z,q,j,hlt,D];refine aV.of A d_ ?_;simp only[go_sem,seval,j,B,T];refine ih (h++[v]) _ _ _ _ (cP N) h2 ?_ ?_ ?_ ?_ (S.put _) qM<;>simp only[jW,sN,seval,R,z,q]
variable{ov wa wb wc wd wr wv:aa}
def awf(h:Q.spec 44=X qi)(D:aq 3 jG cv l)(z:∀p∈l,AR p.2.2.1)(R:J l<=1000000000)(N:s.gE<=s.aL)(G:Q.spec 20=X oW)(B:oW [.agg [ov],.agg [wa,wb,wc,wd,wv,wr]]=X cv):∃v s',ai Q 18 [.agg [ov],.agg [wa,wb,wc,wd,wv,wr]] s v s'/\(v=.map s.aL/\bg mh s' s.aL (ql l [])/\(∀k,k<s.aL->s'.get [] k=s.get [] k)/\s'.aL=s.aL+1/\s'.gE<=s'.aL/\s'.ci=s.ci):=by
 have A:=D.gt;have q:=D.lenS kw;refine ai.ofNRZ atD (aM ?_);simp only[go_sem,seval,Ko,jq,G,B,A,q];refine awe h D z R (m:=s.aL) (s0:=s.new (.map [] 0)) ?_ l [] [] _ _ _ rfl rfl ?_ ?_ ?_ ?_ (.refl (cr N)) cu;intro e lc V T j S;simp only[go_sem,seval,T];exact⟨_,rfl,rfl,S,λk z=>(j.old k w_).trans (cV z),j.aL,j.mw,j.ci⟩
 all_goals simp only[sN,seval]
 all_goals rfl
variable{b n:Nat}
def Mu(j:n<=1000001)(h:b<=1000):eE n b=O:=by
 unfold eE;apply bH;have:(n*2+1024)*b<=2001026*1000:=Nat.mul_le_mul w_ h;omega
variable{E:EI}{xs:az}{lo sz:Nat}{t:TypeId}{y:aa}
def I6(R:jk ae t=X E)(T:E.n=sz)(N:E.b<=1000){x:aa}{yt:az}(h:bR sz lo s ov xs)(B:cR [] E.g E.n y s=X (x::yt))(G:J xs+J yt<=1000000)(q:lo<=s.aL)(D:s.gE<=s.aL):
 ∃j s',cL ae [] t ov y I s=X (j,s')/\bR sz lo s' j (xs++x::yt)/\j.cells=[j]/\s'.aL=s.aL+1/\s'.gE<=s'.aL/\s'.ci=s.ci/\(∀n,n<lo->s'.get [] n=s.get [] n):=by
 subst T;rcases h with⟨rfl,rfl⟩|⟨S,k,rfl,V,h5,Y⟩
 have z:eE (x::yt).length E.b=O:=Mu (by simp only[bT];omega) N;refine⟨.list E.n (x::yt) (.own s.aL),s.new .tok,?_,.inr ⟨by simp,s.aL,rfl,by rw[eA,bS];rfl,q,gN _⟩,rfl,rfl,cr D,rfl,λn A=>?_⟩;simp only[fq,cL,R,B,fk,iq,z,cF];rw[eA,bN.2 w_];rfl;have z:eE (J xs+(x::yt).length) E.b=O:=Mu (by simp only[bT];omega) N;refine⟨.list E.n (xs++x::yt) (.own s.aL),(s.put k Z).new .tok,?_,.inr ⟨by simp,s.aL,rfl,by rw[eA,kr,bS];rfl,q,gN _⟩,rfl,rfl,cr (cG s k Z D),rfl,λn A=>?_⟩;simp only[ce,cL,R,aH,B,fk,V,z,cj];rw[eA,kr,bN.2 w_,cF,aN,bN.2 w_];rfl
def iu(l:vy)(us:be):vy:=us.flatMap λi=>l[i]?.toList
variable{us:be}{i:Nat}
def ad8{l:vy}{e:aA}(h:l[i]?=X e):iu l (us++[i])=iu l us++[e]:=by
 unfold iu;rw[It,ur,List.flatMap_nil,h];rfl
def Ef(l:vy):∀us:be,(iu l us).length<=J us
 |[]=>aD _
 |i::us=>by
  have h:=Ef l us;unfold iu at h⊢;rw[ur,bK,bT];have:l[i]?.toList.length<=1:=by cases l[i]? <;>simp
  omega
def ad7{l:vy}{e:aA}(h:e∈iu l us):e∈l:=by
 unfold iu at h
 let⟨i,_,hi⟩:=sD.1 h
 rcases hq:l[i]? with _|q
 rw[hq]at hi;cases hi;rw[hq]at hi;have:e=q:=by simpa using hi
 rw[this];exact co hq
structure AQ (e:aw) (uv:aa) (b5 b3 b4 b11:Nat):Prop where
 h0:ac e 0=uv
 h1:ac e 1=.ptr b5 0
 h2:ac e 2=.ptr b3 0
 h3:ac e 3=.ptr b4 0
 h4:ac e 4=.ptr b11 0
 h6:ac e 6=.uV 6 1 0
variable{b11 b3 b4 b5:Nat}{uv:aa}{e e':aw}
def AQ.mv(h:AQ e uv b5 b3 b4 b11)(g:ac e' 0=ac e 0/\ac e' 1=ac e 1/\ac e' 2=ac e 2/\ac e' 3=ac e 3/\ac e' 4=ac e 4/\ac e' 6=ac e 6):AQ e' uv b5 b3 b4 b11:=
 ⟨g.1.trans h.h0,g.2.1.trans h.h1,g.2.2.1.trans h.h2,g.2.2.2.1.trans h.h3,g.2.2.2.2.1.trans h.h4,g.2.2.2.2.2.trans h.h6⟩
variable{lc:Ag.Loc}
def aFC{ev:aa}{l:vy}(hu:aq 1 (λi:Nat=>ak i) uv us)(hl:aq 15 aA.val ev l)(hi:∀x∈us,x<J l)(hg:∀e∈l,e.rf)(b1:J us<=1000)(b2:J l<=1000000){s0:St}(h5:s0.get [] b5=X (.cells [ev]))(R:b5<lo)(hx:∀e s tv,bR 15 lo s tv ((iu l us).map aA.val)->(∀n,n<lo->s.get [] n=s0.get [] n)->lo<=s.aL->s.gE<=s.aL->ac e 7=tv->AQ e uv b5 b3 b4 b11->K (.exit 0) ⟨e,74,lc⟩ s):
 ∀(rest h:be)(e:aw)(s:St)(tv:aa),us=h++rest->bR 15 lo s tv ((iu l h).map aA.val)->(∀n,n<lo->s.get [] n=s0.get [] n)->lo<=s.aL->s.gE<=s.aL->ac e 7=tv->ac e 17=uv->ac e 18=ak (J us)->ac e 19=ak (J h)->AQ e uv b5 b3 b4 b11->W Q 19 (.loop Qp) ⟨e,74,lc⟩ s K:=by
 intro rest;have b0:=hu.cs;have b6:=hl.cs
 induction rest with
 |nil=>
  intro h e s tv N G j A z h7 D q B F;have a0:=cz N;have Y:h=us:=by rw[N];simp
  rw[Y]at G;refine aF ?_;simp only[go_sem,seval,Qp,q,B,a0,bJ];exact hx _ _ tv G j A z (by simp only[sN,seval,h7]) (F.mv (by simp only[sN,seval,and_self]))
 |cons x rest ih=>
  intro h e s tv N G j A z h7 D q B F
  let⟨hlt,hat⟩:=cH N
  have T:=hi x (co hat);obtain⟨d,hd⟩:∃d,l[x]?=X d:=⟨_,dp T⟩;have gd:=hg d (co hd);have dc:=gd.gT.cs;have oc:=gd.obj.all;have a9:=λlc k=>hu.at ff.2.2.1 hat lc k;have a8:=λlc k=>hl.at kx.2.2.1 hd lc k;have V:=cm (n:=J h) w_;have F1:=F.h1;have hb:s.get [] b5=X (.cells [ev]):=(j b5 R).trans h5;have S:=G.gt
  let⟨tv',s1,a1,a2,a3,a4,a5,a6,a7⟩:=I6 (t:=30) kx.1 rfl d_ (s:=s) (y:=.list 15 [d.val] .Al) (x:=d.val) (yt:=[]) G (by simp only[ce,cR]) (by
   rw[bj,bn]
   have:=Ef l h;omega) A z
  have a2:bR 15 lo s1 tv' ((iu l (h++[x])).map aA.val):=by rw[ad8 hd,db];exact a2
  simp only[aA.val,aA.cells]at a1;refine aF ?_;simp only[go_sem,seval,Qp,h7,D,q,B,F1,hlt,a9,a8,hb,aA.val,aA.cells,S,a1,V,sB];refine ih (h++[x]) _ s1 tv' (by rw[N];simp) a2 (λn hn=>(a7 n hn).trans (j n hn)) w_ a5 ?_ ?_ ?_ ?_ (F.mv ?_)
  all_goals simp only[jW,sN,seval,D,q,and_self]
def aG0(D:aq 1 (λi:Nat=>ak i) uv us)(hi:∀x∈us,x<n)(hl:J us<=1000000)(hx:∀e,ac e 0=uv->K (.exit 0) ⟨e,28,lc⟩ s):
 ∀(rest h:be)(e:aw),us=h++rest->ac e 0=uv->ac e 1=ak n->ac e 5=ak (J h)->W Q 8 (.loop Lm) ⟨e,28,lc⟩ s K:=by
 intro rest;have q:=D.cs;have j:=D.lenS ff
 induction rest with
 |nil=>
  intro h e A z S R;have G:=cz A;refine aF ?_;simp only[go_sem,seval,Lm,z,R,q,j,G,bJ];exact hx _ (by simp only[sN,seval,z])
 |cons x rest T=>
  intro h e A z S R
  let⟨hlt,hat⟩:=cH A
  have a0:=hi x (co hat);have N:=λlc k=>D.at ff.2.2.1 hat lc k;have B:=cm (n:=J h) w_;have Y:aQ (x:Int) 0=I:=dN w_;have V:bV (n:Int) (x:Int)=I:=dN w_;refine aF ?_;simp only[go_sem,seval,Lm,z,S,R,q,j,hlt,Y,V,N,B];refine T (h++[x]) _ (cP A) ?_ ?_ ?_<;>simp only[sN,seval,z,S,sA]
def aG1(q:aq 1 (λi:Nat=>ak i) uv us)(hi:∀x∈us,x<n)(B:J us<=1000000)(A:us≠[])(s:St):ai Q 8 [uv,ak n] s (.bool O) s:=by
 have j:=q.cs;have h:=q.lenS ff;have z:aQ 0 (J us:Int)=O:=dQ (by have:=List.length_pos_iff.2 A;omega);refine ai.ofNZ avX (aM ?_);simp only[go_sem,seval,k8];refine aG0 q hi B (λe D=>?_) us [] _ rfl ?_ ?_ ?_;simp only[go_sem,seval,D,j,h,z]
 all_goals simp only[sN,seval,bn]
 all_goals rfl
def asf{ws:be}(hu:aq 1 (λi:Nat=>ak i) uv us)(hw:aq 1 (λi:Nat=>ak i) wv ws)(hl:J us<=1000000)(T:J us=J ws)(G:s.gE<=s.aL)(hx:∀e,us=ws->K (.exit 0) ⟨e,26,lc⟩ s)(hr:∀e,us≠ws->ac e 4=.bool I->K .ret ⟨e,26,lc⟩ s):
 ∀(rest j q:be)(e:aw),us=q++rest->ws=q++j->ac e 0=uv->ac e 1=wv->ac e 5=ak (J q)->W Q 27 (.loop GJ) ⟨e,26,lc⟩ s K:=by
 intro rest;have B:=hu.cs;have a3:=hw.cs;have A:=hu.lenS ff
 induction rest with
 |nil=>
  intro j q e z D S Y V;have a2:=cz z;have h3:us=ws:=by
   rw[z,D]at T;have:j=[]:=su (by simpa using T);rw[z,D,this]
  refine aF ?_;simp only[go_sem,seval,GJ,S,V,B,A,a2,bJ];exact hx _ h3
 |cons x rest ih=>
  intro j q e z D S Y V;rcases j with _|⟨y,j⟩
  rw[z,D]at T;simp at T
  let⟨hlt,hat⟩:=cH z
  let⟨_,hbt⟩:=cH D
  have R:=λlc k=>hu.at ff.2.2.1 hat lc k;have N:=λlc k=>hw.at ff.2.2.1 hbt lc k;have a1:=cm (n:=J q) w_;refine aF ?_;cases hq:aj (x:Int) (y:Int)with
  |false=>
   simp only[go_sem,seval,GJ,S,Y,V,B,A,hlt,R,N,hq,G];refine hr _ (λh=>?_) (by simp only[sN,seval]);rw[z,D]at h
   have:=(List.cons.inj (List.append_cancel_left h)).1;exact absurd (congrArg Nat.cast this) (of_decide_eq_false hq)
  |true=>
   have a0:x=y:=by have:=of_decide_eq_true hq;omega
   subst a0;simp only[go_sem,seval,GJ,S,Y,V,B,A,hlt,R,N,hq,a1,G];refine ih j (q++[x]) _ (cP z) (cP D) ?_ ?_ ?_<;>simp only[sN,seval,S,Y,sA]
def asg{ws:be}(D:aq 1 (λi:Nat=>ak i) uv us)(B:aq 1 (λi:Nat=>ak i) wv ws)(N:J us<=1000000)(G:s.gE<=s.aL):ai Q 27 [uv,wv] s (.bool (decide (us=ws))) s:=by
 have A:=D.cs;have q:=B.cs;have z:=D.lenS ff;have j:=B.lenS ff;refine ai.ofNZ aum (aM ?_);cases hq:aj (J us:Int) (J ws:Int)with
 |false=>
  have h:us≠ws:=λh=>absurd (by rw[h]) (of_decide_eq_false hq);simp only[go_sem,seval,GG,A,q,z,j,hq,dN h]
 |true=>
  have R:J us=J ws:=by have:=of_decide_eq_true hq;omega
  simp only[go_sem,seval,GG,A,q,z,j,hq];refine asf D B N R G (λe h=>?_) (λe h S=>?_) us ws [] _ rfl rfl ?_ ?_ ?_;simp only[go_sem,seval,dQ h];simp only[go_sem,seval,dN h,S]
  all_goals simp only[sN,seval,bn]
  all_goals rfl
abbrev t_:=List Bool
def un:H_->t_->H_
 |u::U,b::F=>bif b then un U F else u::un U F
 |_,_=>[]
def T6{u:be}:∀{U:H_}{F:t_},u∈un U F->∃j:Nat,U[j]?=X u/\F[j]?=X I
 |[],_,h=>by cases h
 |_::_,[],h=>by cases h
 |a::U,b::F,h=>by
  cases b with
  |true=>
   obtain⟨j,z,q⟩:=T6 (U:=U) (F:=F) h;exact⟨j+1,z,q⟩
  |false=>
   rcases dG.1 h with rfl|h
   exact⟨0,rfl,rfl⟩;obtain⟨j,z,q⟩:=T6 (U:=U) (F:=F) h;exact⟨j+1,z,q⟩
def T7{u:be}:∀{U:H_}{F:t_}{j:Nat},U[j]?=X u->F[j]?=X I->(un U F).Perm (u::un U (F.set j O))
 |[],_,_,h,_=>by cases h
 |_::_,[],_,_,h=>by cases h
 |a::U,b::F,0,h1,h2=>by
  cases h1;cases h2;exact List.Perm.refl _
 |a::U,b::F,j+1,h1,h2=>by
  have q:=T7 (U:=U) (F:=F) (j:=j) h1 h2;cases b with
  |true=>exact q
  |false=>exact(List.Perm.cons a q).trans (List.Perm.swap u a _)
def afX:∀U:H_,un U (fB (J U) I)=U
 |[]=>rfl
 |u::U=>congrArg (u:: ·) (afX U)
variable{U:H_}{F:t_}{u:be}{tv:aa}
def axH(hU:aq 1 ek tv U)(hu:aq 1 (λi:Nat=>ak i) uv u)(hn:u≠[])(hl:J U<=1000000)(a3:∀w∈U,J w<=1000000)(hF:J F=J U)(a6:s.gE<=s.aL)(hm:s.get [] m=X (.cells (F.map .bool)))(a8:u∈un U F)(hr:∀e j,U[j]?=X u->F[j]?=X I->ac e 6=.bool O->K .ret ⟨e,35,lc⟩ (s.put m (X (.cells ((F.set j O).map .bool))))):
 ∀(rest q:H_)(e:aw),U=q++rest->(∀j,j<J q->U[j]?=X u->F[j]? ≠X I)->ac e 0=tv->ac e 1=.arr 1 m 0 (J U) (J U)->ac e 2=uv->ac e 7=ak (J q)->W Q 9 (.loop RP) ⟨e,35,lc⟩ s K:=by
 intro rest;have a2:=hU.cs;have a1:=hU.lenS oG;have z:=hu.cs;have D:=hu.lenS ff;have i0:aQ 0 (J u:Int)=O:=dQ (by have:=List.length_pos_iff.2 hn;omega);have bc:∀F:t_,au (F.map aa.bool)=F.map aa.bool:=λF=>by
  induction F with
  |nil=>rfl
  |cons b F ih=>exact congrArg (aa.bool b:: ·) ih
 induction rest with
 |nil=>
  intro q e V hp e0 e1 B Y;obtain⟨j,A,T⟩:=T6 a8;have a9:=cz V;exact absurd T (hp j (by have:=(gn.1 A).1;omega) A)
 |cons w rest ih=>
  intro q e V hp e0 e1 B Y
  let⟨hlt,hat⟩:=cH V
  have a7:=λlc k=>hU.at oG.2.2.1 hat lc k;have hc:aq 1 (λi:Nat=>ak i) (ek w) w:=.inr ⟨.no,rfl⟩;have a0:=hc.cs;have G:=cm (n:=J q) w_;have run:=asg (Q:=Q) hc hu (a3 w (co hat)) a6;have R:=λlc=>Ft TB hlt (m:=m) (c:=J U) lc;obtain⟨b,hb⟩:∃b,F[q.length]?=X b:=⟨_,dp w_⟩;have S:((F.map aa.bool).drop (J q)).head?=X (.bool b):=by rw[List.head?_drop,gZ,hb];rfl
  have a5:J q+1<=(F.map aa.bool).length:=by rw[bj];omega
  have a4:(F.map aa.bool).take (J q)++(.bool O::(F.map aa.bool).drop (J q+1))=(F.set (J q) O).map aa.bool:=by
   rw[List.map_set,Nx,iP (by rw[bj];omega)]
  have next:¬(w=u/\b=I)->∀j,j<(q++[w]).length->U[j]?=X u->F[j]? ≠X I:=λN j hj A T=>by
   by_cases hjp:j<J q;exact hp j hjp A T;have:j=J q:=by simp at hj;omega
   subst this;rw[hat]at A;rw[hb]at T;cases A;cases T;exact N ⟨rfl,rfl⟩
  refine aF ?_;simp only[go_sem,seval,RP,e0,B,Y,a2,a1,hlt,a7,a0,z];refine aV.of run d_ ?_;by_cases hwu:w=u
  ·have hd:=dQ hwu
   cases b with
   |true=>
    simp only[go_sem,seval,hd,e1,B,Y,z,D,i0,R,hm,S,G];refine ih (q++[w]) _ (cP V) (next λh=>by cases h.2) ?_ ?_ ?_ ?_<;>simp only[sN,seval,e0,e1,B,sA]
   |false=>
    simp only[go_sem,seval,hd,e1,B,Y,z,D,i0,R,hm,S,dl,du,a5,a4];exact hr _ _ (by rw[<-hwu];exact hat) hb (by simp only[sN,seval])
  ·have hd:=dN hwu
   simp only[go_sem,seval,hd,Y,G];refine ih (q++[w]) _ (cP V) (next λh=>hwu h.1) ?_ ?_ ?_ ?_<;>simp only[sN,seval,e0,e1,B,sA]
def acF(R:aq 1 ek tv U)(A:aq 1 (λi:Nat=>ak i) uv u)(B:u≠[])(G:J U<=1000000)(h:∀w∈U,J w<=1000000)(S:J F=J U)(q:s.gE<=s.aL)(D:s.get [] m=X (.cells (F.map .bool)))(z:u∈un U F):
 ∃v s',ai Q 9 [tv,.arr 1 m 0 (J U) (J U),uv] s v s'/\(v=.bool O/\∃j,U[j]?=X u/\F[j]?=X I/\s'=s.put m (X (.cells ((F.set j O).map .bool)))):=by
 refine ai.ofNRZ av8 (aM ?_);simp only[go_sem,seval,k9];refine axH R A B G h S q D z (λe j V T Y=>?_) U [] _ rfl (λj N=>absurd N (Nat.not_lt_zero _)) ?_ ?_ ?_ ?_;simp only[go_sem,seval,Y];exact⟨_,rfl,rfl,j,V,T,rfl⟩
 all_goals simp only[sN,seval,bn]
 all_goals rfl
def aly{ev:aa}{l:vy}(V:aq 1 (λi:Nat=>ak i) uv us)(hl:aq 15 aA.val ev l)(hi:∀x∈us,x<J l)(hg:∀e∈l,e.rf)(b0:J us<=1000){s0:St}(hx:∀e s tv,bR 15 lo s tv ((iu l us).map aA.val)->(∀n,n<lo->s.get [] n=s0.get [] n)->lo<=s.aL->s.gE<=s.aL->ac e 5=tv->K (.exit 0) ⟨e,24,lc⟩ s):
 ∀(rest h:be)(e:aw)(s:St)(tv:aa),us=h++rest->bR 15 lo s tv ((iu l h).map aA.val)->(∀n,n<lo->s.get [] n=s0.get [] n)->lo<=s.aL->s.gE<=s.aL->ac e 5=tv->ac e 0=ev->ac e 1=uv->ac e 6=ak (J h)->W Q 10 (.loop Ka) ⟨e,24,lc⟩ s K:=by
 intro rest;have D:=V.cs;have b1:=hl.cs;have B:=V.lenS ff
 induction rest with
 |nil=>
  intro h e s tv N G A z q h5 h0 j h6;have a0:=cz N;have Y:h=us:=by rw[N];simp
  rw[Y]at G;refine aF ?_;simp only[go_sem,seval,Ka,j,h6,D,B,a0,bJ];exact hx _ _ tv G A z q (by simp only[sN,seval,h5])
 |cons x rest ih=>
  intro h e s tv N G A z q h5 h0 j h6
  let⟨hlt,hat⟩:=cH N
  have S:=hi x (co hat);obtain⟨d,hd⟩:∃d,l[x]?=X d:=⟨_,dp S⟩;have gd:=hg d (co hd);have dc:=gd.gT.cs;have oc:=gd.obj.all;have a9:=λlc k=>V.at ff.2.2.1 hat lc k;have a8:=λlc k=>hl.at kx.2.2.1 hd lc k;have T:=cm (n:=J h) w_;have R:=G.gt
  let⟨tv',s1,a1,a2,a3,a4,a5,a6,a7⟩:=I6 (t:=30) kx.1 rfl d_ (s:=s) (y:=.list 15 [d.val] .Al) (x:=d.val) (yt:=[]) G (by simp only[ce,cR]) (by
   rw[bj,bn]
   have:=Ef l h;omega) z q
  have a2:bR 15 lo s1 tv' ((iu l (h++[x])).map aA.val):=by rw[ad8 hd,db];exact a2
  simp only[aA.val,aA.cells]at a1;refine aF ?_;simp only[go_sem,seval,Ka,h0,j,h5,h6,hlt,D,B,a9,a8,aA.val,aA.cells,R,a1,T,sB];refine ih (h++[x]) _ s1 tv' (cP N) a2 (λn hn=>(a7 n hn).trans (A n hn)) w_ a5 ?_ ?_ ?_ ?_
  all_goals simp only[sN,seval,h0,j,sA]
def alz{ev:aa}{l:vy}(G:aq 1 (λi:Nat=>ak i) uv us)(N:aq 15 aA.val ev l)(hi:∀x∈us,x<J l)(R:∀e∈l,e.rf)(q:J us<=1000)(z:s.gE<=s.aL):∃v s',ai Q 10 [ev,uv] s v s'/\(bR 15 s.aL s' v ((iu l us).map aA.val)/\Up s s'):=by
 refine ai.ofNRZ asy (aM ?_);simp only[go_sem,seval,vh];refine aly G N hi R q (s0:=s) (lo:=s.aL) (λe T tv D B A h S=>?_) us [] _ s .uP rfl (.inl R_) (λ_ _=>rfl) (aD _) z ?_ ?_ ?_ ?_;have j:=D.gt;simp only[go_sem,seval,S,j];exact⟨_,rfl,D,B,A,h⟩
 all_goals simp only[sN,seval,bn]
 all_goals rfl
def aFp(a b c d:ag):cN ae .neq 105 (.agg [.str a,.str b]) (.agg [.str c,.str d])=X (.bool (!(bif a==c then b==d else I))):=by
 have h:cN ae .neq 105 (.agg [.str a,.str b]) (.agg [.str c,.str d])=((X (a==c)).bind λr=>bif r then(X (b==d)).bind λr=>bif r then X O else X I else X I).bind λr=>X (.bool (!r)):=k_
 rw[h];cases a==c<;>cases b==d<;>rfl
def aBa(p:Pt):gF p p=O:=by simp[gF,ve]
variable{o:Obj}
def aDp(go:o.rf)(G:s.gE<=s.aL)(Y:lc.gen 2=1)(g3:lc.gen 3=1)(B:lc.get 2 1=X o.cells)(V:lc.get 3 1=X o.cells)(hx:∀e,ac e 2=.uV 2 1 0->ac e 3=.uV 3 1 0->K (.exit 0) ⟨e,80,lc⟩ s):
 ∀(rest h:cf)(e:aw),o.gT=h++rest->ac e 2=.uV 2 1 0->ac e 3=.uV 3 1 0->ac e 5=ak (J h)->W Q 28 (.loop Ky) ⟨e,80,lc⟩ s K:=by
 intro rest;have T:=go.all;have j:=go.gT.lenS bL;have a1:=go.reflen;have a0:=aae;simp only[Obj.cells]at B V
 induction rest with
 |nil=>
  intro h e z q A S;have N:=cz z;refine aF ?_;simp only[go_sem,seval,Ky,q,S,Y,B,T,j,N,bJ];exact hx _ (by simp only[sN,seval,q]) (by simp only[sN,seval,A])
 |cons x rest ih=>
  intro h e z q A S
  let⟨hlt,hat⟩:=cH z
  have R:=λlc k=>go.gT.at bL.2.2.1 hat lc k;have D:=ue (n:=J h) w_;refine aF ?_;simp only[go_sem,seval,Ky,q,A,S,Y,g3,B,V,T,j,hlt,R,ax,bS,D,G];refine ih (h++[x]) _ (cP z) ?_ ?_ ?_<;>simp only[sN,seval,q,A,sA]
def aDq(go:o.rf)(D:s.gE<=s.aL)(Y:lc.gen 2=1)(g3:lc.gen 3=1)(A:lc.get 2 1=X o.cells)(V:lc.get 3 1=X o.cells)(hx:∀e,K (.exit 2) ⟨e,80,lc⟩ s):
 ∀(rest h:wf)(e:aw),o.mt=h++rest->ac e 2=.uV 2 1 0->ac e 3=.uV 3 1 0->ac e 6=ak (J h)->W Q 28 (.loop Kz) ⟨e,80,lc⟩ s K:=by
 intro rest;have T:=go.all;have j:=go.mt.lenS jj;have a1:=go.taglen;have a0:=aae;simp only[Obj.cells]at A V
 induction rest with
 |nil=>
  intro h e q z S R;have G:=cz q;refine aF ?_;simp only[go_sem,seval,Kz,z,R,Y,A,T,j,G,bJ];exact hx _
 |cons x rest ih=>
  intro h e q z S R
  let⟨hlt,hat⟩:=cH q
  have N:=λlc k=>go.mt.at jj.2.2.1 hat lc k;have B:=ue (n:=J h) w_;refine aF ?_;simp only[go_sem,seval,Kz,z,S,R,Y,g3,A,V,T,j,hlt,N,bZ,aFp,bS,B,D];refine ih (h++[x]) _ (cP q) ?_ ?_ ?_<;>simp only[sN,seval,z,S,sA]
def aDn(go:o.rf)(h:s.gE<=s.aL):ai Q 28 [o.val,o.val] s (.bool O) s:=by
 have z:=go.all;have q:=go.gT.lenS bL;have j:=go.mt.lenS jj;have A:=aBa (o.x,o.y);refine ai.ofNZ aun (aM ?_);simp only[go_sem,seval,GK,Obj.val,Obj.cells,z,q,j,aef,A,ve,bS];refine aDp go h ?_ ?_ ?_ ?_ (λe D B=>?_) o.gT [] _ rfl ?_ ?_ ?_
 case refine_5=>
  simp only[go_sem,seval];refine aDq go h ?_ ?_ ?_ ?_ (λe=>?_) o.mt [] _ rfl ?_ ?_ ?_
  case refine_5=>simp only[go_sem,seval]
  all_goals first|(simp only[sG,seval,D,B,Obj.cells,bn];done)|(simp only[sG,seval,bn];rfl)|rfl
 all_goals first|(simp only[sG,seval,Obj.cells,bn];done)|(simp only[sG,seval,bn];rfl)|rfl
variable{l:ba}{av:aa}
def aDk{bv:aa}(T:aq 6 Obj.val av l)(hb:aq 6 Obj.val bv l)(hg:∀o∈l,o.rf)(hl:J l<=1000000)(G:s.gE<=s.aL)(g2:lc.gen 2=1)(g3:lc.gen 3=1)(Y:lc.get 2 1=X [av])(l3:lc.get 3 1=X [bv])(hx:∀e,K (.exit 0) ⟨e,32,lc⟩ s):
 ∀(rest h:ba)(e:aw),l=h++rest->ac e 2=.uV 2 1 0->ac e 3=.uV 3 1 0->ac e 5=ak (J h)->W Q 11 (.loop Kd) ⟨e,32,lc⟩ s K:=by
 intro rest;have q:=T.cs;have a0:=hb.cs;have j:=T.lenS dY
 induction rest with
 |nil=>
  intro h e z B V A;have N:=cz z;refine aF ?_;simp only[go_sem,seval,Kd,B,A,g2,Y,q,j,N,bJ];exact hx _
 |cons o rest ih=>
  intro h e z B V A
  let⟨hlt,hat⟩:=cH z
  have go:=hg o (co hat);have rc:=go.all;have S:=λlc k=>T.at dY.2.2.1 hat lc k;have R:=λlc k=>hb.at dY.2.2.1 hat lc k;have D:=cm (n:=J h) w_;have run:=aDn (Q:=Q) go (s:=s.top) (aD _);simp only[Obj.val,Obj.cells]at run;refine aF ?_;simp only[go_sem,seval,Kd,B,V,A,g2,g3,Y,l3,q,j,hlt,S,R,Obj.val,Obj.cells,G];refine iX.quiet run d_ (by simp[eU,jN,oI]) ?_;simp only[go_sem,seval,A,D];refine ih (h++[o]) _ (cP z) ?_ ?_ ?_<;>simp only[sN,seval,B,V,sA]
def ae0{bv:aa}(q:aq 6 Obj.val av l)(j:aq 6 Obj.val bv l)(N:∀o∈l,o.rf)(G:J l<=1000000)(h:s.gE<=s.aL):ai Q 11 [.agg [av],.agg [bv]] s (.bool O) s:=by
 have D:=q.cs;have A:=j.cs;have B:=q.lenS dY;have z:=j.lenS dY;refine ai.ofNZ asH (aM ?_);simp only[go_sem,seval,Kb,D,A,B,z,ve];refine aDk q j N G h ?_ ?_ ?_ ?_ (λe=>?_) l [] _ rfl ?_ ?_ ?_
 case refine_5=>simp only[go_sem,seval]
 all_goals first|(simp only[sG,seval,bn];done)|(simp only[sG,seval,bn];rfl)|rfl
def aHZ:dD ae 4=X (.bool I):=k_
def vu(K:GE)(p:VE):Bool:=(bX (ou p) K).isNone
def aFD(c0:Q.spec 44=X qi){C:p_}(hc:aq 3 jG cv C)(hk:∀p∈C,AR p.2.2.1)(hl:J C<=800000000){Mo M2:Nat}{G:GE}(hK:∀k,bX k G=Z\/bX k G=X (.bool O)){s0:St}(c5:s0.get [] b11=X (.cells [.map Mo]))(c4:bg mh s0 Mo G)(l1:b11<lo)(l2:Mo<lo)(l3:M2<lo)(n1:b11≠M2)(n2:Mo≠M2){c6 c10:az}(hx:∀e lc s tv,bR 3 lo s tv ((C.filter (vu G)).map jG)->bg mh s M2 (ql C [])->(∀n,n<lo->n≠M2->s.get [] n=s0.get [] n)->lo<=s.aL->s.gE<=s.aL->ac e 13=tv->ac e 14=.map M2->ac e 10=.uV 10 1 0->AQ e uv b5 b3 b4 b11->lc.gen 6=1->lc.get 6 1=X c6->lc.gen 10=1->lc.get 10 1=X c10->K (.exit 2) ⟨e,74,lc⟩ s):
 ∀(rest j:p_)(L:GE)(e:aw)(lc:Ag.Loc)(s:St)(tv:aa),C=j++rest->ql rest L=ql C []->bR 3 lo s tv ((j.filter (vu G)).map jG)->bg mh s M2 L->(∀n,n<lo->n≠M2->s.get [] n=s0.get [] n)->lo<=s.aL->s.gE<=s.aL->ac e 13=tv->ac e 14=.map M2->ac e 10=.uV 10 1 0->ac e 46=cv->ac e 47=ak (J C)->ac e 48=ak (J j)->AQ e uv b5 b3 b4 b11->lc.gen 6=1->lc.get 6 1=X c6->lc.gen 10=1->lc.get 10 1=X c10->
  W Q 19 (.loop Qq) ⟨e,74,lc⟩ s K:=by
 intro rest;have c7:=hc.cs
 induction rest with
 |nil=>
  intro j L e lc s tv h1 hL hO hM b0 b2 S V D Y T B A F g6 l6 a0 R;have c3:=cz h1;have c2:j=C:=by rw[h1];simp
  rw[c2]at hO;refine aF ?_;simp only[go_sem,seval,Qq,B,A,c3,bJ];exact hx _ _ _ tv hO (by rw[<-hL];exact hM) b0 b2 S (by simp only[sN,seval,V]) (by simp only[sN,seval,D]) (by simp only[sN,seval,Y]) (F.mv (by simp only[sN,seval,and_self])) g6 l6 a0 R
 |cons v rest ih=>
  intro j L e lc s tv h1 hL hO hM b0 b2 S V D Y T B A F g6 l6 a0 R
  let⟨hlt,hat⟩:=cH h1
  let⟨r,hr⟩:=Wz v
  have b8:=λlc k=>hc.at kw.2.2.1 hat lc k;rw[hr]at b8;have b1:=cm (n:=J j) w_;have a9:=λ(s:St) (hm:s.gE<=s.aL)=>abT (s:=s) c0 (p:=v) (hk v (co hat)) hm;rw[hr]at a9;have a8:=lN RS RU hM (ou v) (.bool O);obtain⟨z,hz⟩:=cw (s.put M2 (X (.map (cY mh 0 (dt (ou v) (.bool O) L)) (dt (ou v) (.bool O) L).length)));rw[hz]at a8;have zM:bg mh z M2 (dt (ou v) (.bool O) L):=by rw[<-hz];exact qM
  have zn:z.aL=s.aL:=by rw[<-hz];rfl
  have zw:z.gE<=z.aL:=by rw[<-hz];exact cG _ _ _ S
  have zg:∀n,n≠M2->z.get [] n=s.get [] n:=λn hn=>by rw[<-hz,aN,bN.2 hn];rfl
  have N:∀n,n<lo->n≠M2->z.get [] n=s0.get [] n:=λn h1 h2=>(zg n h2).trans (b0 n h1 h2);have zO:bR 3 lo z tv ((j.filter (vu G)).map jG):=hO.keep (λn hn=>zg n w_) w_;have zb:z.get [] b11=X (.cells [.map Mo]):=(N b11 l1 n1).trans c5;have zo:bg mh z.top Mo G:=(N Mo l2 n2).trans c4;have q:=rM RS RU aHZ zo (ou v);have c1:=hO.gt;have zt:=iL zw;have F4:=F.h4;have b7:=a9 s S;have b6:=a9 z.top (aD _)
  let⟨tv',s1,a1,a2,a3,a4,a5,a6,a7⟩:=Vh (t:=43) kw.1 rfl d_ (s:=z) (y:=.list 3 [jG v] .Al) (x:=jG v) zO (by simp only[ce,cR]) (by
   rw[bj]
   have:=List.length_filter_le (vu G) j;have:J j<=J C:=w_
   omega) w_ zw
  rw[hr]at a1;simp only[mh]at a8 q b7 b6;refine aF ?_;simp only[go_sem,seval,Qq,D,T,B,A,hlt,b8];refine aV.of b7 d_ ?_;simp only[go_sem,seval,a8,F4,zb,zw];refine iX.quiet b6 d_ (by simp[eU,jN,oI]) ?_;rcases hK (ou v)with h|h
  ·rw[h]at q
   simp only[Option.getD_none]at q;have hn:vu G v=O:=by unfold vu;rw[h];rfl
   have a2:bR 3 lo s1 tv' (((j++[v]).filter (vu G)).map jG):=by rw[uX hn,db];exact a2
   simp only[go_sem,seval,q,V,A,c1,a1,b1,sB];refine ih (j++[v]) _ _ _ s1 tv' (by rw[h1];simp) hL a2 ?_ (λn q1 q2=>(a7 n q1).trans (N n q1 q2)) w_ a5 ?_ ?_ ?_ ?_ ?_ ?_ (F.mv ?_) ?_ ?_ ?_ ?_;exact(a7 M2 l3).trans zM
   all_goals simp only[jW,sL,seval,D,Y,T,B,g6,l6,a0,R,and_self]
  ·rw[h]at q
   simp only[Option.getD_some]at q;have hn:vu G v=I:=by unfold vu;rw[h];rfl
   simp only[go_sem,seval,q,A,b1];refine ih (j++[v]) _ _ _ z tv (cP h1) hL (by rw[o6 hn];exact zO) zM N w_ zw ?_ ?_ ?_ ?_ ?_ ?_ (F.mv ?_) ?_ ?_ ?_ ?_
   all_goals simp only[jW,sL,seval,V,D,Y,T,B,g6,l6,a0,R,and_self]
structure oO (s:St) (b5 b3 b4 b11:Nat) (ev mv:aa) (w:az) (M:Nat) (l:ba) (K:GE):Prop where
 h5:s.get [] b5=some (.cells [ev])
 h3:s.get [] b3=some (.cells [mv])
 h4:s.get [] b4=some (.cells w)
 h11:s.get [] b11=some (.cells [.map M])
 mp:bg mh s M K
 isL:aq 6 Obj.val mv l
 lt:b5<s.aL/\b3<s.aL/\b4<s.aL/\b11<s.aL/\M<s.aL
 mw:s.gE<=s.aL
variable{K:GE}{w:az}{M:Nat}{s':St}
def oO.up{ev mv:aa}(h:oO s b5 b3 b4 b11 ev mv w M l K)(u:Up s s'):oO s' b5 b3 b4 b11 ev mv w M l K:=by
 let⟨a,b,c,d,e⟩:=h.lt
 have:=u.nx;exact⟨(u.old _ a).trans h.h5,(u.old _ b).trans h.h3,(u.old _ c).trans h.h4,(u.old _ d).trans h.h11,(u.old _ e).trans h.mp,h.isL,w_,u.mw⟩
def CB(wa wb wc wd wv wr:aa)(C:ba->p_)(l:ba):Prop:=
 (C l).length<=800000000/\(∀p∈C l,AR p.2.2.1)/\∀mv,aq 6 Obj.val mv l->∃cv,oW [.agg [mv],.agg [wa,wb,wc,wd,wv,wr]]=X cv/\aq 3 jG cv (C l)
def t9:aa->pb
 |.list _ _ (.own k)=>X k
 |_=>Z
def AO(a b:aa):Prop:=∀k,t9 a=X k->t9 b≠X k
def AO.symm{a b:aa}(h:AO a b):AO b a:=λk q j=>h k j q
def bR.tok(h:bR sz lo s ov xs){k:Nat}(q:t9 ov=X k):lo<=k/\k<s.aL/\s.get [] k=X .tok:=by
 rcases h with⟨rfl,_⟩|⟨_,j,rfl,B,A,z⟩
 cases q;have:j=k:=sI q;subst this;exact⟨A,z,B⟩
def bR.keepT(h:bR sz lo s ov xs)(j:∀k,t9 ov=X k->s'.get [] k=s.get [] k)(B:s.aL<=s'.aL):bR sz lo s' ov xs:=by
 rcases h with h|⟨A,k,rfl,z,q,D⟩
 exact .inl h;exact .inr ⟨A,k,rfl,(j k rfl).trans z,q,w_⟩
def N4(T:jk ae t=X E)(V:E.n=sz)(S:E.b<=1000){x:aa}(h:bR sz lo s ov xs)(G:cR [] E.g E.n y s=X [x])(R:J xs<=1000000)(z:lo<=s.aL)(N:s.gE<=s.aL):
 ∃j s',cL ae [] t ov y I s=X (j,s')/\bR sz lo s' j (xs++[x])/\t9 j=X s.aL/\(j.gt=O/\j.cells=[j])/\s'.aL=s.aL+1/\s'.gE<=s'.aL/\(∀n,n<s.aL->t9 ov≠X n->s'.get [] n=s.get [] n):=by
 subst V;rcases h with⟨rfl,rfl⟩|⟨q,k,rfl,Y,h5,h6⟩
 have A:eE [x].length E.b=O:=Mu (by simp) S;refine⟨.list E.n [x] (.own s.aL),s.new .tok,?_,.inr ⟨by simp,s.aL,rfl,by rw[eA,bS];rfl,z,gN _⟩,rfl,R_,rfl,cr N,λn B _=>?_⟩;simp only[fq,cL,T,G,fk,iq,A,cF];rw[eA,bN.2 w_];rfl;have A:eE (J xs+ [x].length) E.b=O:=Mu (by simp;omega) S;refine⟨.list E.n (xs++[x]) (.own s.aL),(s.put k Z).new .tok,?_,.inr ⟨by simp,s.aL,rfl,by rw[eA,kr,bS];rfl,z,gN _⟩,rfl,R_,rfl,cr (cG s k Z N),λn B D=>?_⟩;simp only[ce,cL,T,aH,G,fk,Y,A,cj];have q:n≠k:=λe=>D (by rw[e];rfl);rw[eA,kr,bN.2 w_,cF,aN,bN.2 q];rfl
def O6:gS->gS->Bool
 |.Al,.Al=>O
 |.no,.no=>O
 |_,_=>I
def zr(g:aa->aa->Bool):az->az->Bool
 |[],[]=>O
 |a::x,b::y=>g a b&&zr g x y
 |_,_=>I
def Bf:Nat->aa->aa->Bool
 |_+1,.int k a,.int k' b=>k==k'&&aj a b
 |_+1,.str a,.str b=>a==b
 |k+1,.agg a,.agg b=>zr (Bf k) a b
 |_+1,.uP,.uP=>O
 |k+1,.list n a r,.list m b r'=>aB n m&&O6 r r'&&zr (Bf k) a b
 |_,_,_=>I
def alV{r j:gS}(h:O6 r j=O):r=j:=by
 unfold O6 at h;split at h<;>first|rfl|cases h
def JB{g:aa->aa->Bool}(j:∀a b,g a b=O->a=b):∀{x y:az},zr g x y=O->x=y
 |[],[],_=>rfl
 |[],_::_,h=>by cases h
 |_::_,[],h=>by cases h
 |a::x,b::y,h=>by
  simp only[zr,bh]at h;rw[j a b h.1,JB j h.2]
def WK:∀(k:Nat){a b:aa},Bf k a b=O->a=b
 |0,a,b,h=>by cases a<;>cases b<;>cases h
 |k+1,a,b,h=>by
  have j:=λa b=>WK k (a:=a) (b:=b);cases a<;>cases b<;>simp only[Bf,EX]at h;simp only[bh]at h;rw[eq_of_beq h.1,eq_of_beq h.2];rw[eq_of_beq h];rw[JB j h];rfl;simp only[bh]at h;rw[fL h.1.1,alV h.1.2,JB j h.2]
def zC(op:Int)(id key value:ag)(o:Obj):aA:= {op:=op,id:=id,other:=[],node:=[],x:=0,y:=0,key:=key,value:=value,refsV:=.uP,gT:=[],obj:=o }
def PA(id:ag)(x y:Int):Obj:=⟨id,1,x,y,.uP,.uP,[],[]⟩
def PB(r:gS):Obj:=⟨[119,50],2,0,0,.list 1 [.str [110,51],.str [110,52]] r,.uP,[[110,51],[110,52]],[]⟩
def F8:vy:=[zC 1 [] [] [] (PA [110,51] 0 4),zC 1 [] [] [] (PA [110,52] 4 0),zC 1 [] [] [] (PB .Al),zC 1 [] [] [] (PB .no),zC 3 [110,49] [110,97,109,101] [69,108,109] tK,zC 5 [119,49] [] [] tK,zC 2 [110,57] [] [] tK]
def F9{op:Int}{id key value:ag}(h1:J id<small)(z:J key<small)(q:J value<small)(j:o.rf):(zC op id key value o).rf:=
 ⟨.inl R_,rfl,j,h1,show 0<small from d_,show 0<small from d_,z,q,fN _,λ_ h=>by cases h⟩
def XJ{id:ag}{x y:Int}(h:J id<small):(PA id x y).rf:=⟨⟨.inl R_,.inl R_,h,show 0<small from d_,(λ_ h=>by cases h),show 0<small from d_,λ_ h=>by cases h⟩,rfl,rfl⟩
def XK{r:gS}(h:br (.list 1 [.str [110,51],.str [110,52]] r)=O):(PB r).rf:=⟨⟨.inr ⟨r,rfl⟩,.inl R_,show 2<small from d_,show 2<small from d_,(λs j=>by
 rcases dG.1 j with rfl|j
 decide;rw[kg.1 j];decide),show 0<small from d_,λ_ h=>by cases h⟩,h,rfl⟩
def apf{e:aA}(h:e∈F8):e.rf/\J e.ids<1000000:=by
 simp only[F8,dG,pF,or_false]at h;rcases h with rfl|rfl|rfl|rfl|rfl|rfl|rfl
 exact⟨F9 d_ d_ d_ (XJ d_),d_⟩;exact⟨F9 d_ d_ d_ (XJ d_),d_⟩;exact⟨F9 d_ d_ d_ (XK rfl),d_⟩;exact⟨F9 d_ d_ d_ (XK rfl),d_⟩
 all_goals exact⟨F9 d_ d_ d_ BF,d_⟩
set_option maxRecDepth 100000 in
def apc(ch:cE){e:aA}(h:e∈F8):ai (QW A1 Fq ch) 47 [e.val] s0 (.bool O) s0:=by
 refine⟨200,?_⟩;simp only[F8,dG,pF,or_false]at h;rcases h with rfl|rfl|rfl|rfl|rfl|rfl|rfl<;>kernel_rfl
def ac4:Sp:=λh=>bif dW h then(F8.find? λe=>zr (Bf 9) (di h) [e.val]).bind λe=>X (dS 1 ((BE e).map ax))else Z
def ayx:da ae 25 ac4:=by
 intro args u j G h w xs wr A
 let⟨ht,j⟩:=bf j
 rw[an]at j
 let⟨e,he,j⟩:=j
 cases j;have D:zr (Bf 9) (di args) [e.val]=O:=List.find?_some (p:=λe:aA=>zr (Bf 9) (di args) [e.val]) he;have B:=JB (λa b=>WK 9) D;have q:=List.mem_of_find?_eq_some he
 let⟨ge,hi⟩:=apf q
 refine jd IX U0 (args:=args) ht (λz=>?_) G h w xs wr A;rw[B]
 let⟨v,s',hr,hN⟩:=acS (Q:=QW A1 Fq z) (λ_=>aD _) R_ rfl rfl R_ ge hi (aD _) (apc z q)
 exact⟨v,s',hr,Xq hN.row⟩
def hd23Sp:Sp
 |[]=>X (.bool O)
 |_=>Z
noncomputable def NQ:de:=[(52,BV),(53,C9),(36,gV),(151,Bh),(57,qw),(65,kQ),(163,C0),(164,C5),(93,Et),(86,vq),(44,qi)]
def UE:eh NQ:=.cons aBm (.cons alv (.cons xC (.cons anp (.cons LL (.cons OS (.cons aki (.cons akX (.cons aDC (.cons acT (.cons YL .nil))))))))))
noncomputable def UB:de:=(20,Oy)::(25,ac4)::NQ
def agJ:eh UB:=.cons (aj0▸VY) (.cons ayx UE)
def ape:JD UB 400 4 []=X (.bool O,0):=k_
def apd:da ae 4 hd23Sp:=by
 intro q u j G h w xs wr z;unfold hd23Sp at j;split at j;cases j;exact MV agJ ape (args':=[]) rfl rfl G h w xs wr z;cases j
noncomputable def NP:de:=(47,Ih)::NQ
def agL:eh NP:=.cons (Ji _ _) UE
def aFl:IV (Q1 NP):=⟨⟨⟨rfl,rfl,rfl,rfl,rfl⟩,rfl⟩,rfl,rfl,rfl,rfl,R_⟩
variable{v:aa}
def anU(h:aC aI)(A:aq 6 Obj.val v l)(B:∀o∈l,o.rf):∃j,bW h 5 v=X j/\aq 6 Obj.val j l:=by
 rcases A with⟨rfl,rfl⟩|⟨r,rfl⟩
 exact⟨.uP,rfl,.inl R_⟩;refine⟨.list 6 (l.map Obj.val) (match r with|.own _=>.no|r=>r),?_,.inr ⟨_,rfl⟩⟩;have:cK (bW h 4) (l.map Obj.val)=X (l.map Obj.val):=o8 λu q=>by
  obtain⟨o,z,rfl⟩:=cC.1 q;exact Pr h (B o z) 0
 show(cK (bW h 4) (l.map Obj.val)).bind _=_;rw[this];rfl
def Ny(l:ba)(es:vy)(mv:aa)(h:Int):Prop:=
 (h≠0/\(ni l->bw l=O->lW l es=Z))\/(h=0/\∃j,aq 6 Obj.val mv j/\nV (J es) l j/\lW l es=X j/\ni l/\bw l=O)
def aA.inj{a b:aA}(A:a.rf)(z:b.rf)(h:a.val=b.val):a=b:=by
 have D:=oo nY A.gT;have q:=oo nY z.gT;have j:=Fv A.obj;have B:=Fv z.obj;obtain⟨_,_,_,_,_,_,_,_,_,_,o⟩:=a;obtain⟨_,_,_,_,_,_,_,_,_,_,G⟩:=b;injection h with h
 simp only[aA.cells,lP,aa.int.injEq,aa.str.injEq,tA,aT]at h;obtain⟨rfl,rfl,rfl,rfl,rfl,rfl,rfl,rfl,rfl,e1,Y,V,T,S,R⟩:=h;have N:o.val=G.val:=by simp only[Obj.val,Obj.cells,e1,Y,V,T,S,R]
 simp only at D q j B;rw[D]at q;rw[N,B]at j;cases q;cases j;rfl
def Ww:∀{a b:vy},(∀e∈a,e.rf)->(∀e∈b,e.rf)->a.map aA.val=b.map aA.val->a=b
 |[],[],_,_,_=>rfl
 |[],_::_,_,_,h=>by cases h
 |_::_,[],_,_,h=>by cases h
 |x::a,y::b,ha,hb,h=>by
  injection h with q j
  rw[aA.inj (ha x gG) (hb y gG) q,Ww (λe h=>ha e (iE _ h)) (λe h=>hb e (iE _ h)) j]
noncomputable def Ur(args:az)(v:aa):Prop:=∀ov l ev es,args=[.agg [ov],ev]->aq 6 Obj.val ov l->(∀o∈l,o.rf)->J l<=800->aq 15 aA.val ev es->(∀e∈es,e.rf)->∃mv i h,v=.tup [.agg [mv],ah i,ah h]/\(mv.gt=O/\mv.cells=[mv])/\Ny l es mv h
noncomputable def Bd:Sp:=A7 12 Ur
def Wu(ho:aq 6 Obj.val ov l)(T:∀o∈l,o.rf)(hl:J l<=800)(a1:dB l<=700){ev:aa}{es:vy}(he:aq 15 aA.val ev es)(hf:∀e∈es,nS e)(a4:J es<=10):
 ∃mv i q,Bd [.agg [ov],ev]=X (.tup [.agg [mv],ah i,ah q])/\(mv.gt=O/\mv.cells=[mv])/\Ny l es mv q:=by
 have a7:=aae;have A:=λe h=>(hf e h).toGood
 let⟨ht,v',hw,hl'⟩:=pg ho T
 let⟨t4,he'⟩:=OX he λe h=>JA (A e h)
 obtain⟨v,s',D,_,mv,i,q,rfl,G⟩:=ahD (Q:=Q1 NP) aFl hl' T hl a1 he' hf a4 (s:=s0) (aD _);have B:dW [.agg [ov],ev]=O:=by show(Ag.d8 (.agg [ov])&&(Ag.d8 ev&&O))=O;rw[ht,t4];rfl
 have a0:di [.agg [ov],ev]=[.agg [v'],dh ev]:=by simp only[di,hw]
 obtain⟨j,Y,hc,hr⟩:∃j,bW s'.heap 5 mv=X j/\(j.gt=O/\j.cells=[j])/\Ny l es j q:=by
  rcases G with⟨a2,rfl,h⟩|⟨rfl,l2,a3,N,h⟩
  exact⟨.uP,rfl,R_,.inl ⟨a2,h⟩⟩;obtain⟨j,Y,z⟩:=anU s'.heap a3 N.good;exact⟨j,Y,z.cs,.inr ⟨rfl,l2,z,N,h⟩⟩
 obtain⟨u,h1,h2⟩:=Jh (f:=12) (P:=Ur) (TP agL B (a0▸D) ⟨7,by
  show(cK (bW s'.heap 6) [.agg [mv],ah i,ah q]).bind _=_;have:bW s'.heap 6 (.agg [mv])=X (.agg [j]):=by
   show(cK (bW s'.heap 5) [mv]).bind _=_;simp only[cK,Y,aH]
  simp only[cK,this,aH];rfl⟩) (λa6 l' a8 a5 e a b c d f=>by
  injection e with S e2
  injection S with S
  injection S with S
  injection e2 with e2
  subst S;subst e2;have e3:=(sS ho T w_).symm.trans (sS a b w_);cases e3;have e4:es=a5:=by
   refine Ww A f ?_;rcases he with⟨rfl,rfl⟩|⟨r,rfl⟩
   rcases d with⟨_,rfl⟩|⟨_,h⟩
   rfl;cases h;rcases d with⟨h,_⟩|⟨_,h⟩
   cases h;injection h
  subst e4;exact⟨_,_,_,rfl,hc,hr⟩)
 obtain⟨V,i2,R,rfl,k1,k2⟩:=h2 ov l ev es rfl ho T hl he A;exact⟨V,i2,R,h1,k1,k2⟩
def KT(K:GE):Prop:=∀k,bX k K=Z\/bX k K=X (.bool O)
def ab2(C:p_):KT (ql C []):=λk=>by
 rw[acu];by_cases h:k∈C.map ou;rw[iP h];exact .inr rfl;rw[iN h];exact .inl rfl
variable{C:ba->p_}
def aFE(b0:Q.spec 12=X Bd)(a9:Q.spec 44=X qi)(d4:Q.spec 20=X oW){ev mv:aa}{le:vy}(hu:aq 1 (λi:Nat=>ak i) uv us)(c9:aq 15 aA.val ev le)(hi:∀x∈us,x<J le)(hf:∀e∈le,nS e)(e8:J us<=10)(c8:J le<=1000000)(Y:oO s b5 b3 b4 b11 ev mv [wa,wb,wc,wd,wv,wr] M l K)(ne:b3≠b5/\b3≠b4/\b3≠b11/\b11≠b5/\b11≠b4)(hg:∀o∈l,o.rf)(hl:J l<=800)(c4:dB l<=700)(hK:KT K)(hC:∀D,nV (J us) l D->CB wa wb wc wd wv wr C D):
 ∃v s',ai Q 19 [uv,.ptr b5 0,.ptr b3 0,.ptr b4 0,.ptr b11 0] s v s'/\∃x y G,v=.agg [x,ah G,y]/\(x.gt=O/\x.cells=[x]/\y.gt=O/\y.cells=[y])/\s.aL<=s'.aL/\s'.gE<=s'.aL/\(∀n,n<s.aL->n≠b3->n≠b11->s'.get [] n=s.get [] n)/\
  ((G≠0/\x=uv/\oO s' b5 b3 b4 b11 ev mv [wa,wb,wc,wd,wv,wr] M l K)\/(G=0/\∃j M2 D K2,oO s' b5 b3 b4 b11 ev j [wa,wb,wc,wd,wv,wr] M2 D K2/\KT K2/\nV (J us) l D/\lW l (iu le us)=X D/\ni l/\bw l=O)):=by
 have q:=hu.cs;have b7:=hu.lenS ff;have h5:=Y.h5;have h3:=Y.h3;have h4:=Y.h4;have e6:=Y.isL.cs;have c5:=Y.mw
 let⟨t5,t3,t4,t11,tM⟩:=Y.lt
 let⟨n1,n2,n3,n4,n5⟩:=ne
 refine ai.ofNRZ atH (aM ?_);simp only[go_sem,seval,Gx,q,b7];refine aFC hu c9 hi (λe h=>(hf e h).toGood) w_ c8 (b3:=b3) (b4:=b4) (b11:=b11) h5 t5 (λe A tv hO d0 c7 a4 e7 F=>?_) us [] _ s .uP rfl (.inl R_) (λ_ _=>rfl) (aD _) c5 ?_ ?_ ?_ ?_ ⟨?_,?_,?_,?_,?_,?_⟩
 ·have V:Up s A:=⟨d0,c7,a4⟩
  have S1:=Y.up V;have b2:=S1.h3;have f0:=F.h0;have f2:=F.h2;have f3:=F.h3;have f4:=F.h4;have f6:=F.h6;have a0:=hO.isL.cs;have e2:=Ef le us;obtain⟨j,i,G,a8,e3,a2⟩:=Wu Y.isL hg hl c4 hO.isL (λe h=>hf e (ad7 h)) w_;rcases a2 with⟨a3,_⟩|⟨rfl,D,a5,N,hM,d1⟩
  have he:aj G 0=I:=dN a3;simp only[go_sem,seval,f2,f6,e7,b2,a0,b0,a8,f0,he,q,ey,evc];exact⟨_,rfl,_,_,G,rfl,⟨q.1,q.2,rfl,rfl⟩,V.nx,V.mw,λn h _ _=>V.old n h,.inl ⟨a3,rfl,S1⟩⟩
  ·have N':nV (J us) l D:=⟨N.good,N.valid,N.clo,by have:=N.len;omega,by have:=N.gT;omega⟩
   let⟨c1,c2,c3⟩:=hC D N'
   let⟨cv,hck,hcv⟩:=c3 j a5
   have e1:=hcv.cs;have e0:=hcv.lenS kw;obtain⟨z,hz⟩:=cw (A.new (.map [] 0));have uz:Up A z:=⟨λk hk=>by rw[<-hz];exact cV hk,by rw[<-hz];exact io _,by rw[<-hz];exact cr V.mw⟩;have zn:z.aL=A.aL+1:=by rw[<-hz];rfl
   have zM:bg mh z A.aL []:=by show z.get [] A.aL=_;rw[<-hz];exact cu
   have S3:=S1.up uz;have z4:=S3.h4
   let⟨x5,x3,x4,x11,xM⟩:=S1.lt
   have d7:aj 0 0=O:=rfl;have nx:=V.nx;simp only[go_sem,seval,f2,e7,b2,a0,b0,a8,f3,d7,jq,hz,z4,d4,hck,e1,e0];refine aFD a9 hcv c2 c1 (lo:=A.aL+1) (M2:=A.aL) hK (s0:=z) S3.h11 S3.mp w_ w_ w_ w_ w_ (uv:=uv) (b5:=b5) (b3:=b3) (b4:=b4) (c6:=[.uP,ah 0,.uP]) (c10:=[j]) (λe lc s3 e5 a7 d2 a6 e4 R b1 d5 d6 F2 g6 l6 e9 c0=>?_) (C D) [] [] _ _ z .uP rfl rfl (.inl R_) zM (λ_ _ _=>rfl) w_ uz.mw ?_ ?_ ?_ ?_ ?_ ?_ ⟨?_,?_,?_,?_,?_,?_⟩ ?_ ?_ ?_ ?_;have k0:=F2.h0;have k2:=F2.h2;have k4:=F2.h4;have k6:=F2.h6;have T:=a7.isL.cs;have S:=a7.isL.lenS kw;have g:∀n,n<A.aL->s3.get [] n=A.get [] n:=λn hn=>(a6 n w_ w_).trans (uz.old n hn);cases hB:(C D).filter (vu K)with
   |nil=>
    rw[hB]at S;have i0:aQ 0 0=I:=rfl;have b8:s3.get [] b3=X (.cells [mv]):=(g b3 x3).trans S1.h3;have a1:(s3.put b3 (X (.cells [j]))).get [] b11=X (.cells [.map M]):=by
     rw[aN,bN.2 (Ne.symm n3)];exact(g b11 x11).trans S1.h11
    simp only[go_sem,seval,b1,d5,d6,k2,k4,k6,l6,c0,T,S,Int.ofNat_zero,i0,dl,du,b8,a1,ey,evc];obtain⟨w,hw⟩:=cw ((s3.put b3 (X (.cells [j]))).put b11 (X (.cells [.map A.aL])));have wg:∀n,n≠b3->n≠b11->w.get [] n=s3.get [] n:=λn h1 h2=>by rw[<-hw,aN,bN.2 h2,cF,aN,bN.2 h1];rfl
    have w3:w.get [] b3=X (.cells [j]):=by rw[<-hw,aN,bN.2 n3,cF,aN,bS];rfl
    have b6:w.get [] b11=X (.cells [.map A.aL]):=by rw[<-hw,aN,bS];rfl
    have wn:w.aL=s3.aL:=by rw[<-hw];rfl
    have ww:w.gE<=s3.aL:=by rw[<-hw];exact cG _ _ _ (cG _ _ _ R)
    rw[hw];refine⟨_,rfl,.uP,.uP,0,rfl,⟨rfl,rfl,rfl,rfl⟩,w_,ww,λn a b c=>(wg n b c).trans ((g n w_).trans (V.old n a)),.inr ⟨rfl,j,A.aL,D,_,⟨?_,w3,?_,b6,?_,a5,?_,by rw[wn];exact ww⟩,ab2 (C D),N',hM,d1⟩⟩;exact(wg b5 (Ne.symm n1) (Ne.symm n4)).trans ((g b5 x5).trans S1.h5);exact(wg b4 (Ne.symm n2) (Ne.symm n5)).trans ((g b4 x4).trans S1.h4);exact(wg A.aL w_ w_).trans d2;omega
   |cons p B=>
    rw[hB,bT]at S;have i1:aQ 0 ((J B+1:Nat):Int)=O:=dQ w_;simp only[go_sem,seval,b1,k0,k6,l6,T,S,i1,q,ey,evc];exact⟨_,rfl,_,_,15,rfl,⟨q.1,q.2,T.1,T.2⟩,w_,R,λn h _ _=>(g n w_).trans (V.old n h),.inl ⟨d_,rfl,S1.up ⟨g,w_,R⟩⟩⟩
   all_goals first|(simp only[sL,seval,f0,F.h1,f2,f3,f4,f6,bn];done)|(simp only[sL,seval,bn];rfl)|rfl
 all_goals first|(simp only[sN,seval,bn];done)|rfl
def oO.app{ev mv:aa}(h:oO s b5 b3 b4 b11 ev mv w M l K)(A:∀k,t9 ov=X k->s.get [] k=X .tok)(B:∀n,n<s.aL->t9 ov≠X n->s'.get [] n=s.get [] n)(R:s.aL<=s'.aL)(z:s'.gE<=s'.aL):oO s' b5 b3 b4 b11 ev mv w M l K:=by
 let⟨a,b,c,d,e⟩:=h.lt
 have j:∀{n:Nat}{o:aI},s.get [] n=X o->n<s.aL->o≠.tok->s'.get [] n=X o:=λ{n o} q N G=>(B n N λe=>G (by rw[A n e]at q;exact(sI q).symm)).trans q;have D:s.get [] M=_:=h.mp;exact⟨j h.h5 a (λe=>by cases e),j h.h3 b (λe=>by cases e),j h.h4 c (λe=>by cases e),j h.h11 d (λe=>by cases e),j D e (λe=>by cases e),h.isL,w_,z⟩
structure Ls (lo:Nat) (s:St) (tv cv kv:aa) (rs cs ks:az):Prop where
 tO:bR 1 lo s tv rs
 cO:bR 3 lo s cv cs
 kO:bR 1 lo s kv ks
 d1:AO tv cv
 d2:AO tv kv
 d3:AO cv kv
variable{kv:aa}
def Ls.keep{rs cs ks:az}(h:Ls lo s tv cv kv rs cs ks)(z:∀n,lo<=n->n<s.aL->s'.get [] n=s.get [] n)(q:s.aL<=s'.aL):Ls lo s' tv cv kv rs cs ks:=
 ⟨h.tO.keepT (λk j=>by have:=h.tO.tok j;exact z k this.1 this.2.1) q,h.cO.keepT (λk j=>by have:=h.cO.tok j;exact z k this.1 this.2.1) q,h.kO.keepT (λk j=>by have:=h.kO.tok j;exact z k this.1 this.2.1) q,h.d1,h.d2,h.d3⟩
def FK{a b:aa}(q:t9 a=X n)(j:∀k,t9 b=X k->k<n):AO a b:=λk h z=>by
 rw[q]at h
 have:=j k z
 have:=sI h;omega
def te(c:be×Int×aa):aa:=.agg [ek c.1,ah c.2.1,c.2.2]
abbrev P_:=List (be×Int×aa)
def yI(cs:P_)(rs:H_):Prop:=cs.map Prod.fst=rs/\∀c∈cs,c.2.2.gt=O/\c.2.2.cells=[c.2.2]
variable{rs:H_}
def yI.app{cs:P_}(h:yI cs rs){q:Int}(h1:y.gt=O)(z:y.cells=[y]):yI (cs++[(u,q,y)]) (rs++[u]):=
 ⟨by rw[db,h.1];rfl,λc j=>by
  rcases fA.1 j with j|j
  exact h.2 c j;rw[kg.1 j];exact⟨h1,z⟩⟩
def Nb(a b:H_):tot (a++b)=tot a+tot b:=by simp[tot]
def aFB{a b:H_}(h:a.Perm b):tot a=tot b:=by
 induction h with
 |nil=>rfl
 |cons x _ j=>
  simp only[tot,cU,qK]at j⊢;omega
 |swap x y l=>
  simp only[tot,cU,qK];omega
 |trans _ _ z q=>exact z.trans q
structure nk (le:vy) (l0:ba) (U ks rs rest:H_) (l:ba):Prop where
 perm:(ks++(rs++rest)).Perm U
 sub:(rs++rest).Sublist U
 tk:lW l0 (ks.flatMap (iu le))=some l
 cl:ks≠[]->ni l0/\bw l0=true
 good:∀o∈l,o.rf
 len:l.length<=l0.length+2*tot ks
 gT:dB l<=dB l0+20*tot ks
variable{ks rest:H_}{l0:ba}
def nk.sum{le:vy}(h:nk le l0 U ks rs rest l):tot ks+(tot rs+tot rest)=tot U:=by
 rw[<-Nb,<-Nb];exact aFB h.perm
def nk.lens{le:vy}(h:nk le l0 U ks rs rest l):J ks+(J rs+J rest)=J U:=by
 have:=h.perm.length_eq;rwa [bK,bK]at this
def nk.left{le:vy}(h:nk le l0 U ks rs (u::rest) l):nk le l0 U ks (rs++[u]) rest l:=
 ⟨by rw[mJ rs];exact h.perm,by rw[mJ rs];exact h.sub,h.tk,h.cl,h.good,h.len,h.gT⟩
def nk.take{le:vy}{l2:ba}(h:nk le l0 U ks rs (u::rest) l)(q:lW l (iu le u)=X l2)(j:ni l/\bw l=O)(N:nV (J u) l l2):nk le l0 U (ks++[u]) rs rest l2 where
 perm:=by
  rw[mJ ks];show(ks++(u::(rs++rest))).Perm U;exact(List.Perm.append_left ks List.perm_middle.symm).trans h.perm
 sub:=(List.Sublist.append (List.Sublist.refl rs) (List.sublist_cons_self u rest)).trans h.sub
 tk:=by
  rw[It,ur,List.flatMap_nil,iw,U9 _ h.tk];exact q
 cl _:=by
  rcases ks with _|⟨a,ks⟩
  have:=h.tk;cases this;exact j;exact h.cl λe=>by cases e
 good:=N.good
 len:=by
  have h1:=h.len;have h2:=N.len;rw[Nb];simp only[tot,cU,oJ,qK,List.sum_nil]at h1⊢;omega
 gT:=by
  have h1:=h.gT;have h2:=N.gT;rw[Nb];simp only[tot,cU,oJ,qK,List.sum_nil]at h1⊢;omega
structure AP (e:aw) (b5 b3 b4 b11:Nat):Prop where
 h3:ac e 3=.ptr b3 0
 h6:ac e 6=.uV 6 1 0
 h12:ac e 12=.func (.func 19) [] [.ptr b5 0,.ptr b3 0,.ptr b4 0,.ptr b11 0]
def AP.mv(h:AP e b5 b3 b4 b11)(g:ac e' 3=ac e 3/\ac e' 6=ac e 6/\ac e' 12=ac e 12):AP e' b5 b3 b4 b11:=
 ⟨g.1.trans h.h3,g.2.1.trans h.h6,g.2.2.trans h.h12⟩
variable{K:gk}{us:H_}
def aEp(e0:Q.spec 12=X Bd)(c0:Q.spec 44=X qi)(d7:Q.spec 20=X oW){ev:aa}{le:vy}(d0:aq 15 aA.val ev le)(hf:∀e∈le,nS e)(c9:J le<=1000000)(hT:tot U<=10)(f4:J U<=10)(hl:J l0<=780)(f2:dB l0<=500)(hC:∀l2,nV 10 l0 l2->CB wa wb wc wd wv wr C l2)(ne:b3≠b5/\b3≠b4/\b3≠b11/\b11≠b5/\b11≠b4)(f7:b3<lo)(e5:b11<lo)(f0:J us<=10)(hi:∀u∈us,∀x∈u,x<J le){lv:aa}(hL:aq 1 ek lv us){k0:Nat}(hx:∀e lc s M mv l tv cv kv Y rs cs ks,oO s b5 b3 b4 b11 ev mv [wa,wb,wc,wd,wv,wr] M l Y->KT Y->nk le l0 U ks rs [] l->k0<=J ks->Ls lo s tv cv kv (rs.map ek) (cs.map te) (ks.map ek)->yI cs rs->lo<=s.aL->ac e 9=kv->ac e 10=cv->ac e 14=tv->ac e 13=lv->AP e b5 b3 b4 b11->lc.gen 6=1->lc.get 6 1=X [.uP]->K (.exit 2) ⟨e,58,lc⟩ s):
 ∀(rest j:H_)(e:aw)(lc:Ag.Loc)(s:St)(M:Nat)(mv:aa)(l:ba)(tv cv kv:aa)(Y:GE)(rs:H_)(cs:P_)(ks:H_),us=j++rest->oO s b5 b3 b4 b11 ev mv [wa,wb,wc,wd,wv,wr] M l Y->KT Y->nk le l0 U ks rs rest l->k0<=J ks->Ls lo s tv cv kv (rs.map ek) (cs.map te) (ks.map ek)->yI cs rs->lo<=s.aL->
  ac e 9=kv->ac e 10=cv->ac e 14=tv->ac e 13=lv->ac e 24=lv->ac e 25=ak (J us)->ac e 26=ak (J j)->AP e b5 b3 b4 b11->lc.gen 6=1->lc.get 6 1=X [.uP]->W Q 6 (.loop GU) ⟨e,58,lc⟩ s K:=by
 intro rest;have e8:=hL.cs
 induction rest with
 |nil=>
  intro j e lc s M mv l tv cv kv Y rs cs ks h1 hS hK G a0 a8 A b7 e9 T R S D z q F g6 l6;have d4:=cz h1;refine aF ?_;simp only[go_sem,seval,GU,z,q,d4,bJ];exact hx _ _ s M mv l tv cv kv Y rs cs ks hS hK G a0 a8 A b7 (by simp only[sN,seval,e9]) (by simp only[sN,seval,T]) (by simp only[sN,seval,R]) (by simp only[sN,seval,S]) (F.mv (by simp only[sN,seval,and_self])) g6 l6
 |cons u rest ih=>
  intro j e lc s M mv l tv cv kv Y rs cs ks h1 hS hK G a0 a8 A b7 e9 T R S D z q F g6 l6
  let⟨hlt,hat⟩:=cH h1
  have c7:=co hat;have b8:=λlc k=>hL.at oG.2.2.1 hat lc k;have hc:aq 1 (λi:Nat=>ak i) (ek u) u:=.inr ⟨.no,rfl⟩;have V:=hc.cs;have h2:=G.sum;have h3:=G.lens;have e4:tot (u::rest)=J u+tot rest:=by simp[tot]
  have f1:(u::rest).length=J rest+1:=rfl;have f3:J cs=J rs:=by rw[<-A.1,bj]
  have f6:=G.len;have f5:=G.gT;have b2:=cm (n:=J j) w_;obtain⟨rv,s1,run,x,y,B,rfl,⟨e7,e6,c3,c2⟩,nx,b1,e1,b6⟩:=aFE e0 c0 d7 hc d0 (hi u c7) hf w_ c9 hS ne G.good w_ w_ hK (C:=C) (λl2 N=>hC l2 ⟨N.good,N.valid,N.clo,by have:=N.len;omega,by have:=N.gT;omega⟩);have L1:Ls lo s1 tv cv kv (rs.map ek) (cs.map te) (ks.map ek):=a8.keep (λn h1 h2=>e1 n h2 w_ w_) nx;have F3:=F.h3;have F6:=F.h6;have c1:=F.h12;have c4:=L1.tO.gt;have e3:=L1.cO.gt;have c6:=L1.kO.gt;rcases b6 with⟨c8,rfl,S1⟩|⟨rfl,c5,M2,l2,K2,S1,d6,N2,hM,d5⟩
  ·have he:aj B 0=I:=dN c8
   let⟨cv',s2,a1,a2,a3,a4,a5,a6,a7⟩:=N4 (t:=34) EA.1 rfl d_ (s:=s1) (y:=.list 3 [.agg [ek u,ah B,y]] .Al) (x:=.agg [ek u,ah B,y]) L1.cO (by simp only[ce,cR]) (by rw[bj];omega) w_ b1
   have a9:∀k,t9 tv=X k->k<s1.aL/\s2.get [] k=s1.get [] k:=λk h=>⟨(L1.tO.tok h).2.1,a7 k (L1.tO.tok h).2.1 (λe=>L1.d1 k h e)⟩;have b0:=L1.tO.keepT (λk h=>(a9 k h).2) (by omega:s1.aL<=s2.aL)
   let⟨tv',s3,p1,p2,p3,p4,p5,p6,p7⟩:=N4 (t:=33) oG.1 rfl d_ (s:=s2) (y:=.list 1 [ek u] .Al) (x:=ek u) b0 (by simp only[ce,cR]) (by rw[bj];omega) w_ a6
   have S3:=(S1.app (λk h=>(L1.cO.tok h).2.2) a7 w_ a6).app (λk h=>(b0.tok h).2.2) p7 w_ p6;have L3:Ls lo s3 tv' cv' kv ((rs++[u]).map ek) ((cs++[(u,B,y)]).map te) (ks.map ek):=by
    rw[db,db];refine⟨p2,a2.keepT (λk h=>?_) w_,L1.kO.keepT (λk h=>?_) w_,FK p3 λk h=>?_,FK p3 λk h=>?_,FK a3 λk h=>(L1.kO.tok h).2.1⟩;rw[a3]at h;have h:=sI h;exact p7 k w_ λe=>by have:=(a9 k e).1;omega
    have:=(L1.kO.tok h).2.1;exact(p7 k w_ λe=>L1.d2 k e h).trans (a7 k this λe=>L1.d3 k e h);rw[a3]at h;have h:=sI h;omega
    have:=(L1.kO.tok h).2.1;omega
   refine aF ?_;simp only[go_sem,seval,GU,D,z,q,hlt,b8,c1,V];refine aV.of run d_ ?_;simp only[go_sem,seval,T,R,q,e3,c4,V,he,a1,p1,b2,sB];refine ih (j++[u]) _ _ s3 M mv l tv' cv' kv Y (rs++[u]) (cs++[(u,B,y)]) ks (cP h1) S3 hK G.left a0 L3 (A.app c3 c2) w_ ?_ ?_ ?_ ?_ ?_ ?_ ?_ (F.mv ?_) ?_ ?_
   all_goals simp only[jW,sL,seval,e9,S,D,z,g6,l6,and_self]
  ·have e2:aj 0 0=O:=rfl
   let⟨kv',s2,a1,a2,a3,a4,a5,a6,a7⟩:=N4 (t:=33) oG.1 rfl d_ (s:=s1) (y:=.list 1 [ek u] .Al) (x:=ek u) L1.kO (by simp only[ce,cR]) (by rw[bj];omega) w_ b1
   have S2:=S1.app (λk h=>(L1.kO.tok h).2.2) a7 w_ a6;have L2:Ls lo s2 tv cv kv' (rs.map ek) (cs.map te) ((ks++[u]).map ek):=by
    rw[db];exact⟨L1.tO.keepT (λk h=>a7 k (L1.tO.tok h).2.1 λe=>L1.d2 k h e) w_,L1.cO.keepT (λk h=>a7 k (L1.cO.tok h).2.1 λe=>L1.d3 k h e) w_,a2,L1.d1,(FK a3 λk h=>(L1.tO.tok h).2.1).symm,(FK a3 λk h=>(L1.cO.tok h).2.1).symm⟩
   refine aF ?_;simp only[go_sem,seval,GU,D,z,q,hlt,b8,c1,V];refine aV.of run d_ ?_;simp only[go_sem,seval,e9,q,c6,V,e2,a1,b2,sB];refine ih (j++[u]) _ _ s2 M2 c5 l2 tv cv kv' K2 rs cs (ks++[u]) (cP h1) S2 d6 (G.take hM d5 N2) (by rw[bK];omega) L2 A w_ ?_ ?_ ?_ ?_ ?_ ?_ ?_ (F.mv ?_) ?_ ?_
   all_goals simp only[jW,sL,seval,T,R,S,D,z,g6,l6,and_self]
def aEq(c2:Q.spec 12=X Bd)(a4:Q.spec 44=X qi)(c1:Q.spec 20=X oW){ev:aa}{le:vy}(b6:aq 15 aA.val ev le)(hf:∀e∈le,nS e)(b2:J le<=1000000)(hT:tot U<=10)(b8:J U<=10)(hi:∀u∈U,∀x∈u,x<J le)(hl:J l0<=780)(b0:dB l0<=500)(hC:∀l2,nV 10 l0 l2->CB wa wb wc wd wv wr C l2)(ne:b3≠b5/\b3≠b4/\b3≠b11/\b11≠b5/\b11≠b4)(c4:b3<lo)(a7:b11<lo)(hx:∀e lc s M mv l cv kv B rs cs ks,oO s b5 b3 b4 b11 ev mv [wa,wb,wc,wd,wv,wr] M l B->nk le l0 U ks rs [] l->bR 3 lo s cv (cs.map te)->bR 1 lo s kv (ks.map ek)->yI cs rs->ac e 9=kv->ac e 10=cv->AP e b5 b3 b4 b11->lc.gen 6=1->lc.get 6 1=X [.uP]->K (.exit 0) ⟨e,58,lc⟩ s):
 ∀(d:Nat)(us:H_)(e:aw)(lc:Ag.Loc)(s:St)(M:Nat)(mv:aa)(l:ba)(lv kv:aa)(B:GE)(ks:H_),J us<d->oO s b5 b3 b4 b11 ev mv [wa,wb,wc,wd,wv,wr] M l B->KT B->nk le l0 U ks [] us l->bR 1 lo s kv (ks.map ek)->aq 1 ek lv us->lo<=s.aL->ac e 9=kv->ac e 13=lv->AP e b5 b3 b4 b11->lc.gen 6=1->lc.get 6 1=X [.uP]->
  W Q 6 (.loop RA) ⟨e,58,lc⟩ s K:=by
 intro d
 induction d with
 |zero=>
  intro us e lc s M mv l lv kv B ks hd;omega
 |succ d ih=>
  intro us e lc s M mv l lv kv B ks hd hS hK hR b7 hL b1 e9 a6 F g6 l6;have A:=hL.gt;have z:=hL.lenS oG;have a8:=hR.lens;have a9:∀u∈us,∀x∈u,x<J le:=λu hu=>hi u (hR.sub.subset hu);refine aF ?_;simp only[go_sem,seval,RA,a6,A,z];refine aEp c2 a4 c1 b6 hf b2 hT b8 hl b0 hC ne c4 a7 (us:=us) w_ a9 hL (λe lc s1 M1 R l1 D c3 T K1 rs cs V a3 c0 j c6 q a2 a1 k9 vh Y a0 F1 a5 S=>?_) us [] _ _ s M mv l .uP .uP kv B [] [] ks rfl hS hK hR (aD _) ⟨.inl R_,.inl R_,b7,λk h=>(by cases h),λk h=>(by cases h),λk h=>(by cases h)⟩ ⟨rfl,λc h=>by cases h⟩ b1 ?_ ?_ ?_ ?_ ?_ ?_ ?_ (F.mv ?_) ?_ ?_
  ·have tL:aq 1 ek D rs:=q.tO.isL
   have N:=tL.gt;have G:=tL.lenS oG;cases hq:aj ((J rs:Nat):Int) ((J us:Nat):Int)with
   |true=>
    simp only[go_sem,seval,a0,Y,A,z,N,G,hq];exact hx _ _ s1 M1 R l1 c3 T K1 rs cs V a3 j q.cO q.kO a2 (by simp only[sN,seval,k9]) (by simp only[sN,seval,vh]) (F1.mv (by simp only[sN,seval,and_self])) a5 S
   |false=>
    have h3:=j.lens;have c5:¬((J rs:Nat):Int)=((J us:Nat):Int):=of_decide_eq_false hq;simp only[go_sem,seval,a0,Y,A,z,N,G,hq];refine ih rs _ _ s1 M1 R l1 D T K1 V (by simp only[bn]at a8 h3;omega) a3 c0 ⟨by have:=j.perm;rwa [iw]at this,by have:=j.sub;rwa [iw]at this,j.tk,j.cl,j.good,j.len,j.gT⟩ q.kO tL a1 ?_ ?_ (F1.mv ?_) a5 S
    all_goals simp only[sN,seval,k9,and_self]
  all_goals first|(simp only[sN,seval,e9,a6,and_self];done)|(simp only[sN,seval];rfl)|(first|exact g6|exact l6)
def aEo(a7:Q.spec 12=X Bd)(a6:Q.spec 7=X EO)(q:Q.spec 44=X qi)(R:Q.spec 20=X oW){ev:aa}{le:vy}(ho:aq 6 Obj.val ov l0)(hg:∀o∈l0,o.rf)(D:aq 15 aA.val ev le)(hf:∀e∈le,nS e)(a0:EO [ev]=X (dS 1 (us.map ek)))(hU:uF us (J le))(hT:J le<=10)(hl:J l0<=780)(a1:dB l0<=500)(a5:CB wa wb wc wd wv wr C l0)(hC:∀l2,nV 10 l0 l2->CB wa wb wc wd wv wr C l2)(hw:wa.cells=[wa]/\wb.cells=[wb]/\wc.cells=[wc]/\wd.cells=[wd]/\wv.cells=[wv]/\wr.cells=[wr])(a2:s.gE<=s.aL):
 ∃v s',ai Q 6 [.agg [ov],.agg [wa,wb,wc,wd,wv,wr],ev] s v s'/\(s'.gE<=s'.aL/\∃mv kv cv l rs cs ks,v=.tup [.agg [mv],kv,cv]/\aq 6 Obj.val mv l/\nk le l0 us ks rs [] l/\aq 3 te cv cs/\aq 1 ek kv ks/\yI cs rs):=by
 have b0:=ho.cs;have S:=D.cs
 let⟨c1,c2,c3⟩:=a5
 let⟨cv,hck,hcv⟩:=c3 ov ho
 obtain⟨u,B⟩:=cw (((s.new (.cells [ov])).new (.cells [wa,wb,wc,wd,wv,wr])).new (.cells [ev]));have un:u.aL=s.aL+3:=by rw[<-B];rfl
 have uw:u.gE<=u.aL:=by rw[<-B];exact cr (cr (cr a2))
 have u3:u.get [] s.aL=X (.cells [ov]):=by
  rw[<-B,cV (by show s.aL<s.aL+1+1;omega),cV (by show s.aL<s.aL+1;omega)];exact cu
 have u4:u.get [] (s.aL+1)=X (.cells [wa,wb,wc,wd,wv,wr]):=by
  rw[<-B,cV (by show s.aL+1<s.aL+1+1;omega)];exact cu
 have u5:u.get [] (s.aL+2)=X (.cells [ev]):=by rw[<-B];exact cu
 obtain⟨_,s1,V,rfl,hM,A,b6,Y,_⟩:=awf q hcv c2 w_ uw R hck
 let⟨z,hz,zn,zw,zg,z11⟩:=yZ (.cells [.nilm]) (.cells [.map u.aL]) Y
 have hS:oO z (s.aL+2) s.aL (s.aL+1) s1.aL ev ov [wa,wb,wc,wd,wv,wr] u.aL l0 (ql (C l0) []):=
  ⟨(zg _ w_).trans ((A _ w_).trans u5),(zg _ w_).trans ((A _ w_).trans u3),(zg _ w_).trans ((A _ w_).trans u4),z11,(zg _ w_).trans hM,ho,w_,zw⟩
 have z5:=hS.h5;have hL:aq 1 ek (dS 1 (us.map ek)) us:=xG 1 ek us;have a9:=hL.cs;have b7:=hU.tt;have b8:=hU.ln;have cn:aa.nilm.cells=[aa.nilm]:=rfl;have dn:List.drop 1 [aa.nilm]=[]:=rfl;have b2:s.aL+1+1=s.aL+2:=rfl;refine ai.ofNRZ avD (aM ?_);simp only[go_sem,seval,k6,S,B,b2,u3,u4];refine aV.of V d_ ?_;simp only[go_sem,seval,dl,cu,du,cn,dn,aD,hz,z5,S,a6,a0];refine aEq a7 q R D hf w_ (b5:=s.aL+2) (b3:=s.aL) (b4:=s.aL+1) (b11:=s1.aL) (lo:=z.aL) (U:=us) w_ w_ hU.lt hl a1 hC ⟨w_,w_,w_,w_,w_⟩ w_ w_ (λe lc s3 M mv l a8 kv KK rs cs ks j a4 N G a3 k9 vh F g6 l6=>?_) (J us+1) us _ _ z u.aL ov l0 _ .uP _ [] (gN _) hS (ab2 _) ⟨List.Perm.refl _,List.Sublist.refl _,rfl,λh=>absurd rfl h,hg,w_,w_⟩ (.inl R_) hL (aD _) ?_ ?_ ⟨?_,?_,?_⟩ ?_ ?_;have F3:=F.h3;have F6:=F.h6;have T:=j.h3;have b1:=j.isL.cs;have kc:=G.gt;have cc:=N.gt;simp only[go_sem,seval,F3,F6,k9,vh,l6,T,kc,cc];exact⟨_,rfl,j.mw,mv,kv,a8,l,rs,cs,ks,rfl,j.isL,a4,N.isL,G.isL,a3⟩
 all_goals first|(simp only[sL,seval];done)|(simp only[sN,sL,seval];rfl)|rfl
def aA5{le:vy}(q:u≠[])(hi:∀x∈u,x<J le):∃x j,(iu le u).map aA.val=x::j:=by
 rcases u with _|⟨i,u⟩
 exact absurd rfl q;have h:=hi i gG;refine⟨(le[i]'h).val,(iu le u).map aA.val,?_⟩;unfold iu;rw[ur,dp h];rfl
def Sb(a b:be):Prop:=∃x y,a.head?=X x/\b.head?=X y/\x<y
def uF.up(h:uF us n):us.Pairwise Sb:=by
 obtain⟨A,z,q⟩:=h.hd;have j:(us.map List.head?).Pairwise λa b=>∃x y,a=X x/\b=X y/\x<y:=by
  rw[z,ux];exact q.imp λ{x y} h=>⟨x,y,rfl,rfl,h⟩
 rw[ux]at j;exact j
structure Lf (e:aw) (ev kv cv tv:aa) (m n:Nat):Prop where
 h2:ac e 2=ev
 h3:ac e 3=.uV 3 1 0
 h7:ac e 7=.bool true
 h8:ac e 8=.uV 8 1 0
 h9:ac e 9=kv
 h10:ac e 10=cv
 h11:ac e 11=tv
 h12:ac e 12=.arr 1 m 0 n n
def Lf.mv{ev:aa}(h:Lf e ev kv cv tv m n)(g:ac e' 2=ac e 2/\ac e' 3=ac e 3/\ac e' 7=ac e 7/\ac e' 8=ac e 8/\ac e' 9=ac e 9/\ac e' 10=ac e 10/\ac e' 11=ac e 11/\ac e' 12=ac e 12):Lf e' ev kv cv tv m n:=
 ⟨g.1.trans h.h2,g.2.1.trans h.h3,g.2.2.1.trans h.h7,g.2.2.2.1.trans h.h8,g.2.2.2.2.1.trans h.h9,g.2.2.2.2.2.1.trans h.h10,g.2.2.2.2.2.2.1.trans h.h11,g.2.2.2.2.2.2.2.trans h.h12⟩
def aGo{ev:aa}{le:vy}(T:aq 15 aA.val ev le)(hg:∀e∈le,e.rf)(e5:J le<=1000)(hU:aq 1 ek tv U)(V:aq 1 ek kv ks)(hn:∀u∈U,u≠[])(hi:∀u∈U,∀x∈u,x<J le)(a9:∀u∈U,J u<=10)(e7:J U<=10)(hp:(ks++rs).Perm U)(c7:m<lo)(hx:∀e s F av,bR 15 lo s av ((ks.flatMap (iu le)).map aA.val)->J F=J U->(un U F).Perm rs->s.get [] m=X (.cells (F.map .bool))->s.gE<=s.aL->ac e 13=av->Lf e ev kv cv tv m (J U)->K (.exit 0) ⟨e,142,lc⟩ s):
 ∀(rest q:H_)(e:aw)(s:St)(F:t_)(av:aa),ks=q++rest->bR 15 lo s av ((q.flatMap (iu le)).map aA.val)->(q.flatMap (iu le)).length<=J q*10->J F=J U->(un U F).Perm (rest++rs)->s.get [] m=X (.cells (F.map .bool))->lo<=s.aL->s.gE<=s.aL->ac e 13=av->ac e 14=ak (J q)->Lf e ev kv cv tv m (J U)->W Q 3 (.loop KP) ⟨e,142,lc⟩ s K:=by
 intro rest;have b7:=T.cs;have d2:=T.lenS kx;have a8:=V.cs;have a0:=V.lenS oG;have c0:=hU.cs;have c9:=hp.length_eq;rw[bK]at c9
 induction rest with
 |nil=>
  intro q e s F av h1 hO _ hF D hm c8 N R A L;have e6:=cz h1;have b0:q=ks:=by rw[h1];simp
  subst b0;have e9:=L.h9;refine aF ?_;simp only[go_sem,seval,KP,e9,A,a8,a0,bJ];exact hx _ _ F av hO hF D hm N (by simp only[sN,seval,R]) (L.mv (by simp only[sN,seval,and_self]))
 |cons u rest ih=>
  intro q e s F av h1 hO e4 hF D hm c8 N R A L
  let⟨hlt,hat⟩:=cH h1
  have z:u∈U:=hp.subset (List.mem_append_left _ (co hat));have hc:aq 1 (λi:Nat=>ak i) (ek u) u:=.inr ⟨.no,rfl⟩;have S:=hc.cs;have Y:=λlc k=>V.at oG.2.2.1 hat lc k;have c6:=cm (n:=J q) w_;have e3:=a9 u z;have r8:=aG1 (Q:=Q) hc (hi u z) w_ (hn u z) s;have e2:=L.h2;have e9:=L.h9;have d5:=L.h11;have d4:=L.h12;have b1:u∈un U F:=D.symm.subset gG;obtain⟨v,s1,r9,rfl,j,d1,d0,G⟩:=acF (Q:=Q) hU hc (hn u z) w_ (λw hw=>by have:=a9 w hw;omega) hF N hm b1;have e0:s1.aL=s.aL:=by rw[G];rfl
  have c2:s1.gE<=s1.aL:=by rw[G];exact cG _ _ _ N
  have c4:s1.get [] m=X (.cells ((F.set j O).map .bool)):=by rw[G,aN,bS];rfl
  have c3:∀n,n≠m->s1.get [] n=s.get [] n:=λn h=>by rw[G,aN,bN.2 h];rfl
  have O1:bR 15 lo s1 av ((q.flatMap (iu le)).map aA.val):=hO.keepT (λk V=>c3 k (by have:=(hO.tok V).1;omega)) w_;obtain⟨v,s2,c5,b6,up⟩:=alz (Q:=Q) hc T (hi u z) hg w_ c2;have un:=up.nx;have O2:bR 15 lo s2 av ((q.flatMap (iu le)).map aA.val):=O1.keepT (λk V=>up.old k (O1.tok V).2.1) w_;have c1:s2.get [] m=X (.cells ((F.set j O).map .bool)):=(up.old m w_).trans c4;have b8:=b6.gt;have d6:=O2.gt;obtain⟨x,yt,B⟩:=aA5 (le:=le) (hn u z) (hi u z);have b0:=Ef le u;have e1:J yt+1<=10:=by
   have:=congrArg List.length B;rw[bj,bT]at this;omega
  let⟨av',s3,a1,a2,a3,a4,a5,a6,a7⟩:=I6 (t:=30) kx.1 rfl d_ (s:=s2) (y:=v) (x:=x) (yt:=yt) O2 (by
   rcases b6 with⟨rfl,h0⟩|⟨_,k,rfl,_⟩
   rw[B]at h0;cases h0;simp only[ce,cR,B]) (by
   rw[bj];have:J q*10<=10*10:=kX _ w_;omega) w_ up.mw
  have d7:ac e 13=av:=R;refine aF ?_;simp only[go_sem,seval,KP,e2,e9,A,b7,d2,a8,a0,hlt,Y,S];refine aV.of r8 d_ ?_;simp only[go_sem,seval,e9,d5,d4,A,c0,Y,S];refine aV.of r9 d_ ?_;simp only[go_sem,seval,e2,e9,R,A,b7,Y,S];refine aV.of c5 d_ ?_;simp only[go_sem,seval,A,b8,d6,a1,c6];have b2:(q++[u]).flatMap (iu le)=q.flatMap (iu le)++iu le u:=by
   rw[It,ur,List.flatMap_nil,iw]
  refine ih (q++[u]) _ s3 (F.set j O) av' (cP h1) (by rw[b2,db,B];exact a2) (by rw[b2,bK,bK,yy];omega) (by rw[nN];exact hF) ?_ ((a7 m c7).trans c1) w_ a5 ?_ ?_ (L.mv ?_);exact((T7 d1 d0).symm.trans D).cons_inv
  all_goals simp only[sN,seval,sA,and_self]
def aGp{ev:aa}{cs:P_}(hU:aq 1 ek tv U)(hc:aq 3 te cv cs)(a0:∀c∈cs,c.2.2.gt=O/\c.2.2.cells=[c.2.2])(hn:∀u∈U,u≠[])(b7:∀u∈U,J u<=10)(d4:J U<=10)(D:(cs.map Prod.fst).Sublist U)(b6:(cs.map Prod.fst).Pairwise Sb)(hx:∀e s,s.gE<=s.aL->ac e 13=av->Lf e ev kv cv tv m (J U)->K (.exit 2) ⟨e,142,lc⟩ s):
 ∀(rest h:P_)(e:aw)(s:St)(F:t_),cs=h++rest->J F=J U->(un U F).Perm (rest.map Prod.fst)->s.get [] m=X (.cells (F.map .bool))->s.gE<=s.aL->ac e 13=av->ac e 15=ak (J h)->Lf e ev kv cv tv m (J U)->W Q 3 (.loop GM) ⟨e,142,lc⟩ s K:=by
 intro rest;have a2:=hc.cs;have a1:=hc.lenS EA;have a4:=hU.cs;have c6:=D.length_le;rw[bj]at c6
 induction rest with
 |nil=>
  intro h e s F h1 hF N hm z A q L;have c1:=cz h1;have B:=L.h10;refine aF ?_;simp only[go_sem,seval,GM,B,q,a2,a1,c1,bJ];exact hx _ _ z (by simp only[sN,seval,A]) (L.mv (by simp only[sN,seval,and_self]))
 |cons c rest ih=>
  intro h e s F h1 hF N hm z A q L
  let⟨hlt,hat⟩:=cH h1
  have b8:c.1∈U:=D.subset (List.mem_map_of_mem (co hat));have hi:aq 1 (λi:Nat=>ak i) (ek c.1) c.1:=.inr ⟨.no,rfl⟩;have a3:=hi.cs
  let⟨yc1,yc2⟩:=a0 c (co hat)
  have V:=λlc k=>hc.at EA.2.2.1 hat lc k;have S:=cm (n:=J h) w_;have B:=L.h10;have d0:=L.h11;have c9:=L.h12;have T:c.1∈un U F:=N.symm.subset gG;obtain⟨v,G,r9,rfl,j,c3,c2,R⟩:=acF (Q:=Q) hU hi (hn _ b8) w_ (λw hw=>by have:=b7 w hw;omega) hF (s:=s.top) (aD _) hm T;have d1:G.aL=s.aL:=by rw[R];rfl
  have a7:G.ci=s.ci:=by rw[R];rfl
  have a6:(s.xW G).get [] m=X (.cells ((F.set j O).map .bool)):=by rw[jH,R,aN,bS];rfl
  have a5:(s.xW G).gE<=(s.xW G).aL:=mU z w_;have c0:s.aL<=G.aL:=w_
  have done:∀e':aw,ac e' 13=av->ac e' 15=ak (J h+1)->Lf e' ev kv cv tv m (J U)->W Q 3 (.loop GM) ⟨e',142,lc⟩ (s.xW G) K:=λe' c8 c7 L'=>
   ih (h++[c]) e' _ (F.set j O) (cP h1) (by rw[nN];exact hF) ((T7 c3 c2).symm.trans N).cons_inv a6 a5 c8 (by rw[c7,bK,yy]) L'
  refine aF ?_;simp only[go_sem,seval,GM,B,d0,c9,q,a2,a1,a4,hlt,V,te,a3,z];refine iX.of r9 a7 c0 d_ (by simp[eU,jN,oI]) ?_;rcases IE (J h)with h0|h0
  have i2:aQ 0 (J h:Int)=I:=by rw[h0];rfl
  simp only[go_sem,seval,q,i2,S];exact done _ (by simp only[sN,seval,A]) (by simp only[sN,seval]) (L.mv (by simp only[sN,seval,and_self]));have i2:aQ 0 (J h:Int)=O:=dQ w_;obtain⟨d,hd⟩:∃d,cs[J h-1]?=X d:=⟨_,dp w_⟩
  let⟨zc1,zc2⟩:=a0 d (co hd)
  have c5:=λlc k=>hc.at EA.2.2.1 hd lc k;have b2:IntKind.i64.wrap ((J h:Int)-1)=((J h-1:Nat):Int):=by rw[nf];omega
  have Y:aq 1 (λi:Nat=>ak i) (ek d.1) d.1:=.inr ⟨.no,rfl⟩;have d5:=Y.cs;obtain⟨x,y,b0,a8,d2⟩:Sb d.1 c.1:=by
   have g1:(cs.map Prod.fst)[J h-1]?=X d.1:=by rw[gZ,hd];rfl
   have g2:(cs.map Prod.fst)[h.length]?=X c.1:=by rw[gZ,hat];rfl
   obtain⟨q1,q2⟩:=gn.1 g1;obtain⟨q3,q4⟩:=gn.1 g2
   have:=List.pairwise_iff_getElem.1 b6 _ _ q1 q3 w_;rwa [q2,q4]at this
  have b1:d.1[0]?=X x:=by rw[<-List.head?_eq_getElem?];exact b0
  have a9:c.1[0]?=X y:=by rw[<-List.head?_eq_getElem?];exact a8
  have c4:∀lc,fR ae lc 26 (ek d.1) (.int .i64 0)=X (.ro [ak x]):=λlc=>Y.at ff.2.2.1 b1 lc .i64;have hid:∀lc,fR ae lc 26 (ek c.1) (.int .i64 0)=X (.ro [ak y]):=λlc=>hi.at ff.2.2.1 a9 lc .i64;have i3:bV (y:Int) (x:Int)=I:=dN w_;simp only[go_sem,seval,B,q,i2,b2,V,c5,c4,hid,te,i3,S];exact done _ (by simp only[sN,seval,A]) (by simp only[sN,seval]) (L.mv (by simp only[sN,seval,and_self]))
def awp(go:o.rf)(Y:J o.gT<=1000000)(S:lc.gen 2=1)(A:lc.get 2 1=X o.cells)(V:∀e,ac e 2=.uV 2 1 0->K (.exit 0) ⟨e,61,lc⟩ s)(hr:∀e,ac e 4=.bool I->K .ret ⟨e,61,lc⟩ s):
 ∀(rest h:cf)(e:aw),o.gT=h++rest->ac e 2=.uV 2 1 0->ac e 5=ak (J h)->W Q 56 (.loop K6) ⟨e,61,lc⟩ s K:=by
 intro rest;have G:=go.all;have j:=go.gT.lenS bL;simp only[Obj.cells]at A
 induction rest with
 |nil=>
  intro h e B q D;have R:=cz B;refine aF ?_;simp only[go_sem,seval,K6,q,D,S,A,G,j,R,bJ];exact V _ (by simp only[sN,seval,q])
 |cons x rest T=>
  intro h e B q D
  let⟨hlt,hat⟩:=cH B
  have z:=λlc k=>go.gT.at bL.2.2.1 hat lc k;have N:=cm (n:=J h) w_;refine aF ?_;cases hq:aQ 300 ((J x:Nat):Int)with
  |true=>
   simp only[go_sem,seval,K6,q,D,S,A,G,j,hlt,z,ax,hq];exact hr _ (by simp only[sN,seval])
  |false=>
   simp only[go_sem,seval,K6,q,D,S,A,G,j,hlt,z,ax,hq,N];refine T (h++[x]) _ (cP B) ?_ ?_<;>simp only[jW,sN,seval,q]
def awq(go:o.rf)(a0:J o.mt<=1000000)(G:lc.gen 2=1)(z:lc.get 2 1=X o.cells)(T:s.gE<=s.aL)(Y:∀e,K (.exit 2) ⟨e,61,lc⟩ s)(hr:∀e,ac e 4=.bool I->K .ret ⟨e,61,lc⟩ s):
 ∀(rest h:wf)(e:aw),o.mt=h++rest->ac e 2=.uV 2 1 0->ac e 6=ak (J h)->W Q 56 (.loop Ro) ⟨e,61,lc⟩ s K:=by
 intro rest;have S:=go.all;have q:=go.mt.lenS jj;simp only[Obj.cells]at z
 induction rest with
 |nil=>
  intro h e D j B;have R:=cz D;refine aF ?_;simp only[go_sem,seval,Ro,j,B,G,z,S,q,R,bJ];exact Y _
 |cons t rest V=>
  intro h e D j B
  let⟨hlt,hat⟩:=cH D
  have A:=λlc k=>go.mt.at jj.2.2.1 hat lc k;have N:=cm (n:=J h) w_;have lt:=iL T;refine aF ?_;simp only[go_sem,seval,Ro,j,B,G,z,S,q,hlt];refine⟨T,?_⟩;cases hq:aQ 600 (IntKind.i64.wrap (((J t.1:Nat):Int)+((J t.2:Nat):Int)))with
  |true=>
   simp only[go_sem,seval,j,B,G,z,A,bZ,m8,hq];exact hr _ (by simp only[sN,seval])
  |false=>
   simp only[go_sem,seval,j,B,G,z,A,bZ,m8,hq,N];refine V (h++[t]) _ (cP D) ?_ ?_<;>simp only[jW,sN,seval,j]
def ang(go:o.rf)(T:n<=1000)(D:s.gE<=s.aL):∃b:Bool,ai Q 56 [o.val,ak n] s (.bool b) s/\(b=O->J o.gT<=n):=by
 have z:=go.all;have j:=go.gT.lenS bL;have q:=go.mt.lenS jj;obtain⟨v,s',N,b,rfl,rfl,G⟩:∃v s',ai Q 56 [o.val,ak n] s v s'/\∃b:Bool,v=.bool b/\s'=s/\(b=O->J o.gT<=n):=by
  refine ai.ofNRZ avn (aM ?_);cases c1:aQ 300 ((J o.id:Nat):Int)with
  |true=>
   simp only[go_sem,seval,Obj.val,Obj.cells,c1];exact⟨_,rfl,I,rfl,λh=>by cases h⟩
  |false=>
  cases c2:aQ (n:Int) ((J o.gT:Nat):Int)with
  |true=>
   simp only[go_sem,seval,Obj.val,Obj.cells,z,j,c1,c2];exact⟨_,rfl,I,rfl,λh=>by cases h⟩
  |false=>
  have B:J o.gT<=n:=by
   have:¬((n:Int)<((J o.gT:Nat):Int)):=of_decide_eq_false c2;omega
  cases c3:aQ 65 ((J o.mt:Nat):Int)with
  |true=>
   simp only[go_sem,seval,Obj.val,Obj.cells,z,j,q,c1,c2,c3];exact⟨_,rfl,I,rfl,λh=>by cases h⟩
  |false=>
  have S:J o.mt<=65:=by
   have:¬((65:Int)<((J o.mt:Nat):Int)):=of_decide_eq_false c3;omega
  simp only[go_sem,seval,Obj.val,Obj.cells,z,j,q,c1,c2,c3];refine awp go w_ ?_ ?_ (λe R=>?_) (λe A=>?_) o.gT [] _ rfl ?_ ?_;rfl;rfl
  ·simp only[go_sem,seval]
   refine awq go w_ ?_ ?_ D (λe=>?_) (λe A=>?_) o.mt [] _ rfl ?_ ?_;rfl;rfl;simp only[go_sem,seval];exact⟨_,rfl,O,rfl,λ_=>B⟩;simp only[go_sem,seval,A];exact⟨_,rfl,I,rfl,λh=>by cases h⟩
   all_goals first|(simp only[sN,seval,R];done)|(simp only[sN,seval];rfl)|rfl
  simp only[go_sem,seval,A];exact⟨_,rfl,I,rfl,λh=>by cases h⟩
  all_goals first|(simp only[sN,seval];done)|(simp only[sN,seval];rfl)|rfl
 exact⟨b,N,G⟩
structure aA.Ok (e:aA):Prop where
 gT:aq 1 ax e.refsV e.gT
 pr:br e.refsV=true
 obj:e.obj.rf
 id:e.id.length<small
 other:e.other.length<small
 node:e.node.length<small
 key:e.key.length<small
 value:e.value.length<small
 ref:∀r∈e.gT,r.length<small
variable{e:aA}
def aA.Ok.good(h:e.Ok)(j:J e.gT<=1000000):e.rf:=⟨h.gT,h.pr,h.obj,h.id,h.other,h.node,h.key,h.value,j,h.ref⟩
variable{g:Nat}{iv:aa}
def awn{d:aA}(D:d.Ok)(a0:J d.gT<=1000000)(g6:lc.gen 6=g)(A:lc.get 6 g=X d.cells){ev:aa}(hx:∀e,ac e 0=ev->ac e 5=iv->K (.exit 2) ⟨e,83,lc⟩ s)(hr:∀e,ac e 4=.bool I->K .ret ⟨e,83,lc⟩ s):
 ∀(rest h:cf)(e:aw),d.gT=h++rest->ac e 6=.uV 6 g 0->ac e 7=ak (J h)->ac e 0=ev->ac e 5=iv->W Q 33 (.loop KG) ⟨e,83,lc⟩ s K:=by
 intro rest;have V:=D.gT.cs;have oc:=D.obj.all;have j:=D.gT.lenS bL;simp only[aA.cells]at A
 induction rest with
 |nil=>
  intro h e B z G T S;have R:=cz B;refine aF ?_;simp only[go_sem,seval,KG,z,G,g6,A,V,j,R,bJ];exact hx _ (by simp only[sN,seval,T]) (by simp only[sN,seval,S])
 |cons x rest Y=>
  intro h e B z G T S
  let⟨hlt,hat⟩:=cH B
  have q:=λlc k=>D.gT.at bL.2.2.1 hat lc k;have N:=cm (n:=J h) w_;refine aF ?_;cases hq:aQ 300 ((J x:Nat):Int)with
  |true=>
   simp only[go_sem,seval,KG,z,G,g6,A,V,j,hlt,q,ax,hq];exact hr _ (by simp only[sN,seval])
  |false=>
   simp only[go_sem,seval,KG,z,G,g6,A,V,j,hlt,q,ax,hq,N];refine Y (h++[x]) _ (cP B) ?_ ?_ ?_ ?_<;>simp only[jW,sN,seval,z,T,S]
set_option maxHeartbeats 4000000 in
set_option maxRecDepth 4000 in
def awo{ev:aa}{l:vy}(hl:aq 15 aA.val ev l)(hg:∀e∈l,e.Ok)(a1:J l<=1000000)(hm:s.gE<=s.aL)(V:(∀d∈l,nS d)->∀e lc,K (.exit 0) ⟨e,83,lc⟩ s)(G:∀e lc,ac e 4=.bool I->K .ret ⟨e,83,lc⟩ s):
 ∀(rest j:vy)(e:aw)(lc:Ag.Loc),l=j++rest->(∀d∈j,nS d)->ac e 0=ev->ac e 5=ak (J j)->W Q 33 (.loop xr) ⟨e,83,lc⟩ s K:=by
 intro rest;have z:=hl.cs;have q:=hl.lenS kx
 induction rest with
 |nil=>
  intro j e lc T hp D B;have a0:=cz T;refine aF ?_;simp only[go_sem,seval,xr,D,B,z,q,a0,bJ];exact V (by rw[T,iw];exact hp) _ _
 |cons d rest ih=>
  intro j e lc T hp D B
  let⟨hlt,hat⟩:=cH T
  have N:=hg d (co hat);have dc:=N.gT.cs;have oc:=N.obj.all;have S:=N.gT.lenS bL;have R:=N.obj.mt.lenS jj;have A:=λlc k=>hl.at kx.2.2.1 hat lc k;have Y:=cm (n:=J j) w_
  let⟨b,r264,hb⟩:=ang (Q:=Q) N.obj (n:=20) w_ hm
  simp only[Obj.val,Obj.cells]at r264;refine aF ?_;cases c1:aQ 300 ((J d.id:Nat):Int)with
  |true=>
   simp only[go_sem,seval,xr,D,B,hlt,z,q,A,aA.val,aA.cells,c1];exact G _ _ (by simp only[sN,seval])
  |false=>
  cases c2:aQ 300 ((J d.other:Nat):Int)with
  |true=>
   simp only[go_sem,seval,xr,D,B,hlt,z,q,A,aA.val,aA.cells,c1,c2];exact G _ _ (by simp only[sN,seval])
  |false=>
  cases c3:aQ 300 ((J d.node:Nat):Int)with
  |true=>
   simp only[go_sem,seval,xr,D,B,hlt,z,q,A,aA.val,aA.cells,c1,c2,c3];exact G _ _ (by simp only[sN,seval])
  |false=>
  cases c4:aQ 300 ((J d.key:Nat):Int)with
  |true=>
   simp only[go_sem,seval,xr,D,B,hlt,z,q,A,aA.val,aA.cells,c1,c2,c3,c4];exact G _ _ (by simp only[sN,seval])
  |false=>
  cases c5:aQ 300 ((J d.value:Nat):Int)with
  |true=>
   simp only[go_sem,seval,xr,D,B,hlt,z,q,A,aA.val,aA.cells,c1,c2,c3,c4,c5];exact G _ _ (by simp only[sN,seval])
  |false=>
  cases c6:aQ 20 ((J d.gT:Nat):Int)with
  |true=>
   simp only[go_sem,seval,xr,D,B,hlt,z,q,A,aA.val,aA.cells,dc,S,c1,c2,c3,c4,c5,c6];exact G _ _ (by simp only[sN,seval])
  |false=>
  have h6:J d.gT<=20:=by
   have:¬((20:Int)<((J d.gT:Nat):Int)):=of_decide_eq_false c6;omega
  simp only[go_sem,seval,xr,D,B,hlt,z,q,A,aA.val,aA.cells,dc,S,c1,c2,c3,c4,c5,c6];refine aV.of r264 d_ ?_;cases b with
  |false=>
   simp only[go_sem,seval];exact G _ _ (by simp only[sN,seval])
  |true=>
  cases c8:aQ 20 ((J d.obj.mt:Nat):Int)with
  |true=>
   simp only[go_sem,seval,oc,R,c8];exact G _ _ (by simp only[sN,seval])
  |false=>
  simp only[go_sem,seval,oc,R,c8];refine awn N w_ (g:=lc.gen 6+1) ?_ ?_ (ev:=ev) (iv:=ak (J j)) (λe q0 q5=>?_) (λe q4=>?_) d.gT [] _ rfl ?_ ?_ ?_ ?_;simp only[sL,seval];simp only[sL,seval,aA.cells]
  ·simp only[go_sem,seval,q5,Y]
   refine ih (j++[d]) _ _ (cP T) (λx V=>?_) ?_ ?_;rcases fA.1 V with h|h
   exact hp x h;rw[kg.1 h];exact⟨N.good w_,h6,hb rfl⟩
   all_goals simp only[jW,sN,seval,q0]
  simp only[go_sem,seval];exact G _ _ q4
  all_goals first|(simp only[sN,seval,D,B];done)|(simp only[sN,seval];rfl)|rfl
def anf{ev:aa}{l:vy}(A:aq 15 aA.val ev l)(D:∀e∈l,e.Ok)(T:n<=1000000)(B:s.gE<=s.aL):∃b:Bool,ai Q 33 [ev,ak n] s (.bool b) s/\(b=O->J l<=n/\∀d∈l,nS d):=by
 have q:=A.cs;have j:=A.lenS kx;obtain⟨v,s',R,b,rfl,rfl,N⟩:∃v s',ai Q 33 [ev,ak n] s v s'/\∃b:Bool,v=.bool b/\s'=s/\(b=O->J l<=n/\∀d∈l,nS d):=by
  refine ai.ofNRZ aus (aM ?_);cases c1:aQ (n:Int) ((J l:Nat):Int)with
  |true=>
   simp only[go_sem,seval,q,j,c1];exact⟨_,rfl,I,rfl,λh=>by cases h⟩
  |false=>
  have z:J l<=n:=by
   have:¬((n:Int)<((J l:Nat):Int)):=of_decide_eq_false c1;omega
  simp only[go_sem,seval,q,j,c1];refine awo A D w_ B (λG e lc=>?_) (λe lc S=>?_) l [] _ _ rfl (λd h=>by cases h) ?_ ?_;simp only[go_sem,seval];exact⟨_,rfl,O,rfl,λ_=>⟨z,G⟩⟩;simp only[go_sem,seval,S];exact⟨_,rfl,I,rfl,λh=>by cases h⟩
  all_goals first|(simp only[sN,seval];done)|(simp only[sN,seval];rfl)|rfl
 exact⟨b,R,N⟩
attribute[go_sem]GL aqz
def awr(go:o.rf)(a0:J o.gT<=1000000)(g6:lc.gen 6=g)(A:lc.get 6 g=X o.cells)(Y:∀e,ac e 2=.uV 2 1 0->ac e 5=iv->ac e 6=.uV 6 g 0->K (.exit 2) ⟨e,79,lc⟩ s)(hr:∀e,ac e 4=.bool I->K .ret ⟨e,79,lc⟩ s):
 ∀(rest h:cf)(e:aw),o.gT=h++rest->ac e 2=.uV 2 1 0->ac e 5=iv->ac e 6=.uV 6 g 0->ac e 7=ak (J h)->W Q 34 (.loop KH) ⟨e,79,lc⟩ s K:=by
 intro rest;have G:=go.all;have j:=go.gT.lenS bL;simp only[Obj.cells]at A
 induction rest with
 |nil=>
  intro h e B T S q D;have R:=cz B;refine aF ?_;simp only[go_sem,seval,KH,q,D,g6,A,G,j,R,bJ];exact Y _ (by simp only[sN,seval,T]) (by simp only[sN,seval,S]) (by simp only[sN,seval,q])
 |cons x rest V=>
  intro h e B T S q D
  let⟨hlt,hat⟩:=cH B
  have z:=λlc k=>go.gT.at bL.2.2.1 hat lc k;have N:=cm (n:=J h) w_;refine aF ?_;cases hq:aQ 60 ((J x:Nat):Int)with
  |true=>
   simp only[go_sem,seval,KH,q,D,g6,A,G,j,hlt,z,ax,hq];exact hr _ (by simp only[sN,seval])
  |false=>
   simp only[go_sem,seval,KH,q,D,g6,A,G,j,hlt,z,ax,hq,N];refine V (h++[x]) _ (cP B) ?_ ?_ ?_ ?_<;>simp only[jW,sN,seval,T,S,q]
def aws(go:o.rf)(a0:J o.mt<=1000000)(g6:lc.gen 6=g)(z:lc.get 6 g=X o.cells)(V:s.gE<=s.aL)(hx:∀e,ac e 2=.uV 2 1 0->ac e 5=iv->K (.exit 4) ⟨e,79,lc⟩ s)(hr:∀e,ac e 4=.bool I->K .ret ⟨e,79,lc⟩ s):
 ∀(rest h:wf)(e:aw),o.mt=h++rest->ac e 2=.uV 2 1 0->ac e 5=iv->ac e 6=.uV 6 g 0->ac e 8=ak (J h)->W Q 34 (.loop QU) ⟨e,79,lc⟩ s K:=by
 intro rest;have T:=go.all;have q:=go.mt.lenS jj;simp only[Obj.cells]at z
 induction rest with
 |nil=>
  intro h e D S R j B;have N:=cz D;refine aF ?_;simp only[go_sem,seval,QU,j,B,g6,z,T,q,N,bJ];exact hx _ (by simp only[sN,seval,S]) (by simp only[sN,seval,R])
 |cons t rest Y=>
  intro h e D S R j B
  let⟨hlt,hat⟩:=cH D
  have A:=λlc k=>go.mt.at jj.2.2.1 hat lc k;have G:=cm (n:=J h) w_;have lt:=iL V;refine aF ?_;simp only[go_sem,seval,QU,j,B,g6,z,T,q,hlt];refine⟨V,?_⟩;cases hq:aQ 300 (IntKind.i64.wrap (((J t.1:Nat):Int)+((J t.2:Nat):Int)))with
  |true=>
   simp only[go_sem,seval,j,B,g6,z,A,bZ,m8,hq];exact hr _ (by simp only[sN,seval])
  |false=>
   simp only[go_sem,seval,j,B,g6,z,A,bZ,m8,hq,G];refine Y (h++[t]) _ (cP D) ?_ ?_ ?_ ?_<;>simp only[jW,sN,seval,S,R,j]
def awt(hl:aq 6 Obj.val ov l)(hg:∀o∈l,o.rf)(a2:J l<=1000000)(hm:s.gE<=s.aL)(hx:(∀o∈l,J o.gT<=12)->∀e lc,K (.exit 0) ⟨e,79,lc⟩ s)(T:∀e lc,ac e 4=.bool I->K .ret ⟨e,79,lc⟩ s):
 ∀(rest j:ba)(e:aw)(lc:Ag.Loc),l=j++rest->(∀o∈j,J o.gT<=12)->ac e 2=.uV 2 1 0->lc.gen 2=1->lc.get 2 1=X [ov]->ac e 5=ak (J j)->W Q 34 (.loop DC) ⟨e,79,lc⟩ s K:=by
 intro rest;have z:=hl.cs;have q:=hl.lenS dY
 induction rest with
 |nil=>
  intro j e lc V hp S N G R;have a1:=cz V;refine aF ?_;simp only[go_sem,seval,DC,S,R,N,G,z,q,a1,bJ];exact hx (by rw[V,iw];exact hp) _ _
 |cons o rest ih=>
  intro j e lc V hp S N G R
  let⟨hlt,hat⟩:=cH V
  have go:=hg o (co hat);have Y:=go.all;have A:=go.gT.lenS bL;have D:=go.mt.lenS jj;have B:=λlc k=>hl.at dY.2.2.1 hat lc k;have a0:=cm (n:=J j) w_;refine aF ?_;cases c1:aQ 12 ((J o.gT:Nat):Int)with
  |true=>
   simp only[go_sem,seval,DC,S,R,N,G,z,q,hlt,B,Obj.val,Obj.cells,Y,A,c1];exact T _ _ (by simp only[sN,seval])
  |false=>
  cases c2:aQ 20 ((J o.mt:Nat):Int)with
  |true=>
   simp only[go_sem,seval,DC,S,R,N,G,z,q,hlt,B,Obj.val,Obj.cells,Y,A,D,c1,c2];exact T _ _ (by simp only[sN,seval])
  |false=>
  cases c3:aQ 60 ((J o.id:Nat):Int)with
  |true=>
   simp only[go_sem,seval,DC,S,R,N,G,z,q,hlt,B,Obj.val,Obj.cells,Y,A,D,c1,c2,c3];exact T _ _ (by simp only[sN,seval])
  |false=>
  have r1:J o.gT<=12:=by
   have:¬((12:Int)<((J o.gT:Nat):Int)):=of_decide_eq_false c1;omega
  have r2:J o.mt<=20:=by
   have:¬((20:Int)<((J o.mt:Nat):Int)):=of_decide_eq_false c2;omega
  simp only[go_sem,seval,DC,S,R,N,G,z,q,hlt,B,Obj.val,Obj.cells,Y,A,D,c1,c2,c3];refine awr go w_ (g:=lc.gen 6+1) ?_ ?_ (iv:=ak (J j)) (λe q2 q5 q6=>?_) (λe q4=>?_) o.gT [] _ rfl ?_ ?_ ?_ ?_;simp only[sL,seval];simp only[sL,seval,Obj.cells]
  ·simp only[go_sem,seval]
   refine aws go w_ (g:=lc.gen 6+1) ?_ ?_ hm (iv:=ak (J j)) (λe q2 q5=>?_) (λe q4=>?_) o.mt [] _ rfl ?_ ?_ ?_ ?_;simp only[sL,seval];simp only[sL,seval,Obj.cells]
   ·simp only[go_sem,seval,q5,a0]
    refine ih (j++[o]) _ _ (cP V) (λx hx=>?_) ?_ ?_ ?_ ?_;rcases fA.1 hx with h|h
    exact hp x h;rw[kg.1 h];exact r1
    all_goals simp only[jW,sL,seval,q2,N,G]
   simp only[go_sem,seval];exact T _ _ q4
   all_goals first|(simp only[sN,seval,q2,q5,q6];done)|(simp only[sN,seval];rfl)|rfl
  simp only[go_sem,seval];exact T _ _ q4
  all_goals first|(simp only[sN,seval,S,R];done)|(simp only[sN,seval];rfl)|rfl
def W8(A:aq 6 Obj.val ov l)(D:∀o∈l,o.rf)(T:n<=1000000)(B:s.gE<=s.aL):∃b:Bool,ai Q 34 [.agg [ov],ak n] s (.bool b) s/\(b=O->J l<=n/\∀o∈l,J o.gT<=12):=by
 have q:=A.cs;have j:=A.lenS dY;obtain⟨v,s',R,b,rfl,rfl,N⟩:∃v s',ai Q 34 [.agg [ov],ak n] s v s'/\∃b:Bool,v=.bool b/\s'=s/\(b=O->J l<=n/\∀o∈l,J o.gT<=12):=by
  refine ai.ofNRZ aut (aM ?_);cases c1:aQ (n:Int) ((J l:Nat):Int)with
  |true=>
   simp only[go_sem,seval,q,j,c1];exact⟨_,rfl,I,rfl,λh=>by cases h⟩
  |false=>
  have z:J l<=n:=by
   have:¬((n:Int)<((J l:Nat):Int)):=of_decide_eq_false c1;omega
  simp only[go_sem,seval,q,j,c1];refine awt A D w_ B (λG e lc=>?_) (λe lc S=>?_) l [] _ _ rfl (λd h=>by cases h) ?_ ?_ ?_ ?_;simp only[go_sem,seval];exact⟨_,rfl,O,rfl,λ_=>⟨z,G⟩⟩;simp only[go_sem,seval,S];exact⟨_,rfl,I,rfl,λh=>by cases h⟩
  all_goals first|(simp only[sN,seval];done)|(simp only[sN,seval];rfl)|rfl
 exact⟨b,R,N⟩
variable{l:vx}{rv:aa}
def awu(Y:aq 8 aZ.val rv l){x:aZ}(hi:l[i]?=X x)(G:x.OkS){n:Int}(hx:∀e,ac e 0=rv->ac e 1=ah n->ac e 5=ak i->K (.exit 2) ⟨e,76,lc⟩ s)(hr:∀e,ac e 4=.bool I->K .ret ⟨e,76,lc⟩ s):
 ∀(rest h:cf)(e:aw),x.values=h++rest->ac e 0=rv->ac e 1=ah n->ac e 5=ak i->ac e 6=ak (J h)->W Q 55 (.loop K4) ⟨e,76,lc⟩ s K:=by
 intro rest;have a2:=aae;have a1:=G.len;have j:=G.vals.lenS bL;have q:=G.vals.gt;have a0:=Y.gt;have z:=λlc k=>Y.at sj.2.2.1 hi lc k
 induction rest with
 |nil=>
  intro h e R A V D N;have T:=cz R;refine aF ?_;simp only[go_sem,seval,K4,A,D,N,z,aZ.val,aZ.cells,q,j,T,bJ]
  simp_all [sN]
 |cons v rest ih=>
  intro h e R A V D N
  let⟨hlt,hat⟩:=cH R
  have B:=λlc k=>G.vals.at bL.2.2.1 hat lc k;have S:IntKind.i64.wrap (((J h:Nat):Int)+1)=((J h+1:Nat):Int):=by rw[ka w_ w_];omega
  refine aF ?_;cases hb:aQ 300 ((J v:Nat):Int)with
  |true=>
   simp only[go_sem,seval,K4,A,D,N,z,B,aZ.val,aZ.cells,ax,q,j,hlt,vk,hb];exact hr _ (by simp only[sN,seval])
  |false=>
   simp only[go_sem,seval,K4,A,D,N,z,B,aZ.val,aZ.cells,ax,q,j,hlt,vk,hb,S];refine ih (h++[v]) _ (cP R) ?_ ?_ ?_ ?_<;>simp only[sN,seval,A,V,D,sA]
def awv(T:aq 8 aZ.val rv l)(a0:∀x∈l,x.OkS)(a2:J l<small){n:Int}(hm:s.gE<=s.aL)(hx:∀e,(∀x∈l,x.Ok)->ac e 0=rv->ac e 1=ah n->K (.exit 0) ⟨e,76,lc⟩ s)(hr:∀e,ac e 4=.bool I->K .ret ⟨e,76,lc⟩ s):
 ∀(rest j:vx)(e:aw),l=j++rest->(∀x∈j,x.Ok)->ac e 0=rv->ac e 1=ah n->ac e 5=ak (J j)->W Q 55 (.loop Rn) ⟨e,76,lc⟩ s K:=by
 intro rest;have hs:=aae;have N:=T.gt;have G:=T.lenS sj
 induction rest with
 |nil=>
  intro j e S hp z V A;have a1:=cz S;refine aF ?_;simp only[go_sem,seval,Rn,z,A,N,G,a1,bJ];exact hx _ (by rw[S,iw];exact hp) (by simp only[sN,seval,z]) (by simp only[sN,seval,V])
 |cons x rest ih=>
  intro j e S hp z V A
  let⟨hlt,hat⟩:=cH S
  have q:=a0 x (co hat);have D:=q.vals.gt;have B:=q.vals.lenS bL;have R:=λlc k=>T.at sj.2.2.1 hat lc k;have Y:IntKind.i64.wrap (((J j:Nat):Int)+1)=((J j+1:Nat):Int):=by rw[ka w_ w_];omega
  refine aF ?_;simp only[go_sem,seval,Rn,z,A,N,G,hlt];refine⟨hm,?_⟩;cases e1:aQ 300 (IntKind.i64.wrap (IntKind.i64.wrap (IntKind.i64.wrap ((J x.area:Nat)+(J x.key:Nat):Int)+(J x.ifK:Nat))+(J x.ifV:Nat)))with
  |true=>
   simp only[go_sem,seval,z,A,R,aZ.val,aZ.cells,vk,e1];exact hr _ (by simp only[sN,seval])
  |false=>
  simp only[go_sem,seval,z,A,R,aZ.val,aZ.cells,vk,e1];cases e2:aQ 65 ((J x.values:Nat):Int)with
  |true=>
   simp only[go_sem,seval,D,B,e2];exact hr _ (by simp only[sN,seval])
  |false=>
   simp only[go_sem,seval,D,B,e2];have a3:¬((65:Int)<((J x.values:Nat):Int)):=of_decide_eq_false e2;refine awu (Q:=Q) T hat q (n:=n) (λe c0 c1 c5=>?_) (λe h=>?_) x.values [] _ rfl ?_ ?_ ?_ ?_
   ·simp only[go_sem,seval,c5,Y]
    refine ih (j++[x]) _ (cP S) (λy hy=>?_) ?_ ?_ ?_;rcases fA.1 hy with h|h
    exact hp y h;rw[kg.1 h];exact⟨q.vals,q.pv,q.area,q.key,q.ifK,w_⟩
    all_goals simp_all [sN]
   exact hr e h
   all_goals simp only[sN,seval,z,V,A,bn]
   all_goals rfl
def ani(D:aq 8 aZ.val rv l)(B:∀x∈l,x.OkS)(A:J l<small)(R:s.gE<=s.aL):∃b:Bool,ai Q 55 [rv,ah 5] s (.bool b) s/\(b=O->J l<=5/\∀x∈l,x.Ok):=by
 have z:=D.gt;have q:=D.lenS sj;obtain⟨v,s',V,b,rfl,rfl,T⟩:∃v s',ai Q 55 [rv,ah 5] s v s'/\∃b:Bool,v=.bool b/\s'=s/\(b=O->J l<=5/\∀x∈l,x.Ok):=by
  refine ai.ofNRZ avm (aM ?_);simp only[go_sem,seval];refine awv D B A (n:=5) R (λe j N G=>?_) (λe S=>?_) l [] _ rfl (λ_ h=>by cases h) ?_ ?_ ?_;simp only[go_sem,seval,N,G,z,q];refine⟨_,rfl,_,rfl,λh=>⟨?_,j⟩⟩
  have:=of_decide_eq_true h;omega;simp only[go_sem,seval,S];exact⟨_,rfl,I,rfl,λh=>by cases h⟩
  all_goals simp_all [sN]
 exact⟨b,V,T⟩
variable{views:cf}{vv w0 w1 w2 w3:aa}
def awm(S:aq 1 ax vv views)(a0:J views<small){n:Int}(G:lc.get 4 1=X [w0,w1,w2,w3,vv,rv])(T:lc.gen 4=1)(hx:∀e,ac e 2=ah n->ac e 3=.uV 3 1 0->ac e 4=.uV 4 1 0->K (.exit 0) ⟨e,36,lc⟩ s)(hr:∀e,ac e 6=.bool I->K .ret ⟨e,36,lc⟩ s):
 ∀(rest h:cf)(e:aw),views=h++rest->ac e 2=ah n->ac e 3=.uV 3 1 0->ac e 4=.uV 4 1 0->ac e 7=ak (J h)->W Q 32 (.loop KD) ⟨e,36,lc⟩ s K:=by
 intro rest;have hs:=aae;have q:=S.gt;have j:=S.lenS bL
 induction rest with
 |nil=>
  intro h e D Y V z B;have R:=cz D;refine aF ?_;simp only[go_sem,seval,KD,z,G,T,B,q,j,R,bJ]
  simp_all [sN]
 |cons v rest ih=>
  intro h e D Y V z B
  let⟨hlt,hat⟩:=cH D
  have A:=λlc k=>S.at bL.2.2.1 hat lc k;have N:IntKind.i64.wrap (((J h:Nat):Int)+1)=((J h+1:Nat):Int):=by rw[ka w_ w_];omega
  refine aF ?_;cases hb:aQ 60 ((J v:Nat):Int)with
  |true=>
   simp only[go_sem,seval,KD,ax,z,G,T,B,q,j,hlt,A,vk,hb];exact hr _ (by simp only[sN,seval])
  |false=>
   simp only[go_sem,seval,KD,ax,z,G,T,B,q,j,hlt,A,vk,hb,N];refine ih (h++[v]) _ (cP D) ?_ ?_ ?_ ?_<;>simp only[sN,seval,Y,V,z,sA]
variable{rl:vx}
def ane{l:ba}(V:aq 6 Obj.val ov l)(hg:∀o∈l,o.rf)(R:aq 1 ax vv views)(G:J views<small)(A:aq 8 aZ.val rv rl)(ok:∀x∈rl,x.OkS)(N:J rl<small)(hn:n<=1000000)(Y:s.gE<=s.aL):∃b:Bool,ai Q 32 [.agg [ov],.agg [w0,w1,w2,w3,vv,rv],ak n] s (.bool b) s/\(b=O->(J l<=n/\∀o∈l,J o.gT<=12)/\J views<=3/\J rl<=5/\∀x∈rl,x.Ok):=by
 have a0:=V.cs;have z:=R.gt;have q:=R.lenS bL;have B:=A.gt
 let⟨b1,q1,f1⟩:=W8 (Q:=Q) V hg hn Y
 let⟨b2,q2,f2⟩:=ani (Q:=Q) A ok N Y
 obtain⟨lc,j⟩:=cw (Ag.Loc.set (Ag.Loc.set [] 3 1 [ov]) 4 1 [w0,w1,w2,w3,vv,rv]);have D:lc.get 4 1=X [w0,w1,w2,w3,vv,rv]:=by rw[<-j];rfl
 have S:lc.gen 4=1:=by rw[<-j];rfl
 have l3:lc.get 3 1=X [ov]:=by rw[<-j];rfl
 have g3:lc.gen 3=1:=by rw[<-j];rfl
 obtain⟨v,s',h1,b,rfl,rfl,h2⟩:∃v s',ai Q 32 [.agg [ov],.agg [w0,w1,w2,w3,vv,rv],ak n] s v s'/\∃b:Bool,v=.bool b/\s'=s/\(b=O->(J l<=n/\∀o∈l,J o.gT<=12)/\J views<=3/\J rl<=5/\∀x∈rl,x.Ok):=by
  refine ai.ofNRZ aur (aM ?_);simp only[go_sem,seval,j];refine awm R G (n:=n) D S (λe r2 r3 T=>?_) (λe h6=>?_) views [] _ rfl ?_ ?_ ?_ ?_;simp only[go_sem,seval,r2,r3,l3];refine aV.of q1 d_ ?_;cases b1;simp only[go_sem,seval];exact⟨_,rfl,I,rfl,λh=>by cases h⟩;cases e2:bV ((J views:Nat):Int) 3;simp only[go_sem,seval,T,D,S,z,q,e2];exact⟨_,rfl,I,rfl,λh=>by cases h⟩;have h3:=of_decide_eq_true e2;simp only[go_sem,seval,T,D,S,z,q,B,e2];refine aV.of q2 d_ ?_;simp only[go_sem,seval];exact⟨_,rfl,b2,rfl,λh=>⟨f1 rfl,w_,f2 h⟩⟩;simp only[go_sem,seval,h6];exact⟨_,rfl,I,rfl,λh=>by cases h⟩
  all_goals simp_all [sG]
 exact⟨b,h1,h2⟩
variable{l:vy}
def aBg{ev:aa}(hl:aq 15 aA.val ev l)(hg:∀e∈l,e.Ok)(c2:J l<=1000000)(hx:∀e lc s tv,bR 6 lo s tv ((l.map aA.obj).map Obj.val)->s.gE<=s.aL->ac e 2=.uV 2 1 0->ac e 3=.uV 3 1 0->lc.gen 2=1->lc.get 2 1=X [.uP]->lc.gen 3=1->lc.get 3 1=X [tv]->K (.exit 0) ⟨e,22,lc⟩ s):
 ∀(rest h:vy)(e:aw)(lc:Ag.Loc)(s:St)(tv:aa),l=h++rest->bR 6 lo s tv ((h.map aA.obj).map Obj.val)->lo<=s.aL->s.gE<=s.aL->ac e 0=ev->ac e 2=.uV 2 1 0->ac e 3=.uV 3 1 0->ac e 4=ak (J h)->lc.gen 2=1->lc.get 2 1=X [.uP]->lc.gen 3=1->lc.get 3 1=X [tv]->W Q 35 (.loop QV) ⟨e,22,lc⟩ s K:=by
 intro rest;have N:=hl.cs;have G:=hl.lenS kx
 induction rest with
 |nil=>
  intro h e lc s tv D j B A R e2 V T g2 l2 S l3;have b7:=cz D;have b6:h=l:=by rw[D];simp
  rw[b6]at j;refine aF ?_;simp only[go_sem,seval,QV,R,T,N,G,b7,bJ];exact hx _ _ s tv j A (by simp only[sN,seval,e2]) (by simp only[sN,seval,V]) g2 l2 S l3
 |cons d rest ih=>
  intro h e lc s tv D j B A R e2 V T g2 l2 S l3
  let⟨hlt,hat⟩:=cH D
  have gd:=hg d (co hat);have oc:=gd.obj.all;have b8:=λlc k=>hl.at kx.2.2.1 hat lc k;have b0:=cm (n:=J h) w_;have a0:=j.gt;have c1:=j.isL.cs;have c0:bR 6 lo s.top tv ((h.map aA.obj).map Obj.val):=j.keep (λ_ _=>rfl) (aD _)
  let⟨tv',s1,a1,Y,a3,a4,a5,a6,a7⟩:=I6 (t:=22) dY.1 rfl d_ (s:=s.top) (y:=.list 6 [d.obj.val] .Al) (x:=d.obj.val) (yt:=[]) c0 (by simp only[ce,cR]) (by rw[bj,bj,bn];omega) B (aD _)
  have b1:s1.ci=s.ci:=a6;have b2:s.aL<=s1.aL:=by have:s1.aL=s.aL+1:=a4;omega
  have Y:bR 6 lo (s.xW s1) tv' (((h++[d]).map aA.obj).map Obj.val):=by
   rw[db,db];exact Y.keep (λ_ _=>rfl) (aD _)
  have q:=Y.gt;have e1:d.obj.val=.agg [.str d.obj.id,ah d.obj.mT,ah d.obj.x,ah d.obj.y,d.obj.refsV,d.obj.tagsV]:=rfl;rw[e1]at a1;refine aF ?_;simp only[go_sem,seval,QV,R,T,N,G,hlt];have a9:=iL A;have z:(s.xW s1).gE<=(s.xW s1).aL:=mU A b2;have a8:=iL z;refine⟨A,?_⟩;simp only[go_sem,seval,R,V,T,S,l3,b8,aA.val,aA.cells,a0,a9,a8,a1,a3,q,b1,b2,b0,sB];refine ih (h++[d]) _ _ _ tv' (by rw[D];simp) Y (by show lo<=s1.aL;omega) z ?_ ?_ ?_ ?_ ?_ ?_ ?_ ?_
  all_goals simp only[jW,sL,seval,R,e2,V,g2,l2,S]
def aBh{ev:aa}(q:aq 15 aA.val ev l)(G:∀e∈l,e.Ok)(j:J l<=1000000)(D:s.gE<=s.aL):∃v s',ai Q 35 [ev] s v s'/\(s'.gE<=s'.aL/\∃tv,v=.agg [tv]/\aq 6 Obj.val tv (l.map aA.obj)):=by
 have R:=q.cs;have N:=q.lenS kx;refine ai.ofNRZ auu (aM ?_);simp only[go_sem,seval,KI];refine aBg q G j (lo:=s.aL) (λe lc Y tv z h T S g2 B g3 A=>?_) l [] _ _ s .uP rfl (.inl R_) (aD _) D ?_ ?_ ?_ ?_ ?_ ?_ ?_ ?_;have V:=z.isL.cs;simp only[go_sem,seval,T,S,B,A];exact⟨_,rfl,h,tv,rfl,z.isL⟩
 all_goals first|(simp only[sL,seval];done)|(simp only[sL,seval];rfl)|rfl
variable{P:Prop}
def anj{ev:aa}(S:ov.gt=O/\ov.cells=[ov])(D:aq 15 aA.val ev l)(G:∀e∈l,e.Ok)(B:s.gE<=s.aL)(j:∃b:Bool,ai Q 32 [.agg [ov],.agg [w0,w1,w2,w3,vv,rv],ah 20] s (.bool b) s/\(b=O->P)):
 ∃v s',ai Q 17 [.agg [ov],.agg [w0,w1,w2,w3,vv,rv],ev,ah 20,ak 7] s v s'/\(s'.gE<=s'.aL/\∃b:Bool,v=.bool b/\(b=O->P/\J l<=7/\∀d∈l,nS d)):=by
 have A:=D.cs
 let⟨b0,j,h16⟩:=j
 let⟨b,r175,hb⟩:=anf (Q:=Q) D G (n:=7) w_ B
 refine ai.ofNRZ atx (aM ?_);simp only[go_sem,seval,Qg];refine aV.of j d_ ?_;cases b0;simp only[go_sem,seval];exact⟨_,rfl,B,I,rfl,λh=>by cases h⟩;simp only[go_sem,seval,A];refine aV.of r175 d_ ?_;cases b;simp only[go_sem,seval];exact⟨_,rfl,B,I,rfl,λh=>by cases h⟩
 let⟨h7,hf⟩:=hb rfl
 obtain⟨_,Y,q,z,tv,rfl,N⟩:=aBh (Q:=Q) D G w_ B;have R:=N.cs
 let⟨b3,r33,_⟩:=W8 (Q:=Q) N (λo T=>by
  obtain⟨d,V,rfl⟩:=cC.1 T;exact(G d V).obj) (n:=7) w_ z
 simp only[go_sem,seval,A];refine aV.of q d_ ?_;simp only[go_sem,seval];refine aV.of r33 d_ ?_;simp only[go_sem,seval];exact⟨_,rfl,z,b3,rfl,λ_=>⟨h16 rfl,h7,hf⟩⟩
def anh{ev:aa}(q:ov.gt=O/\ov.cells=[ov])(B:aq 15 aA.val ev l)(G:∀e∈l,e.Ok)(D:s.gE<=s.aL)(j:∃b:Bool,ai Q 32 [.agg [ov],.agg [w0,w1,w2,w3,vv,rv],ah 20] s (.bool b) s/\(b=O->P)):
 ∃v s',ai Q 5 [.agg [ov],.agg [w0,w1,w2,w3,vv,rv],ev] s v s'/\(s'.gE<=s'.aL/\∃b:Bool,v=.bool b/\(b=O->P/\J l<=7/\∀d∈l,nS d)):=by
 have A:=B.cs;obtain⟨_,R,h,z,b,rfl,N⟩:=anj q B G D j;refine ai.ofNRZ avr (aM ?_);simp only[go_sem,seval,k5,A];refine aV.of h d_ ?_;simp only[go_sem,seval];exact⟨_,rfl,z,b,rfl,N⟩
def aj3{L:ba}{X_:b_}(h:X_∈ze L rl){q:VQ}(j:q∈X_):∀w∈q.2.1,w∈L.map Obj.id:=by
 have one:∀{o:Obj}{f:Obj->Bool},o∈L.filter f->∀w∈ [o.id],w∈L.map Obj.id:=λ{o f} z w A=>by
  rw[kg.1 A];exact cC.2 ⟨o,(AK.1 z).1,rfl⟩
 have D:∀{a b:ag},a∈L.map Obj.id->b∈L.map Obj.id->∀w∈ [a,b],w∈L.map Obj.id:=λ{a b} B N w A=>by
  simp only[dG,pF,or_false]at A;rcases A with rfl|rfl
  exact B;exact N
 unfold ze at h;simp only[dG,pF,or_false]at h;rcases h with rfl|rfl|rfl|rfl|rfl
 obtain⟨o,z,rfl⟩:=cC.1 j;exact one z;obtain⟨k,R,rfl⟩:=cC.1 j;have R:k∈uL L:=aEa.1 R
 let⟨B,N⟩:=Vu R
 show∀w∈iM k,_;unfold iM;cases k.1==k.2;exact D B N;exact λw A=>by rw[kg.1 A];exact B
 rcases fA.1 j with j|j
 obtain⟨i,S,rfl⟩:=cC.1 j;obtain⟨o,z,rfl⟩:=cC.1 S;exact one z;obtain⟨p,T,rfl⟩:=cC.1 j
 let⟨B,N⟩:=Sg (AK.1 T).1
 have G:∀{i:ag},i∈kC L->i∈L.map Obj.id:=λ{i} S=>by
  obtain⟨o,z,rfl⟩:=cC.1 S;exact cC.2 ⟨o,(AK.1 z).1,rfl⟩
 exact D (G B) (G N);rcases fA.1 j with j|j
 obtain⟨o,z,rfl⟩:=cC.1 j;exact one z;obtain⟨o,z,rfl⟩:=cC.1 j;exact one z;obtain⟨o,z,rfl⟩:=cC.1 j;exact one z
variable{l:ba}
def ajY(h:p∈sZ l views rl):bw l=O/\∀w∈p.2.2.1,w∈l.map Obj.id:=by
 unfold sZ at h;cases hv:bw l;rw[hv]at h;cases h;rw[hv]at h
 let⟨n,_,hp⟩:=sD.1 h
 let⟨X_,hX,hp⟩:=sD.1 hp
 obtain⟨q,z,rfl⟩:=cC.1 hp;exact⟨rfl,λw j=>((Ic l n).map Obj.id).subset (aj3 hX z w j)⟩
def ax6{s:ag}(h:eD s=O):J s<=24:=by
 rcases s with _|⟨b,r⟩
 cases h;have h:(zG b&&Hj r&&aP (b::r).length 24)=O:=h;simp only[bh]at h;exact im h.2
def aGy{q:Obj}(h:dC q=O):eD q.id=O:=by
 unfold dC at h;cases hb:lz q;simp only[lz,v6,decide_eq_false_iff_not,EY]at hb;exact hb.1.1.1.2;rw[hb]at h;cases h
def ajU(h:p∈sZ l views rl):AR p.2.2.1:=by
 let⟨hv,h2⟩:=ajY h
 have q:=ajV h;simp only[bw,bh]at hv;have j:∀w∈p.2.2.1,J w<=24:=λw z=>by
  obtain⟨o,A,rfl⟩:=cC.1 (h2 w z);exact ax6 (aGy (rR l [] hv.1 o A))
 refine⟨w_,?_⟩;generalize p.2.2.1=ids at q j
 match ids,q,j with
 |[],_,_=>exact fN _
 |[a],_,j=>
   have:=j a gG;unfold xj;rw[Lib.join_one];omega
 |[a,b],_,j=>
   have D:=j a gG;have B:=j b (iE _ gG);unfold xj;rw[Lib.join_cons,bK];have:(Lib.joinTail [32] [b]).length=J b+1:=by simp[Lib.joinTail]
   omega
def V0(N:fH 1 jB vv=X views)(A:uJ rv=X rl)(S:dW [wa,wb,wc,wd]=O)(j:J views<=200)(G:∀o∈l,o.rf)(q:xI l=O)(R:J l<=900):CB wa wb wc wd vv rv (λl=>sZ l views rl) l:=by
 have z:=aae;refine⟨?_,λp B=>ajU B,λmv D=>⟨_,aj1 (sS D G w_) N A q j S,by rw[ajX];exact xG _ _ _⟩⟩;have h:=ajW (l:=l) (λ_=>R) views rl;have:(J views+1)*3000000<=201*3000000:=kX _ w_;show(sZ l views rl).length<=_;omega
def azi{j:ba}(z:n<=10)(h1:J l<=20)(q:∀o∈l,J o.gT<=12)(h:nV n l j):xI j=O/\J j<=900:=by
 have D:=Mp q;have B:=h.len;have A:=h.gT;refine⟨?_,w_⟩;unfold xI;rw[Pe.2 ⟨h.valid,w_,w_⟩,Bool.or_true]
def Xa(h1:J l<=20)(h:∀o∈l,J o.gT<=12):dB l<=500:=by
 have:=Mp h;omega
def arD(h:nS e):J e.ids<1000000:=by
 have q:=h.r20;have j:=h.o20;simp only[jW,aA.ids];omega
def axZ(h:n<=1000)(s:St):mo ae 38 (ak n) (ak n) O s=X (.arr 1 s.aL 0 n n,s.new (.cells ((fB n I).map .bool))):=by
 have G:aP n n=O:=bH (aD _);have D:aP (n*1) 1099511627776=O:=bH w_;have B:aP n 1099511627776=O:=bH w_;have A:∀n,eZ [.bool I] n=(fB n I).map aa.bool:=λn=>by
  induction n with
  |zero=>rfl
  |succ n j=>exact congrArg (aa.bool I:: ·) j
 have z:(aa.bool I).cells=[.bool I]:=rfl;have q:dJ (ak n)=X n:=mV _ n;simp only[fb,mo,TB.1,q,G,D,B,Bool.not_true,Bool.and_false,cF,z,A]
def afN{u:be}:∀{U:H_},u∈U->J u<=tot U
 |[],h=>by cases h
 |w::U,h=>by
  have e:tot (w::U)=J w+tot U:=by simp[tot]
  rcases dG.1 h with rfl|h
  omega
  have:=afN h;omega
def ad9(le:vy):∀ks:H_,(ks.flatMap (iu le)).length<=tot ks
 |[]=>aD _
 |u::ks=>by
  have j:=Ef le u;have h:=ad9 le ks;have e:tot (u::ks)=J u+tot ks:=by simp[tot]
  rw[ur,bK];omega
def awx{hd23Sp:Sp}(h4:Q.spec 4=X hd23Sp)(d2:hd23Sp []=X (.bool O))(d5:Q.spec 12=X Bd)(d4:Q.spec 7=X EO){ev q:aa}{le:vy}(ho:aq 6 Obj.val ov l0)(hg:∀o∈l0,o.rf)(a9:aq 15 aA.val ev le)(hw:w0.cells=[w0]/\w1.cells=[w1]/\w2.cells=[w2]/\q.cells=[q]/\vv.cells=[vv]/\rv.cells=[rv])(hm:s.gE<=s.aL)(Y:∃v s',ai Q 5 [.agg [ov],.agg [w0,w1,w2,q,vv,rv],ev] s v s'/\(s'.gE<=s'.aL/\∃b:Bool,v=.bool b/\(b=O->P)))(hP:P->(J l0<=780/\dB l0<=500)/\J le<=7/\(∀d∈le,nS d)/\∃us,EO [ev]=X (dS 1 (us.map ek))/\uF us (J le)/\∀s:St,s.gE<=s.aL->∃v s',ai Q 6 [.agg [ov],.agg [w0,w1,w2,q,vv,rv],ev] s v s'/\(s'.gE<=s'.aL/\∃mv kv cv l rs cs ks,v=.tup [.agg [mv],kv,cv]/\aq 6 Obj.val mv l/\nk le l0 us ks rs [] l/\aq 3 te cv cs/\aq 1 ek kv ks/\yI cs rs)):
 ∃v s',ai Q 3 [.agg [ov],.agg [w0,w1,w2,q,vv,rv],ev] s v s'/\v=.bool O:=by
 have e1:=ho.cs;have a4:=a9.cs;obtain⟨_,s1,Y,d0,b,rfl,hb⟩:=Y;refine ai.ofNRZ auz (aM ?_);simp only[go_sem,seval,k3,a4,h4,d2];refine aV.of Y d_ ?_;cases b with
 |false=>
  simp only[go_sem,seval];exact⟨_,rfl,rfl⟩
 |true=>
  obtain⟨⟨hl,e9⟩,h7,hf,us,c4,hU,V⟩:=hP (hb rfl);obtain⟨_,s2,V,c9,mv,kv,cv,l,rs,cs,ks,rfl,a0,R,a3,a1,B⟩:=V s1 d0;have G:aq 1 ek (dS 1 (us.map ek)) us:=xG 1 ek us;have e4:=a0.cs;have b8:=a1.cs;have d7:=a3.cs;have b2:=G.cs;have b7:=a1.lenS oG;have d6:=a3.lenS EA;have b1:=G.lenS oG;have h3:=R.lens;have h2:=R.sum;have e6:=hU.ln;have e5:=hU.tt;have f0:J cs=J rs:=by rw[<-B.1,bj]
  have A:(ks++rs).Perm us:=by have:=R.perm;rwa [iw]at this
  have T:rs.Sublist us:=by have:=R.sub;rwa [iw]at this
  have c0:IntKind.i64.wrap ((J ks:Int)+(J cs:Int))=((J us:Nat):Int):=by rw[nf];simp only[bn]at h3;omega
  have a8:=axZ (n:=J us) w_ s2;have S:∀u∈us,J u<=10:=λu hu=>by have:=afN hu;omega
  obtain⟨z,hz⟩:=cw (s2.new (.cells ((fB (J us) I).map .bool)));have zn:z.aL=s2.aL+1:=by rw[<-hz];rfl
  have zm:z.get [] s2.aL=X (.cells ((fB (J us) I).map .bool)):=by rw[<-hz];exact cu
  have zw:z.gE<=z.aL:=by rw[<-hz];exact cr c9
  rw[hz]at a8;simp only[go_sem,seval,a4];refine aV.of V d_ ?_;simp only[go_sem,seval,b8,d7,a4,d4,c4,b2,b7,d6,b1,c0,ve,Ma,a8];refine aGo a9 (λe h=>(hf e h).toGood) w_ G a1 hU.ne hU.lt S w_ A (cv:=cv) (m:=s2.aL) (lo:=z.aL) w_ (λe s3 F av hO hF c5 c8 c3 N L=>?_) ks [] _ z (fB (J us) I) .uP rfl (.inl R_) (fN _) (List.length_replicate ..) (by rw[afX];exact A.symm) zm (aD _) zw ?_ ?_ ⟨?_,?_,?_,?_,?_,?_,?_,?_⟩
  ·have D:=hO.isL
   simp only[go_sem,seval];refine aGp (av:=av) G a3 B.2 hU.ne S w_ (by rw[B.1];exact T) (by rw[B.1];exact hU.up.sublist T) (m:=s2.aL) (λe s4 a6 N L=>?_) cs [] _ s3 F rfl hF (by rw[B.1];exact c5) c8 c3 ?_ ?_ (L.mv ?_);have b0:=D.cs;have a5:=D.lenS kx;have e3:=L.h3;have e7:=L.h7;have e8:=L.h8;obtain⟨es,a2⟩:=cw (ks.flatMap (iu le));have j:=R.tk;have c6:=ad9 le ks;rw[a2]at D a5 j c6;cases hq:aj (J es:Int) 0 with
   |true=>
    have he:es=[]:=su (by have:=of_decide_eq_true hq;omega);subst he;cases j;have run:=ae0 (Q:=Q) a0 ho hg w_ a6;simp only[go_sem,seval,e3,e7,e8,N,b0,a5];refine aV.of run d_ ?_;simp only[go_sem,seval];exact⟨_,rfl,rfl⟩
   |false=>
    have c7:es≠[]:=λh=>by rw[h]at hq;cases hq
    have hk:ks≠[]:=λh=>c7 (by rw[<-a2,h];rfl);obtain⟨e2,i,f1,b6,e0,a7⟩:=Wu ho hg w_ w_ D (λe he=>by
     rw[<-a2]at he;obtain⟨u,_,h⟩:=sD.1 he;exact hf e (ad7 h)) w_
    obtain⟨c1,c2⟩:=R.cl hk;rcases a7 with⟨_,h⟩|⟨rfl,l',d1,_,hM,_⟩
    rw[h c1 c2]at j;cases j;rw[hM]at j;cases j;have run:=ae0 (Q:=Q) d1 a0 R.good (by have:=R.len;omega) a6;simp only[go_sem,seval,e3,e7,e8,N,b0,a5,hq,d5,b6,ve];refine aV.of run d_ ?_;simp only[go_sem,seval];exact⟨_,rfl,rfl⟩
   all_goals simp only[sN,seval,N,bn,and_self]
   all_goals rfl
  all_goals first|(simp only[sL,seval,bn];done)|(simp only[sL,seval,bn];rfl)|rfl
noncomputable def Uu:de:=[(4,hd23Sp),(20,oW),(12,Bd),(7,EO),(44,qi)]
def agz:eh Uu:=.cons apd (.cons VY (.cons (Ji _ _) (.cons (Ji _ _) (.cons YL .nil))))
def JI(h:uY v=O):v.cells=[v]:=by
 cases v<;>first|rfl|cases h
def aww{ev y0 S R D:aa}{le:vy}(hl:aq 6 Obj.val v l)(hg:∀o∈l,o.rf)(hs:J l<small)(a1:wZ y0 S R D=O)(hV:aq 1 ax vv views)(a3:J views<small)(a4:aq 8 aZ.val rv rl)(V:∀x∈rl,x.OkS)(a5:J rl<small)(a6:aq 15 aA.val ev le)(B:∀e∈le,e.Ok)(G:Gh)(h:aC aI)(w:World)(xs:er)(wr:WR G h w)(hx:bO G [.agg [v],.agg [y0,S,R,D,vv,rv],ev] xs):
 kh ae 3 ⟨xs⟩ w λr w'=>∃G',WR G' h w'/\ck G h w G' h w' 0 0/\VR G' (.bool O) r:=by
 let⟨ht,v',hw,hl'⟩:=pg hl hg
 let⟨ht2,j⟩:=aC0 a4 V
 let⟨ht3,q⟩:=qh qC hV
 let⟨ht4,hew'⟩:=OX a6 λe he=>by
  have h1:=(B e he).pr;have h2:=(B e he).obj.pr;have h3:=(B e he).obj.pt;simp only[aA.val,aA.cells,br,pures,h1,h2,h3,cj]
 have T:=anz a1;have hw:di [.agg [v],.agg [y0,S,R,D,vv,rv],ev]=[.agg [v'],.agg [dh y0,dh S,dh R,dh D,dh vv,dh rv],dh ev]:=by
  simp only[di,dh];rw[<-hw];simp only[dh,di]
 have z:=Ph a1;simp only[dW,bh]at z;have A:=T;simp only[wZ,bh]at A;refine jd agz (W:=[]) .nil (args:=[.agg [v],.agg [y0,S,R,D,vv,rv],ev]) (by
  have:Ag.d8 (.agg [y0,S,R,D,vv,rv])=O:=by
   simp only[Ag.d8,dW,z.1,z.2.1,z.2.2.1,z.2.2.2.1,ht2,ht3,cj]
  show(Ag.d8 (.agg [v])&&(Ag.d8 (.agg [y0,S,R,D,vv,rv])&&(Ag.d8 ev&&_)))=O;rw[ht,this,ht4];rfl) (λch=>?_) G h w xs wr hx
 rw[hw];have Y:=And.intro (JI A.1) (And.intro (JI A.2.1) (And.intro (JI A.2.2.1) (And.intro (JI A.2.2.2) (And.intro q.cs.2 j.cs.2))));have a2:=oo nY q;obtain⟨v,s',a0,rfl⟩:=awx (Q:=QW Uu [] ch) (hd23Sp:=hd23Sp) rfl rfl rfl rfl hl' hg hew' Y (s:=s0) (aD _)
  (anh hl'.cs hew' B (aD _) (ane hl' hg q a3 j V a5 (n:=20) w_ (aD _)))
  (λhP=>by
   let⟨⟨⟨a,b⟩,c,d,e⟩,h7,hf⟩:=hP
   obtain⟨us,q1,q2⟩:=aGd hew' (λe h=>(hf e h).toGood) (λe h=>arD (hf e h)) w_;exact⟨⟨w_,Xa a b⟩,h7,hf,us,q1,q2,λs hm=>aEo rfl rfl rfl rfl hl' hg hew' hf q1 q2 w_ w_ (Xa a b) (V0 a2 (I8 j e w_) (Ph T) w_ hg (azj w_ b) w_) (λl2 N=>by
    let⟨k1,k2⟩:=azi w_ a b N
    exact V0 a2 (I8 j e w_) (Ph T) w_ N.good k1 k2) Y hm⟩)
 exact⟨_,_,a0,⟨1,rfl⟩⟩
def MC:Value->df
 |.bool b=>X (.bool b)
 |.int k n=>X (.int k n)
 |.string s=>X (.str s.data.toList)
 |.slice Z 0 0=>X .uP
 |_=>Z
variable{x:Value}
def aDr{G:Gh}(h:MC x=X v):v.scal=O/\VR G v x:=by
 unfold MC at h;split at h;cases h;exact⟨rfl,.bool _⟩;cases h;exact⟨rfl,.int _ _⟩;cases h;exact⟨rfl,.str _⟩;cases h;exact⟨rfl,.uP⟩;cases h
def sY(W:World)(b o:Nat):df:=(W.cell? ⟨b,o,Z⟩).bind MC
open Classical in
noncomputable def pick(P:aa->Prop):df:=if h:∃v,P v then X (Classical.choose h)else Z
variable{P:aa->Prop}
theorem aA8(h:pick P=X v):P v:=by
 unfold pick at h;split at h<;>grind
theorem aA7(h:P v):∃u,pick P=X u/\P u:=by
 have e:∃v,P v:=⟨v,h⟩
 grind [pick]
abbrev y_:=Nat->Nat->aa->Prop
def wJ{α:Type}(sz:Nat)(en:α->aa)(rf:α->Prop)(Cl:y_)(x:Value)(v:aa):Prop:=
 ∃(a:Addr)(len h:Nat)(l:List α),x=.slice (X a) len h/\v=.list sz (l.map en) .no/\(h=0\/a.spot=Z)/\J l=len/\len<=h/\len<small/\(∀s∈l,rf s)/\∀(i j:Nat)(s:α)(c:aa),l[i]?=X s->(en s).cells[j]?=X c->Cl a.block (a.off+(i*sz+j)) c
def yP(W:World)(b o:Nat)(c:aa):Prop:=sY W b o=X c
abbrev A0(W:World):=wJ 1 ax (λs=>J s<small) (yP W)
abbrev IZ(W:World):=wJ 2 bZ (λt=>J t.1<small/\J t.2<small) (yP W)
noncomputable def vR(W:World)(b o:Nat):df:=
 (W.cell? ⟨b,o,Z⟩).bind λx=>match W.cell? ⟨b,o-1,Z⟩with
  |some (.int _ _)=>pick (A0 W x)
  |some (.slice _ _ _)=>pick (IZ W x)
  |some (.string _)=>pick (A0 W x)
  |_=>Z
noncomputable def kR(W:World):Gh where
 at_ _:=Z
 dim _:=Z
 ro b o:=(sY W b o).or (vR W b o)
variable{o:Nat}{c:aa}
def Af{W:World}(h:W.cell? ⟨b,o,Z⟩=X x)(j:MC x=X c):yP W b o c:=by
 unfold yP sY;rw[h];exact j
def zA{W:World}(h:yP W b o c):(kR W).ro b o=X c:=by
 show(sY W b o).or _=_;rw[show sY W b o=X c from h];rfl
theorem adg:∀{l:az}{i:Nat}{v:aa},l[i]?=X v->mW l i=v
 |[],_,_,h=>by simp at h
 |_::_,0,_,h=>by simpa[mW]using h
 |_::l,i+1,v,h=>adg (l:=l) (i:=i) (by simpa using h)
theorem anw(j:∀x∈xs,J x.cells=sz)(h:(au xs)[i]?=X y):∃v,xs[i / sz]?=X v/\v.cells[i % sz]?=X y/\i=i / sz*sz+i % sz:=by
 grind [nC,Nat.div_lt_iff_lt_mul,Nat.mod_lt,Nat.div_add_mod,Xg,adg]
section
variable{W:World}{α:Type}{sz:Nat}{en:α->aa}{rf:α->Prop}{Cl:y_}
def aeO(h:wJ sz en rf Cl x v)(T:0<sz)(z:∀s,(en s).cells.length=sz)(S:∀b o c,Cl b o c->(kR W).ro b o=X c):VR (kR W) v x:=by
 obtain⟨d,len,B,l,rfl,rfl,A,N,R,_,_,j⟩:=h;have G:(l.map en).length=len:=by rw[bj,N]
 have D:∀y∈l.map en,J y.cells=sz:=λy q=>by
  obtain⟨s,_,rfl⟩:=cC.1 q;exact z s
 have:VR (kR W) (.list sz (l.map en) .no) (.slice (X d) (l.map en).length B):=by
  refine .list A T D (by rw[G];exact R) (λi y q=>?_) trivial
  let⟨u,h1,h2,h3⟩:=anw D q
  rw[gZ,pH]at h1;obtain⟨s,e,rfl⟩:=h1;rw[h3];exact S _ _ _ (j _ _ _ _ e h2)
 rwa [G]at this
def aCO(h:wJ sz en rf Cl x v)(j:∀s,br (en s)=O):∃l,aq sz en v l/\J l<small/\(∀s∈l,rf s)/\br v=O:=by
 obtain⟨_,_,_,l,_,rfl,_,z,_,A,q,_⟩:=h;exact⟨l,.inr ⟨_,rfl⟩,w_,q,by simp only[br,BU j l,cj]⟩
def aCP(h:wJ sz en rf Cl x v):v.scal=O:=by
 obtain⟨_,_,_,_,_,rfl,_⟩:=h;rfl
def BZ(h:x=.slice Z 0 0\/∃v,wJ sz en rf Cl x v)(B:0<sz)(j:∀s,(en s).cells.length=sz)(z:∀b o c,Cl b o c->(kR W).ro b o=X c):∃(v:aa)(l:List α),VR (kR W) v x/\v.scal=O/\aq sz en v l/\(∀o∈l,rf o)/\J l<small:=by
 rcases h with rfl|⟨v,h⟩
 exact⟨.uP,[],.uP,rfl,.inl R_,(λ_ h=>by cases h),show 0<small from d_⟩;have q:=aeO h B j z;obtain⟨_,_,_,l,_,rfl,_,D,_,G,A,_⟩:=h;exact⟨_,l,q,rfl,.inr ⟨_,rfl⟩,A,w_⟩
def Ei(A:∀s,br (en s)=O)(j:W.cell? ⟨b,o,Z⟩=X x)(z:x=.slice Z 0 0\/∃v,wJ sz en rf (yP W) x v)(h:vR W b o=pick (wJ sz en rf (yP W) x)):∃(v:aa)(l:List α),(kR W).ro b o=X v/\aq sz en v l/\J l<small/\(∀s∈l,rf s)/\br v=O:=by
 rcases z with rfl|⟨u,q⟩
 exact⟨.uP,[],zA (Af j rfl),.inl R_,show 0<small from d_,(λs h=>by cases h),rfl⟩
 let⟨v,h1,h2⟩:=aA7 q
 let⟨l,g⟩:=aCO h2 A
 refine⟨v,l,?_,g⟩;show(sY W _ _).or _=_;have e:sY W b o=Z:=by
  obtain⟨_,_,_,_,rfl,_⟩:=q;unfold sY;rw[j];rfl
 rw[e,h,h1];rfl
end
def aoj(W:World):WR (kR W) .nil W where
 obj m o h:=by cases h
 sep m k x y h:=absurd rfl h
 ro b o v h:=by
  have h:(sY W b o).or (vR W b o)=X v:=h;cases e:sY W b o with
  |some u=>
   rw[e]at h;simp only[Option.some_or,Option.some.injEq]at h;subst h;unfold sY at e;rw[an]at e
   let⟨x,h1,h2⟩:=e
   let⟨h3,h4⟩:=aDr (G:=kR W) h2
   exact⟨h3,x,h1,h4⟩
  |none=>
   rw[e]at h;simp only[Option.none_or]at h;unfold vR at h;rw[an]at h
   let⟨x,h1,h2⟩:=h
   split at h2
   case h_4=>cases h2
   all_goals
    have h3:=aA8 h2;exact⟨aCP h3,x,h1,aeO h3 d_ (λ_=>rfl) (λ_ _ _=>zA)⟩
 apart m ob x i v h:=by cases h
 dim b d h:=by cases h
 below m x h:=by cases h
abbrev hQ{H:Type}(enc:TypeId×Value->H)(W:World)(held:Bool)(n:Nat)(t:TypeId)(L:er)(i:Nat)(y:DataW H×List MemPlace):Prop:=DataW.trod enc ae W 0 (λ_=>O) held n t ((L.drop i).take (ae.cellsOf t))=X y
variable{a:Addr}{ps:List MemPlace}{fuel:Nat}{α:Type}{e:TypeId}{v:Value}
section
variable{H:Type}{enc:TypeId×Value->H}{W:World}{held:Bool}
theorem Cd:ae.underlying 3=X (.int .i64):=k_
def Fz:ae.cellsOf 9=1:=k_
theorem CS:ae.cellsOf 3=1:=k_
def Jj:ae.cellsOf 25=1:=k_
def ajf:ae.cellsOf 51=1:=k_
def Oo:ae.cellsOf 50=2:=k_
def Oq:ae.cellsOf 105=2:=k_
def Jk:ae.cellsOf 53=6:=k_
def VL:ae.cellsOf 24=1:=k_
def VJ:ae.cellsOf 22=1:=k_
def ua:ae.underlying 9=X .string:=k_
def aFW:ae.underlying 51=X (.slice 105):=k_
def afS:ae.underlying 22=X (.slice 53):=k_
theorem aEr(h:W.cell? a=X v):a.spot=Z:=by
 unfold World.cell? at h;split at h<;>simp_all
theorem ahx(h:a.spot=Z)(i:Nat):a.add i=⟨a.block,a.off+i,Z⟩:=by
 let⟨b,o,sp⟩:=a
 grind [oP]
theorem acH(h:n<=maxLen):n<small:=by
 grind [maxLen,small]
def t6{s:ByteArray}(h:s.size<=maxLen):J s.data.toList<small:=by
 simp_all [acH]
def awC{l:List α}(h:J l=1):∃a,l=[a]:=by
 match l,h with
 |[a],_=>exact⟨a,rfl⟩
def ab9{l:List α}(h:J l=2):∃a b,l=[a,b]:=by
 match l,h with
 |[a,b],_=>exact⟨a,b,rfl⟩
def awE{l:List α}(h:J l=5):∃a b c d e,l=[a,b,c,d,e]:=by
 match l,h with
 |[a,b,c,d,e],_=>exact⟨a,b,c,d,e,rfl⟩
def RY{l:List α}(h:J l=6):∃a b c d e f,l=[a,b,c,d,e,f]:=by
 match l,h with
 |[a,b,c,d,e,f],_=>exact⟨a,b,c,d,e,f,rfl⟩
def awH{l:List α}(h:J l=9):∃a b c d e f g k i,l=[a,b,c,d,e,f,g,k,i]:=by
 match l,h with
 |[a,b,c,d,e,f,g,k,i],_=>exact⟨a,b,c,d,e,f,g,k,i,rfl⟩
def awD{l:List α}(h:J l=15):∃a b c d e f g k i D B A z q j,l=[a,b,c,d,e,f,g,k,i,D,B,A,z,q,j]:=by
 match l,h with
 |[a,b,c,d,e,f,g,k,i,D,B,A,z,q,j],_=>exact⟨a,b,c,d,e,f,g,k,i,D,B,A,z,q,j,rfl⟩
def afR{cs:er}{x:DataW H×List MemPlace}(h:DataW.trod enc ae W 0 (λ_=>O) held fuel 105 cs=X x):∃k v:ag,cs=[.string ⟨⟨k⟩⟩,.string ⟨⟨v⟩⟩]/\J k<small/\J v<small:=by
 let⟨y0,y1,n,_,hl,h0,h1⟩:=Go.ChangeShapes.trod_struct2 Tryz.underlying105 h
 rw[Oq]at hl;obtain⟨a,b,rfl⟩:=ab9 hl;rw[Fz]at h0 h1
 let⟨s,e0,_,hs⟩:=DataW.trod_string ua h0
 let⟨r,e1,_,hr⟩:=DataW.trod_string ua h1
 simp only[kz,wt,wu,lP,aT]at e0;simp only[uq,kz,wt,wu,lP,aT]at e1;subst e0;subst e1;exact⟨s.data.toList,r.data.toList,rfl,t6 hs,t6 hr⟩
theorem afQ{cs:er}{x:DataW H×List MemPlace}(h:DataW.trod enc ae W 0 (λ_=>O) held fuel 50 cs=X x):∃k v:Int,cs=[.int .i64 k,.int .i64 v]:=by
 let⟨y0,y1,n,_,hl,h0,h1⟩:=Go.ChangeShapes.trod_struct2 Tryz.underlying50 h
 rw[Oo]at hl;obtain⟨a,b,rfl⟩:=ab9 hl
 grind [CS,DataW.trod_int,Cd]
theorem acg{α:Type}{P:Nat->α->Prop}:∀(n:Nat),(∀i,i<n->∃o,P i o)->∃l:List α,J l=n/\∀(i:Nat) o,l[i]?=X o->P i o
 |0,_=>⟨[],rfl,λi o h=>by simp at h⟩
 |n+1,h=>by
  let⟨l,h1,h2⟩:=acg n λi q=>h i w_
  let⟨o,ho⟩:=h n w_
  refine⟨l++[o],by simp[h1],λi p j=>?_⟩
  grind
theorem alF{c:Nat}{q:List (DataW H×List MemPlace)}(A:ae.cellsOf e=c)(hi:i<J q)(z:a.spot=Z)(h:(W.cells? 0 (a.add (i*ae.cellsOf e)) (ae.cellsOf e)).bind (DataW.trod enc ae W 0 (λ_=>O) held n e)=q[i]?):
 ∃cs y,DataW.trod enc ae W 0 (λ_=>O) held n e cs=X y/\J cs=c/\∀j,j<c->W.cell? ⟨a.block,a.off+(i*c+j),Z⟩=cs[j]? :=by
 rw[A,dp hi,an]at h
 let⟨cs,h1,h2⟩:=h
 let⟨_,hl,hcell⟩:=World.cells?_some h1
 grind [ahx]
theorem aD2{len cap:Nat}{q rest:List (DataW H×List MemPlace)}(z:0<ae.cellsOf e)(D:J q=len)(N:len<=cap)(T:∀i,i<len->(W.cells? 0 (a.add (i*ae.cellsOf e)) (ae.cellsOf e)).bind (DataW.trod enc ae W 0 (λ_=>O) held n e)=q[i]?)(A:J rest=cap-len/\∀j,j<cap-len->(W.cells? 0 (a.add ((len+j)*ae.cellsOf e)) (ae.cellsOf e)).bind (DataW.trod enc ae W 0 (λ_=>O) held n e)=rest[j]?):cap=0\/a.spot=Z:=by
 rcases IE cap with G|G
 exact .inl G;refine .inr ?_;have R:∀o:Option (DataW H×List MemPlace),o.isSome=O->(W.cells? 0 (a.add (0*ae.cellsOf e)) (ae.cellsOf e)).bind (DataW.trod enc ae W 0 (λ_=>O) held n e)=o->a.spot=Z:=by
  intro o S h;rcases o with _|y
  cases S;rw[an]at h
  let⟨cs,B,_⟩:=h
  let⟨_,hl,hcell⟩:=World.cells?_some B
  have:=hcell 0 z;rw[Nat.zero_mul]at this;have V:(a.add 0).add 0=a:=rfl
  grind [aEr]
 rcases IE len with B|B
 have:=A.2 0 w_
 grind
 grind
def BQ{en:α->aa}{E:TypeId}{rf:α->Prop}{Cl:y_}(ut:ae.underlying t=X (.slice E))(Y:ae.cellsOf E=sz)(D:0<sz)(el:∀{n:Nat}{cs:er}{y:DataW H×List MemPlace}{b o:Nat},DataW.trod enc ae W 0 (λ_=>O) held n E cs=X y->(∀j,j<sz->W.cell? ⟨b,o+j,Z⟩=cs[j]?)->∃s:α,rf s/\∀(j:Nat) c,(en s).cells[j]?=X c->Cl b (o+j) c){cs:er}{x:DataW H×List MemPlace}(h:DataW.trod enc ae W 0 (λ_=>O) held fuel t cs=X x):∃val,cs=[val]/\(val=.slice Z 0 0\/∃v,wJ sz en rf Cl val v):=by
 rcases DataW.trod_slice ut h with⟨rfl,_⟩|⟨a,len,V,T,rest,n,_,rfl,_,_,R,hm,z,B,G,_⟩
 exact⟨_,rfl,.inl rfl⟩;have q:=aD2 (by rw[Y];exact D) z R B (G rfl)
 let⟨l,t1,t2⟩:=acg (P:=λi s=>rf s/\∀(j:Nat) c,(en s).cells[j]?=X c->Cl a.block (a.off+(i*sz+j)) c) len λi A=>by
  have N:a.spot=Z:=by
   rcases q with D|D
   omega;exact D
  let⟨cs,y,q1,q2,q3⟩:=alF Y w_ N (B i A)
  let⟨s,g1,g2⟩:=el (b:=a.block) (o:=a.off+i*sz) q1 λj hj=>by rw[sE];exact q3 j hj
  exact⟨s,g1,λj c S=>by have:=g2 j c S;rwa [sE]at this⟩
 refine⟨_,rfl,.inr ⟨_,a,len,V,l,rfl,rfl,q,t1,R,acH (dj R hm),λs N=>?_,λi j s c A S=>(t2 i s A).2 j c S⟩⟩
 let⟨i,A⟩:=List.getElem?_of_mem N
 exact(t2 i s A).1
def HC{cs:er}{x:DataW H×List MemPlace}(h:DataW.trod enc ae W 0 (λ_=>O) held fuel 25 cs=X x):∃v,cs=[v]/\(v=.slice Z 0 0\/∃u,A0 W v u):=
 BQ aFR Fz d_ (λh A=>by
  obtain⟨s,rfl,_,z⟩:=DataW.trod_string ua h;refine⟨s.data.toList,t6 z,λj c q=>?_⟩
  match j,q with
  |0,q=>exact Af (A 0 d_) q
  |_+1,q=>cases q) h
def aAh{cs:er}{x:DataW H×List MemPlace}(h:DataW.trod enc ae W 0 (λ_=>O) held fuel 51 cs=X x):∃v,cs=[v]/\(v=.slice Z 0 0\/∃u,IZ W v u):=
 BQ aFW Oq d_ (λh z=>by
  obtain⟨k,v,rfl,A⟩:=afR h;refine⟨(k,v),A,λj c q=>?_⟩
  match j,q with
  |0,q=>exact Af (z 0 d_) q
  |1,q=>exact Af (z 1 d_) q
  |_+2,q=>cases q) h
def adQ{cs:er}{x:DataW H×List MemPlace}(h:DataW.trod enc ae W 0 (λ_=>O) held fuel 53 cs=X x):
 ∃(id:ag)(k q j:Int)(rv tv:Value),cs=[.string ⟨⟨id⟩⟩,.int .i64 k,.int .i64 q,.int .i64 j,rv,tv]/\J id<small/\(rv=.slice Z 0 0\/∃u,A0 W rv u)/\(tv=.slice Z 0 0\/∃u,IZ W tv u):=by
 let⟨xs,n,_,_,hl,hlen,hf⟩:=DataW.trod_struct Tryz.underlying53 h
 rw[Jk]at hl;obtain⟨a,b,c,d,e,f,rfl⟩:=RY hl;obtain⟨V,T,S,R,N,rfl⟩:=awE (l:=xs) hlen;have G:hQ enc W held n 9 [a,b,c,d,e,f] 0 V:=hf 0 _ rfl;have D:hQ enc W held n 3 [a,b,c,d,e,f] 1 T:=hf 1 _ rfl;have B:hQ enc W held n 50 [a,b,c,d,e,f] 2 S:=hf 2 _ rfl;have A:hQ enc W held n 25 [a,b,c,d,e,f] 4 R:=hf 3 _ rfl;have z:hQ enc W held n 51 [a,b,c,d,e,f] 5 N:=hf 4 _ rfl;simp only[hQ,Fz,CS,Oo,Jj,ajf]at G D B A z
 let⟨s,e0,_,hs⟩:=DataW.trod_string ua G
 let⟨k,e1,_,_⟩:=DataW.trod_int Cd D
 let⟨q,j,e2⟩:=afQ B
 let⟨rv,e3,hr⟩:=HC A
 let⟨tv,e4,ht⟩:=aAh z
 simp only[kz,uq,wt,wu,lP,aT]at e0 e1 e2 e3 e4;obtain⟨rfl,rfl⟩:=e2;subst e0;subst e1;subst e3;subst e4;exact⟨s.data.toList,k,q,j,_,_,rfl,t6 hs,hr,ht⟩
def Wx{cs:er}{y:DataW H×List MemPlace}(h:DataW.trod enc ae W 0 (λ_=>O) held n 53 cs=X y)(B:∀j,j<6->W.cell? ⟨b,o+j,Z⟩=cs[j]?):∃s:Obj,s.rf/\∀(j:Nat) c,s.val.cells[j]?=X c->(kR W).ro b (o+j)=X c:=by
 obtain⟨id,k,V,T,rv,tv,rfl,hid,S,G⟩:=adQ h;have R:=B 3 d_;have z:=B 4 d_;have D:=B 5 d_;obtain⟨y,p,q,N⟩:∃y p q,rv=.slice y p q:=by
  rcases S with rfl|⟨u,_,_,_,_,rfl,_⟩<;>exact⟨_,_,_,rfl⟩
 simp only[AH,Cp]at R z D
 let⟨rV,rs,r1,r2,r3,r4,r5⟩:=Ei qC z S (by simp only[vR,z,aH,show o+4-1=o+3 from rfl,R])
 let⟨tV,ts,t1,t2,t3,t4,t5⟩:=Ei H6 D G (by rw[N]at z;simp only[vR,D,aH,show o+5-1=o+4 from rfl,z])
 refine⟨⟨id,k,V,T,rV,tV,rs,ts⟩,⟨⟨r2,t2,hid,r3,r4,t3,λt G=>(t4 t G).1⟩,r5,t5⟩,λj c A=>?_⟩;rcases j with _|_|_|_|_|_|j<;>first|exact zA (Af (B _ d_) A)|exact sI A▸r1|exact sI A▸t1|cases A
def ajc:ae.cellsOf 26=1:=k_
def ajd:ae.cellsOf 27=1:=k_
def aje:ae.cellsOf 29=6:=k_
def c_4:ae.cellsOf 4=1:=k_
def VN:ae.cellsOf 121=8:=k_
def aFS:ae.underlying 26=X (.slice 3):=k_
def aFT:ae.underlying 27=X (.slice 121):=k_
def aFU:ae.underlying 4=X .bool:=k_
def awG{l:List α}(h:J l=8):∃a b c d e f g k,l=[a,b,c,d,e,f,g,k]:=by
 match l,h with
 |[a,b,c,d,e,f,g,k],_=>exact⟨a,b,c,d,e,f,g,k,rfl⟩
def awF{l:List α}(h:J l=7):∃a b c d e f g,l=[a,b,c,d,e,f,g]:=by
 match l,h with
 |[a,b,c,d,e,f,g],_=>exact⟨a,b,c,d,e,f,g,rfl⟩
def aAg{cs:er}{x:DataW H×List MemPlace}(h:DataW.trod enc ae W 0 (λ_=>O) held fuel 121 cs=X x):
 ∃(st:Bool)(R:ag)(k:Int)(j iv:ag)(op:Int)(key:ag)(vv:Value),cs=[.bool st,.string ⟨⟨R⟩⟩,.int .i64 k,.string ⟨⟨j⟩⟩,.string ⟨⟨iv⟩⟩,.int .i64 op,.string ⟨⟨key⟩⟩,vv]/\J R<small/\J j<small/\J key<small/\(vv=.slice Z 0 0\/∃u,A0 W vv u):=by
 let⟨xs,n,_,_,hl,hlen,hf⟩:=DataW.trod_struct Tryz.underlying121 h
 rw[VN]at hl;obtain⟨a,b,c,d,e,f,g,k,rfl⟩:=awG hl;obtain⟨y0,y1,y2,Y,V,T,S,rfl⟩:=awF (l:=xs) hlen;have N:hQ enc W held n 4 [a,b,c,d,e,f,g,k] 0 y0:=hf 0 _ rfl;have G:hQ enc W held n 9 [a,b,c,d,e,f,g,k] 1 y1:=hf 1 _ rfl;have D:hQ enc W held n 3 [a,b,c,d,e,f,g,k] 2 y2:=hf 2 _ rfl;have B:hQ enc W held n 105 [a,b,c,d,e,f,g,k] 3 Y:=hf 3 _ rfl;have A:hQ enc W held n 3 [a,b,c,d,e,f,g,k] 5 V:=hf 4 _ rfl;have z:hQ enc W held n 9 [a,b,c,d,e,f,g,k] 6 T:=hf 5 _ rfl;have q:hQ enc W held n 25 [a,b,c,d,e,f,g,k] 7 S:=hf 6 _ rfl;simp only[hQ,c_4,Fz,CS,Oq,Jj]at N G D B A z q
 let⟨b0,e0,_⟩:=DataW.trod_bool aFU N
 let⟨s1,e1,_,hs1⟩:=DataW.trod_string ua G
 let⟨k2,e2,_,_⟩:=DataW.trod_int Cd D
 let⟨k3,v3,e3,hk3,_⟩:=afR B
 let⟨k4,e4,_,_⟩:=DataW.trod_int Cd A
 let⟨s5,e5,_,hs5⟩:=DataW.trod_string ua z
 let⟨rv,e6,hr⟩:=HC q
 simp only[kz,uq,wt,wu,lP,aT]at e0 e1 e2 e3 e4 e5 e6;obtain⟨rfl,rfl⟩:=e3;subst e0;subst e1;subst e2;subst e4;subst e5;subst e6;exact⟨b0,s1.data.toList,k2,k3,v3,k4,s5.data.toList,_,rfl,t6 hs1,hk3,t6 hs5,hr⟩
def alE{cs:er}{y:DataW H×List MemPlace}(h:DataW.trod enc ae W 0 (λ_=>O) held n 121 cs=X y)(B:∀j,j<8->W.cell? ⟨b,o+j,Z⟩=cs[j]?):∃s:aZ,s.OkS/\∀(j:Nat) c,s.val.cells[j]?=X c->(kR W).ro b (o+j)=X c:=by
 obtain⟨G,ar,k,R,iv,N,z,rv,rfl,Y,V,T,S⟩:=aAg h;have D:=B 6 d_;have q:=B 7 d_;simp only[AH,Cp]at D q
 let⟨rV,rs,r1,r2,r3,r4,r5⟩:=Ei qC q S (by simp only[vR,q,aH,show o+7-1=o+6 from rfl,D])
 refine⟨⟨G,ar,k,R,iv,N,z,rV,rs⟩,⟨r2,r5,Y,T,V,r3⟩,λj c A=>?_⟩;rcases j with _|_|_|_|_|_|_|_|j<;>first|exact zA (Af (B _ d_) A)|exact sI A▸r1|cases A
def YB{en:α->aa}(j:∀s,br (en s)=O){v:aa}{l:List α}(h:aq sz en v l):uY v=O:=by
 rcases h with⟨rfl,_⟩|⟨_,rfl⟩
 rfl;exact BU j l
def VM:ae.cellsOf 57=15:=k_
def aFX:ae.underlying 30=X (.slice 57):=k_
def aAd{cs:er}{x:DataW H×List MemPlace}(h:DataW.trod enc ae W 0 (λ_=>O) held fuel 57 cs=X x):
 ∃(op:Int)(id other node:ag)(D B:Int)(key value:ag)(rv:Value)(z:ag)(k N G:Int)(q j:Value),cs=[.int .i64 op,.string ⟨⟨id⟩⟩,.string ⟨⟨other⟩⟩,.string ⟨⟨node⟩⟩,.int .i64 D,.int .i64 B,.string ⟨⟨key⟩⟩,.string ⟨⟨value⟩⟩,rv,.string ⟨⟨z⟩⟩,.int .i64 k,.int .i64 N,.int .i64 G,q,j]/\(J id<small/\J other<small/\J node<small/\J key<small/\J value<small/\J z<small)/\(rv=.slice Z 0 0\/∃u,A0 W rv u)/\(q=.slice Z 0 0\/∃u,A0 W q u)/\(j=.slice Z 0 0\/∃u,IZ W j u):=by
 let⟨xs,n,_,_,hl,hlen,hf⟩:=DataW.trod_struct Tryz.underlying57 h
 rw[VM]at hl;obtain⟨a,b,c,d,e,f,g,k,i,a2,b2,c2,d2,A,f2,rfl⟩:=awD hl;obtain⟨y0,y1,y2,y3,y4,y5,y6,y7,y8,rfl⟩:=awH (l:=xs) hlen;obtain⟨L,R⟩:∃L,L=[a,b,c,d,e,f,g,k,i,a2,b2,c2,d2,A,f2]:=⟨_,rfl⟩;rw[<-R]at hf;have h0:hQ enc W held n 3 L 0 y0:=hf 0 _ rfl;have h1:hQ enc W held n 9 L 1 y1:=hf 1 _ rfl;have h2:hQ enc W held n 9 L 2 y2:=hf 2 _ rfl;have h3:hQ enc W held n 9 L 3 y3:=hf 3 _ rfl;have h4:hQ enc W held n 50 L 4 y4:=hf 4 _ rfl;have Y:hQ enc W held n 9 L 6 y5:=hf 5 _ rfl;have V:hQ enc W held n 9 L 7 y6:=hf 6 _ rfl;have T:hQ enc W held n 25 L 8 y7:=hf 7 _ rfl;have S:hQ enc W held n 53 L 9 y8:=hf 8 _ rfl;subst R;simp only[hQ,CS,Fz,Oo,Jj,Jk]at h0 h1 h2 h3 h4 Y V T S
 let⟨k0,e0,_,_⟩:=DataW.trod_int Cd h0
 let⟨s1,e1,_,hs1⟩:=DataW.trod_string ua h1
 let⟨s2,A,_,hs2⟩:=DataW.trod_string ua h2
 let⟨s3,e3,_,hs3⟩:=DataW.trod_string ua h3
 let⟨D,B,e4⟩:=afQ h4
 let⟨s5,e5,_,hs5⟩:=DataW.trod_string ua Y
 let⟨s6,e6,_,hs6⟩:=DataW.trod_string ua V
 let⟨rv,e7,hr⟩:=HC T
 let⟨z,ok,N,G,q,j,e8,ho,hor,hot⟩:=adQ S
 simp only[kz,uq,wt,wu,lP,aT]at e0 e1 A e3 e4 e5 e6 e7 e8;obtain⟨rfl,rfl⟩:=e4;obtain⟨rfl,rfl,rfl,rfl,rfl,rfl⟩:=e8;subst e0;subst e1;subst A;subst e3;subst e5;subst e6;subst e7;exact⟨k0,s1.data.toList,s2.data.toList,s3.data.toList,D,B,s5.data.toList,s6.data.toList,_,z,ok,N,G,_,_,rfl,⟨t6 hs1,t6 hs2,t6 hs3,t6 hs5,t6 hs6,ho⟩,hr,hor,hot⟩
def alD{cs:er}{y:DataW H×List MemPlace}(h:DataW.trod enc ae W 0 (λ_=>O) held n 57 cs=X y)(D:∀j,j<15->W.cell? ⟨b,o+j,Z⟩=cs[j]?):∃s:aA,s.Ok/\∀(j:Nat) c,s.val.cells[j]?=X c->(kR W).ro b (o+j)=X c:=by
 obtain⟨op,id,B,node,px,py,Y,value,rv,V,k,ox,oy,T,a2,rfl,⟨g1,g2,g3,g4,g5,g6⟩,hr,N,a1⟩:=aAd h;have p7:=D 7 d_;have S:=D 8 d_;have G:=D 12 d_;have z:=D 13 d_;have A:=D 14 d_;obtain⟨y,p,q,a0⟩:∃y p q,T=.slice y p q:=by
  rcases N with rfl|⟨u,_,_,_,_,rfl,_⟩<;>exact⟨_,_,_,rfl⟩
 simp only[AH,Cp]at p7 S G z A
 let⟨rV,rs,r1,r2,r3,r4,r5⟩:=Ei qC S hr (by simp only[vR,S,aH,show o+8-1=o+7 from rfl,p7])
 let⟨oV,os,o1,o2,o3,o4,o5⟩:=Ei qC z N (by simp only[vR,z,aH,show o+13-1=o+12 from rfl,G])
 let⟨tV,ts,t1,t2,t3,t4,t5⟩:=Ei H6 A a1 (by rw[a0]at z;simp only[vR,A,aH,show o+14-1=o+13 from rfl,z])
 refine⟨⟨op,id,B,node,px,py,Y,value,rV,rs,⟨V,k,ox,oy,oV,tV,os,ts⟩⟩,⟨r2,r5,⟨⟨o2,t2,g6,o3,o4,t3,λt ht=>(t4 t ht).1⟩,o5,t5⟩,g1,g2,g3,g4,g5,r4⟩,λj c R=>?_⟩;rcases j with _|_|_|_|_|_|_|_|_|_|_|_|_|_|_|j<;>first|exact zA (Af (D _ d_) R)|exact sI R▸r1|exact sI R▸o1|exact sI R▸t1|cases R
def aAe{d:DataW H}(j:v.cells.toList=[v])(h:DataW.Trod enc ae W 0 (λ_=>O) held 30 v d ps):
 ∃(x:aa)(l:vy),VR (kR W) x v/\aq 15 aA.val x l/\(∀e∈l,e.Ok):=by
 let⟨fuel,h⟩:=h
 rw[j]at h
 let⟨val,e,h⟩:=BQ (en:=aA.val) (rf:=aA.Ok) (Cl:=λb o c=>(kR W).ro b o=X c) aFX VM d_ alD h
 obtain rfl:=(List.cons.inj e).1
 let⟨x,l,h1,_,h2,h3,_⟩:=BZ h d_ (λ_=>rfl) (λ_ _ _ h=>h)
 exact⟨x,l,h1,h2,h3⟩
def aAf{d:DataW H}(q:∃cs,v=.agg cs)(h:DataW.Trod enc ae W 0 (λ_=>O) held 24 v d ps):
 ∃(x:aa)(l:ba),VR (kR W) (.agg [x]) v/\aq 6 Obj.val x l/\(∀o∈l,o.rf)/\J l<small:=by
 let⟨fuel,h⟩:=h
 obtain⟨cs,rfl⟩:=q
 let⟨y0,n,_,hl,h0⟩:=Go.ChangeShapes.trod_struct1 Tryz.underlying24 h
 rw[VJ]at h0;have j:(Value.agg cs).cells.toList=cs.toList:=rfl;rw[j]at h0 hl;rw[VL]at hl
 let⟨val,e,h0⟩:=BQ (en:=Obj.val) (rf:=Obj.rf) (Cl:=λb o c=>(kR W).ro b o=X c) afS Jk d_ Wx h0
 let⟨x,l,h1,hsc,h2,h3,h4⟩:=BZ h0 d_ (λ_=>rfl) (λ_ _ _ h=>h)
 have z:cs= #[val]:=by
  let⟨cl⟩:=cs
  obtain⟨c,rfl⟩:=awC (l:=cl) hl;simp only[kz,wt,wu,lP,aT]at e;subst e;rfl
 subst z;refine⟨x,l,.agg ?_ (.cons h1 .nil),h2,h3,h4⟩;simp only[dq,pD,hsc,List.all_nil,cj]
def aAi{d:DataW H}(hv:∃cs,v=.agg cs)(h:DataW.Trod enc ae W 0 (λ_=>O) held 29 v d ps):
 ∃(w0 w1 w2 w3 vv rv:aa)(views:cf)(rl:vx),VR (kR W) (.agg [w0,w1,w2,w3,vv,rv]) v/\wZ w0 w1 w2 w3=O/\aq 1 ax vv views/\J views<small/\aq 8 aZ.val rv rl/\(∀x∈rl,x.OkS)/\J rl<small:=by
 obtain⟨fuel,h⟩:=h;obtain⟨cs,rfl⟩:=hv;obtain⟨xs,n,_,_,B,A,q⟩:=DataW.trod_struct Tryz.underlying29 h;have T:(Value.agg cs).cells.toList=cs.toList:=rfl;rw[T]at B q;rw[aje]at B;obtain⟨cl⟩:=cs;have B:J cl=6:=B;obtain⟨a,b,c,d,e,f,rfl⟩:=RY B;obtain⟨y0,y1,y2,y3,y4,y5,rfl⟩:=RY (l:=xs) A;have z:hQ enc W held n 24 [a,b,c,d,e,f] 0 y0:=q 0 _ rfl;have S:hQ enc W held n 25 [a,b,c,d,e,f] 1 y1:=q 1 _ rfl;have R:hQ enc W held n 26 [a,b,c,d,e,f] 2 y2:=q 2 _ rfl;have h3:hQ enc W held n 3 [a,b,c,d,e,f] 3 y3:=q 3 _ rfl;have N:hQ enc W held n 25 [a,b,c,d,e,f] 4 y4:=q 4 _ rfl;have G:hQ enc W held n 27 [a,b,c,d,e,f] 5 y5:=q 5 _ rfl;simp only[hQ,VL,Jj,ajc,CS,ajd]at z S R h3 N G;obtain⟨z0,n0,_,a3,z⟩:=Go.ChangeShapes.trod_struct1 Tryz.underlying24 z;simp only[VJ]at z;obtain⟨a2,e0,z⟩:=BQ (en:=Obj.val) (rf:=Obj.rf) (Cl:=λb o c=>(kR W).ro b o=X c) afS Jk d_ Wx z;obtain⟨v0,l0,r0,s0,i0,g0,_⟩:=BZ z d_ (λ_=>rfl) (λ_ _ _ h=>h);obtain⟨a1,e1,S⟩:=HC S;obtain⟨v1,l1,r1,s1,i1,_⟩:=BZ S d_ (λ_=>rfl) (λ_ _ _=>zA);obtain⟨a0,e2,R⟩:=BQ (en:=aa.int .i64) (rf:=λ_=>True) (Cl:=yP W) aFS CS d_ (λh hc=>by
  obtain⟨k,rfl,_,_⟩:=DataW.trod_int Cd h;refine⟨k,trivial,λj c D=>?_⟩
  match j,D with
  |0,D=>exact Af (hc 0 d_) D
  |_+1,D=>cases D) R
 obtain⟨v2,l2,r2,s2,i2,_⟩:=BZ R d_ (λ_=>rfl) (λ_ _ _=>zA);obtain⟨k3,e3,_,_⟩:=DataW.trod_int Cd h3;obtain⟨Y,e4,N⟩:=HC N;obtain⟨v4,l4,r4,s4,i4,_,n4⟩:=BZ N d_ (λ_=>rfl) (λ_ _ _=>zA);obtain⟨V,e5,G⟩:=BQ (en:=aZ.val) (rf:=aZ.OkS) (Cl:=λb o c=>(kR W).ro b o=X c) aFT VN d_ alE G;obtain⟨v5,l5,r5,s5,i5,g5,n5⟩:=BZ G d_ (λ_=>rfl) (λ_ _ _ h=>h);have f1:=YB qC i1;have f2:=YB (λ_=>rfl) i2;simp only[kz,uq,wt,wu,lP,aT]at e0 e1 e2 e3 e4 e5;subst e0;subst e1;subst e2;subst e3;subst e4;subst e5;have f0:uY v0=O:=by
  rcases i0 with⟨rfl,_⟩|⟨r,rfl⟩
  rfl;exact SZ g0
 refine⟨v0,v1,v2,.int .i64 k3,v4,v5,l4,l5,.agg ?_ (.cons r0 (.cons r1 (.cons r2 (.cons (.int _ _) (.cons r4 (.cons r5 .nil)))))),?_,i4,n4,i5,g5,n5⟩;simp only[dq,pD,s0,s1,s2,s4,s5,List.all_nil,cj];rfl;simp only[wZ,f0,f1,f2,jf];rfl
end
end Go.Proofs.YtnhmcokmdhgpbaaGreat
namespace Go.Proofs.YtnhmcokmdhgpbaaGreat
open Go.ChangeShapes Go.WideShapes Go.ChangeAt Go.RowKit Go.Ag
def aAx:ownKnob ae.godebug=Z:=k_
def RV:laidOutB ae=O:=k_
def u_4:ae.underlying 4=X .bool:=k_
variable{args:gy}{P:Program}
def ajq{f:FuncId}{fn:Func}{w:World}{R:Value->World->Prop}(hf:P.funcs[f]? =some fn)(hname:(fn.name== "runtime.NumGoroutine")=false)(hb:fn.body.isSome=true)(h:kh P f args w R):Calls P f args w fun e w'=> ∃y,e= .returned y/\R y w':=by
 rcases h with⟨y,w',h1,_⟩|⟨_,h⟩
 have h2:fn.name≠ "runtime.NumGoroutine" :=by simpa using hname
 cases hc:fn.body with
 |none=>rw[hc]at hb;cases hb
 |some c=>
  have:(callFunc f args).run P w=.ok (.enter f args) w:=by simp[callFunc,hf,h2,hc]
  rw[this]at h1;cases h1
 exact h
variable{base:Nat}{t:TypeId}{v:Value}
def U8{c:Array Field}(a:P.underlying t=X (.struct c)){W:World}{r:Go.Reach}(h:Value.okWide P W r base t v):∃cs,v=.agg cs:=by
 unfold Value.okWide at h;rw[a]at h;obtain⟨cs,b,_⟩:=h;exact⟨cs,b⟩
def azq{e:TypeId}(a:P.underlying t=X (.slice e)){W:World}{r:Go.Reach}(h:Value.okWide P W r base t v):v.cells.toList=[v]:=by
 unfold Value.okWide at h;rw[a]at h;have h:Cell.okWide P W r base t v:=h;cases v with
 |agg cs=>
  unfold Cell.okWide at h;rw[a]at h;have h:Cell.ok P W r base t (.agg cs):=h;unfold Cell.ok at h;rw[a]at h;exact h.elim
 |_=>rfl
variable{W':World}
def Tw{W:World}(h:∀b,b<W.heap.size->W'.heap[b]?=W.heap[b]?)(p:MemPlace)(a:p.block<W.heap.size):W.sameAt W' p:=by
 cases p with
 |cell b o=>
  have h:=h b a;show W'.cell? ⟨b,o,Z⟩=W.cell? ⟨b,o,Z⟩;unfold World.cell?;rw[h]
 |map b=>exact h b a
def av9{W:World}(h:∀b,b<W.heap.size->W'.heap[b]?=W.heap[b]?)(e:W'.os=W.os)(d:W'.output=W.output)(a:MemPlace->Prop):W.keptBut W' a:=by
 refine⟨e,d,λi f=>?_⟩;rw[h i f];cases W.heap[i]? with
 |none=>rfl
 |some o=>
  cases o with
  |cells c t g=>exact⟨rfl,rfl,rfl,λ_ _=>rfl⟩
  |map j l=>exact .inr ⟨rfl,rfl⟩
  |_=>rfl
def aA9{H:Type}{enc:TypeId×Value->H}{f:Func}{s:ChangeSpec}{apart fresh g n:Bool}{W:World}{u q:List (DataW H)}{c pa pv:List MemPlace}(w:DataW.Whole enc P f.params.toList s.vars apart W args.toList u q c)(l:∀(b:Nat)(sp:Ty)(E:Bool),DataW.TrodAll enc P W' b sp E f.resultTypes.toList (v.resultList f.resultTypes.size) (s.fn H (u++q)).results [])(e:∀sp:Ty,(∀p∈c,sp p.block=O)->DataW.TrodAll enc P W' 0 sp O f.params.toList args.toList (s.fn H (u++q)).args pa)(d:∀sp:Ty,(∀p∈c,sp p.block=O)->DataW.TrodVars enc P W' sp s.vars (s.fn H (u++q)).vars pv)(h:c=pa++pv)(D:W.keptBut W' (· ∈c))(z:∀a,a.block<W.heap.size->W'.frozen? a=W.frozen? a)(x:∀(j:Nat)(t:TypeId)(r:Value),f.resultTypes[j]?=X t->(v.resultList f.resultTypes.size)[j]?=X r->Value.okWide P W' .any 0 t r):
 s.post enc P f apart fresh g n W args v W':=by
 have m:∀p∈c,(λb=>decide (b<W.heap.size)) p.block=O:=λp i=>by simpa using w.lt p i
 refine⟨u,q,c,[],pa,pv,w,l _ _ _,e _ m,d _ m,World.keptBut_mono (λp i=>⟨i,?_⟩) D,λ_=>?_⟩;rw[h,List.mem_append]at i;exact Or.inr i;have y:=w.lt;obtain⟨_,_,_,_,_,B,C⟩:=w;refine⟨x,_,_,([]++pa)++pv,⟨[]++pa,pv,trodAll_append (e _ (λ_ _=>rfl)) (l _ _ _),d _ (λ_ _=>rfl),rfl,?_,?_⟩,?_⟩;intro b o i;have A:MemPlace.cell b o∈c:=by rw[h];simpa using i
 rw[z _ (y _ A)];exact B b o A;intro F
 have:=C F;rw[h]at this;simpa using this;intro p i _;rw[h];simpa using i
set_option maxRecDepth 100000 in
def aBf(os:Os)(c:os.Started)(H:Type)(enc:TypeId×Value->H):
 ReturnsInHanded {} Tryz.checked os 3 .any (Rows.partUnitsSpec.pre6 enc ae Tryz.f3 Rows.partUnitsRow.domain I) (Rows.partUnitsSpec.post enc ae Tryz.f3 I O I I):=by
 refine returnsInHanded_of_change (C:=Tryz.checked) aAx c k_ Tryz.func3
  (ChangeSpec.witness6 (enc:=enc) (C:=Tryz.checked) I ⟨#[],#[.agg #[.slice Z 0 0],.agg #[.slice Z 0 0,.slice Z 0 0,.slice Z 0 0,.int .i64 0,.slice Z 0 0,.slice Z 0 0],.slice Z 0 0],[]⟩ 8 k_ k_ k_ k_) ?_
 intro W base args ds gs n f hW a0 _;have a:∀(j:Nat) t v,Tryz.f3.params[j]?=X t->args[j]?=X v->Value.okWide ae W .any base t v:=f;have i:=hW;obtain⟨p,q,m,K,rfl,a2,a1⟩:=hW;have hA:DataW.TrodAll enc ae W 0 (λ_=>O) O Tryz.f3.params.toList args.toList ds p:=m;rw[Tryz.params3]at hA a;obtain⟨T,S,R,d0,d1,d2,Y,V,U,rfl,rfl,rfl,Q,N,M⟩:=trodAll_three hA;obtain⟨rfl,rfl⟩:=trodVars_none K;clear m f;simp only[List.append_nil]at i;obtain⟨x,l,hx,hl,hg,hs⟩:=aAf (U8 Tryz.underlying24 (a 0 24 T rfl rfl)) Q;obtain⟨w0,w1,w2,w3,vv,rv,o,rl,hy,G,K,A,B,s,D⟩:=aAi (U8 Tryz.underlying29 (a 1 29 S rfl rfl)) N;obtain⟨ev,le,hu,E,F⟩:=aAe (azq Tryz.underlying30 (a 2 30 R rfl rfl)) M;have hc:=ajq (fn:=Tryz.f3) Tryz.func3 k_ k_ (aww hl hg hs G K A B s D E F (kR W) .nil W [T,S,R] (aoj W) (.cons hx (.cons hy (.cons hu .nil))));refine hc.mono λe W' ⟨r',he,G',_,ext,hr⟩=>?_;subst he;cases hr;have keep:∀b,b<W.heap.size->W'.heap[b]?=W.heap[b]? :=λb hb=>ext.keep b hb LI;have y:∀z∈Y,z.block<W.heap.size:=by
  obtain⟨k,h⟩:=Q;exact DataW.trod_lt _ _ _ _ h
 have w:∀z∈V,z.block<W.heap.size:=by
  obtain⟨k,h⟩:=N;exact DataW.trod_lt _ _ _ _ h
 have u:∀z∈U,z.block<W.heap.size:=by
  obtain⟨k,h⟩:=M;exact DataW.trod_lt _ _ _ _ h
 refine⟨_,rfl,aA9 (pa:=Y++(V++U)) (pv:=[]) i (λ_ _ _=>trodAll_mk1 (shut_bool u_4 O)) (λsp g=>trodAll_mk3 ?_ ?_ ?_) (λ_ _=>rfl) (by simp)
  (av9 keep ext.quiet.1 ext.quiet.2.1 _) ext.quiet.2.2.2.1 (ok_one k_ rfl (okWide_bool_mk u_4 O))⟩
 exact WideElems.Trod_stays RV k_ (of_decide_eq_true k_) Q (λz d=>Tw keep z (y z d)) (λz d=>g z (by simp[d]));exact WideElems.Trod_stays RV k_ (of_decide_eq_true k_) N (λz d=>Tw keep z (w z d)) (λz d=>g z (by simp[d]));exact WideElems.Trod_stays RV k_ (of_decide_eq_true k_) M (λz d=>Tw keep z (u z d)) (λz d=>g z (by simp[d]))
