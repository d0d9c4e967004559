/- Lemmas for ValidApart. -/
import Derived.Test.YtnnppcoplinajaaGreatB9
import Derived.Test.YtnnppcoplinajaaGreatAg3
import Derived.Test.YtnnppcoplinajaaGreatB8
import Derived.Test.YtnnppcoplinajaaGreatB6
import Derived.Test.YtnnppcoplinajaaGreatB7
set_option linter.all false
open Bool renaming and_eq_true→bu,and_false→gN,and_self→cw,and_true→je,false_and→dW,false_or→kg,not_false→hG,not_true→fp,or_false→kh,or_self→ut,or_true→li,true_and→eH,true_or→iR
open List renaming all_cons→ju,drop_drop→xP,eq_nil_of_length_eq_zero→uv,filter_append→DR,finRange→ux,getElem?_cons_succ→jO,getElem?_eq_getElem→gn,getElem?_eq_some_iff→nY,getElem?_map→jf,getElem_mem→xR,length_append→cJ,length_cons→bH,length_take→sC,map_append→ff,mem_cons_of_mem→iE,mem_cons_self→iL,range→ix,replicate→iy,take_append_drop→zU,take_append_of_le_length→Lf,take_of_length_le→re,take_succ_eq_append_getElem→Q5
open Nat renaming beq→aQ,ble_eq_true_of_le→cP,ble→bw,le_of_ble_eq_true→fW,le_refl→br,lt_irrefl→cD,mod_eq_of_lt→D0,mul_le_mul_right→uG,reduceAdd→bQ,reduceBEq→ah,reduceLT→aB,reduceLeDiff→cK,reduceMod→ep,reducePow→uO,reduceSub→ey,succ_mul→mJ,zero_add→bV
open Go.Op renaming bytesLess→fN
open Go.Operand renaming tmp→aD
open Option renaming bind_eq_some_iff→ak,bind_some→au
open Go.Proofs.Tryz renaming prog→ae
open Go.Ag.W renaming loopC→bG,seq→cU
open Go.Ag.WC renaming sound→co
namespace Go.Proofs.YtnnppcoplinajaaGreat
open Go.Ag
def lL:List ag->List ag->Bool
 | [],[]=>false
 | [],_::_=>true
 |_::_,[]=>false
 |a::x,b::y=>bif a==b then lL x y else fN a b
def ad9(a:ag):gu a a=0:=by unfold gu;rw[Xl];rfl
def ad6(a b:ag):bc (gu a b) 0=fN a b:=by
 unfold gu;cases fN a b with
 |true=>rfl
 |false=>cases fN b a<;>rfl
def LX: ∀a b:List ag,lL a b=bc (fH a b) 0
 | [],[]=>rfl
 | [],_::_=>rfl
 |_::_,[]=>rfl
 |a::x,b::y=>by
  simp only[lL,fH];by_cases h:a=b;subst h;rw[bS,ad9];exact LX x y;have f:gu a b≠0:=fun e=>h (Tz e);rw[bN.2 h,oq f];exact(ad6 a b).symm
def wV(a b:List ag):Bool:= !lL a b&& !lL b a
def aen(a:List ag):fH a a=0:=by have:=B8 a a;omega
def agY(a b:List ag):wV a b=an (fH a b) 0:=by
 unfold wV;rw[LX,LX,B8 a b];unfold bc;rcases Int.lt_trichotomy (fH a b) 0 with h|h|h
 rw[dQ h,oq (by omega)];rfl;rw[h];rfl;rw[dN (show¬fH a b<0 by omega),dQ (show-fH a b<0 by omega),oq (by omega)];rfl
def ael(a b:Int×Int):Int:=bif bc a.1 b.1||(an a.1 b.1&&bc a.2 b.2) then-1 else bif gh a b then 0 else 1
def pC{f:Nat}{T:dX}(E:dR T){sp:Sp}(h: ∀args u,sp args=some u->pures args=true/\ ∃v s',aq (QT T) f args s0 v s'/\s'.ci=0/\fY s'.heap v u):db ae f sp:=by
 intro args x z G B w j o q;obtain⟨g,v,s',A,D,C⟩:=h args x z;exact ni (Q:=QT T) (mW E) (fun _=>Nat.zero_lt_succ 1) (args:=args) (v:=v) (s':=s') (xM g) (by rw[lh g];exact A) D C G B w j o q
variable{s:St}
def cR.isL{sz lo:Nat}{ov:aa}{α:Type}{enc:α->aa}{l:List α}(h:cR sz lo s ov (l.map enc)):ay sz enc ov l:=by
 rcases h with⟨g,f⟩|⟨_,k,f,_⟩
 exact .inl ⟨g,List.map_eq_nil_iff.1 f⟩;exact .inr ⟨_,f⟩
def x9(u:aa):Option (List ag):=bif bL u then eX 1 jl u else none
variable{l:List ag}{v:aa}
def Hx(h:ay 1 aG v l)(f:bL v=true):x9 v=some l:=by
 simp only[x9,f,cT,mX oc h]
def Hw{u:aa}(h:x9 u=some l):ay 1 aG u l/\bL u=true:=by
 unfold x9 at h;obtain⟨f,h⟩:=bh h;exact⟨kr (fun v a=>pM) h,f⟩
def BO(u:aa):Option (List fE):=bif bL u then eX 2 uS u else none
variable{n:Nat}
def dB(h:n<4611686018427387904):IntKind.i64.wrap ((n:Int)+1)=((n+1:Nat):Int):=by rw[iC (by omega) (by omega)];omega
def S4:aa->Option (List aa)->Option (FuncId×List aa)
 | .func (.func f) first captured,g=>g.bind fun g=>some (f,first++(g++captured))
 |_,_=>none
def adC(e:ax)(t:Nat)(xs:Array Operand)(f:Array TypeId):callee e ⟨.value (.tmp t),xs,f⟩=S4 (ac e t) (evcs e xs.toList):=by
 simp only[callee,aA,au];cases ac e t with
 |func g a b=>cases g<;>rfl
 |_=>rfl
def adB(f:FuncId)(a b args:List aa):S4 (.func (.func f) a b) (some args)=some (f,a++(args++b)):=rfl
def ru(P:Program)(mk:aK)(f:List TypeId)(g:Bool)(x y:Int)(s:St):jH P mk .max f g [ic x,ic y] s=some (ic (max x y),s):=by
 have:(bif bc x y then y else x)=max x y:=by
  unfold bc;by_cases h:x<y;simp[h];omega;simp[h];omega
 simp[jH,tM,this]
def sY(P:Program)(mk:aK)(f:List TypeId)(g:Bool)(x y:Int)(s:St):jH P mk .min f g [ic x,ic y] s=some (ic (min x y),s):=by
 have:(bif bc y x then y else x)=min x y:=by
  unfold bc;by_cases h:y<x;simp[h];omega;simp[h];omega
 simp[jH,tM,this]
def Ef(P:Program)(mk:aK)(f:List TypeId)(g:Bool)(x y:ag)(s:St):jH P mk .max f g [.str x,.str y] s=some (.str (CQ x y),s):=rfl
def Ee(P:Program)(mk:aK)(f:List TypeId)(g:Bool)(x y:ag)(s:St):jH P mk .min f g [.str x,.str y] s=some (.str (CS x y),s):=rfl
def oE(a b c d:Int):eB ae .eql 49 (.agg [ic a,ic b]) (.agg [ic c,ic d])=some (.bool (gh (a,b) (c,d))):=PJ a b c d
def Zl(a b c d:Int):eB ae .neq 49 (.agg [ic a,ic b]) (.agg [ic c,ic d])=some (.bool (!gh (a,b) (c,d))):=by
 have h:=oE a b c d;rw[LD] at h;rw[acC];generalize wP ae 49 (.agg [ic a,ic b]) (.agg [ic c,ic d])=x at*;generalize gh (a,b) (c,d)=y at*;cases x with
 |none=>cases h
 |some x=>
  injection h with h;injection h with h
  subst h;rfl
def Dp(a b c d e f g h:Int):eB ae .eql 285 (.agg [ic a,ic b,ic c,ic d]) (.agg [ic e,ic f,ic g,ic h])=some (.bool (sm ((a,b),(c,d)) ((e,f),(g,h)))):=by
 have k:wP ae 285 (.agg [ic a,ic b,ic c,ic d]) (.agg [ic e,ic f,ic g,ic h])=
  ((some (an a e)).bind fun r=>bif r then(some (an b f)).bind fun r=>bif r then some true else some false else some false).bind fun r=>bif r then((some (an c g)).bind fun r=>bif r then(some (an d h)).bind fun r=>bif r then some true else some false else some false).bind fun r=>bif r then some true else some false else some false:=by kernel_rfl
 rw[LD,k];simp only[sm,gh];cases an a e<;>cases an b f<;>cases an c g<;>cases an d h<;>rfl
def bX(s:bT):aa:=.agg [ic s.1.1,ic s.1.2,ic s.2.1,ic s.2.2]
def uR:aa->Option bT
 | .agg [.int .i64 a,.int .i64 b,.int .i64 c,.int .i64 d]=>some ((a,b),(c,d))
 |_=>none
def Ai{p:bT}(h:uR v=some p):v=bX p:=by
 unfold uR at h;split at h;injection h with h;subst h;rfl
 cases h
theorem Hu(s:bT):uR (bX s)=some s:=rfl
def aqu(s:bT):bL (bX s)=true:=rfl
variable{p:Pt}
def JJ(h:bk p=true):(-2097152<=p.1/\p.1<=2097152)/\(-2097152<=p.2/\p.2<=2097152):=by
 simp only[bk,bc,bu,Bool.not_eq_true',decide_eq_false_iff_not] at h;omega
def aq.ofW{Q:aH}{f:FuncId}{fn:Func}{o:SC}{t:Tmp}{args:List aa}{s':St}(C:Q.P.funcs[f]? =some fn)(D:fn.body.map eD=some o)(B:fn.ntmps=n)(A:fn.results.toList=[.tmp t])(g:Q.spec f=none)(z:v.ge=true)(h:W Q f o (aaA n args) s fun x j q=>q=s'/\(x= .normal\/x= .ret)/\ac j.env t=v)(F:Q.specH f=none:=by rfl)(E:Q.specW f=none:=by rfl):aq Q f args s v s':=
 aq.of2 C D B A g (h.mono fun _ _ _ ⟨J,I,H⟩=>⟨J,I,dZ H z⟩) F E
variable{K:Ex->Fr->St->Prop}{l:List Pt}
section
variable{sp:SpZ}
def am8(I:ay 2 aU v l)(N:l.length<=1000000)(M: ∀e lc,l.all bk=true->K (.exit 0) ⟨e,26,lc⟩ s)(H: ∀e lc,l.all bk=false->ac e 2= .bool false->K .ret ⟨e,26,lc⟩ s):
 ∀(r f:List Pt) (e:ax) (lc:Ag.Loc),l=f++r->l.all bk=r.all bk->ac e 5=v->ac e 6=uM l.length->ac e 7=uM f.length->W (QS sp) 311 (.loop Fi) ⟨e,26,lc⟩ s K:=by
 have B:=I.ge;intro r
 induction r with
 |nil=>
  intro f e lc A j z q o;have E:l.length=f.length:=by rw[A];simp
  refine W.loopF ?_;simp only[go_sem,seval,Fi,z,q,o,B,E,cD];exact M _ _ j
 |cons p r J=>
  intro f e lc A j z q o;have g:f.length<l.length:=by rw[A];simp
  have F:l[f.length]? =some p:=by rw[A];simp
  have C:=fun lc=>I.at pB.2.2.1 F lc .i64;have D:=dB (n:=f.length) (by omega);rw[ju] at j;refine W.loopF ?_;cases e1:bc 2097152 (max p.1 p.2) with
  |true=>
   simp only[go_sem,seval,Fi,z,q,o,B,C,g,aU,ru,sY,e1];exact H _ _ (by rw[j];simp only[bk,e1,fp,dW]) (by simp only[sG,seval, *])
  |false=>
   cases e2:bc (min p.1 p.2) (-2097152) with
   |true=>
    simp only[go_sem,seval,Fi,z,q,o,B,C,g,aU,ru,sY,e1,e2];exact H _ _ (by rw[j];simp only[bk,e1,e2,fp,gN,dW]) (by simp only[sG,seval, *])
   |false=>
    simp only[go_sem,seval,Fi,z,q,o,B,C,g,aU,ru,sY,e1,e2,D];exact J (f++[p]) _ _ (by rw[A];simp) (by rw[j];simp only[bk,e1,e2,hG,cw,eH]) (by simp only[sG,seval, *]) (by simp only[sG,seval, *]) (by simp only[sN,seval,sA])
def am9(f:sp 311=none)(j:ay 2 aU v l)(z:l.length<=1000000)(s:St):aq (QS sp) 311 [v] s (.bool (l.all bk)) s:=by
 have B:=j.ge;have o:=fun q s=>j.lenS pB q s;refine aq.of3 IZ.1 IZ.2 IZ.3 IZ.4 f rfl ?_;simp only[go_sem,seval,B,o];refine am8 j z ?_ ?_ l [] _ _ rfl rfl (by simp only[sG,seval, *]) (by simp only[sG,seval, *]) (by simp only[sN,seval];rfl);intro e lc g;simp only[go_sem,seval,g];intro e lc g A;simp only[go_sem,seval,A,g]
end
def rU:Sp
 | [u]=>bif bL u then(eX 2 jT u).bind fun l=>bif bw l.length 1000000 then some (.bool (l.all bk)) else none else none
 |_=>none
def X4(f:l.length<=1000000):rU [.list 2 (l.map aU) .uP]=some (.bool (l.all bk)):=by
 have g:bL (.list 2 (l.map aU) .uP)=true:=by simp[bL,vE Gb]
 simp only[akZ,rU,g,mX wB (.inr ⟨.uP,rfl⟩:ay 2 aU (.list 2 (l.map aU) .uP) l),cP f]
variable{a b c:Pt}
def X2(j:bk a=true)(g:bk b=true)(f:bk c=true):rU [.list 2 [.agg [ic a.1,ic a.2],.agg [ic b.1,ic b.2],.agg [ic c.1,ic c.2]] .uP]=some (.bool true):=by
 have h:=X4 (l:=[a,b,c]) (by simp);simp only[ju,List.all_nil,j,g,f,cw] at h;exact h
def am5{d:Pt}(o:bk a=true)(j:bk b=true)(g:bk c=true)(f:bk d=true):rU [.list 2 [.agg [ic a.1,ic a.2],.agg [ic b.1,ic b.2],.agg [ic c.1,ic c.2],.agg [ic d.1,ic d.2]] .uP]=some (.bool true):=by
 have h:=X4 (l:=[a,b,c,d]) (by simp);simp only[ju,List.all_nil,o,j,g,f,cw] at h;exact h
def O9:db ae 311 rU:=by
 refine pC dR.nil fun g u h=>?_;unfold rU at h;split at h;obtain⟨j,h⟩:=bh h;simp only[ak] at h;obtain⟨l,q,h⟩:=h;obtain⟨o,h⟩:=bh h;have h:=sI h;subst h;exact⟨by simp only[pures,j,cw],_,_,am9 (sp:=fun f=>gL f []) rfl (kr (fun v a=>mj) q) (fW o) _,rfl,⟨1,rfl⟩⟩;cases h
variable{x y:Int}
def DC(g: -4194304<=x/\x<=4194304)(f: -4194304<=y/\y<=4194304):IntKind.i64.wrap (x-y)=x-y:=iC (by omega) (by omega)
def ayX(g: -8388608<=x/\x<=8388608)(f: -8388608<=y/\y<=8388608): -70368744177664<=x*y/\x*y<=70368744177664:=by
 have j:(x*y).natAbs<=8388608*8388608:=by
  rw[Int.natAbs_mul];exact Nat.mul_le_mul (by omega) (by omega)
 omega
def FM(g: -8388608<=x/\x<=8388608)(f: -8388608<=y/\y<=8388608):IntKind.i64.wrap (x*y)=x*y:=by
 have:=ayX g f;exact iC (by omega) (by omega)
def vV(p:Pt):Bool:=decide (-4194304<=p.1)&&decide (p.1<=4194304)&&decide (-4194304<=p.2)&&decide (p.2<=4194304)
def abg(h:vV p=true):(-4194304<=p.1/\p.1<=4194304)/\(-4194304<=p.2/\p.2<=4194304):=by
 simp only[vV,bu,dE] at h;omega
section
variable{sp:SpZ}
def arK(f:sp 420=none)(q:bk a=true)(o:bk b=true)(s:St):aq (QS sp) 420 [aU a,aU b] s (aU (b.1-a.1,b.2-a.2)) s:=by
 have A:=JJ q;have z:=JJ o;have j:=DC (x:=b.1) (y:=a.1) (by omega) (by omega);have g:=DC (x:=b.2) (y:=a.2) (by omega) (by omega);refine aq.of4 Ji.1 Ji.2 Ji.3 Ji.4 f ?_;simp only[go_sem,seval,aU,j,g,bj,bg,aZ,bf,evc]
def aeC(f:sp 421=none)(z:vV a=true)(q:vV b=true)(s:St):aq (QS sp) 421 [aU a,aU b] s (cd (a.1*b.2-a.2*b.1)) s:=by
 have D:=abg z;have C:=abg q;have B:=ayX (x:=a.1) (y:=b.2) (by omega) (by omega);have A:=ayX (x:=a.2) (y:=b.1) (by omega) (by omega);have o:=FM (x:=a.1) (y:=b.2) (by omega) (by omega);have j:=FM (x:=a.2) (y:=b.1) (by omega) (by omega);have g:IntKind.i64.wrap (a.1*b.2-a.2*b.1)=a.1*b.2-a.2*b.1:=iC (by omega) (by omega);refine aq.of3 Jj.1 Jj.2 Jj.3 Jj.4 f rfl ?_;simp only[go_sem,seval,aU,cd,qy,o,j,g]
end
def DE:Sp
 | [u,v]=>(jT u).bind fun a=>(jT v).bind fun b=>bif bk a&&bk b then some (aU (b.1-a.1,b.2-a.2)) else none
 |_=>none
def aa7(g:bk a=true)(f:bk b=true):DE [aU a,aU b]=some (aU (b.1-a.1,b.2-a.2)):=by
 simp only[akZ,DE,wB,g,f,cw]
def arJ:db ae 420 DE:=by
 refine pC dR.nil fun j u h=>?_;unfold DE at h;split at h;simp only[ak] at h;obtain⟨a,q,b,o,h⟩:=h;obtain⟨g,h⟩:=bh h;simp only[bu] at g;have h:=sI h;subst h;rw[mj q,mj o];exact⟨rfl,_,_,arK (sp:=fun f=>gL f []) rfl g.1 g.2 _,rfl,⟨2,rfl⟩⟩;cases h
def Cb:Sp
 | [u,v]=>(jT u).bind fun a=>(jT v).bind fun b=>bif vV a&&vV b then some (cd (a.1*b.2-a.2*b.1)) else none
 |_=>none
def aez(g:vV a=true)(f:vV b=true):Cb [aU a,aU b]=some (cd (a.1*b.2-a.2*b.1)):=by
 simp only[akZ,Cb,wB,g,f,cw]
def aeA:db ae 421 Cb:=by
 refine pC dR.nil fun j u h=>?_;unfold Cb at h;split at h;simp only[ak] at h;obtain⟨a,q,b,o,h⟩:=h;obtain⟨g,h⟩:=bh h;simp only[bu] at g;have h:=sI h;subst h;rw[mj q,mj o];exact⟨rfl,_,_,aeC (sp:=fun f=>gL f []) rfl g.1 g.2 _,rfl,⟨1,rfl⟩⟩;cases h
def abh(g:bk a=true)(f:bk b=true):vV (b.1-a.1,b.2-a.2)=true:=by
 have o:=JJ g;have j:=JJ f;simp only[vV,bu,dE];omega
section
variable{sp:SpZ}
def aoZ(o:sp 313=none)(q:sp 311=some rU)(j:sp 420=some DE)(g:sp 421=some Cb)(z:sp 232=some o5)(f:bk a=true)(B:bk b=true)(A:bk c=true)(s:St):aq (QS sp) 313 [aU a,aU b,aU c] s (cd (du a b c)) s:=by
 have H:=X2 f B A;have F:=aa7 f B;have E:=aa7 f A;have D:=aez (abh f B) (abh f A);have C:o5 [cd ((b.1-a.1)*(c.2-a.2)-(b.2-a.2)*(c.1-a.1)),ic 0]=some (cd (du a b c)):=rfl;simp only[aU,cd] at H F E D C;refine aq.of3 I5.1 I5.2 I5.3 I5.4 o rfl ?_;simp only[go_sem,seval,aU,cd,bj,bg,aZ,bf,evc,adC,adB,rR,q,j,g,z,H,F,E,D,C]
def aq9(g:sp 312=none)(f:sp 379=some si)(t:bT)(s:St):aq (QS sp) 312 [bX t] s (bX (gY t)) s:=by
 obtain⟨⟨a,b⟩,c,d⟩:=t;have j:si [.agg [ic a,ic b],.agg [ic c,ic d]]=some (ic (gg (a,b) (c,d))):=rfl;refine aq.of4 I4.1 I4.2 I4.3 I4.4 g ?_;unfold gY;cases e1:bc 0 (gg (a,b) (c,d)) with
 |true=>simp only[go_sem,seval,bX,f,j,e1]
 |false=>simp only[go_sem,seval,bX,f,j,e1]
end
def tW:Sp
 | [u,v,w]=>(jT u).bind fun a=>(jT v).bind fun b=>(jT w).bind fun c=>bif bk a&&(bk b&&bk c) then some (cd (du a b c)) else none
 |_=>none
def aoY(j:bk a=true)(g:bk b=true)(f:bk c=true):tW [aU a,aU b,aU c]=some (cd (du a b c)):=by
 simp only[akZ,tW,wB,j,g,f,cw]
def Ry:dX:=[(311,rU),(420,DE),(421,Cb),(232,o5)]
def abY:dR Ry:=.cons O9 (.cons arJ (.cons aeA (.cons HH .nil)))
def Y2:db ae 313 tW:=by
 refine pC abY fun j u h=>?_;unfold tW at h;split at h;simp only[ak] at h;obtain⟨a,z,b,q,c,o,h⟩:=h;obtain⟨g,h⟩:=bh h;simp only[bu] at g;have h:=sI h;subst h;rw[mj z,mj q,mj o];exact⟨rfl,_,_,aoZ (sp:=fun f=>gL f Ry) rfl rfl rfl rfl rfl g.1 g.2.1 g.2.2 _,rfl,⟨1,rfl⟩⟩;cases h
def Bm:Sp
 | [u]=>(uR u).bind fun t=>some (bX (gY t))
 |_=>none
def Rz:dX:=[(379,si)]
def abZ:dR Rz:=.cons PG .nil
def aay:db ae 312 Bm:=by
 refine pC abZ fun g u h=>?_;unfold Bm at h;split at h;simp only[ak] at h;obtain⟨t,j,h⟩:=h;have h:=sI h;subst h;rw[Ai j];exact⟨rfl,_,_,aq9 (sp:=fun f=>gL f Rz) rfl rfl t _,rfl,⟨2,rfl⟩⟩;cases h
variable{a b c d:Int}
def A8{e f:Int}(o:bk (a,b)=true)(j:bk (c,d)=true)(g:bk (e,f)=true):tW [.agg [ic a,ic b],.agg [ic c,ic d],.agg [ic e,ic f]]=some (ic (du (a,b) (c,d) (e,f))):=aoY (a:=(a,b)) (b:=(c,d)) (c:=(e,f)) o j g
def zj(a b c d:Int):si [.agg [ic a,ic b],.agg [ic c,ic d]]=some (ic (gg (a,b) (c,d))):=rfl
def Ql(a b c d:Int):Bm [.agg [ic a,ic b,ic c,ic d]]=some (bX (gY ((a,b),(c,d)))):=rfl
theorem Qk{s:bT}(h1:bk s.1=true)(f:bk s.2=true):bk (gY s).1=true/\bk (gY s).2=true:=by
 grind [Qj]
variable{t:bT}
section
variable{sp:SpZ}
def an3(D:sp 422=none)(q:sp 311=some rU)(o:sp 312=some Bm)(j:sp 313=some tW)(g:sp 379=some si)(h1:bk t.1=true)(J:bk t.2=true)(I:bk p=true)(s:St):aq (QS sp) 422 [bX t,aU p] s (.bool (sa t p)) s:=by
 have H:=Qk h1 J;have C:sa t p=(an (du (gY t).1 (gY t).2 p) 0&&(cr (gg (gY t).1 p) 0&&(cr (gg p (gY t).2) 0&&(!gh (gY t).1 (gY t).2||gh p (gY t).1)))):=rfl;obtain⟨⟨a,b⟩,c,d⟩:=t;obtain⟨e,f⟩:=p;have B:=X2 h1 J I;have A:=Ql a b c d;rw[C];clear C;generalize gY ((a,b),(c,d))=S at*;obtain⟨⟨a',b'⟩,c',d'⟩:=S;have z:=A8 H.1 H.2 I;have E:=zj a' b' e f;have F:=zj e f c' d';refine aq.of3 Jk.1 Jk.2 Jk.3 Jk.4 D rfl ?_;cases e1:an (du (a',b') (c',d') (e,f)) 0 with
 |false=>simp only[go_sem,seval,bX,aU,bj,bg,aZ,bf,evc,q,o,j,g,B,A,z,e1,dW]
 |true=>
  cases e2:cr (gg (a',b') (e,f)) 0 with
  |false=>simp only[go_sem,seval,bX,aU,bj,bg,aZ,bf,evc,q,o,j,g,B,A,z,E,e1,e2,eH,dW]
  |true=>
   cases e3:cr (gg (e,f) (c',d')) 0 with
   |false=>simp only[go_sem,seval,bX,aU,bj,bg,aZ,bf,evc,q,o,j,g,B,A,z,E,F,e1,e2,e3,eH,dW]
   |true=>
    cases e4:gh (a',b') (c',d') with
    |false=>simp only[go_sem,seval,bX,aU,bj,bg,aZ,bf,evc,q,o,j,g,B,A,z,E,F,e1,e2,e3,e4,Zl,oE,eH,hG]
    |true=>simp only[go_sem,seval,bX,aU,bj,bg,aZ,bf,evc,q,o,j,g,B,A,z,E,F,e1,e2,e3,e4,Zl,oE,eH,fp]
end
def ze:Sp
 | [u,v]=>(uR u).bind fun t=>(jT v).bind fun p=>bif bk t.1&&(bk t.2&&bk p) then some (.bool (sa t p)) else none
 |_=>none
theorem anN(h1:bk t.1=true)(g:bk t.2=true)(f:bk p=true):ze [bX t,aU p]=some (.bool (sa t p)):=by
 grind [ze,Hu,wB]
def RA:dX:=[(311,rU),(312,Bm),(313,tW),(379,si)]
def ab0:dR RA:=.cons O9 (.cons aay (.cons Y2 (.cons PG .nil)))
def anP:db ae 422 ze:=by
 refine pC ab0 fun j u h=>?_;unfold ze at h;split at h;simp only[ak] at h;obtain⟨t,q,p,o,h⟩:=h;obtain⟨g,h⟩:=bh h;simp only[bu] at g;have h:=sI h;subst h;rw[Ai q,mj o];exact⟨rfl,_,_,an3 (sp:=fun f=>gL f RA) rfl rfl rfl rfl rfl g.1 g.2.1 g.2.2 _,rfl,⟨1,rfl⟩⟩;cases h
variable{lc:Ag.Loc}{a' b' c' d':Int}{g2 g3:Nat}{e:ax}
section
variable{sp:SpZ}
noncomputable def N3:SC:=(.seq (.seq (.region Wx) (.cond (aD 18) (.seq (.block 0 (.seq (.region Wy) (.cond (aD 19) (.seq (.region Wz) .ret) (.seq (.region WA) (.cond (aD 25) (.seq (.region WB) .ret) .skip))))) (.seq (.region WD) .ret)) .skip)) (.seq (.draw WH I6) (.seq (.seq (.region Wn) (.cond (aD 46) (.region Wo) .skip)) (.seq (.seq (.region Wp) (.cond (aD 53) (.region Wq) .skip)) (.seq (.seq (.region Wr) (.block 1 (.seq (.region Ws) (.cond (aD 59) (.seq (.region Wt) .ret) (.seq (.region Wu) (.cond (aD 61) (.seq (.region Wv) .ret) .skip)))))) (.seq (.region Ww) .ret))))))
def ajY:Wl=(.seq (.region ajZ) (.seq (.seq (.region aj0) (.cond (aD 11) (.region aj1) .skip)) N3)):=rfl
noncomputable def Wm:SC:=(.seq (.draw WH I6) (.seq (.seq (.region Wn) (.cond (aD 46) (.region Wo) .skip)) (.seq (.seq (.region Wp) (.cond (aD 53) (.region Wq) .skip)) (.seq (.seq (.region Wr) (.block 1 (.seq (.region Ws) (.cond (aD 59) (.seq (.region Wt) .ret) (.seq (.region Wu) (.cond (aD 61) (.seq (.region Wv) .ret) .skip)))))) (.seq (.region Ww) .ret)))))
def ajX:N3=(.seq (.seq (.region Wx) (.cond (aD 18) (.seq (.block 0 (.seq (.region Wy) (.cond (aD 19) (.seq (.region Wz) .ret) (.seq (.region WA) (.cond (aD 25) (.seq (.region WB) .ret) .skip))))) (.seq (.region WD) .ret)) .skip)) Wm):=rfl
def an1(f:sp 379=some si)(F:s.gt<=s.aL)(e2:ac e 2= .rd 2 g2 0)(B:ac e 3= .rd 3 g3 0)(l2:lc.get 2 g2=some [ic a,ic b,ic c,ic d])(A:lc.get 3 g3=some [ic a',ic b',ic c',ic d'])(z:lc.gen 2=g2)(q:lc.gen 3=g3)(o:lc.gen 5=0)(j:lc.gen 6=0)(E: ∀e lc,ac e 4=ic (bif an (gg (rP ((a,b),(c,d)) ((a',b'),(c',d'))) (rK ((a,b),(c,d)) ((a',b'),(c',d')))) (-1) then 5 else bif an (gg (rP ((a,b),(c,d)) ((a',b'),(c',d'))) (rK ((a,b),(c,d)) ((a',b'),(c',d')))) 0 then 1 else 0)->K .ret ⟨e,63,lc⟩ s):
 W (QS sp) 314 Wm ⟨e,63,lc⟩ s K:=by
 have D:=zj a' b' a b;have C:=zj c' d' c d;refine cU (W.drawG F ?_);simp only[go_sem,I6,seval,e2,B,l2,A,z,q,o,j];refine WF.sound ?_;unfold rP rK at E;dsimp only at E;cases x1:bc 0 (gg (a',b') (a,b)) with
 |true=>
  cases x2:bc (gg (c',d') (c,d)) 0 with
  |true=>
   rw[x1,x2] at E;have g:=zj a' b' c' d';simp only[cT] at E;cases x3:an (gg (a',b') (c',d')) (-1) with
   |true=>
    simp only[go_sem,seval,e2,B,l2,A,z,q,o,j,f,D,C,g,x1,x2,x3]
    simp_all [sN]
   |false=>
    cases x4:an (gg (a',b') (c',d')) 0 with
    |true=>
     simp only[go_sem,seval,e2,B,l2,A,z,q,o,j,f,D,C,g,x1,x2,x3,x4]
     simp_all [sN]
    |false=>
     simp only[go_sem,seval,e2,B,l2,A,z,q,o,j,f,D,C,g,x1,x2,x3,x4]
     simp_all [sN]
  |false=>
   rw[x1,x2] at E;have g:=zj a' b' c d;simp only[cT,cF] at E;cases x3:an (gg (a',b') (c,d)) (-1) with
   |true=>
    simp only[go_sem,seval,e2,B,l2,A,z,q,o,j,f,D,C,g,x1,x2,x3]
    simp_all [sN]
   |false=>
    cases x4:an (gg (a',b') (c,d)) 0 with
    |true=>
     simp only[go_sem,seval,e2,B,l2,A,z,q,o,j,f,D,C,g,x1,x2,x3,x4]
     simp_all [sN]
    |false=>
     simp only[go_sem,seval,e2,B,l2,A,z,q,o,j,f,D,C,g,x1,x2,x3,x4]
     simp_all [sN]
 |false=>
  cases x2:bc (gg (c',d') (c,d)) 0 with
  |true=>
   rw[x1,x2] at E;have g:=zj a b c' d';simp only[cT,cF] at E;cases x3:an (gg (a,b) (c',d')) (-1) with
   |true=>
    simp only[go_sem,seval,e2,B,l2,A,z,q,o,j,f,D,C,g,x1,x2,x3]
    simp_all [sN]
   |false=>
    cases x4:an (gg (a,b) (c',d')) 0 with
    |true=>
     simp only[go_sem,seval,e2,B,l2,A,z,q,o,j,f,D,C,g,x1,x2,x3,x4]
     simp_all [sN]
    |false=>
     simp only[go_sem,seval,e2,B,l2,A,z,q,o,j,f,D,C,g,x1,x2,x3,x4]
     simp_all [sN]
  |false=>
   rw[x1,x2] at E;have g:=zj a b c d;simp only[cF] at E;cases x3:an (gg (a,b) (c,d)) (-1) with
   |true=>
    simp only[go_sem,seval,e2,B,l2,A,z,q,o,j,f,D,C,g,x1,x2,x3]
    simp_all [sN]
   |false=>
    cases x4:an (gg (a,b) (c,d)) 0 with
    |true=>
     simp only[go_sem,seval,e2,B,l2,A,z,q,o,j,f,D,C,g,x1,x2,x3,x4]
     simp_all [sN]
    |false=>
     simp only[go_sem,seval,e2,B,l2,A,z,q,o,j,f,D,C,g,x1,x2,x3,x4]
     simp_all [sN]
def anO{e f:Int}(h1:bk (a,b)=true)(j:bk (c,d)=true)(g:bk (e,f)=true):ze [.agg [ic a,ic b,ic c,ic d],.agg [ic e,ic f]]=some (.bool (sa ((a,b),(c,d)) (e,f))):=anN (t:=((a,b),(c,d))) (p:=(e,f)) h1 j g
def YB(B:sp 379=some si)(f:sp 422=some ze)(E:bk (a,b)=true)(D:bk (a',b')=true)(C:bk (c',d')=true)(I:s.gt<=s.aL)(e2:ac e 2= .rd 2 g2 0)(A:ac e 3= .rd 3 g3 0)(l2:lc.get 2 g2=some [ic a,ic b,ic c,ic d])(z:lc.get 3 g3=some [ic a',ic b',ic c',ic d'])(q:lc.gen 2=g2)(o:lc.gen 3=g3)(H:lc.gen 5=0)(F:lc.gen 6=0)(g: ∀e lc,ac e 4=ic (xu ((a,b),(c,d)) ((a',b'),(c',d')))->K .ret ⟨e,63,lc⟩ s):
 W (QS sp) 314 N3 ⟨e,63,lc⟩ s K:=by
 rw[ajX];refine cU (WF.sound ?_);unfold xu at g;dsimp only at g;cases x1:gh (a,b) (c,d) with
 |false=>
  rw[x1] at g;simp only[go_sem,seval,e2,A,l2,z,q,o,oE,x1];refine an1 B I ?_ ?_ l2 z q o H F g
  all_goals simp only[sN,seval,e2,A]
 |true=>
  rw[x1] at g;have j:=anO D C E;simp only[cT] at g;cases x2:sa ((a',b'),(c',d')) (a,b) with
  |false=>
   rw[x2] at g;rw[x2] at j;simp only[go_sem,seval,e2,A,l2,z,q,o,oE,x1,f,j];exact g _ _ (by simp only[sN,seval])
  |true=>
   rw[x2] at g;rw[x2] at j;simp only[cT] at g;cases x3:gh (a,b) (a',b') with
   |true=>
    simp only[go_sem,seval,e2,A,l2,z,q,o,oE,x1,x3,f,j]
    simp_all [sN]
   |false=>
    cases x4:gh (a,b) (c',d') with
    |true=>
     simp only[go_sem,seval,e2,A,l2,z,q,o,oE,x1,x3,x4,f,j]
     simp_all [sN]
    |false=>
     simp only[go_sem,seval,e2,A,l2,z,q,o,oE,x1,x3,x4,f,j]
     simp_all [sN]
def an2(j:sp 314=none)(g:sp 379=some si)(f:sp 422=some ze){u v:bT}(q:bk u.1=true)(n2:bk u.2=true)(o:bk v.1=true)(A:bk v.2=true)(z:s.gt<=s.aL):aq (QS sp) 314 [bX u,bX v] s (cd (vt u v)) s:=by
 obtain⟨⟨a,b⟩,c,d⟩:=u;obtain⟨⟨a',b'⟩,c',d'⟩:=v;refine aq.ofW I7.1 I7.2 I7.3 I7.4 j rfl ?_;rw[ajY];refine cU (WF.sound ?_);simp only[go_sem,seval,bX];refine cU (WF.sound ?_);unfold vt;cases x1:gh (a',b') (c',d') with
 |true=>
  simp only[go_sem,seval,oE,x1];refine YB (a:=a') (b:=b') (c:=c') (d:=d') (a':=a) (b':=b) (c':=c) (d':=d) g f o q n2 z (g2:=1) (g3:=1) ?_ ?_ ?_ ?_ ?_ ?_ ?_ ?_ ?_
  case refine_9=>exact fun e lc h=>⟨rfl,.inr rfl,h⟩
  all_goals simp_all [aj,cY,dj,gw]
 |false=>
  simp only[go_sem,seval,oE,x1];refine YB (a:=a) (b:=b) (c:=c) (d:=d) (a':=a') (b':=b') (c':=c') (d':=d') g f q o A z (g2:=1) (g3:=1) ?_ ?_ ?_ ?_ ?_ ?_ ?_ ?_ ?_
  case refine_9=>exact fun e lc h=>⟨rfl,.inr rfl,h⟩
  all_goals simp_all [aj,cY,dj,gw]
end
def zf:Sp
 | [u,v]=>(uR u).bind fun a=>(uR v).bind fun b=>bif bk a.1&&(bk a.2&&(bk b.1&&bk b.2)) then some (cd (vt a b)) else none
 |_=>none
theorem anZ{a b:bT}(j:bk a.1=true)(n2:bk a.2=true)(g:bk b.1=true)(f:bk b.2=true):zf [bX a,bX b]=some (cd (vt a b)):=by
 grind [zf,Hu]
def RB:dX:=[(379,si),(422,ze)]
def ab1:dR RB:=.cons PG (.cons anP .nil)
def an0:db ae 314 zf:=by
 refine pC ab1 fun j u h=>?_;unfold zf at h;split at h;simp only[ak] at h;obtain⟨a,q,b,o,h⟩:=h;obtain⟨g,h⟩:=bh h;simp only[bu] at g;have h:=sI h;subst h;rw[Ai q,Ai o];exact⟨rfl,_,_,an2 (sp:=fun f=>gL f RB) rfl rfl rfl g.1 g.2.1 g.2.2.1 g.2.2.2 (br _),rfl,⟨1,rfl⟩⟩;cases h
def Y4(a b c:Pt):du a b c= -1\/du a b c=0\/du a b c=1:=by
 unfold du;rcases B5 (gF a b c) with⟨e,_⟩|⟨e,_⟩|⟨e,_⟩<;>rw[e]<;>simp
def Y3(a b c d e f:Pt):IntKind.i64.wrap (du a b c*du d e f)=du a b c*du d e f:=by
 rcases Y4 a b c with h|h|h<;>rcases Y4 d e f with k|k|k<;>rw[h,k]<;>rfl
noncomputable def NN:SC:=(.seq (.draw ai0 NQ) (.seq (.draw ai1 NR) (.seq (.block 1 (.seq (.region aiN) (.cond (aD 92) (.seq (.region aiO) .ret) (.seq (.region aiP) (.cond (aD 103) (.seq (.region aiQ) .ret) (.seq (.region aiR) (.cond (aD 114) (.seq (.region aiS) .ret) .skip))))))) (.seq (.region aiT) .ret))))
noncomputable def NM:SC:=(.seq (.block 0 (.seq (.region aiW) (.cond (aD 24) (.seq (.region aiX) .ret) (.seq (.region aiY) (.cond (aD 28) (.seq (.region aiZ) .ret) .skip))))) NN)
def aiK:Wa=(.seq (.region aiL) (.seq (.seq (.region aiM) (.cond (aD 19) (.seq (.region aiU) .ret) .skip)) (.seq (.draw aiV NP) NM))):=rfl
section
variable{sp:SpZ}
set_option maxRecDepth 8000 in
set_option maxHeartbeats 2000000 in
def XM(f:sp 313=some tW)(M:bk (a,b)=true)(n2:bk (c,d)=true)(J:bk (a',b')=true)(I:bk (c',d')=true)(E:s.gt<=s.aL)(e2:ac e 2= .rd 2 g2 0)(H:ac e 3= .rd 3 g3 0)(l2:lc.get 2 g2=some [ic a,ic b,ic c,ic d])(D:lc.get 3 g3=some [ic a',ic b',ic c',ic d'])(C:lc.gen 2=g2)(B:lc.gen 3=g3)(F: ∀e lc,ac e 4=ic (qC ((a,b),(c,d)) ((a',b'),(c',d')))->K .ret ⟨e,125,lc⟩ s):W (QS sp) 225 NN ⟨e,125,lc⟩ s K:=by
 have A:=A8 M n2 J;have z:=A8 M n2 I;have q:=A8 J I M;have o:=A8 J I n2;have j:=Y3 (a,b) (c,d) (a',b') (a,b) (c,d) (c',d');have g:=Y3 (a',b') (c',d') (a,b) (a',b') (c',d') (c,d);unfold NN;refine WF.sound ?_;cases c1:bc 0 (du (a,b) (c,d) (a',b')*du (a,b) (c,d) (c',d')) with
 |true=>
  simp only[go_sem,seval,qy,e2,H,l2,D,C,B,E,f,A,z,q,o,j,g,c1];exact F _ _ (by simp only[sN,seval,qC,c1,li,kh,ut,iR,je,gN,cw,dW])
 |false=>
  cases c2:bc 0 (du (a',b') (c',d') (a,b)*du (a',b') (c',d') (c,d)) with
  |true=>
   simp only[go_sem,seval,qy,e2,H,l2,D,C,B,E,f,A,z,q,o,j,g,c1,c2];exact F _ _ (by simp only[sN,seval,qC,c1,c2,li,kh,ut,iR,je,gN,cw,dW])
  |false=>
   cases c3:bc (du (a,b) (c,d) (a',b')*du (a,b) (c,d) (c',d')) 0 with
   |true=>
    cases c4:bc (du (a',b') (c',d') (a,b)*du (a',b') (c',d') (c,d)) 0 with
    |true=>
     simp only[go_sem,seval,qy,e2,H,l2,D,C,B,E,f,A,z,q,o,j,g,c1,c2,c3,c4];exact F _ _ (by simp only[sN,seval,qC,c1,c2,c3,c4,li,kh,ut,iR,je,gN,cw,dW])
    |false=>
     cases c5:an (du (a,b) (c,d) (a',b')*du (a,b) (c,d) (c',d')) 0 with
     |true=>
      cases c6:an (du (a',b') (c',d') (a,b)*du (a',b') (c',d') (c,d)) 0 with
      |true=>
       simp only[go_sem,seval,qy,e2,H,l2,D,C,B,E,f,A,z,q,o,j,g,c1,c2,c3,c4,c5,c6];exact F _ _ (by simp only[sN,seval,qC,c1,c2,c3,c4,c5,c6,li,kh,ut,iR,je,gN,cw,dW])
      |false=>
       simp only[go_sem,seval,qy,e2,H,l2,D,C,B,E,f,A,z,q,o,j,g,c1,c2,c3,c4,c5,c6];exact F _ _ (by simp only[sN,seval,qC,c1,c2,c3,c4,c5,c6,li,kh,ut,iR,je,gN,cw,dW])
     |false=>
      simp only[go_sem,seval,qy,e2,H,l2,D,C,B,E,f,A,z,q,o,j,g,c1,c2,c3,c4,c5];exact F _ _ (by simp only[sN,seval,qC,c1,c2,c3,c4,c5,li,kh,ut,iR,je,gN,cw,dW])
   |false=>
    cases c5:an (du (a,b) (c,d) (a',b')*du (a,b) (c,d) (c',d')) 0 with
    |true=>
     cases c6:an (du (a',b') (c',d') (a,b)*du (a',b') (c',d') (c,d)) 0 with
     |true=>
      simp only[go_sem,seval,qy,e2,H,l2,D,C,B,E,f,A,z,q,o,j,g,c1,c2,c3,c5,c6];exact F _ _ (by simp only[sN,seval,qC,c1,c2,c3,c5,c6,li,kh,ut,iR,je,gN,cw,dW])
     |false=>
      simp only[go_sem,seval,qy,e2,H,l2,D,C,B,E,f,A,z,q,o,j,g,c1,c2,c3,c5,c6];exact F _ _ (by simp only[sN,seval,qC,c1,c2,c3,c5,c6,li,kh,ut,iR,je,gN,cw,dW])
    |false=>
     simp only[go_sem,seval,qy,e2,H,l2,D,C,B,E,f,A,z,q,o,j,g,c1,c2,c3,c5];exact F _ _ (by simp only[sN,seval,qC,c1,c2,c3,c5,li,kh,ut,iR,je,gN,cw,dW])
set_option maxRecDepth 8000 in
set_option maxHeartbeats 2000000 in
def amB(f:sp 313=some tW)(g:sp 314=some zf)(D:bk (a,b)=true)(n2:bk (c,d)=true)(F:bk (a',b')=true)(E:bk (c',d')=true)(I:s.gt<=s.aL)(e2:ac e 2= .rd 2 g2 0)(z:ac e 3= .rd 3 g3 0)(l2:lc.get 2 g2=some [ic a,ic b,ic c,ic d])(q:lc.get 3 g3=some [ic a',ic b',ic c',ic d'])(o:lc.gen 2=g2)(j:lc.gen 3=g3)(C: ∀e lc,ac e 4=ic (qN ((a,b),(c,d)) ((a',b'),(c',d')))->K .ret ⟨e,125,lc⟩ s):W (QS sp) 225 NM ⟨e,125,lc⟩ s K:=by
 have B:=A8 D n2 F;have A:=A8 D n2 E;have H:zf [.agg [ic a,ic b,ic c,ic d],.agg [ic a',ic b',ic c',ic d']]=some (ic (vt ((a,b),(c,d)) ((a',b'),(c',d')))):=anZ (a:=((a,b),(c,d))) (b:=((a',b'),(c',d'))) D n2 F E;unfold NM;refine cU (WF.sound ?_);cases x0:sm ((a,b),(c,d)) ((a',b'),(c',d')) with
 |true=>
  simp only[go_sem,seval,bX,bj,bg,aZ,bf,evc,oE,Dp,e2,z,l2,q,o,j,f,g,B,A,x0];exact C _ _ (by simp only[sN,seval,qN,x0])
 |false=>
 cases x1:gh (a,b) (c,d) with
 |true=>
  simp only[go_sem,seval,bX,bj,bg,aZ,bf,evc,oE,Dp,e2,z,l2,q,o,j,f,g,B,A,H,x0,x1];exact C _ _ (by simp only[sN,seval,qN,lF,x0,x1,iR,li,kh,kg,cw])
 |false=>
 cases x2:gh (a',b') (c',d') with
 |true=>
  simp only[go_sem,seval,bX,bj,bg,aZ,bf,evc,oE,Dp,e2,z,l2,q,o,j,f,g,B,A,H,x0,x1,x2];exact C _ _ (by simp only[sN,seval,qN,lF,x0,x1,x2,iR,li,kh,kg,cw])
 |false=>
 cases x3:an (du (a,b) (c,d) (a',b')) 0 with
 |false=>
  simp only[go_sem,seval,bX,bj,bg,aZ,bf,evc,oE,Dp,e2,z,l2,q,o,j,f,g,B,A,x0,x1,x2,x3];refine XM f D n2 F E I ?_ ?_ l2 q o j fun e lc h=>C e lc ?_;simp only[sN,seval,e2];simp only[sN,seval,z];rw[h];simp only[qN,lF,x0,x1,x2,x3,iR,li,kh,kg,gN,dW,cT,cF]
 |true=>
 cases x4:an (du (a,b) (c,d) (c',d')) 0 with
 |true=>
  simp only[go_sem,seval,bX,bj,bg,aZ,bf,evc,oE,Dp,e2,z,l2,q,o,j,f,g,B,A,H,x0,x1,x2,x3,x4];exact C _ _ (by simp only[sN,seval,qN,lF,x0,x1,x2,x3,x4,iR,li,kh,kg,cw])
 |false=>
  simp only[go_sem,seval,bX,bj,bg,aZ,bf,evc,oE,Dp,e2,z,l2,q,o,j,f,g,B,A,x0,x1,x2,x3,x4];refine XM f D n2 F E I ?_ ?_ l2 q o j fun e lc h=>C e lc ?_;simp only[sN,seval,e2];simp only[sN,seval,z];rw[h];simp only[qN,lF,x0,x1,x2,x3,x4,iR,li,kh,kg,gN,dW,cT,cF]
set_option maxRecDepth 8000 in
set_option maxHeartbeats 2000000 in
def amE(q:sp 225=none)(o:sp 311=some rU)(j:sp 312=some Bm)(g:sp 313=some tW)(f:sp 314=some zf){u v:bT}(D:bk u.1=true)(n2:bk u.2=true)(C:bk v.1=true)(B:bk v.2=true)(E:s.gt<=s.aL):aq (QS sp) 225 [bX u,bX v] s (cd (ld u v)) s:=by
 have I:=am5 D n2 C B;have A:=Qk D n2;have z:=Qk C B;obtain⟨⟨a,b⟩,c,d⟩:=u;obtain⟨⟨a',b'⟩,c',d'⟩:=v;have H:=Ql a b c d;have F:=Ql a' b' c' d';unfold ld;generalize gY ((a,b),(c,d))=S at*;generalize gY ((a',b'),(c',d'))=T at*;obtain⟨⟨Y,U⟩,O,M⟩:=S;obtain⟨⟨V,P⟩,N,J⟩:=T;refine aq.ofW IP.1 IP.2 IP.3 IP.4 q rfl ?_;rw[aiK];refine cU (WF.sound ?_);simp only[go_sem,seval,bX];refine cU (WF.sound ?_);simp only[go_sem,seval,bX,bj,bg,aZ,bf,evc,o,I];refine cU (WF.sound ?_);simp only[go_sem,seval,bX,E,j,H,F];refine amB g f (a:=Y) (b:=U) (c:=O) (d:=M) (a':=V) (b':=P) (c':=N) (d':=J) A.1 A.2 z.1 z.2 E (g2:=1) (g3:=1) ?_ ?_ ?_ ?_ ?_ ?_ ?_
 case refine_7=>exact fun e lc h=>⟨rfl,.inr rfl,h⟩
 all_goals simp only[abc,cY,dj,gw,ah,bQ,bS]
end
def lD:Sp
 | [u,v]=>(uR u).bind fun a=>(uR v).bind fun b=>bif bk a.1&&(bk a.2&&(bk b.1&&bk b.2)) then some (cd (ld a b)) else none
 |_=>none
def OQ{a b:bT}(j:bk a.1=true)(n2:bk a.2=true)(g:bk b.1=true)(f:bk b.2=true):lD [bX a,bX b]=some (cd (ld a b)):=by
 simp only[akZ,lD,Hu,j,n2,g,f,cw]
def RC:dX:=[(311,rU),(312,Bm),(313,tW),(314,zf)]
def ab2:dR RC:=.cons O9 (.cons aay (.cons Y2 (.cons an0 .nil)))
def OS:db ae 225 lD:=by
 refine pC ab2 fun j u h=>?_;unfold lD at h;split at h;simp only[ak] at h;obtain⟨a,q,b,o,h⟩:=h;obtain⟨g,h⟩:=bh h;simp only[bu] at g;have h:=sI h;subst h;rw[Ai q,Ai o];exact⟨rfl,_,_,amE (sp:=fun f=>gL f RC) rfl rfl rfl rfl rfl g.1 g.2.1 g.2.2.1 g.2.2.2 (br _),rfl,⟨1,rfl⟩⟩;cases h
end Go.Proofs.YtnnppcoplinajaaGreat
namespace Go.Proofs.YtnnppcoplinajaaGreat
open Go.Ag
open Go.Sort (putRow grow Holds SWO HoldsK putRowK flatK get_flatK size_flatK)
noncomputable def Cs(G:Gh)(h:aC aR):Gh:= {at_:=fun _=>none,ro:=fun b o=>(og G h b o).bind (AC h),dim:=fun _=>none }
variable{G:Gh}{h:aC aR}
theorem UZ{b o:Nat}{u g:aa}(e:og G h b o=some u)(f:fY h u g):(Cs G h).ro b o=some g:=by
 show(og G h b o).bind (AC h)=_;rw[e];exact UH f
variable{w:World}
theorem adJ(wr:WR G h w){b o:Nat}{u:aa}(e:og G h b o=some u):b<w.heap.size/\u.scal=true/\ ∃x,w.cell? ⟨b,o,none⟩=some x/\VR G u x:=by
 rcases HE e with e|⟨n,a,cs,i,g,f,rfl,rfl,q⟩
 obtain⟨g,x,f,j⟩:=wr.ro b o u e;exact⟨World.block_lt_of_cell? w ⟨b,o,none⟩ f,g,x,f,j⟩;obtain⟨a',B,g2,C,t,g3,A,z⟩:=wr.obj n _ g
 grind [o0]
theorem asX{W:World}(wr:WR G h w){f:Nat}(z: ∀b o u,og G h b o=some u->b≠f)(B: ∀b,b<w.heap.size->b≠f->W.heap[b]? =w.heap[b]?):WR (Cs G h) .nil W:=by
 refine⟨fun _ _ e=>(by cases e),fun _ _ _ _ e=>absurd rfl e,fun b o v e=>?_,fun _ _ _ _ _ e=>(by cases e),fun _ _ e=>(by cases e),fun _ _ e=>(by cases e)⟩;simp only[Cs,ak] at e;obtain⟨u,q,j⟩:=e;obtain⟨F,E,x,D,C⟩:=adJ wr q;have g:=UI j;obtain⟨k,A⟩:=g
 grind [H2,World.cell?_of_block,thaw,UZ]
variable{α:Type}
theorem aq6[Inhabited α](enc:α->List Value)(k:Nat)(w:World)(f off m:Nat)(j:Array α)(os:Array Go.Obj)(b:Nat)(o:b<w.heap.size)(g:b≠f):(sortWorldK enc k w f off m j os).heap[b]? =w.heap[b]? :=by
 grind [sortWorldK,putRowK,Go.Sort.heap_grow_old,putRow,Go.Sort.mapBlock,Sort.ahead]
theorem aeh[Inhabited α]{g:Nat}{sp:Sp}(E:db ae g sp)(T: ∀j w,(callFunc g j).run ae w= .ok (.enter g j) w){G2:Gh}{enc:α->List Value}{encA:α->aa}(H: ∀x,VR G2 (encA x) (.agg (enc x).toArray)){J:α->α->Int}(F: ∀x y,sp [encA x,encA y]=some (.int .i64 (J x y)))(k q off size:Nat)(w:World)(D: ∀m z B,WR G2 .nil (sortWorldK enc k w q off m B z)):CmpLays ae g #[] enc k J q off size w:=by
 intro m z B _ x y;have D:=D m z B;generalize sortWorldK enc k w q off m B z=W at*;have P:=E _ _ (F x y) G2 .nil W [.agg (enc x).toArray,.agg (enc y).toArray] D (.cons (H x) (.cons (H y) .nil));rcases P with⟨U,f,I,_⟩|⟨_,S⟩
 rw[T] at I;cases I;refine S.mono ?_;rintro e f ⟨v,rfl,Y,_,C,M⟩;cases M;refine⟨rfl,f.drawn-W.drawn,f.heap.extract W.heap.size f.heap.size,?_⟩;have A:=C.quiet;have N:=C.size;have o:f.heap=W.heap++f.heap.extract W.heap.size f.heap.size:=by
  apply Array.ext_getElem?;intro i;by_cases hi:i<W.heap.size;rw[Array.getElem?_append_left hi];exact C.keep i hi fun O=>by
   obtain⟨n,a,h,_⟩:=O;exact h rfl
  grind
 have V:=A.2.2.2.2.2;refine abv o A.2.2.2.2.1 ?_ A.1 A.2.1;show f.drawn=W.drawn+(f.drawn-W.drawn);omega
def oG{k:Nat}: ∀ {rows:List aa},(∀v∈rows,v.cells.length=k)->(aF rows).length=rows.length*k
 | [],_=>by simp[aF]
 |v::l,h=>by
  have:=oG (rows:=l) fun x f=>h x (iE _ f);rw[aF,cJ,this,h v iL,bH,mJ];omega
theorem PV{k:Nat}(f:0<k): ∀ {rows:List aa},(∀v∈rows,v.cells.length=k)-> ∀t,(aF rows)[t]? =(rows[t / k]?).bind fun v=>v.cells[t % k]?
 | [],_,t=>by simp[aF]
 |v::l,h,t=>by
  have o:=h v iL;have g:=PV f (rows:=l) fun x j=>h x (iE _ j);rw[aF];by_cases ht:t<k
  grind [Nat.div_eq_of_lt,D0]
  rw[List.getElem?_append_right (by omega),o,g];have z:t / k=(t-k) / k+1:=by
   rw[<-Nat.add_div_right _ f];congr 1;omega
  have q:t % k=(t-k) % k:=by
   rw[<-Nat.add_mod_right (t-k) k];congr 1;omega
  rw[z,q,jO]
variable{i k:Nat}
theorem ZW{rows:List aa}(h: ∀v∈rows,v.cells.length=k){v:aa}(hi:rows[i]? =some v):cut (aF rows) (i*k) k=some v.cells:=by
 induction rows generalizing i with
 |nil=>simp at hi
 |cons x l f=>
  have j:=h x iL;cases i with
  |zero=>
   grind [cut,aF,bD]
  |succ i=>
   rw[jO] at hi
   have:=f (fun y g=>h y (iE _ g)) hi;rw[<-this];simp only[cut,aF];have:(x.cells++aF l).drop ((i+1)*k)=(aF l).drop (i*k):=by
    rw[show(i+1)*k=x.cells.length+i*k by rw[j,mJ];omega,<-xP,List.drop_left]
   rw[this]
theorem zx{rows:List aa}(h: ∀v∈rows,v.cells.length=k)(hi:i<rows.length){x:aa}(z:x.cells.length=k):fL (aF rows) (i*k) x.cells=some (aF (rows.set i x)):=by
 induction rows generalizing i with
 |nil=>simp at hi
 |cons v l B=>
  have j:=h v iL;have A:=oG (rows:=l) fun y q=>h y (iE _ q);have f:(v.cells++aF l).length=(l.length+1)*k:=by rw[cJ,j,A,mJ];omega
  cases i with
  |zero=>
   have o:bw (0*k+k) ((l.length+1)*k)=true:=cP (by rw[mJ];omega);have g:(v.cells++aF l).drop k=aF l:=by rw[<-j,List.drop_left]
   rw[Nat.zero_mul,bV] at o;simp only[go_sem,aF,f,z,o,List.set_cons_zero,Nat.zero_mul,g]
  |succ i=>
   have c:i<l.length:=by simpa using hi
   have B:=B (fun y q=>h y (iE _ q)) c
   have d:i*k+k<=l.length*k:=by rw[<-mJ];exact uG k c
   have b:bw ((i+1)*k+k) ((l.length+1)*k)=true:=cP (by rw[mJ,mJ];omega)
   have a:bw (i*k+k) (l.length*k)=true:=cP d
   simp only[fL,z,A,a,cond_true,Option.some.injEq] at B
   simp only[fL,aF,f,z,b,cond_true,List.set_cons_succ,<-B]
   have e:(v.cells++aF l).take ((i+1)*k)=v.cells++(aF l).take (i*k):=by
    rw[show(i+1)*k=v.cells.length+i*k by rw[j,mJ];omega,List.take_length_add_append]
   have g:(v.cells++aF l).drop ((i+1)*k+k)=(aF l).drop (i*k+k):=by
    rw[show(i+1)*k+k=v.cells.length+(i*k+k) by rw[j,mJ];omega,<-xP,List.drop_left]
   rw[e,g,List.append_assoc]
def xy(f:Nat->Nat->Int)(n:Nat):List (Fin n):=(ux n).mergeSort fun i j=> !(ltOf fun x y:Fin n=>f x y) j i
def xI(f:Nat->Nat->Int)(rows:List aa):List aa:=(xy f rows.length).map fun i=>rows[i]
def Ps(f:Nat->Nat->Int)(n:Nat):(xy f n).Perm (ux n):=List.mergeSort_perm _ _
def aaw(f:Nat->Nat->Int)(rows:List aa):(xI f rows).Perm rows:=by
 have h:=(Ps f rows.length).map fun i=>rows[i];have e:(ux rows.length).map (fun i=>rows[i])=rows:=by
  refine List.ext_getElem (by simp) fun i j g=>?_;simp
 rwa [e] at h
theorem abn{G:Gh}: ∀ {cs:List aa} {vs:List Value},cs.length=vs.length->(∀(i:Nat) v,cs[i]? =some v-> ∃x,vs[i]? =some x/\VR G v x)->ck G cs vs
 | [],[],_,_=>.nil
 | [],_::_,h,_=>by simp at h
 |_::_,[],h,_=>by simp at h
 |c::cs,v::vs,h,hv=>by
  obtain⟨x,f,j⟩:=hv 0 c rfl;have f:some v=some x:=f;injection f with f;subst f
  exact .cons j (abn (by simpa using h) fun i u g=>hv (i+1) u g)
theorem Qe{f g:Nat}{ρ:Go.Shelf.Ren}(L:SlLaysF0.n6 ae ρ)(hf:ρ.f 6=f)(aE: ∀w,(isAgg (ρ.t 24)).run ae w= .ok true w)(zE: ∀w,(Go.sizeOf (ρ.t 24)).run ae w= .ok k w)(ef: ∀q w,(callFunc f q).run ae w= .ok (.enter f q) w)(eg: ∀q w,(callFunc g q).run ae w= .ok (.enter g q) w){sp:Sp}(b4:db ae g sp)(wr:WR G h w){m lcap:Nat}{rows us:List aa}(hl:h.get m=some (.cells (aF rows)))(hk: ∀v∈rows,v.cells.length=k/\v= .agg v.cells)(D:0<k)(a0:us.length=rows.length)(hu: ∀(i:Nat) v u,rows[i]? =some v->us[i]? =some u->fY (h.set m none) v u)(F:Nat->Nat->Int)(c4: ∀(i j:Nat) u u',us[i]? =some u->us[j]? =some u'->sp [u,u']=some (.int .i64 (F i j)))(hO:SWO (ltOf fun x y:Fin rows.length=>F x y))(hT: ∀x y:Fin rows.length,(ltOf fun x y:Fin rows.length=>F x y) x y=false->(ltOf fun x y:Fin rows.length=>F x y) y x=false->x=y)(c9:rows.length<=1000000){y:Value}(hy:VR G (.arr k m 0 rows.length lcap) y):
 mM ae f ⟨[y,.func (.func g) #[] #[]]⟩ w fun z V=> ∃M,WR M (h.set m (some (.cells (aF (xI F rows))))) V/\cZ G h w M (h.set m (some (.cells (aF (xI F rows))))) V 0 0/\VR M (.tup []) z:=by
 subst hf;have N: ∀v∈rows,v.cells.length=k:=fun v hv=>(hk v hv).1;have d0: ∀v∈xI F rows,v.cells.length=k:=fun v hv=>N v ((aaw F rows).mem_iff.1 hv);have b5:(xI F rows).length=rows.length:=(aaw F rows).length_eq;obtain⟨a,b,b2,rfl,E,H,b1,c7,d,B,hd⟩:=LK hy;obtain⟨b',O,_,C,e,hC,a2,d1⟩:=wr.obj m _ hl;rw[E] at O;injection O with O;subst O
 rw[a2] at B;injection B with B
 have c5:=wr.below m b E;obtain⟨val,a4⟩: ∃val:Nat->Nat->Value, ∀(i:Nat) v,rows[i]? =some v-> ∀(t:Nat) u,v.cells[t]? =some u->C[b.off+(i*k+t)]? =some (val i t)/\VR G u (val i t)/\u.scal=true:=by
  refine⟨fun i t=>(C[b.off+(i*k+t)]?).getD .nilFunc,fun i v S t u ht=>?_⟩;have a5:t<k:=by
   have:=(nY.1 ht).1;rwa [N v (List.mem_of_getElem? S)] at this
  have e:(aF rows)[i*k+t]? =some u:=by
   rw[PV D N];have e1:(i*k+t) / k=i:=by rw[Nat.add_comm,Nat.add_mul_div_right _ _ D,Nat.div_eq_of_lt a5,bV]
   have e2:(i*k+t) % k=t:=by rw[Nat.add_comm,Nat.add_mul_mod_self_right,D0 a5]
   rw[e1,e2,S];exact ht
  grind
 have P: ∀(i:Nat) v,rows[i]? =some v->ck G v.cells ((ix k).map (val i)):=fun i v S=>by
  grind [abn]
 have I: ∀(i:Nat) v,rows[i]? =some v->dG v.cells=true:=fun i v S=>by
  grind [dG,List.getElem?_of_mem]
 have b0: ∀n Y (J:Array (Fin rows.length)) (Z:Inhabited (Fin rows.length)),J.toList.length=rows.length-> ∃M,WR M (h.set m (some (.cells (aF (J.toList.map fun i=>rows[i]))))) (sortWorldK (fun i:Fin rows.length=>(ix k).map (val i)) k w b.block b.off n J Y)/\
  cZ G h w M (h.set m (some (.cells (aF (J.toList.map fun i=>rows[i]))))) (sortWorldK (fun i:Fin rows.length=>(ix k).map (val i)) k w b.block b.off n J Y) 0 0/\VR M (.tup []) (.tuple #[]):=fun n Y J Z c2=>by
  have c3: ∀v∈J.toList.map (fun i=>rows[i]),v.cells.length=k:=fun v hv=>by
   grind
  refine Kn wr hl E id (flatK (fun i:Fin rows.length=>(ix k).map (val i)) k J) n Y (fun C' e' A=>?_) (fun t v ht=>?_);rw[hC] at A;injection A with A;injection A with A _ _;subst A
  rw[size_flatK,<-Array.length_toList,c2,B]
  have:=uG k b1;omega;rw[PV D c3] at ht;simp only[ak,jf,Option.map_eq_some_iff] at ht;obtain⟨r,⟨i,S,rfl⟩,ht⟩:=ht;have b8:t / k<J.size:=by
   have:=(nY.1 S).1;simpa using this
  have c8:t<J.size*k:=by
   have:=Nat.div_add_mod t k
   have:=Nat.mod_lt t D;have h3:(t / k+1)*k<=J.size*k:=uG k b8;rw[mJ] at h3
   have:=Nat.div_add_mod t k;rw[Nat.mul_comm] at this;omega
  grind [flatK]
 by_cases hn:rows.length=0;have b6:rows=[]:=uv hn;subst b6;refine .inr ⟨ef _ _,(AnyF.slices_SortFunc_none L (some a) b2 (.func (.func g) #[] #[]) w).mono ?_⟩;rintro e' V ⟨rfl,rfl⟩;obtain⟨M,g1,g2,g3⟩:=Kn (cs':=[]) wr hl E id (#[]:Array Value) 0 #[] (fun C' e' A=>by
  grind) (fun i v S=>by simp at S)
 have hw:grow (putRow id (Sort.ahead V 0) b.block b.off (#[]:Array Value)) #[]=V:=by
  rw[Go.Sort.grow_empty,Go.Sort.ahead_zero];exact Go.Sort.putRow_self id V b.block b.off _ (fun j hj=>by simp at hj)
 rw[hw] at g1 g2;rw[uv b5];exact⟨_,rfl,M,g1,g2,g3⟩
 haveI Z:Inhabited (Fin rows.length):=⟨⟨0,by omega⟩⟩
 rcases c7 with h0|⟨U,T⟩
 exact absurd h0 hn;obtain⟨ab,ao,d2⟩:=a;simp only at U T H;subst U;subst T;subst H;have a1:(ux rows.length).toArray.size=rows.length:=by simp
 have hH:HoldsK (fun i:Fin rows.length=>(ix k).map (val i)) k w b.block b.off (ux rows.length).toArray:=fun j hj=>by
  have a9:j<(ux rows.length).toArray.size*k:=by rw[size_flatK] at hj;exact hj
  refine⟨?_,by simp[World.frozen?,hC]⟩;have a8:j / k<rows.length:=by
   rw[a1] at a9;exact(Nat.div_lt_iff_lt_mul D).2 a9
  have c1:=Nat.mod_lt j D;have a7:=N _ (xR a8);obtain⟨h1,_,_⟩:=a4 (j / k) rows[j / k] (by simp[a8]) (j % k) (rows[j / k].cells[j % k]'(by omega)) (by simp[a7,c1]);have ej:j / k*k+j % k=j:=by rw[Nat.mul_comm];exact Nat.div_add_mod j k
  rw[ej] at h1
  grind [o0,get_flatK]
 have a3:WR G (h.set m none) w:=wr.killed m;have b7: ∀bb o u,og G (h.set m none) bb o=some u->bb≠b.block:=fun bb o u hc he=>by
  subst he;rcases HE hc with hc|⟨n,a',cs,i,g1,g2,g3,_,_⟩
  have:=wr.apart m _ b o u hl E hc;cases this.1;by_cases hnm:n=m
  grind [aC.get_set]
  rw[aC.get_set,iN hnm] at g1;exact hnm (wr.sep n m a' b (by rw[g1];simp) (by rw[hl];simp) g2 E g3)
 have b3: ∀x:Fin rows.length,VR (Cs G (h.set m none)) (us[x]'(by rw[a0];exact x.2)) (.agg ((ix k).map (val x)).toArray):=fun x=>by
  have hx:rows[x.1]? =some rows[x]:=by simp
  obtain⟨kk,c0⟩:=hu x rows[x] _ hx (gn (by rw[a0];exact x.2));refine thaw (fun _ _ _ _=>UZ) a3 kk (v:=rows[x]) ?_ c0;rw[(hk rows[x] (xR _)).2];exact .agg (I x _ hx) (P x _ hx)
 have hO:=AnyQ.slices_SortFunc_total L k aE zE (fun i:Fin rows.length=>(ix k).map (val i)) (fun _=>by simp) (fun x v hv=>by
  have hx:rows[x.1]? =some rows[x]:=by simp
  exact(P x _ hx).ones (I x _ hx) v hv) (fun x y:Fin rows.length=>F x y) hO g #[] b.block b.off b2 (ux rows.length).toArray w eg
  (aeh b4 eg (G2:=Cs G (h.set m none)) (encA:=fun x=>us[x]'(by rw[a0];exact x.2)) b3 (fun x y=>c4 x y _ _ (gn _) (gn _)) k b.block b.off _ w
   (fun mm Y dk=>asX a3 b7 fun bb c6 a6=>aq6 _ _ _ _ _ _ _ _ bb c6 a6)) hH c5 (by rw[a1];omega) hT
 rw[a1] at hO;refine .inr ⟨ef _ _,hO.mono ?_⟩;rintro e' V ⟨rfl,n,Y,rfl⟩;obtain⟨M,g1,g2,g3⟩:=b0 n Y (xy F rows.length).toArray Z (by simpa using(Ps F rows.length).length_eq)
 grind [xy,xI]
end Go.Proofs.YtnnppcoplinajaaGreat
namespace Go.Proofs.YtnnppcoplinajaaGreat
open Go.Ag
variable{Q:aH}[Std Q]
abbrev dg:=Int×bT
def jX(s:bT):Int:=min s.1.1 s.2.1
def vh(s:bT):Int:=max s.1.1 s.2.1
def qJ(s:bT):Int:=min s.1.2 s.2.2
def qG(s:bT):Int:=max s.1.2 s.2.2
def jz(x:dg):List aa:=[ic x.1,ic x.2.1.1,ic x.2.1.2,ic x.2.2.1,ic x.2.2.2,ic (jX x.2),ic (vh x.2),ic (qJ x.2),ic (qG x.2)]
def cX(x:dg):aa:=.agg (jz x)
abbrev Mt:=Int×Int×Int
def im(m:Mt):aa:=.agg [ic m.1,ic m.2.1,ic m.2.2]
def A4:Sp
 | [.int .i64 a,.int .i64 b]=>some (aU (min a b,max a b))
 |_=>none
variable{s:St}{x:dg}
section
variable{sp:SpZ}
def anK(f:sp 303=none)(a b:Int)(s:St):aq (QS sp) 303 [ic a,ic b] s (aU (min a b,max a b)) s:=by
 refine aq.of4 IV.1 IV.2 IV.3 IV.4 f ?_;simp only[go_sem,seval,aU,ru,sY,bj,bg,aZ,bf,evc]
def adi(f:sp 308=none)(a b:Int×Int)(s:St):aq (QS sp) 308 [aU a,aU b] s (.bool (cr a.1 b.2&&cr b.1 a.2)) s:=by
 refine aq.of3 IX.1 IX.2 IX.3 IX.4 f rfl ?_;cases e1:cr a.1 b.2 with
 |false=>simp only[go_sem,seval,aU,e1,dW]
 |true=>simp only[go_sem,seval,aU,e1,eH]
def aeg(f:sp 305=none)(g:sp 232=some o5)(j:sp 108=some vA){y:dg}(z:IntKind.i64.wrap (x.1-y.1)=x.1-y.1)(A:s.gt<=s.aL):aq (QS sp) 305 [cX x,cX y] s (cd (mz [jx (jX x.2) (jX y.2),x.1-y.1])) s:=by
 have q:o5 [ic (jX x.2),ic (jX y.2)]=some (ic (jx (jX x.2) (jX y.2))):=rfl;have o:vA [.list 1 [ic (jx (jX x.2) (jX y.2)),ic (x.1-y.1)] .uP]=some (ic (mz [jx (jX x.2) (jX y.2),x.1-y.1])):=rfl;refine aq.of3 IW.1 IW.2 IW.3 IW.4 f rfl ?_;simp only[go_sem,seval,cX,jz,cd,A,g,j,q,o,z,bj,bg,aZ,bf,evc]
def aek(f:sp 310=none)(g:sp 108=some vA){x y:Mt}(q:IntKind.i64.wrap (x.1-y.1)=x.1-y.1)(j:IntKind.i64.wrap (x.2.1-y.2.1)=x.2.1-y.2.1)(s:St):aq (QS sp) 310 [im x,im y] s (cd (mz [x.1-y.1,x.2.1-y.2.1])) s:=by
 have o:vA [.list 1 [ic (x.1-y.1),ic (x.2.1-y.2.1)] .uP]=some (ic (mz [x.1-y.1,x.2.1-y.2.1])):=rfl;refine aq.of3 IY.1 IY.2 IY.3 IY.4 f rfl ?_;simp only[go_sem,seval,im,cd,g,o,q,j,bj,bg,aZ,bf,evc]
end
variable{n:Nat}{a:dg}
def TS(f:No Q 307)(g:s.get [] n=some (.cells (jz a))):aq Q 307 [cX x,.ptr n 0] s (.bool (bc (vh x.2) (jX a.2))) s:=by
 refine aq.ofNZ ajR (co ?_);simp only[go_sem,seval,cX,jz,g]
def FA(mk:aK)(n m o l c:Nat)(s:St):jo ae mk 363 (.arr n m o l c) s=some (ic l):=by kernel_rfl
variable{R:List dg}
def wY: ∀v∈R.map cX,v.cells.length=9:=fun v f=>by
 obtain⟨x,_,rfl⟩:=List.mem_map.1 f;rfl
variable{i m:Nat}
def Ii(h:s.get [] m=some (.cells (aF (R.map cX))))(hi:R[i]? =some x):yT ae 368 (i*9) (s.get [] m)=some (cX x):=by
 rw[h,aY,PN,ZW wY (by rw[jf,hi];rfl)];rfl
def jn(a x:dg):Bool:=bc (vh x.2) (jX a.2)
def tu(p:dg->Bool):List dg->Nat->Int
 | [],_=> -1
 |x::l,i=>bif p x then(i:Int) else tu p l (i+1)
variable{lc:Ag.Loc}{K:Ex->Fr->St->Prop}{lcap:Nat}
def ag8(o:No Q 307){len:Nat}(Y:R.length<=1000000)(N:len<=R.length)(V:s.get [] m=some (.cells (aF (R.map cX))))(U:s.get [] n=some (.cells (jz a))){r:Int}(S: ∀e,r= -1->K (.exit 0) ⟨e,19,lc⟩ s)(T: ∀e,ac e 4=ic r->K .ret ⟨e,19,lc⟩ s):
 ∀(g f:List dg) (e:ax),R.take len=f++g->r=tu (jn a) g f.length->ac e 0= .arr 9 m 0 len lcap->ac e 1= .func (.func 307) [] [.ptr n 0]->ac e 7=uM len->ac e 8=uM f.length->W Q 418 (.loop Jh) ⟨e,19,lc⟩ s K:=by
 intro g;have O:(R.take len).length=len:=by rw[sC];omega
 induction g with
 |nil=>
  intro f e A D E B C z;have I:f.length=len:=by rw[<-O,A];simp
  refine bG ?_;simp only[go_sem,seval,Jh,E,B,C,z,I,cD];exact S _ D
 |cons x g P=>
  intro f e A D E B C z;have q:f.length<len:=by rw[<-O,A];simp
  have M:R[f.length]? =some x:=by
   have:(R.take len)[f.length]? =some x:=by rw[A];simp
   rwa [List.getElem?_take,iP q] at this
  have H:=Ii V M;have F:=dB (n:=f.length) (by omega);have J:(cX x).ge=true:=rfl;refine bG ?_;simp only[go_sem,seval,Jh,E,B,C,z,q,H,J];refine cG.of (TS o U) (by decide) ?_;cases hd:jn a x with
  |true=>
   have j:bc (vh x.2) (jX a.2)=true:=hd;simp only[go_sem,seval,j];exact T _ (by simp only[sN,seval,z,D,tu,hd])
  |false=>
   have j:bc (vh x.2) (jX a.2)=false:=hd;simp only[go_sem,seval,j,z,F];refine P (f++[x]) _ (by rw[A];simp) (by rw[D];simp only[tu,hd,cF,sA]) ?_ ?_ ?_ ?_
   all_goals simp only[sN,seval,E,B,C,sA]
def ag9(j:No Q 418)(f:No Q 307){len:Nat}(o:R.length<=1000000)(g:len<=R.length)(A:s.get [] m=some (.cells (aF (R.map cX))))(z:s.get [] n=some (.cells (jz a))):aq Q 418 [.arr 9 m 0 len lcap,.func (.func 307) [] [.ptr n 0]] s (cd (tu (jn a) (R.take len) 0)) s:=by
 refine aq.ofNZ WW (co ?_);simp only[go_sem,seval,FA];refine ag8 (lcap:=lcap) f o g A z (r:=tu (jn a) (R.take len) 0) ?_ ?_ (R.take len) [] _ rfl rfl (by simp only[sG,seval, *]) (by simp only[sG,seval, *]) (by simp only[sG,seval, *]) (by simp only[sN,seval];rfl);intro e q;simp only[go_sem,seval,q];rfl;intro e B;simp only[go_sem,seval,B];rfl
def ari(l:List ag):aa:=fI 1 (l.map aG)
def tagsV(l:List fE):aa:=fI 2 (l.map jd)
def awD:Sp
 | [v]=>(BO v).bind fun l=>bif bw l.length 100000 then some (ari (abu l)) else none
 |_=>none
def atn:Sp
 | [v,u]=>(jT v).bind fun a=>(jT u).bind fun b=>some (cd (ael a b))
 |_=>none
def BR:Sp
 | [v,u]=>(x9 v).bind fun a=>(x9 u).bind fun b=>bif bw a.length 1000000 then some (.bool (lL a b)) else none
 |_=>none
def AK:Sp
 | [v,u]=>(x9 v).bind fun a=>(x9 u).bind fun b=>bif bw a.length 1000000&&bw b.length 1000000 then some (.bool (wV a b)) else none
 |_=>none
variable{a b:List ag}{u v:aa}
section
variable{sp:SpZ}
def ac8(U:ay 1 aG v a)(T:ay 1 aG u b)(ha:a.length<=1000000)(hm:s.gt<=s.aL)(hx: ∀e,ac e 0=v->ac e 1=u->lL a b=decide (a.length<b.length)->K (.exit 0) ⟨e,41,lc⟩ s)(hr: ∀e,ac e 4= .bool (lL a b)->K .ret ⟨e,41,lc⟩ s):
 ∀(B rb f g:List ag) (e:ax),a=f++B->b=g++rb->f.length=g.length->lL a b=lL B rb->ac e 0=v->ac e 1=u->ac e 5= .int .i64 (f.length:Nat)->W (QS sp) 82 (.loop Fw) ⟨e,41,lc⟩ s K:=by
 have N:=U.ge;have Z:=T.ge;have M:=fun P s=>U.lenS cH P s;have O:=fun P s=>T.lenS cH P s;intro B
 induction B with
 |nil=>
  intro rb f g e I D C F J j H;have E:a.length=f.length:=by rw[I];simp
  have o:b.length=f.length+rb.length:=by rw[D,C];simp
  refine W.loopF ?_;simp only[dJ,FlZ,ah,aB,ofValue,pw,EK,Fw,J,H,N,M,E,cD];refine hx _ (by simp only[abK,ah, *]) (by simp only[abK,ah, *]) ?_;rw[F,E,o];cases rb with
  |nil=>simp[lL]
  |cons y rb=>simp[lL]
 |cons x B ih=>
  intro rb f g e I D C F J j H;have z:f.length<a.length:=by rw[I];simp
  have Y:a[f.length]? =some x:=by rw[I];simp
  have i1:=fun lc=>U.at cH.2.2.1 Y lc .i64;cases rb with
  |nil=>
   have o:b.length=f.length:=by rw[D,C];simp
   refine W.loopF ?_;simp only[dJ,FlZ,ah,aB,ofValue,pw,EK,Fw,J,j,H,N,Z,M,O,z,o,cD];refine hx _ (by simp only[abK,ah, *]) (by simp only[abK,ah, *]) ?_;rw[F,o,dN (by omega)];rfl
  |cons y rb=>
   have q:f.length<b.length:=by rw[D,C];simp
   have V:b[f.length]? =some y:=by rw[D,C];simp
   have i2:=fun lc=>T.at cH.2.2.1 V lc .i64;have S:=dB (n:=f.length) (by omega);refine W.loopF ?_;cases hq:x==y with
   |false=>
    have A:lL a b=fN x y:=by rw[F];simp only[lL,hq,cF]
    simp only[dJ,FlZ,isStore,List.take,List.drop,ah,aB,bQ,ey,vf,uO,ep,ofValue,pw,iB,EK,W6,alh,Fw,J,j,H,N,Z,M,O,i1,i2,z,q,hm,aG,hq];exact hr _ (by simp only[aj,ah,cT,A])
   |true=>
    have A:lL a b=lL B rb:=by rw[F];simp only[lL,hq,cT]
    simp only[dJ,FlZ,isStore,List.take,List.drop,ah,aB,bQ,ey,vf,uO,ep,ofValue,pw,iB,EK,W6,Fw,J,j,H,N,Z,M,O,i1,i2,z,q,hm,aG,hq,S];exact ih rb (f++[x]) (g++[y]) _ (by rw[I];simp) (by rw[D];simp) (by simp[C]) A (by simp only[abK,ah, *]) (by simp only[abK,ah, *]) (by simp only[abc,adz,ah])
def ac9(o:sp 82=none)(j:ay 1 aG v a)(g:ay 1 aG u b)(C:a.length<=1000000)(B:s.gt<=s.aL):aq (QS sp) 82 [v,u] s (.bool (lL a b)) s:=by
 have I:=j.ge;have H:=g.ge;have z:=fun f s=>j.lenS cH f s;have q:=fun f s=>g.lenS cH f s;refine aq.of3 Jx.1 Jx.2 Jx.3 Jx.4 o rfl ?_;simp only[dJ,FlZ,aaA,gI,aB,bQ,cK,ofValue,pw,Oz];refine ac8 j g C B ?_ ?_ a b [] [] _ rfl rfl rfl rfl (by simp only[abc,ah, *]) (by simp only[abc,ah, *]) (by simp only[abc,ah, *];rfl);intro e F E A;simp only[dJ,FlZ,ah,aB,reduceCtorEq,EK,F,E,I,H,z,q,A];intro e D;simp only[aT,FQ,Eg,reduceCtorEq,oT,eq_self,D]
end
def SL(h1:ay 1 aG v a)(o:ay 1 aG u b)(g:bL v=true)(f:bL u=true)(j:a.length<=1000000):BR [v,u]=some (.bool (lL a b)):=by
 simp only[akZ,BR,Hx h1 g,Hx o f,cP j]
def ac6:db ae 82 BR:=by
 refine pC dR.nil fun g u h=>?_;unfold BR at h;split at h;simp only[ak] at h;obtain⟨a,C,b,B,h⟩:=h;obtain⟨A,h⟩:=bh h;have h:=sI h;subst h;obtain⟨z,o⟩:=Hw C;obtain⟨q,j⟩:=Hw B;exact⟨by simp only[pures,o,j,cw],_,_,ac9 (sp:=fun f=>gL f []) rfl z q (fW A) (br _),rfl,⟨1,rfl⟩⟩;cases h
def Ru:dX:=[(82,BR)]
def abU:dR Ru:=.cons ac6 .nil
section
variable{sp:SpZ}
def ag4(q:sp 35=none)(f:sp 82=some BR)(o:ay 1 aG v a)(j:ay 1 aG u b)(A:bL v=true)(z:bL u=true)(F:a.length<=1000000)(E:b.length<=1000000)(s:St):aq (QS sp) 35 [v,u] s (.bool (wV a b)) s:=by
 have C:=o.ge;have B:=j.ge;have g:=SL o j A z F;have D:=SL j o z A E;refine aq.of3 Jf.1 Jf.2 Jf.3 Jf.4 q rfl ?_;unfold wV;cases e1:lL a b with
 |true=>
  rw[e1] at g;simp only[dJ,FlZ,aaA,gI,ah,aB,bQ,cK,reduceCtorEq,ofValue,pw,Oa,C,B,f,g]
 |false=>
  rw[e1] at g;simp only[dJ,FlZ,aaA,gI,ah,aB,bQ,cK,reduceCtorEq,ofValue,pw,Oa,C,B,f,g,D]
end
def aBa(h1:ay 1 aG v a)(q:ay 1 aG u b)(g:bL v=true)(f:bL u=true)(o:a.length<=1000000)(j:b.length<=1000000):AK [v,u]=some (.bool (wV a b)):=by
 simp only[akZ,AK,Hx h1 g,Hx q f,cP o,cP j,cw]
def ag3:db ae 35 AK:=by
 refine pC abU fun q u h=>?_;unfold AK at h;split at h;simp only[ak] at h;obtain⟨a,C,b,B,h⟩:=h;obtain⟨g,h⟩:=bh h;have h:=sI h;subst h;simp only[bu] at g;obtain⟨A,o⟩:=Hw C;obtain⟨z,j⟩:=Hw B;exact⟨by simp only[pures,o,j,cw],_,_,ag4 (sp:=fun f=>gL f Ru) rfl rfl A z o j (fW g.1) (fW g.2) s0,rfl,⟨1,rfl⟩⟩;cases h
def X0{env:ax}{x:Operand}{d:Nat}(h:ev env x=some (.int .i64 (n:Nat))):fR env (some x) d=some n:=by
 simp only[fR,h,au];rfl
def aqL(mk:aK)(m off len lcap:Nat)(lo hi:Option Operand)(e:ax)(s:St):jE ae mk 363 (.arr 9 m off len lcap) lo hi none e s=(fR e hi len).bind fun h=>(fR e lo 0).bind fun l=>bif bw l h&&bw h len then some (.arr 9 m (off+l*9) (h-l) (lcap-l)) else none:=by
 have h:jE ae mk 363 (.arr 9 m off len lcap) lo hi none e s=(fR e hi len).bind fun h=>(fR e lo 0).bind fun l=>bif aQ 9 9&&bw l h&&bw h len&&true then some (.arr 9 m (off+l*9) (h-l) (lcap-l)) else none:=by kernel_rfl
 rw[h];simp only[je,Nat.beq_refl,eH]
def Vy(h:s.get [] m=some (.cells (aF (R.map cX))))(hi:i<R.length)(x:dg)(lc:Ag.Loc):KL lc s m (i*9) (cX x) (s.get [] m)=some (lc,s.put m (some (.cells (aF ((R.set i x).map cX))))):=by
 rw[h,dp,zx wY (by simpa using hi) rfl];simp only[au,List.map_set]
structure eL (m:Nat) (s s':St):Prop where
 old: ∀k,k≠m->s'.get [] k=s.get [] k
 aL:s'.aL=s.aL
 ci:s'.ci=s.ci
 mw:s'.gt<=s'.aL
def eL.refl(h:s.gt<=s.aL):eL m s s:=⟨fun _ _=>rfl,rfl,rfl,h⟩
theorem eL.put{s':St}(h:eL m s s')(o:Option aR):eL m s (s'.put m o):=
 ⟨fun k f=>by rw[aX,bN.2 f];exact h.old k f,h.aL,h.ci,dh s' m o h.mw⟩
def eL.trans{s' f:St}(h:eL m s s')(k:eL m s' f):eL m s f:=⟨fun j g=>(k.old j g).trans (h.old j g),k.aL.trans h.aL,k.ci.trans h.ci,k.mw⟩
def Bw:dg:=(0,((0,0),(0,0)))
def abz(n:Nat):aZ [ic 0,ic 0,ic 0,ic 0,ic 0,ic 0,ic 0,ic 0,ic 0] n=aF ((iy n Bw).map cX):=by
 induction n with
 |zero=>rfl
 |succ n f=>rw[aZ,f,List.replicate_succ,List.map_cons,aF];rfl
def ap2(h:i+n<=R.length):fL (aF (R.map cX)) (i*9) (aF ((iy n Bw).map cX))=some (aF ((R.take i++(iy n Bw++R.drop (i+n))).map cX)):=by
 have A:R=R.take i++((R.drop i).take n++R.drop (i+n)):=by
  rw[<-xP,zU,zU]
 have q:(aF ((R.take i).map cX)).length=i*9:=by
  rw[oG wY];simp;omega
 have o:(aF (((R.drop i).take n).map cX)).length=n*9:=by
  rw[oG wY];simp;omega
 have j:(aF ((iy n Bw).map cX)).length=n*9:=by
  rw[oG wY];simp
 have g:(aF (R.map cX)).length=R.length*9:=by rw[oG wY];simp
 have f:bw (i*9+n*9) (R.length*9)=true:=cP (by omega);have z:aF (R.map cX)=aF ((R.take i).map cX)++(aF (((R.drop i).take n).map cX)++aF ((R.drop (i+n)).map cX)):=by
  conv=>lhs;rw[A]
  rw[ff,qF,ff,qF]
 unfold fL;rw[j,g,f,z];simp only[cT,Option.some.injEq,ff,qF];rw[Lf (by omega),re (by omega)];congr 2;rw[<-q,<-xP,List.drop_left,<-o,List.drop_left]
structure Del (R:List dg) (m k:Nat) (K:List dg) (s s':St):Prop where
 but:eL m s s'
 row: ∃R':List dg,R'.length=R.length/\R'.take k=K/\s'.get [] m=some (.cells (aF (R'.map cX)))
def aq.ofWE{Q:aH}{f:FuncId}{fn:Func}{q:SC}{t:Tmp}{args:List aa}{R:aa->St->Prop}(C:Q.P.funcs[f]? =some fn)(D:fn.body.map eD=some q)(B:fn.ntmps=n)(A:fn.results.toList=[.tmp t])(o:Q.spec f=none)(h:W Q f q (aaA n args) s fun x g j=>(x= .normal\/x= .ret)/\(ac g.env t).ge=true/\R (ac g.env t) j)(F:Q.specH f=none:=by rfl)(E:Q.specW f=none:=by rfl): ∃v z,aq Q f args s v z/\R v z:=by
 obtain⟨x,g,j,M,J,I,H⟩:=h;exact⟨_,j,aq.of2 C D B A o ⟨x,g,j,M,rfl,J,dZ rfl I⟩ F E,H⟩
def US(p:dg->Bool): ∀(l:List dg) (k:Nat),(tu p l k= -1/\l.filter (fun x=> !p x)=l)\/ ∃f x g,l=f++x::g/\f.filter (fun x=> !p x)=f/\p x=true/\tu p l k=((k+f.length:Nat):Int)
 | [],k=>.inl ⟨rfl,rfl⟩
 |x::l,k=>by
  cases h:p x with
  |true=>exact .inr ⟨[],x,l,rfl,rfl,h,by simp[tu,h]⟩
  |false=>
   rcases US p l (k+1) with⟨o,j⟩|⟨f,y,g,o,j,z,q⟩
   exact .inl ⟨by simp[tu,h,o],by rw[List.filter_cons,h,j];rfl⟩;refine .inr ⟨x::f,y,g,by rw[o];rfl,by rw[List.filter_cons,h,j];rfl,z,?_⟩;simp only[tu,h,cF,q,bH];omega
def ad3{c:Nat}(z:s.get [] m=some (.cells (aF (R.map cX))))(h:i+n<=R.length)(f:s.gt<=s.aL): ∃j,(∀g,jH ae [] .clear [363] g [.arr 9 m (i*9) n c] s=some (.tup [],j))/\eL m s j/\ ∃R':List dg,R'.length=R.length/\R'.take i=R.take i/\j.get [] m=some (.cells (aF (R'.map cX))):=by
 have A: ∀g,jH ae [] .clear [363] g [.arr 9 m (i*9) n c] s=bif aQ n 0 then some (.tup [],s) else(s.get [] m).bind fun o=>match o with
  | .cells cs=>(fL cs (i*9) (aZ [ic 0,ic 0,ic 0,ic 0,ic 0,ic 0,ic 0,ic 0,ic 0] n)).bind fun q=>some (.tup [],s.put m (some (.cells q)))
  |_=>none:=by
  intro g;have u:ae.underlying 363=some (.slice 368):=by kernel_rfl
  simp only[jH,u,au,uT,ua,gD];cases aQ n 0 with
  |true=>rfl
  |false=>
   simp only[afo,cF];cases s.get [] m with
   |none=>rfl
   |some o=>
    cases o with
    |cells cs=>
     simp only[au];cases fL cs (i*9) _<;>rfl
    |_=>rfl
 simp only[A];cases hn:aQ n 0 with
 |true=>exact⟨s,fun _=>rfl,.refl f,R,rfl,rfl,z⟩
 |false=>
  rw[z];simp only[cF,au,abz,ap2 h];refine⟨_,fun _=>rfl,(eL.refl f).put _,_,?_,?_,by rw[aX,bS];rfl⟩;simp only[cJ,sC,List.length_replicate,List.length_drop];omega;rw[Lf (by rw[sC];omega),re (by rw[sC];omega)]
variable{a:dg}
def aeF(q:No Q 307){len:Nat}{s0:St}(S:n≠m)(hs:R.length<=1000000)(a1:len<=R.length)(hn:s0.get [] n=some (.cells (jz a)))(hx: ∀e lc s (i:Nat) (R':List dg),ac e 0= .arr 9 m 0 len lcap->ac e 5=uM i->eL m s0 s->R'.length=R.length->s.get [] m=some (.cells (aF (R'.map cX)))->i<=len->R'.take i=(R.take len).filter (fun x=> !jn a x)->K (.exit 0) ⟨e,42,lc⟩ s):
 ∀(r j i:Nat) (R':List dg) (e:ax) (lc:Ag.Loc) (s:St),r+j=len->i<j->R'.length=R.length->R'.take i=(R.take j).filter (fun x=> !jn a x)->R'.drop j=R.drop j->eL m s0 s->s.get [] m=some (.cells (aF (R'.map cX)))->
  ac e 0= .arr 9 m 0 len lcap->ac e 1= .func (.func 307) [] [.ptr n 0]->ac e 5=uM i->ac e 6=uM j->W Q 306 (.loop NZ) ⟨e,42,lc⟩ s K:=by
 intro r
 induction r with
 |zero=>
  intro j i R' e lc s hr V J M N H C g O o I;have hj:j=len:=by omega
  subst hj;refine bG ?_;simp only[go_sem,seval,NZ,FA,g,o,I,cD];exact hx _ _ _ i R' (by simp only[sN,seval,g]) (by simp only[sN,seval,o]) H J C (by omega) M
 |succ r ih=>
  intro j i R' e lc s hr V J M N H C g O o I;have T:j<len:=by omega
  have E:j<R.length:=by omega
  have a0:R'[j]? =some R[j]:=by
   have:(R'.drop j)[0]? =(R.drop j)[0]? :=by rw[N]
   simpa[E] using this
  have D:=Ii C a0;have z:=dB (n:=j) (by omega);have P:=dB (n:=i) (by omega);have a2:(cX R[j]).ge=true:=rfl;have U:i<len:=by omega
  have B:=Vy C (i:=i) (by omega) R[j];have A:(R.take (j+1)).filter (fun x=> !jn a x)=(R.take j).filter (fun x=> !jn a x)++(if !jn a R[j] then [R[j]] else []):=by
   rw[Q5 E,DR];cases hq:jn a R[j]<;>simp[hq]
  have Z: ∀x,(R'.set i x).drop (j+1)=R.drop (j+1):=fun x=>by
   rw[List.drop_set_of_lt (by omega),<-xP,N,xP]
  have F:R'.drop (j+1)=R.drop (j+1):=by rw[<-xP,N,xP]
  have Y:s.get [] n=some (.cells (jz a)):=(H.old n S).trans hn;simp only[cX,jz] at D B;refine bG ?_;simp only[go_sem,seval,NZ,FA,g,O,o,I,T,D];refine cG.of (TS (x:=R[j]) q Y) (by decide) ?_;cases hd':bc (vh R[j].2) (jX a.2) with
  |true=>
   have f:jn a R[j]=true:=hd';simp only[go_sem,seval,I,z];refine ih (j+1) i R' _ _ s (by omega) (by omega) J (by rw[A,f];simpa using M) F H C ?_ ?_ ?_ ?_
   all_goals simp only[sN,seval,g,O,o]
  |false=>
   have f:jn a R[j]=false:=hd';simp only[go_sem,seval,dn,g,o,I,z,P,U,B];refine ih (j+1) (i+1) (R'.set i R[j]) _ _ _ (by omega) (by omega) (by simpa using J) ?_ (Z _) (H.put _) (by rw[aX,bS];rfl) ?_ ?_ ?_ ?_;rw[A,f];have:(R'.set i R[j]).take (i+1)=R'.take i++[R[j]]:=by
    rw[Q5 (by rw[List.length_set];omega),List.take_set_of_le (br _),List.getElem_set_self]
   rw[this,M];rfl
   all_goals simp only[sN,seval,g,O]
def aeH(o:No Q 306)(z:No Q 418)(j:No Q 307){len:Nat}(I:n≠m)(V:R.length<=1000000)(q:len<=R.length)(M:s.get [] m=some (.cells (aF (R.map cX))))(Y:s.get [] n=some (.cells (jz a)))(B:s.gt<=s.aL):
 ∃v T,aq Q 306 [.arr 9 m 0 len lcap,.func (.func 307) [] [.ptr n 0]] s v T/\(v= .arr 9 m 0 ((R.take len).filter fun x=> !jn a x).length lcap/\Del R m ((R.take len).filter fun x=> !jn a x).length ((R.take len).filter fun x=> !jn a x) s T):=by
 have C:(R.take len).length=len:=by rw[sC];omega
 refine aq.ofWE (by rw[Std.P];exact Fh.1) Fh.2 Fh.3 Fh.4 o.s ?_ (Std.H 306) o.w;refine co ?_;simp only[go_sem,seval];refine cG.of (ag9 (lcap:=lcap) z j V q M Y) (by decide) ?_;rcases US (jn a) (R.take len) 0 with⟨D,S⟩|⟨f,x,U,D,S,e3,e4⟩
 rw[D];simp only[go_sem,seval,cd];rw[S,C];exact⟨rfl,.refl B,R,rfl,rfl,M⟩
 ·rw[e4,bV]
  have a0:f.length<len:=by rw[<-C,D];simp
  have F:an ((f.length:Nat):Int) (-1)=false:=by simp[an]
  have E:=dB (n:=f.length) (by omega);have A:R.take f.length=f:=by
   have:(R.take len).take f.length=f:=by rw[D,List.take_left]
   rwa [List.take_take,Nat.min_eq_left (by omega)] at this
  have hx:R.take (f.length+1)=f++[x]:=by
   have:(R.take len).take (f.length+1)=f++[x]:=by rw[D,List.take_length_add_append];rfl
   rwa [List.take_take,Nat.min_eq_left (by omega)] at this
  simp only[go_sem,seval,cd,F,E];refine aeF (lcap:=lcap) j I V q Y ?_ (len-(f.length+1)) (f.length+1) f.length R _ _ s (by omega) (by omega) rfl (by rw[A,hx,DR,S];simp[e3]) rfl (.refl B) M ?_ ?_ ?_ ?_;intro e lc s1 i R' h0 h5 hb hl J O Z;obtain⟨s2,q1,q2,R2,q3,q4,q5⟩:=ad3 (c:=lcap-i) J (i:=i) (n:=len-i) (by omega) hb.mw;have N:i=((R.take len).filter fun x=> !jn a x).length:=by rw[<-Z,sC];omega
  have n1: ∀g,ac g 37=uM i->fR g (some (.tmp 37)) 0=some i:=fun g h=>X0 (by rw[aA,h]);have n2: ∀g,ac g 40=uM i->fR g (some (.tmp 40)) len=some i:=fun g h=>X0 (by rw[aA,h]);have n3: ∀g d,fR g none d=some d:=fun _ _=>rfl;simp only[go_sem,seval,h0,h5,aqL,n1,n2,n3,br,Nat.zero_le,O,q1,Nat.zero_mul,Nat.sub_zero];rw[<-N];exact⟨rfl,hb.trans q2,R2,by rw[q3,hl],by rw[q4,Z],q5⟩
  all_goals simp only[sN,seval]
