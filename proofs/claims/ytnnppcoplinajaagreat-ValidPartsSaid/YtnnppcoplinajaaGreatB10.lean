/- Lemmas for ValidParts. -/
import Derived.Test.YtnnppcoplinajaaGreatB9
import Derived.Test.YtnnppcoplinajaaGreatAg3
import Derived.Test.YtnnppcoplinajaaGreatB6
import Derived.Test.YtnnppcoplinajaaGreatB7
set_option linter.all false
open Bool renaming and_eq_true→bm,and_false→gh,and_self→bW,and_true→mP,false_and→dA,false_or→hZ,or_false→jG,or_self→sr,or_true→kD,true_and→en,true_or→gZ
open List renaming drop_drop→xy,drop_left→DJ,eq_nil_of_length_eq_zero→tZ,filter_append→Gx,filter_cons→Gy,finRange→t0,getElem?_cons_succ→iJ,getElem?_eq_getElem→fE,getElem?_eq_some_iff→nF,getElem?_map→iw,getElem_mem→xD,length_append→cD,length_cons→dM,length_take→sw,map_append→eE,mem_cons_of_mem→fW,mem_cons_self→gF,mem_of_getElem?→dB,range→gV,replicate→gG,take_append_drop→zz,take_append_of_le_length→Kv,take_of_length_le→qY,take_succ_eq_append_getElem→Sc
open Nat renaming beq→aK,ble_eq_true_of_le→cE,ble→bn,le_of_ble_eq_true→fF,le_refl→bk,lt_irrefl→cq,mod_eq_of_lt→DR,mod_lt→ua,mul_le_mul_right→vN,reduceAdd→bG,reduceBEq→ai,reduceLT→ay,reduceLeDiff→cy,reduceMod→dC,reducePow→dD,reduceSub→dG,succ_mul→mS,zero_add→eH,zero_mul→Br
open Go.Operand renaming tmp→aB
open Option renaming bind_eq_some_iff→aj,bind_some→bg
open Option.some renaming injEq→aH
open Go.Proofs.Tryz renaming prog→ah
open Go.Ag.W renaming loopC→bq,seq→cK
open Go.Ag.WC renaming sound→bT
namespace Go.Proofs.YtnnppcoplinajaaGreat
open Go.Ag
variable{a b c d:Int}
def AJ{e f:Int}(l:bf (a,b)=true)(j:bf (c,d)=true)(g:bf (e,f)=true):tJ [.agg [ag a,ag b],.agg [ag c,ag d],.agg [ag e,ag f]]=some (ag (da (a,b) (c,d) (e,f))):=atz (a:=(a,b)) (b:=(c,d)) (c:=(e,f)) l j g
def yQ(a b c d:Int):sb [.agg [ag a,ag b],.agg [ag c,ag d]]=some (ag (fk (a,b) (c,d))):=rfl
def Rh(a b c d:Int):A4 [.agg [ag a,ag b,ag c,ag d]]=some (bL (f9 ((a,b),(c,d)))):=rfl
def Rg{s:bI}(g:bf s.1=true)(f:bf s.2=true):bf (f9 s).1=true/\bf (f9 s).2=true:=by
 rcases Rf s with e|e<;>rw[e]
 exact⟨g,f⟩;exact⟨f,g⟩
variable{p:Pt}{t:bI}
section
variable{sp:g9}
def asD(B:sp 422=none)(o:sp 311=some rP)(l:sp 312=some A4)(j:sp 313=some tJ)(g:sp 379=some sb)(I:bf t.1=true)(H:bf t.2=true)(F:bf p=true)(s:St):aq (QS sp) 422 [bL t,aN p] s (.bool (rT t p)) s:=by
 have E:=Rg I H;have A:rT t p=(an (da (f9 t).1 (f9 t).2 p) 0&&(bV (fk (f9 t).1 p) 0&&(bV (fk p (f9 t).2) 0&&(!fp (f9 t).1 (f9 t).2||fp p (f9 t).1)))):=rfl;obtain⟨⟨a,b⟩,c,d⟩:=t;obtain⟨e,f⟩:=p;have z:=ZN I H F;have y:=Rh a b c d;rw[A];clear A;generalize f9 ((a,b),(c,d))=S at*;obtain⟨⟨a',b'⟩,c',d'⟩:=S;have q:=AJ E.1 E.2 F;have C:=yQ a' b' e f;have D:=yQ e f c' d';refine aq.of3 IG.1 IG.2 IG.3 IG.4 B rfl ?_;cases e1:an (da (a',b') (c',d') (e,f)) 0 with
 |false=>simp only[go_sem,seval,bL,aN,bj,bc,aX,aZ,evc,o,l,j,g,z,y,q,e1,dA]
 |true=>
  cases e2:bV (fk (a',b') (e,f)) 0 with
  |false=>simp only[go_sem,seval,bL,aN,bj,bc,aX,aZ,evc,o,l,j,g,z,y,q,C,e1,e2,en,dA]
  |true=>
   cases e3:bV (fk (e,f) (c',d')) 0 with
   |false=>simp only[go_sem,seval,bL,aN,bj,bc,aX,aZ,evc,o,l,j,g,z,y,q,C,D,e1,e2,e3,en,dA]
   |true=>
    cases e4:fp (a',b') (c',d') with
    |false=>simp only[go_sem,seval,bL,aN,bj,bc,aX,aZ,evc,o,l,j,g,z,y,q,C,D,e1,e2,e3,e4,abx,og,en,Bool.not_false]
    |true=>simp only[go_sem,seval,bL,aN,bj,bc,aX,aZ,evc,o,l,j,g,z,y,q,C,D,e1,e2,e3,e4,abx,og,en,Bool.not_true]
end
def yN:Sp
 | [u,v]=>(uq u).bind fun t=>(jw v).bind fun p=>bif bf t.1&&(bf t.2&&bf p) then some (.bool (rT t p)) else none
 |_=>none
def asr(j:bf t.1=true)(g:bf t.2=true)(f:bf p=true):yN [bL t,aN p]=some (.bool (rT t p)):=by
 simp only[dW,yN,G3,vT,j,g,f,bW]
def SN:dp:=[(311,rP),(312,A4),(313,tJ),(379,sb)]
def aem:du SN:=.cons PM (.cons acE (.cons aaQ (.cons Qk .nil)))
def ast:cQ ah 422 yN:=by
 refine pV aem fun j u h=>?_;unfold yN at h;split at h;simp only[aj] at h;obtain⟨t,o,p,l,h⟩:=h;obtain⟨g,h⟩:=aY h;simp only[bm] at g;have h:=sI h;subst h;rw[zS o,lH l];exact⟨rfl,_,_,asD (sp:=fun f=>gD f SN) rfl rfl rfl rfl rfl g.1 g.2.1 g.2.2 _,rfl,⟨1,rfl⟩⟩;cases h
variable{lc:Ag.Loc}{K:Ex->Fr->St->Prop}{a' b' c' d':Int}{g2 g3:Nat}{s:St}{e:aw}
section
variable{sp:g9}
noncomputable def Oy:SC:=(.seq (.seq (.region Yd) (.cond (aB 18) (.seq (.block 0 (.seq (.region Ye) (.cond (aB 19) (.seq (.region Yf) .ret) (.seq (.region Yg) (.cond (aB 25) (.seq (.region Yh) .ret) .skip))))) (.seq (.region Yi) .ret)) .skip)) (.seq (.draw Yj Iq) (.seq (.seq (.region X3) (.cond (aB 46) (.region X4) .skip)) (.seq (.seq (.region X5) (.cond (aB 53) (.region X6) .skip)) (.seq (.seq (.region X7) (.block 1 (.seq (.region X8) (.cond (aB 59) (.seq (.region X9) .ret) (.seq (.region Ya) (.cond (aB 61) (.seq (.region Yb) .ret) .skip)))))) (.seq (.region Yc) .ret))))))
def aoE:Ox=(.seq (.region aoF) (.seq (.seq (.region aoG) (.cond (aB 11) (.region aoH) .skip)) Oy)):=rfl
noncomputable def X2:SC:=(.seq (.draw Yj Iq) (.seq (.seq (.region X3) (.cond (aB 46) (.region X4) .skip)) (.seq (.seq (.region X5) (.cond (aB 53) (.region X6) .skip)) (.seq (.seq (.region X7) (.block 1 (.seq (.region X8) (.cond (aB 59) (.seq (.region X9) .ret) (.seq (.region Ya) (.cond (aB 61) (.seq (.region Yb) .ret) .skip)))))) (.seq (.region Yc) .ret)))))
def aoD:Oy=(.seq (.seq (.region Yd) (.cond (aB 18) (.seq (.block 0 (.seq (.region Ye) (.cond (aB 19) (.seq (.region Yf) .ret) (.seq (.region Yg) (.cond (aB 25) (.seq (.region Yh) .ret) .skip))))) (.seq (.region Yi) .ret)) .skip)) X2):=rfl
def asB(f:sp 379=some sb)(D:s.gt<=s.aL)(e2:ac e 2= .Ge 2 g2 0)(A:ac e 3= .Ge 3 g3 0)(l2:lc.get 2 g2=some [ag a,ag b,ag c,ag d])(z:lc.get 3 g3=some [ag a',ag b',ag c',ag d'])(y:lc.gen 2=g2)(q:lc.gen 3=g3)(o:lc.gen 5=0)(l:lc.gen 6=0)(g: ∀e lc,ac e 4=ag (bif an (fk (rJ ((a,b),(c,d)) ((a',b'),(c',d'))) (rF ((a,b),(c,d)) ((a',b'),(c',d')))) (-1) then 5 else bif an (fk (rJ ((a,b),(c,d)) ((a',b'),(c',d'))) (rF ((a,b),(c,d)) ((a',b'),(c',d')))) 0 then 1 else 0)->K .ret ⟨e,63,lc⟩ s):
 W (QS sp) 314 X2 ⟨e,63,lc⟩ s K:=by
 have C:=yQ a' b' a b;have B:=yQ c' d' c d;refine cK (W.drawG D ?_);simp only[go_sem,Iq,seval,e2,A,l2,z,y,q,o,l];refine WF.sound ?_;unfold rJ rF at g;dsimp only at g;cases x1:aV 0 (fk (a',b') (a,b)) with
 |true=>
  cases x2:aV (fk (c',d') (c,d)) 0 with
  |true=>
   rw[x1,x2] at g;have j:=yQ a' b' c' d';simp only[cT] at g;cases x3:an (fk (a',b') (c',d')) (-1) with
   |true=>
    simp only[go_sem,seval,e2,A,l2,z,y,q,o,l,f,C,B,j,x1,x2,x3];exact g _ _ (by simp only[sN,seval,x3])
   |false=>
    cases x4:an (fk (a',b') (c',d')) 0 with
    |true=>
     simp only[go_sem,seval,e2,A,l2,z,y,q,o,l,f,C,B,j,x1,x2,x3,x4];exact g _ _ (by simp only[sN,seval,x3,x4])
    |false=>
     simp only[go_sem,seval,e2,A,l2,z,y,q,o,l,f,C,B,j,x1,x2,x3,x4];exact g _ _ (by simp only[sN,seval,x3,x4])
  |false=>
   rw[x1,x2] at g;have j:=yQ a' b' c d;simp only[cT,cF] at g;cases x3:an (fk (a',b') (c,d)) (-1) with
   |true=>
    simp only[go_sem,seval,e2,A,l2,z,y,q,o,l,f,C,B,j,x1,x2,x3];exact g _ _ (by simp only[sN,seval,x3])
   |false=>
    cases x4:an (fk (a',b') (c,d)) 0 with
    |true=>
     simp only[go_sem,seval,e2,A,l2,z,y,q,o,l,f,C,B,j,x1,x2,x3,x4];exact g _ _ (by simp only[sN,seval,x3,x4])
    |false=>
     simp only[go_sem,seval,e2,A,l2,z,y,q,o,l,f,C,B,j,x1,x2,x3,x4];exact g _ _ (by simp only[sN,seval,x3,x4])
 |false=>
  cases x2:aV (fk (c',d') (c,d)) 0 with
  |true=>
   rw[x1,x2] at g;have j:=yQ a b c' d';simp only[cT,cF] at g;cases x3:an (fk (a,b) (c',d')) (-1) with
   |true=>
    simp only[go_sem,seval,e2,A,l2,z,y,q,o,l,f,C,B,j,x1,x2,x3];exact g _ _ (by simp only[sN,seval,x3])
   |false=>
    cases x4:an (fk (a,b) (c',d')) 0 with
    |true=>
     simp only[go_sem,seval,e2,A,l2,z,y,q,o,l,f,C,B,j,x1,x2,x3,x4];exact g _ _ (by simp only[sN,seval,x3,x4])
    |false=>
     simp only[go_sem,seval,e2,A,l2,z,y,q,o,l,f,C,B,j,x1,x2,x3,x4];exact g _ _ (by simp only[sN,seval,x3,x4])
  |false=>
   rw[x1,x2] at g;have j:=yQ a b c d;simp only[cF] at g;cases x3:an (fk (a,b) (c,d)) (-1) with
   |true=>
    simp only[go_sem,seval,e2,A,l2,z,y,q,o,l,f,C,B,j,x1,x2,x3];exact g _ _ (by simp only[sN,seval,x3])
   |false=>
    cases x4:an (fk (a,b) (c,d)) 0 with
    |true=>
     simp only[go_sem,seval,e2,A,l2,z,y,q,o,l,f,C,B,j,x1,x2,x3,x4];exact g _ _ (by simp only[sN,seval,x3,x4])
    |false=>
     simp only[go_sem,seval,e2,A,l2,z,y,q,o,l,f,C,B,j,x1,x2,x3,x4];exact g _ _ (by simp only[sN,seval,x3,x4])
def ass{e f:Int}(l:bf (a,b)=true)(j:bf (c,d)=true)(g:bf (e,f)=true):yN [.agg [ag a,ag b,ag c,ag d],.agg [ag e,ag f]]=some (.bool (rT ((a,b),(c,d)) (e,f))):=asr (t:=((a,b),(c,d))) (p:=(e,f)) l j g
def aap(z:sp 379=some sb)(f:sp 422=some yN)(B:bf (a,b)=true)(n3:bf (a',b')=true)(A:bf (c',d')=true)(E:s.gt<=s.aL)(e2:ac e 2= .Ge 2 g2 0)(y:ac e 3= .Ge 3 g3 0)(l2:lc.get 2 g2=some [ag a,ag b,ag c,ag d])(q:lc.get 3 g3=some [ag a',ag b',ag c',ag d'])(o:lc.gen 2=g2)(l:lc.gen 3=g3)(D:lc.gen 5=0)(C:lc.gen 6=0)(g: ∀e lc,ac e 4=ag (wV ((a,b),(c,d)) ((a',b'),(c',d')))->K .ret ⟨e,63,lc⟩ s):
 W (QS sp) 314 Oy ⟨e,63,lc⟩ s K:=by
 rw[aoD];refine cK (WF.sound ?_);unfold wV at g;dsimp only at g;cases x1:fp (a,b) (c,d) with
 |false=>
  rw[x1] at g;simp only[go_sem,seval,e2,y,l2,q,o,l,og,x1];refine asB z E ?_ ?_ l2 q o l D C g
  all_goals simp only[sN,seval,e2,y]
 |true=>
  rw[x1] at g;have j:=ass n3 A B;simp only[cT] at g;cases x2:rT ((a',b'),(c',d')) (a,b) with
  |false=>
   rw[x2] at g;rw[x2] at j;simp only[go_sem,seval,e2,y,l2,q,o,l,og,x1,f,j];exact g _ _ (by simp only[sN,seval])
  |true=>
   rw[x2] at g;rw[x2] at j;simp only[cT] at g;cases x3:fp (a,b) (a',b') with
   |true=>
    simp only[go_sem,seval,e2,y,l2,q,o,l,og,x1,x3,f,j];exact g _ _ (by simp only[sN,seval,x3,gZ])
   |false=>
    cases x4:fp (a,b) (c',d') with
    |true=>
     simp only[go_sem,seval,e2,y,l2,q,o,l,og,x1,x3,x4,f,j];exact g _ _ (by simp only[sN,seval,x3,x4,kD])
    |false=>
     simp only[go_sem,seval,e2,y,l2,q,o,l,og,x1,x3,x4,f,j];exact g _ _ (by simp only[sN,seval,x3,x4,jG])
def asC(j:sp 314=none)(g:sp 379=some sb)(f:sp 422=some yN){u v:bI}(l:bf u.1=true)(n2:bf u.2=true)(n3:bf v.1=true)(q:bf v.2=true)(o:s.gt<=s.aL):aq (QS sp) 314 [bL u,bL v] s (bO (u7 u v)) s:=by
 obtain⟨⟨a,b⟩,c,d⟩:=u;obtain⟨⟨a',b'⟩,c',d'⟩:=v;refine aq.ofW Ir.1 Ir.2 Ir.3 Ir.4 j rfl ?_;rw[aoE];refine cK (WF.sound ?_);simp only[go_sem,seval,bL];refine cK (WF.sound ?_);unfold u7;cases x1:fp (a',b') (c',d') with
 |true=>
  simp only[go_sem,seval,og,x1];refine aap (a:=a') (b:=b') (c:=c') (d:=d') (a':=a) (b':=b) (c':=c) (d':=d) g f n3 l n2 o (g2:=1) (g3:=1) ?_ ?_ ?_ ?_ ?_ ?_ ?_ ?_ ?_
  case refine_9=>exact fun e lc h=>⟨rfl,.inr rfl,h⟩
  all_goals simp only[aW,nQ,ai,bG]
 |false=>
  simp only[go_sem,seval,og,x1];refine aap (a:=a) (b:=b) (c:=c) (d:=d) (a':=a') (b':=b') (c':=c') (d':=d') g f l n3 q o (g2:=1) (g3:=1) ?_ ?_ ?_ ?_ ?_ ?_ ?_ ?_ ?_
  case refine_9=>exact fun e lc h=>⟨rfl,.inr rfl,h⟩
  all_goals simp only[aW,nQ,ai,bG]
end
def yO:Sp
 | [u,v]=>(uq u).bind fun a=>(uq v).bind fun b=>bif bf a.1&&(bf a.2&&(bf b.1&&bf b.2)) then some (bO (u7 a b)) else none
 |_=>none
def asz{a b:bI}(g:bf a.1=true)(n2:bf a.2=true)(n3:bf b.1=true)(f:bf b.2=true):yO [bL a,bL b]=some (bO (u7 a b)):=by
 simp only[dW,yO,G3,g,n2,n3,f,bW]
def SO:dp:=[(379,sb),(422,yN)]
def aen:du SO:=.cons Qk (.cons ast .nil)
def asA:cQ ah 314 yO:=by
 refine pV aen fun j u h=>?_;unfold yO at h;split at h;simp only[aj] at h;obtain⟨a,o,b,l,h⟩:=h;obtain⟨g,h⟩:=aY h;simp only[bm] at g;have h:=sI h;subst h;rw[zS o,zS l];exact⟨rfl,_,_,asC (sp:=fun f=>gD f SO) rfl rfl rfl g.1 g.2.1 g.2.2.1 g.2.2.2 (bk _),rfl,⟨1,rfl⟩⟩;cases h
def aaS(a b c:Pt):da a b c= -1\/da a b c=0\/da a b c=1:=by
 unfold da;rcases BM (fP a b c) with⟨e,_⟩|⟨e,_⟩|⟨e,_⟩<;>rw[e]<;>simp
def aaR(a b c d e f:Pt):IntKind.i64.wrap (da a b c*da d e f)=da a b c*da d e f:=by
 rcases aaS a b c with h|h|h<;>rcases aaS d e f with k|k|k<;>rw[h,k]<;>rfl
noncomputable def Oe:SC:=(.seq (.draw an2 Oh) (.seq (.draw an3 Oi) (.seq (.block 1 (.seq (.region anO) (.cond (aB 92) (.seq (.region anP) .ret) (.seq (.region anQ) (.cond (aB 103) (.seq (.region anR) .ret) (.seq (.region anS) (.cond (aB 114) (.seq (.region anT) .ret) .skip))))))) (.seq (.region anU) .ret))))
noncomputable def Od:SC:=(.seq (.block 0 (.seq (.region anX) (.cond (aB 24) (.seq (.region anZ) .ret) (.seq (.region an0) (.cond (aB 28) (.seq (.region an1) .ret) .skip))))) Oe)
def anL:Oc=(.seq (.region anM) (.seq (.seq (.region anN) (.cond (aB 19) (.seq (.region anV) .ret) .skip)) (.seq (.draw anW Og) Od))):=rfl
section
variable{sp:g9}
set_option maxRecDepth 8000 in
set_option maxHeartbeats 2000000 in
def Zx(f:sp 313=some tJ)(H:bf (a,b)=true)(n2:bf (c,d)=true)(n3:bf (a',b')=true)(F:bf (c',d')=true)(C:s.gt<=s.aL)(e2:ac e 2= .Ge 2 g2 0)(E:ac e 3= .Ge 3 g3 0)(l2:lc.get 2 g2=some [ag a,ag b,ag c,ag d])(B:lc.get 3 g3=some [ag a',ag b',ag c',ag d'])(A:lc.gen 2=g2)(z:lc.gen 3=g3)(D: ∀e lc,ac e 4=ag (qq ((a,b),(c,d)) ((a',b'),(c',d')))->K .ret ⟨e,125,lc⟩ s):W (QS sp) 225 Oe ⟨e,125,lc⟩ s K:=by
 have y:=AJ H n2 n3;have q:=AJ H n2 F;have o:=AJ n3 F H;have l:=AJ n3 F n2;have j:=aaR (a,b) (c,d) (a',b') (a,b) (c,d) (c',d');have g:=aaR (a',b') (c',d') (a,b) (a',b') (c',d') (c,d);unfold Oe;refine WF.sound ?_;cases c1:aV 0 (da (a,b) (c,d) (a',b')*da (a,b) (c,d) (c',d')) with
 |true=>
  simp only[go_sem,seval,ql,e2,E,l2,B,A,z,C,f,y,q,o,l,j,g,c1];exact D _ _ (by simp only[sN,seval,qq,c1,kD,jG,sr,gZ,mP,gh,bW,dA])
 |false=>
  cases c2:aV 0 (da (a',b') (c',d') (a,b)*da (a',b') (c',d') (c,d)) with
  |true=>
   simp only[go_sem,seval,ql,e2,E,l2,B,A,z,C,f,y,q,o,l,j,g,c1,c2];exact D _ _ (by simp only[sN,seval,qq,c1,c2,kD,jG,sr,gZ,mP,gh,bW,dA])
  |false=>
   cases c3:aV (da (a,b) (c,d) (a',b')*da (a,b) (c,d) (c',d')) 0 with
   |true=>
    cases c4:aV (da (a',b') (c',d') (a,b)*da (a',b') (c',d') (c,d)) 0 with
    |true=>
     simp only[go_sem,seval,ql,e2,E,l2,B,A,z,C,f,y,q,o,l,j,g,c1,c2,c3,c4];exact D _ _ (by simp only[sN,seval,qq,c1,c2,c3,c4,kD,jG,sr,gZ,mP,gh,bW,dA])
    |false=>
     cases c5:an (da (a,b) (c,d) (a',b')*da (a,b) (c,d) (c',d')) 0 with
     |true=>
      cases c6:an (da (a',b') (c',d') (a,b)*da (a',b') (c',d') (c,d)) 0 with
      |true=>
       simp only[go_sem,seval,ql,e2,E,l2,B,A,z,C,f,y,q,o,l,j,g,c1,c2,c3,c4,c5,c6];exact D _ _ (by simp only[sN,seval,qq,c1,c2,c3,c4,c5,c6,kD,jG,sr,gZ,mP,gh,bW,dA])
      |false=>
       simp only[go_sem,seval,ql,e2,E,l2,B,A,z,C,f,y,q,o,l,j,g,c1,c2,c3,c4,c5,c6];exact D _ _ (by simp only[sN,seval,qq,c1,c2,c3,c4,c5,c6,kD,jG,sr,gZ,mP,gh,bW,dA])
     |false=>
      simp only[go_sem,seval,ql,e2,E,l2,B,A,z,C,f,y,q,o,l,j,g,c1,c2,c3,c4,c5];exact D _ _ (by simp only[sN,seval,qq,c1,c2,c3,c4,c5,kD,jG,sr,gZ,mP,gh,bW,dA])
   |false=>
    cases c5:an (da (a,b) (c,d) (a',b')*da (a,b) (c,d) (c',d')) 0 with
    |true=>
     cases c6:an (da (a',b') (c',d') (a,b)*da (a',b') (c',d') (c,d)) 0 with
     |true=>
      simp only[go_sem,seval,ql,e2,E,l2,B,A,z,C,f,y,q,o,l,j,g,c1,c2,c3,c5,c6];exact D _ _ (by simp only[sN,seval,qq,c1,c2,c3,c5,c6,kD,jG,sr,gZ,mP,gh,bW,dA])
     |false=>
      simp only[go_sem,seval,ql,e2,E,l2,B,A,z,C,f,y,q,o,l,j,g,c1,c2,c3,c5,c6];exact D _ _ (by simp only[sN,seval,qq,c1,c2,c3,c5,c6,kD,jG,sr,gZ,mP,gh,bW,dA])
    |false=>
     simp only[go_sem,seval,ql,e2,E,l2,B,A,z,C,f,y,q,o,l,j,g,c1,c2,c3,c5];exact D _ _ (by simp only[sN,seval,qq,c1,c2,c3,c5,kD,jG,sr,gZ,mP,gh,bW,dA])
set_option maxRecDepth 8000 in
set_option maxHeartbeats 2000000 in
def aq5(f:sp 313=some tJ)(g:sp 314=some yO)(B:bf (a,b)=true)(n2:bf (c,d)=true)(n3:bf (a',b')=true)(C:bf (c',d')=true)(E:s.gt<=s.aL)(e2:ac e 2= .Ge 2 g2 0)(q:ac e 3= .Ge 3 g3 0)(l2:lc.get 2 g2=some [ag a,ag b,ag c,ag d])(o:lc.get 3 g3=some [ag a',ag b',ag c',ag d'])(l:lc.gen 2=g2)(j:lc.gen 3=g3)(A: ∀e lc,ac e 4=ag (qH ((a,b),(c,d)) ((a',b'),(c',d')))->K .ret ⟨e,125,lc⟩ s):W (QS sp) 225 Od ⟨e,125,lc⟩ s K:=by
 have z:=AJ B n2 n3;have y:=AJ B n2 C;have D:yO [.agg [ag a,ag b,ag c,ag d],.agg [ag a',ag b',ag c',ag d']]=some (ag (u7 ((a,b),(c,d)) ((a',b'),(c',d')))):=asz (a:=((a,b),(c,d))) (b:=((a',b'),(c',d'))) B n2 n3 C;unfold Od;refine cK (WF.sound ?_);cases x0:sh ((a,b),(c,d)) ((a',b'),(c',d')) with
 |true=>
  simp only[go_sem,seval,bL,bj,bc,aX,aZ,evc,og,Df,e2,q,l2,o,l,j,f,g,z,y,x0];exact A _ _ (by simp only[sN,seval,qH,x0])
 |false=>
 cases x1:fp (a,b) (c,d) with
 |true=>
  simp only[go_sem,seval,bL,bj,bc,aX,aZ,evc,og,Df,e2,q,l2,o,l,j,f,g,z,y,D,x0,x1];exact A _ _ (by simp only[sN,seval,qH,kP,x0,x1,gZ,kD,jG,hZ,bW])
 |false=>
 cases x2:fp (a',b') (c',d') with
 |true=>
  simp only[go_sem,seval,bL,bj,bc,aX,aZ,evc,og,Df,e2,q,l2,o,l,j,f,g,z,y,D,x0,x1,x2];exact A _ _ (by simp only[sN,seval,qH,kP,x0,x1,x2,gZ,kD,jG,hZ,bW])
 |false=>
 cases x3:an (da (a,b) (c,d) (a',b')) 0 with
 |false=>
  simp only[go_sem,seval,bL,bj,bc,aX,aZ,evc,og,Df,e2,q,l2,o,l,j,f,g,z,y,x0,x1,x2,x3];refine Zx f B n2 n3 C E ?_ ?_ l2 o l j fun e lc h=>A e lc ?_;simp only[sN,seval,e2];simp only[sN,seval,q];rw[h];simp only[qH,kP,x0,x1,x2,x3,gZ,kD,jG,hZ,gh,dA,cT,cF]
 |true=>
 cases x4:an (da (a,b) (c,d) (c',d')) 0 with
 |true=>
  simp only[go_sem,seval,bL,bj,bc,aX,aZ,evc,og,Df,e2,q,l2,o,l,j,f,g,z,y,D,x0,x1,x2,x3,x4];exact A _ _ (by simp only[sN,seval,qH,kP,x0,x1,x2,x3,x4,gZ,kD,jG,hZ,bW])
 |false=>
  simp only[go_sem,seval,bL,bj,bc,aX,aZ,evc,og,Df,e2,q,l2,o,l,j,f,g,z,y,x0,x1,x2,x3,x4];refine Zx f B n2 n3 C E ?_ ?_ l2 o l j fun e lc h=>A e lc ?_;simp only[sN,seval,e2];simp only[sN,seval,q];rw[h];simp only[qH,kP,x0,x1,x2,x3,x4,gZ,kD,jG,hZ,gh,dA,cT,cF]
set_option maxRecDepth 8000 in
set_option maxHeartbeats 2000000 in
def aq8(o:sp 225=none)(l:sp 311=some rP)(j:sp 312=some A4)(g:sp 313=some tJ)(f:sp 314=some yO){u v:bI}(A:bf u.1=true)(n2:bf u.2=true)(n3:bf v.1=true)(z:bf v.2=true)(B:s.gt<=s.aL):aq (QS sp) 225 [bL u,bL v] s (bO (gX u v)) s:=by
 have E:=arA A n2 n3 z;have y:=Rg A n2;have q:=Rg n3 z;obtain⟨⟨a,b⟩,c,d⟩:=u;obtain⟨⟨a',b'⟩,c',d'⟩:=v;have D:=Rh a b c d;have C:=Rh a' b' c' d';unfold gX;generalize f9 ((a,b),(c,d))=S at*;generalize f9 ((a',b'),(c',d'))=T at*;obtain⟨⟨P,N⟩,J,H⟩:=S;obtain⟨⟨O,M⟩,I,F⟩:=T;refine aq.ofW Ib.1 Ib.2 Ib.3 Ib.4 o rfl ?_;rw[anL];refine cK (WF.sound ?_);simp only[go_sem,seval,bL];refine cK (WF.sound ?_);simp only[go_sem,seval,bL,bj,bc,aX,aZ,evc,l,E];refine cK (WF.sound ?_);simp only[go_sem,seval,bL,B,j,D,C];refine aq5 g f (a:=P) (b:=N) (c:=J) (d:=H) (a':=O) (b':=M) (c':=I) (d':=F) y.1 y.2 q.1 q.2 B (g2:=1) (g3:=1) ?_ ?_ ?_ ?_ ?_ ?_ ?_
 case refine_7=>exact fun e lc h=>⟨rfl,.inr rfl,h⟩
 all_goals simp only[aW,nQ,ai,bG]
end
def kN:Sp
 | [u,v]=>(uq u).bind fun a=>(uq v).bind fun b=>bif bf a.1&&(bf a.2&&(bf b.1&&bf b.2)) then some (bO (gX a b)) else none
 |_=>none
def Ps{a b:bI}(g:bf a.1=true)(n2:bf a.2=true)(n3:bf b.1=true)(f:bf b.2=true):kN [bL a,bL b]=some (bO (gX a b)):=by
 simp only[dW,kN,G3,g,n2,n3,f,bW]
def SP:dp:=[(311,rP),(312,A4),(313,tJ),(314,yO)]
def aeo:du SP:=.cons PM (.cons acE (.cons aaQ (.cons asA .nil)))
def Pu:cQ ah 225 kN:=by
 refine pV aeo fun j u h=>?_;unfold kN at h;split at h;simp only[aj] at h;obtain⟨a,o,b,l,h⟩:=h;obtain⟨g,h⟩:=aY h;simp only[bm] at g;have h:=sI h;subst h;rw[zS o,zS l];exact⟨rfl,_,_,aq8 (sp:=fun f=>gD f SP) rfl rfl rfl rfl rfl g.1 g.2.1 g.2.2.1 g.2.2.2 (bk _),rfl,⟨1,rfl⟩⟩;cases h
end Go.Proofs.YtnnppcoplinajaaGreat
namespace Go.Proofs.YtnnppcoplinajaaGreat
open Go.Ag
open Go.Sort (putRow grow Holds SWO HoldsK putRowK flatK get_flatK size_flatK)
noncomputable def Cb(G:Gh)(h:aC aJ):Gh:= {at_:=fun _=>none,ro:=fun b o=>(nR G h b o).bind (Ad h),dim:=fun _=>none }
variable{G:Gh}{h:aC aJ}
def V5{b o:Nat}{u g:aa}(e:nR G h b o=some u)(f:gm h u g):(Cb G h).ro b o=some g:=by
 show(nR G h b o).bind (Ad h)=_;rw[e];exact VL f
variable{w:World}
def agy(wr:WR G h w){b o:Nat}{u:aa}(e:nR G h b o=some u):b<w.heap.size/\u.scal=true/\ ∃x,w.cell? ⟨b,o,none⟩=some x/\VR G u x:=by
 rcases G9 e with e|⟨n,a,cs,i,j,f,rfl,rfl,z⟩
 obtain⟨j,x,f,A⟩:=wr.ro b o u e;exact⟨World.block_lt_of_cell? w ⟨b,o,none⟩ f,j,x,f,A⟩;obtain⟨a',g,g2,C,t,g3,D,B⟩:=wr.obj n _ j;rw[f] at g;injection g with g;subst g
 obtain⟨y,x,q,l⟩:=B i u z;exact⟨wr.below n a f,y,x,by rw[oE g3];exact q,l⟩
def axT{W:World}(wr:WR G h w){f:Nat}(l: ∀b o u,nR G h b o=some u->b≠f)(y: ∀b,b<w.heap.size->b≠f->W.heap[b]? =w.heap[b]?):WR (Cb G h) .nil W:=by
 refine⟨fun _ _ e=>(by cases e),fun _ _ _ _ e=>absurd rfl e,fun b o v e=>?_,fun _ _ _ _ _ e=>(by cases e),fun _ _ e=>(by cases e),fun _ _ e=>(by cases e)⟩;simp only[Cb,aj] at e;obtain⟨u,j,D⟩:=e;obtain⟨C,B,x,A,z⟩:=agy wr j;have q:=VM D;obtain⟨k,g⟩:=q;refine⟨Hy g B,x,(World.cell?_of_block (y b C (l b o u j))).trans A,thaw (G2:=Cb G h) (fun b o u E=>V5) wr k z g⟩
variable{α:Type}
def avW[Inhabited α](enc:α->List Value)(k:Nat)(w:World)(f off m:Nat)(o:Array α)(os:Array Go.Obj)(b:Nat)(j:b<w.heap.size)(g:b≠f):(sortWorldK enc k w f off m o os).heap[b]? =w.heap[b]? :=by
 unfold sortWorldK putRowK;rw[Go.Sort.heap_grow_old _ _ (by simpa using j)];have l: ¬f=b:=fun e=>g e.symm;simp[putRow,Go.Sort.mapBlock,Sort.ahead,Array.getElem?_modify,l]
def ahe[Inhabited α]{g:Nat}{sp:Sp}(D:cQ ah g sp)(S: ∀j w,(callFunc g j).run ah w= .ok (.enter g j) w){G2:Gh}{enc:α->List Value}{encA:α->aa}(F: ∀x,VR G2 (encA x) (.agg (enc x).toArray)){I:α->α->Int}(E: ∀x y,sp [encA x,encA y]=some (.int .i64 (I x y)))(k o off size:Nat)(w:World)(C: ∀m q A,WR G2 .nil (sortWorldK enc k w o off m A q)):CmpLays ah g #[] enc k I o off size w:=by
 intro m q A _ x y;have C:=C m q A;generalize sortWorldK enc k w o off m A q=W at*;have O:=D _ _ (E x y) G2 .nil W [.agg (enc x).toArray,.agg (enc y).toArray] C (.cons (F x) (.cons (F y) .nil));rcases O with⟨T,f,H,_⟩|⟨_,P⟩
 rw[S] at H;cases H;refine P.mono ?_;rintro e f ⟨v,rfl,V,_,B,J⟩;cases J;refine⟨rfl,f.drawn-W.drawn,f.heap.extract W.heap.size f.heap.size,?_⟩;have z:=B.quiet;have M:=B.size;have l:f.heap=W.heap++f.heap.extract W.heap.size f.heap.size:=by
  apply Array.ext_getElem?;intro i;by_cases hi:i<W.heap.size;rw[Array.getElem?_append_left hi];exact B.keep i hi fun N=>by
   obtain⟨n,a,h,_⟩:=N;exact h rfl
  rw[Array.getElem?_append_right (by omega),Array.getElem?_extract];by_cases hj:i-W.heap.size<f.heap.size-W.heap.size;rw[iP (by omega),show W.heap.size+(i-W.heap.size)=i by omega];rw[iN (by omega),Array.getElem?_eq_none (by omega)]
 have U:=z.2.2.2.2.2;refine adJ l z.2.2.2.2.1 ?_ z.1 z.2.1;show f.drawn=W.drawn+(f.drawn-W.drawn);omega
def oh{k:Nat}: ∀ {rows:List aa},(∀v∈rows,v.cells.length=k)->(aF rows).length=rows.length*k
 | [],_=>by simp[aF]
 |v::l,h=>by
  have:=oh (rows:=l) fun x f=>h x (fW _ f);rw[aF,cD,this,h v gF,dM,mS];omega
def QI{k:Nat}(f:0<k): ∀ {rows:List aa},(∀v∈rows,v.cells.length=k)-> ∀t,(aF rows)[t]? =(rows[t / k]?).bind fun v=>v.cells[t % k]?
 | [],_,t=>by simp[aF]
 |v::l,h,t=>by
  have o:=h v gF;have g:=QI f (rows:=l) fun x j=>h x (fW _ j);rw[aF];by_cases ht:t<k;rw[List.getElem?_append_left (by omega),Nat.div_eq_of_lt ht,DR ht];rfl;rw[List.getElem?_append_right (by omega),o,g];have y:t / k=(t-k) / k+1:=by
   rw[<-Nat.add_div_right _ f];congr 1;omega
  have q:t % k=(t-k) % k:=by
   rw[<-Nat.add_mod_right (t-k) k];congr 1;omega
  rw[y,q,iJ]
variable{i k:Nat}
def ab1{rows:List aa}(h: ∀v∈rows,v.cells.length=k){v:aa}(f:rows[i]? =some v):cut (aF rows) (i*k) k=some v.cells:=by
 induction rows generalizing i with
 |nil=>simp at f
 |cons x l j=>
  have g:=h x gF;cases i with
  |zero=>
   simp only[List.getElem?_cons_zero,aH] at f;subst f;simp only[cut,aF,Br,List.drop_zero,iU];rw[Kv (by omega),qY (by omega),g];simp
  |succ i=>
   rw[iJ] at f
   have:=j (fun y o=>h y (fW _ o)) f;rw[<-this];simp only[cut,aF];have:(x.cells++aF l).drop ((i+1)*k)=(aF l).drop (i*k):=by
    rw[show(i+1)*k=x.cells.length+i*k by rw[g,mS];omega,<-xy,DJ]
   rw[this]
def yW{rows:List aa}(h: ∀v∈rows,v.cells.length=k)(E:i<rows.length){x:aa}(A:x.cells.length=k):eM (aF rows) (i*k) x.cells=some (aF (rows.set i x)):=by
 induction rows generalizing i with
 |nil=>simp at E
 |cons v l j=>
  have o:=h v gF;have D:=oh (rows:=l) fun y z=>h y (fW _ z);have f:(v.cells++aF l).length=(l.length+1)*k:=by rw[cD,o,D,mS];omega
  cases i with
  |zero=>
   have q:bn (0*k+k) ((l.length+1)*k)=true:=cE (by rw[mS];omega);have B:(v.cells++aF l).drop k=aF l:=by rw[<-o,DJ]
   rw[Br,eH] at q;simp only[go_sem,aF,f,A,q,List.set_cons_zero,Br,B]
  |succ i=>
   have g:i<l.length:=by simpa using E
   have j:=j (fun y z=>h y (fW _ z)) g;have F:i*k+k<=l.length*k:=by rw[<-mS];exact vN k g
   have q:bn ((i+1)*k+k) ((l.length+1)*k)=true:=cE (by rw[mS,mS];omega);have C:bn (i*k+k) (l.length*k)=true:=cE F;simp only[eM,A,D,C,cT,aH] at j;simp only[eM,aF,f,A,q,cT,List.set_cons_succ,<-j];have I:(v.cells++aF l).take ((i+1)*k)=v.cells++(aF l).take (i*k):=by
    rw[show(i+1)*k=v.cells.length+i*k by rw[o,mS];omega,List.take_length_add_append]
   have H:(v.cells++aF l).drop ((i+1)*k+k)=(aF l).drop (i*k+k):=by
    rw[show(i+1)*k+k=v.cells.length+(i*k+k) by rw[o,mS];omega,<-xy,DJ]
   rw[I,H,List.append_assoc]
def wX(f:Nat->Nat->Int)(n:Nat):List (Fin n):=(t0 n).mergeSort fun i j=> !(ltOf fun x y:Fin n=>f x y) j i
def xe(f:Nat->Nat->Int)(rows:List aa):List aa:=(wX f rows.length).map fun i=>rows[i]
def P7(f:Nat->Nat->Int)(n:Nat):(wX f n).Perm (t0 n):=List.mergeSort_perm _ _
def acC(f:Nat->Nat->Int)(rows:List aa):(xe f rows).Perm rows:=by
 have h:=(P7 f rows.length).map fun i=>rows[i];have e:(t0 rows.length).map (fun i=>rows[i])=rows:=by
  refine List.ext_getElem (by simp) fun i j g=>?_;simp
 rwa [e] at h
def ads{G:Gh}: ∀ {cs:List aa} {vs:List Value},cs.length=vs.length->(∀(i:Nat) v,cs[i]? =some v-> ∃x,vs[i]? =some x/\VR G v x)->bR G cs vs
 | [],[],_,_=>.nil
 | [],_::_,h,_=>by simp at h
 |_::_,[],h,_=>by simp at h
 |c::cs,v::vs,h,hv=>by
  obtain⟨x,f,j⟩:=hv 0 c rfl;have f:some v=some x:=f;injection f with f;subst f
  exact .cons j (ads (by simpa using h) fun i u g=>hv (i+1) u g)
def Q9{f g:Nat}{ρ:Go.Shelf.Ren}(L:SlLaysF0.n6 ah ρ)(hf:ρ.f 6=f)(aE: ∀w,(isAgg (ρ.t 24)).run ah w= .ok true w)(zE: ∀w,(Go.sizeOf (ρ.t 24)).run ah w= .ok k w)(ef: ∀B w,(callFunc f B).run ah w= .ok (.enter f B) w)(eg: ∀B w,(callFunc g B).run ah w= .ok (.enter g B) w){sp:Sp}(b8:cQ ah g sp)(wr:WR G h w){m lcap:Nat}{rows us:List aa}(hl:h.get m=some (.cells (aF rows)))(hk: ∀v∈rows,v.cells.length=k/\v= .agg v.cells)(E:0<k)(a2:us.length=rows.length)(hu: ∀(i:Nat) v u,rows[i]? =some v->us[i]? =some u->gm (h.set m none) v u)(F:Nat->Nat->Int)(c8: ∀(i j:Nat) u u',us[i]? =some u->us[j]? =some u'->sp [u,u']=some (.int .i64 (F i j)))(hO:SWO (ltOf fun x y:Fin rows.length=>F x y))(hT: ∀x y:Fin rows.length,(ltOf fun x y:Fin rows.length=>F x y) x y=false->(ltOf fun x y:Fin rows.length=>F x y) y x=false->x=y)(d2:rows.length<=1000000){y:Value}(hy:VR G (.arr k m 0 rows.length lcap) y):
 lZ ah f ⟨[y,.func (.func g) #[] #[]]⟩ w fun z w'=> ∃P,WR P (h.set m (some (.cells (aF (xe F rows))))) w'/\cJ G h w P (h.set m (some (.cells (aF (xe F rows))))) w' 0 0/\VR P (.tup []) z:=by
 subst hf;have D: ∀v∈rows,v.cells.length=k:=fun v hv=>(hk v hv).1;have d4: ∀v∈xe F rows,v.cells.length=k:=fun v hv=>D v ((acC F rows).mem_iff.1 hv);have c0:(xe F rows).length=rows.length:=(acC F rows).length_eq;obtain⟨a,b,b4,rfl,M,N,b3,d1,d,A,hd⟩:=Lk hy;obtain⟨b',V,_,C,e,hC,a5,c7⟩:=wr.obj m _ hl;rw[M] at V;injection V with V;subst V
 rw[a5] at A;injection A with A
 have c9:=wr.below m b M;obtain⟨val,q⟩: ∃val:Nat->Nat->Value, ∀(i:Nat) v,rows[i]? =some v-> ∀(t:Nat) u,v.cells[t]? =some u->C[b.off+(i*k+t)]? =some (val i t)/\VR G u (val i t)/\u.scal=true:=by
  refine⟨fun i t=>(C[b.off+(i*k+t)]?).getD .nilFunc,fun i v J t u H=>?_⟩;have T:t<k:=by
   have:=(nF.1 H).1;rwa [D v (dB J)] at this
  have e:(aF rows)[i*k+t]? =some u:=by
   rw[QI E D];have e1:(i*k+t) / k=i:=by rw[Nat.add_comm,Nat.add_mul_div_right _ _ E,Nat.div_eq_of_lt T,eH]
   have e2:(i*k+t) % k=t:=by rw[Nat.add_comm,Nat.add_mul_mod_self_right,DR T]
   rw[e1,e2,J];exact H
  obtain⟨h1,x,h2,h3⟩:=c7 _ u e;simp only[h2,Option.getD_some,tA];exact⟨h3,h1⟩
 have Y: ∀(i:Nat) v,rows[i]? =some v->bR G v.cells ((gV k).map (val i)):=fun i v J=>by
  refine ads (by simp[D v (dB J)]) fun t u H=>?_;have T:t<k:=by
   have:=(nF.1 H).1;rwa [D v (dB J)] at this
  exact⟨val i t,by simp[T],(q i v J t u H).2.1⟩
 have O: ∀(i:Nat) v,rows[i]? =some v->de v.cells=true:=fun i v J=>by
  simp only[de,List.all_eq_true];intro u b6;obtain⟨t,H⟩:=List.getElem?_of_mem b6;exact(q i v J t u H).2.2
 have b2: ∀n os (I:Array (Fin rows.length)) (a1:Inhabited (Fin rows.length)),I.toList.length=rows.length-> ∃P,WR P (h.set m (some (.cells (aF (I.toList.map fun i=>rows[i]))))) (sortWorldK (fun i:Fin rows.length=>(gV k).map (val i)) k w b.block b.off n I os)/\
  cJ G h w P (h.set m (some (.cells (aF (I.toList.map fun i=>rows[i]))))) (sortWorldK (fun i:Fin rows.length=>(gV k).map (val i)) k w b.block b.off n I os) 0 0/\VR P (.tup []) (.tuple #[]):=fun n os I a1 c5=>by
  have c6: ∀v∈I.toList.map (fun i=>rows[i]),v.cells.length=k:=fun v hv=>by
   obtain⟨i,_,rfl⟩:=List.mem_map.1 hv;exact D _ (xD _)
  refine JS wr hl M id (flatK (fun i:Fin rows.length=>(gV k).map (val i)) k I) n os (fun C' e' l=>?_) (fun t v H=>?_);rw[hC] at l;injection l with l;injection l with l _ _;subst l
  rw[size_flatK,<-Array.length_toList,c5,A]
  have:=vN k b3;omega;rw[QI E c6] at H;simp only[aj,iw,Option.map_eq_some_iff] at H;obtain⟨r,⟨i,J,rfl⟩,H⟩:=H;have c3:t / k<I.size:=by
   have:=(nF.1 J).1;simpa using this
  have a7:t<I.size*k:=by
   have:=Nat.div_add_mod t k
   have:=ua t E;have h3:(t / k+1)*k<=I.size*k:=vN k c3;rw[mS] at h3
   have:=Nat.div_add_mod t k;rw[Nat.mul_comm] at this;omega
  refine⟨by rw[size_flatK];exact a7,(q i _ (by simp) _ v H).2.2,?_⟩;show VR G v ((flatK _ k I)[t]!);rw[get_flatK _ _ _ _ a7];have e1:I[t / k]! =i:=by
   have b1:I.toList[t / k]? =some i:=J;rw[Array.getElem?_toList] at b1;rw[getElem!_def,b1]
  have b7:=ua t E;rw[e1];have e2:((gV k).map (val i))[t % k]! =val i (t % k):=by
   rw[getElem!_def];simp[b7]
  rw[e2];exact(q i _ (by simp) _ v H).2.1
 by_cases hn:rows.length=0;have c1:rows=[]:=tZ hn;subst c1;refine .inr ⟨ef _ _,(AnyF.slices_SortFunc_none L (some a) b4 (.func (.func g) #[] #[]) w).mono ?_⟩;rintro e' w' ⟨rfl,rfl⟩;obtain⟨P,S,g2,g3⟩:=JS (cs':=[]) wr hl M id (#[]:Array Value) 0 #[] (fun C' e' l=>by
  rw[hC] at l;injection l with l;injection l with l _ _;subst l
  rw[A];show b.off+0<=d;omega) (fun i v J=>by simp at J)
 have hw:grow (putRow id (Sort.ahead w' 0) b.block b.off (#[]:Array Value)) #[]=w':=by
  rw[Go.Sort.grow_empty,Go.Sort.ahead_zero];exact Go.Sort.putRow_self id w' b.block b.off _ (fun j hj=>by simp at hj)
 rw[hw] at S g2;rw[tZ c0];exact⟨_,rfl,P,S,g2,g3⟩
 haveI a1:Inhabited (Fin rows.length):=⟨⟨0,by omega⟩⟩
 rcases d1 with h0|⟨a0,Z⟩
 exact absurd h0 hn;obtain⟨ab,ao,d5⟩:=a;simp only at a0 Z N;subst a0;subst Z;subst N;have a3:(t0 rows.length).toArray.size=rows.length:=by simp
 have hH:HoldsK (fun i:Fin rows.length=>(gV k).map (val i)) k w b.block b.off (t0 rows.length).toArray:=fun j hj=>by
  have a4:j<(t0 rows.length).toArray.size*k:=by rw[size_flatK] at hj;exact hj
  refine⟨?_,by simp[World.frozen?,hC]⟩;have U:j / k<rows.length:=by
   rw[a3] at a4;exact(Nat.div_lt_iff_lt_mul E).2 a4
  have b0:=ua j E;have a9:=D _ (xD U);obtain⟨h1,_,_⟩:=q (j / k) rows[j / k] (by simp[U]) (j % k) (rows[j / k].cells[j % k]'(by omega)) (by simp[a9,b0]);have ej:j / k*k+j % k=j:=by rw[Nat.mul_comm];exact Nat.div_add_mod j k
  rw[ej] at h1;rw[oE hC,h1];show some _=some ((flatK _ k (t0 rows.length).toArray)[j]!);rw[get_flatK _ _ _ _ a4];have e1:(t0 rows.length).toArray[j / k]! =⟨j / k,U⟩:=by
   rw[getElem!_def];simp[U]
  rw[e1,getElem!_def];simp[b0]
 have a6:WR G (h.set m none) w:=wr.killed m;have c2: ∀bb o u,nR G (h.set m none) bb o=some u->bb≠b.block:=fun bb o u hc he=>by
  subst he;rcases G9 hc with hc|⟨n,a',cs,i,S,g2,g3,_,_⟩
  have:=wr.apart m _ b o u hl M hc;cases this.1;by_cases hnm:n=m;subst hnm;rw[aC.get_set,iP rfl] at S;cases S;rw[aC.get_set,iN hnm] at S;exact hnm (wr.sep n m a' b (by rw[S];simp) (by rw[hl];simp) g2 M g3)
 have b5: ∀x:Fin rows.length,VR (Cb G (h.set m none)) (us[x]'(by rw[a2];exact x.2)) (.agg ((gV k).map (val x)).toArray):=fun x=>by
  have hx:rows[x.1]? =some rows[x]:=by simp
  obtain⟨kk,c4⟩:=hu x rows[x] _ hx (fE (by rw[a2];exact x.2));refine thaw (fun _ _ _ _=>V5) a6 kk (v:=rows[x]) ?_ c4;rw[(hk rows[x] (xD _)).2];exact .agg (O x _ hx) (Y x _ hx)
 have hO:=AnyQ.slices_SortFunc_total L k aE zE (fun i:Fin rows.length=>(gV k).map (val i)) (fun _=>by simp) (fun x v hv=>by
  have hx:rows[x.1]? =some rows[x]:=by simp
  exact(Y x _ hx).ones (O x _ hx) v hv) (fun x y:Fin rows.length=>F x y) hO g #[] b.block b.off b4 (t0 rows.length).toArray w eg
  (ahe b8 eg (G2:=Cb G (h.set m none)) (encA:=fun x=>us[x]'(by rw[a2];exact x.2)) b5 (fun x y=>c8 x y _ _ (fE _) (fE _)) k b.block b.off _ w
   (fun mm os dk=>axT a6 c2 fun bb d0 a8=>avW _ _ _ _ _ _ _ _ bb d0 a8)) hH c9 (by rw[a3];omega) hT
 rw[a3] at hO;refine .inr ⟨ef _ _,hO.mono ?_⟩;rintro e' w' ⟨rfl,n,os,rfl⟩;obtain⟨P,S,g2,g3⟩:=b2 n os (wX F rows.length).toArray a1 (by simpa using(P7 F rows.length).length_eq);have e:(wX F rows.length).toArray.toList.map (fun i=>rows[i])=xe F rows:=by simp[xe]
 rw[e] at S g2;exact⟨_,rfl,P,S,g2,g3⟩
end Go.Proofs.YtnnppcoplinajaaGreat
namespace Go.Proofs.YtnnppcoplinajaaGreat
open Go.Ag
variable{Q:aD}[Std Q]
abbrev cL:=Int×bI
def jz(s:bI):Int:=min s.1.1 s.2.1
def uO(s:bI):Int:=max s.1.1 s.2.1
def qD(s:bI):Int:=min s.1.2 s.2.2
def qz(s:bI):Int:=max s.1.2 s.2.2
def iR(x:cL):List aa:=[ag x.1,ag x.2.1.1,ag x.2.1.2,ag x.2.2.1,ag x.2.2.2,ag (jz x.2),ag (uO x.2),ag (qD x.2),ag (qz x.2)]
def cI(x:cL):aa:=.agg (iR x)
abbrev Mt:=Int×Int×Int
def gB(m:Mt):aa:=.agg [ag m.1,ag m.2.1,ag m.2.2]
def AF:Sp
 | [.int .i64 a,.int .i64 b]=>some (aN (min a b,max a b))
 |_=>none
variable{s:St}{x:cL}
section
variable{sp:g9}
def ash(f:sp 303=none)(a b:Int)(s:St):aq (QS sp) 303 [ag a,ag b] s (aN (min a b,max a b)) s:=by
 refine aq.of4 Ii.1 Ii.2 Ii.3 Ii.4 f ?_;simp only[go_sem,seval,aN,rp,sR,bj,bc,aX,aZ,evc]
def afM(f:sp 308=none)(a b:Int×Int)(s:St):aq (QS sp) 308 [aN a,aN b] s (.bool (bV a.1 b.2&&bV b.1 a.2)) s:=by
 refine aq.of3 Ik.1 Ik.2 Ik.3 Ik.4 f rfl ?_;cases e1:bV a.1 b.2 with
 |false=>simp only[go_sem,seval,aN,e1,dA]
 |true=>simp only[go_sem,seval,aN,e1,en]
def ahd(f:sp 305=none)(g:sp 232=some oG)(j:sp 108=some ve){y:cL}(q:IntKind.i64.wrap (x.1-y.1)=x.1-y.1)(z:s.gt<=s.aL):aq (QS sp) 305 [cI x,cI y] s (bO (lO [iO (jz x.2) (jz y.2),x.1-y.1])) s:=by
 have o:oG [ag (jz x.2),ag (jz y.2)]=some (ag (iO (jz x.2) (jz y.2))):=rfl;have l:ve [.list 1 [ag (iO (jz x.2) (jz y.2)),ag (x.1-y.1)] .GE]=some (ag (lO [iO (jz x.2) (jz y.2),x.1-y.1])):=rfl;refine aq.of3 Ij.1 Ij.2 Ij.3 Ij.4 f rfl ?_;simp only[go_sem,seval,cI,iR,bO,z,g,j,o,l,q,bj,bc,aX,aZ,evc]
def ahh(f:sp 310=none)(g:sp 108=some ve){x y:Mt}(o:IntKind.i64.wrap (x.1-y.1)=x.1-y.1)(j:IntKind.i64.wrap (x.2.1-y.2.1)=x.2.1-y.2.1)(s:St):aq (QS sp) 310 [gB x,gB y] s (bO (lO [x.1-y.1,x.2.1-y.2.1])) s:=by
 have l:ve [.list 1 [ag (x.1-y.1),ag (x.2.1-y.2.1)] .GE]=some (ag (lO [x.1-y.1,x.2.1-y.2.1])):=rfl;refine aq.of3 Il.1 Il.2 Il.3 Il.4 f rfl ?_;simp only[go_sem,seval,gB,bO,g,l,o,j,bj,bc,aX,aZ,evc]
end
variable{n:Nat}{a:cL}
def Vj(f:No Q 307)(g:s.get [] n=some (.cells (iR a))):aq Q 307 [cI x,.ptr n 0] s (.bool (aV (uO x.2) (jz a.2))) s:=by
 refine aq.ofNZ aoC (bT ?_);simp only[go_sem,seval,cI,iR,g]
def Fl(mk:aI)(n m o l c:Nat)(s:St):iG ah mk 363 (.arr n m o l c) s=some (ag l):=by kernel_rfl
variable{R:List cL}
def wB: ∀v∈R.map cI,v.cells.length=9:=fun v f=>by
 obtain⟨x,_,rfl⟩:=List.mem_map.1 f;rfl
variable{i m:Nat}
def HM(h:s.get [] m=some (.cells (aF (R.map cI))))(f:R[i]? =some x):yD ah 368 (i*9) (s.get [] m)=some (cI x):=by
 rw[h,aQ,JL,ab1 wB (by rw[iw,f];rfl)];rfl
def iE(a x:cL):Bool:=aV (uO x.2) (jz a.2)
def td(p:cL->Bool):List cL->Nat->Int
 | [],_=> -1
 |x::l,i=>bif p x then(i:Int) else td p l (i+1)
variable{lc:Ag.Loc}{K:Ex->Fr->St->Prop}{lcap:Nat}
def al9(l:No Q 307){len:Nat}(U:R.length<=1000000)(J:len<=R.length)(T:s.get [] m=some (.cells (aF (R.map cI))))(S:s.get [] n=some (.cells (iR a))){r:Int}(O: ∀e,r= -1->K (.exit 0) ⟨e,19,lc⟩ s)(P: ∀e,ac e 4=ag r->K .ret ⟨e,19,lc⟩ s):
 ∀(g f:List cL) (e:aw),R.take len=f++g->r=td (iE a) g f.length->ac e 0= .arr 9 m 0 len lcap->ac e 1= .func (.func 307) [] [.ptr n 0]->ac e 7=aM len->ac e 8=aM f.length->W Q 418 (.loop IB) ⟨e,19,lc⟩ s K:=by
 intro g;have M:(R.take len).length=len:=by rw[sw];omega
 induction g with
 |nil=>
  intro f e y B C z A q;have F:f.length=len:=by rw[<-M,y];simp
  refine bq ?_;simp only[go_sem,seval,IB,C,z,A,q,F,cq];exact O _ B
 |cons x g N=>
  intro f e y B C z A q;have o:f.length<len:=by rw[<-M,y];simp
  have I:R[f.length]? =some x:=by
   have:(R.take len)[f.length]? =some x:=by rw[y];simp
   rwa [List.getElem?_take,iP o] at this
  have E:=HM T I;have D:=dg (n:=f.length) (by omega);have H:(cI x).ge=true:=rfl;refine bq ?_;simp only[go_sem,seval,IB,C,z,A,q,o,E,H];refine ct.of (Vj l S) (by decide) ?_;cases hd:iE a x with
  |true=>
   have j:aV (uO x.2) (jz a.2)=true:=hd;simp only[go_sem,seval,j];exact P _ (by simp only[sN,seval,q,B,td,hd])
  |false=>
   have j:aV (uO x.2) (jz a.2)=false:=hd;simp only[go_sem,seval,j,q,D];refine N (f++[x]) _ (by rw[y];simp) (by rw[B];simp only[td,hd,cF,sA]) ?_ ?_ ?_ ?_
   all_goals simp only[sN,seval,C,z,A,sA]
def ama(j:No Q 418)(f:No Q 307){len:Nat}(l:R.length<=1000000)(g:len<=R.length)(y:s.get [] m=some (.cells (aF (R.map cI))))(q:s.get [] n=some (.cells (iR a))):aq Q 418 [.arr 9 m 0 len lcap,.func (.func 307) [] [.ptr n 0]] s (bO (td (iE a) (R.take len) 0)) s:=by
 refine aq.ofNZ Yu (bT ?_);simp only[go_sem,seval,Fl];refine al9 (lcap:=lcap) f l g y q (r:=td (iE a) (R.take len) 0) ?_ ?_ (R.take len) [] _ rfl rfl (by simp only[sG,seval, *]) (by simp only[sG,seval, *]) (by simp only[sG,seval, *]) (by simp only[sN,seval];rfl);intro e o;simp only[go_sem,seval,o];rfl;intro e z;simp only[go_sem,seval,z];rfl
def awf(l:List ae):aa:=io 1 (l.map aA)
def tagsV(l:List fO):aa:=io 2 (l.map ki)
def azm:Sp
 | [v]=>(afn v).bind fun l=>bif bn l.length 100000 then some (awf (adI l)) else none
 |_=>none
def ayy:Sp
 | [v,u]=>(jw v).bind fun a=>(jw u).bind fun b=>some (bO (ahi a b))
 |_=>none
def BC:Sp
 | [v,u]=>(xR v).bind fun a=>(xR u).bind fun b=>bif bn a.length 1000000 then some (.bool (ld a b)) else none
 |_=>none
def tk:Sp
 | [v,u]=>(xR v).bind fun a=>(xR u).bind fun b=>bif bn a.length 1000000&&bn b.length 1000000 then some (.bool (tj a b)) else none
 |_=>none
variable{a b:List ae}{u v:aa}
section
variable{sp:g9}
def afC(T:ax 1 aA v a)(S:ax 1 aA u b)(ha:a.length<=1000000)(hm:s.gt<=s.aL)(hx: ∀e,ac e 0=v->ac e 1=u->ld a b=decide (a.length<b.length)->K (.exit 0) ⟨e,41,lc⟩ s)(hr: ∀e,ac e 4= .bool (ld a b)->K .ret ⟨e,41,lc⟩ s):
 ∀(A rb f g:List ae) (e:aw),a=f++A->b=g++rb->f.length=g.length->ld a b=ld A rb->ac e 0=v->ac e 1=u->ac e 5= .int .i64 (f.length:Nat)->W (QS sp) 82 (.loop Fi) ⟨e,41,lc⟩ s K:=by
 have M:=T.ge;have Y:=S.ge;have J:=fun O s=>T.lenS co O s;have N:=fun O s=>S.lenS co O s;intro A
 induction A with
 |nil=>
  intro rb f g e H C B E I j F;have D:a.length=f.length:=by rw[H];simp
  have l:b.length=f.length+rb.length:=by rw[C,B];simp
  refine W.loopF ?_;simp only[aU,js,ai,ay,ofValue,pF,Ez,Fi,I,F,M,J,D,cq];refine hx _ (by simp only[dh,ai, *]) (by simp only[dh,ai, *]) ?_;rw[E,D,l];cases rb with
  |nil=>simp[ld]
  |cons y rb=>simp[ld]
 |cons x A ih=>
  intro rb f g e H C B E I j F;have q:f.length<a.length:=by rw[H];simp
  have V:a[f.length]? =some x:=by rw[H];simp
  have i1:=fun lc=>T.at co.2.2.1 V lc .i64;cases rb with
  |nil=>
   have l:b.length=f.length:=by rw[C,B];simp
   refine W.loopF ?_;simp only[aU,js,ai,ay,ofValue,pF,Ez,Fi,I,j,F,M,Y,J,N,q,l,cq];refine hx _ (by simp only[dh,ai, *]) (by simp only[dh,ai, *]) ?_;rw[E,l,dN (by omega)];rfl
  |cons y rb=>
   have o:f.length<b.length:=by rw[C,B];simp
   have U:b[f.length]? =some y:=by rw[C,B];simp
   have Z:=fun lc=>S.at co.2.2.1 U lc .i64;have P:=dg (n:=f.length) (by omega);refine W.loopF ?_;cases hq:x==y with
   |false=>
    have z:ld a b=Op.bytesLess x y:=by rw[E];simp only[ld,hq,cF]
    simp only[aU,js,isStore,List.take,List.drop,ai,ay,bG,dG,te,dD,dC,ofValue,pF,gR,Ez,YO,apO,Fi,I,j,F,M,Y,J,N,i1,Z,q,o,hm,aA,hq];exact hr _ (by simp only[iV,ai,cT,z])
   |true=>
    have z:ld a b=ld A rb:=by rw[E];simp only[ld,hq,cT]
    simp only[aU,js,isStore,List.take,List.drop,ai,ay,bG,dG,te,dD,dC,ofValue,pF,gR,Ez,YO,Fi,I,j,F,M,Y,J,N,i1,Z,q,o,hm,aA,hq,P];exact ih rb (f++[x]) (g++[y]) _ (by rw[H];simp) (by rw[C];simp) (by simp[B]) z (by simp only[dh,ai, *]) (by simp only[dh,ai, *]) (by simp only[aW,fh,ai,cD])
def afD(l:sp 82=none)(j:ax 1 aA v a)(g:ax 1 aA u b)(A:a.length<=1000000)(z:s.gt<=s.aL):aq (QS sp) 82 [v,u] s (.bool (ld a b)) s:=by
 have F:=j.ge;have E:=g.ge;have q:=fun f s=>j.lenS co f s;have o:=fun f s=>g.lenS co f s;refine aq.of3 IX.1 IX.2 IX.3 IX.4 l rfl ?_;simp only[aU,js,fZ,fT,ay,bG,cy,ofValue,pF,O8];refine afC j g A z ?_ ?_ a b [] [] _ rfl rfl rfl rfl (by simp only[aW,ai, *]) (by simp only[aW,ai, *]) (by simp only[aW,ai, *];rfl);intro e D C y;simp only[aU,js,ai,ay,reduceCtorEq,Ez,D,C,F,E,q,o,y];intro e B;simp only[aT,PO,LN,reduceCtorEq,oT,eq_self,B]
end
def TY(o:ax 1 aA v a)(l:ax 1 aA u b)(g:bH v=true)(f:bH u=true)(j:a.length<=1000000):BC [v,u]=some (.bool (ld a b)):=by
 simp only[dW,BC,BA o g,BA l f,cE j]
def afA:cQ ah 82 BC:=by
 refine pV du.nil fun g u h=>?_;unfold BC at h;split at h;simp only[aj] at h;obtain⟨a,A,b,z,h⟩:=h;obtain⟨y,h⟩:=aY h;have h:=sI h;subst h;obtain⟨q,l⟩:=G5 A;obtain⟨o,j⟩:=G5 z;exact⟨by simp only[pures,l,j,bW],_,_,afD (sp:=fun f=>gD f []) rfl q o (fF y) (bk _),rfl,⟨1,rfl⟩⟩;cases h
def SH:dp:=[(82,BC)]
def aef:du SH:=.cons afA .nil
section
variable{sp:g9}
def al5(o:sp 35=none)(f:sp 82=some BC)(l:ax 1 aA v a)(j:ax 1 aA u b)(y:bH v=true)(q:bH u=true)(D:a.length<=1000000)(C:b.length<=1000000)(s:St):aq (QS sp) 35 [v,u] s (.bool (tj a b)) s:=by
 have A:=l.ge;have z:=j.ge;have g:=TY l j y q D;have B:=TY j l q y C;refine aq.of3 Iz.1 Iz.2 Iz.3 Iz.4 o rfl ?_;unfold tj;cases e1:ld a b with
 |true=>
  rw[e1] at g;simp only[aU,js,fZ,fT,ai,ay,bG,cy,reduceCtorEq,ofValue,pF,OI,A,z,f,g]
 |false=>
  rw[e1] at g;simp only[aU,js,fZ,fT,ai,ay,bG,cy,reduceCtorEq,ofValue,pF,OI,A,z,f,g,B]
end
def al4:cQ ah 35 tk:=by
 refine pV aef fun o u h=>?_;unfold tk at h;split at h;simp only[aj] at h;obtain⟨a,A,b,z,h⟩:=h;obtain⟨g,h⟩:=aY h;have h:=sI h;subst h;simp only[bm] at g;obtain⟨y,l⟩:=G5 A;obtain⟨q,j⟩:=G5 z;exact⟨by simp only[pures,l,j,bW],_,_,al5 (sp:=fun f=>gD f SH) rfl rfl y q l j (fF g.1) (fF g.2) s0,rfl,⟨1,rfl⟩⟩;cases h
def ZL{env:aw}{x:Operand}{d:Nat}(h:ev env x=some (.int .i64 (n:Nat))):eV env (some x) d=some n:=by
 simp only[eV,h,bg];rfl
def avB(mk:aI)(m off len lcap:Nat)(lo f:Option Operand)(e:aw)(s:St):iZ ah mk 363 (.arr 9 m off len lcap) lo f none e s=(eV e f len).bind fun h=>(eV e lo 0).bind fun l=>bif bn l h&&bn h len then some (.arr 9 m (off+l*9) (h-l) (lcap-l)) else none:=by
 have h:iZ ah mk 363 (.arr 9 m off len lcap) lo f none e s=(eV e f len).bind fun h=>(eV e lo 0).bind fun l=>bif aK 9 9&&bn l h&&bn h len&&true then some (.arr 9 m (off+l*9) (h-l) (lcap-l)) else none:=by kernel_rfl
 rw[h];simp only[mP,Nat.beq_refl,en]
def WZ(h:s.get [] m=some (.cells (aF (R.map cI))))(f:i<R.length)(x:cL)(lc:Ag.Loc):Kc lc s m (i*9) (cI x) (s.get [] m)=some (lc,s.put m (some (.cells (aF ((R.set i x).map cI))))):=by
 rw[h,cS,yW wB (by simpa using f) rfl];simp only[bg,List.map_set]
structure dn (m:Nat) (s s':St):Prop where
 old: ∀k,k≠m->s'.get [] k=s.get [] k
 aL:s'.aL=s.aL
 ci:s'.ci=s.ci
 mw:s'.gt<=s'.aL
def dn.refl(h:s.gt<=s.aL):dn m s s:=⟨fun _ _=>rfl,rfl,rfl,h⟩
theorem dn.put{s':St}(h:dn m s s')(o:Option aJ):dn m s (s'.put m o):=
 ⟨fun k f=>by rw[aR,bN.2 f];exact h.old k f,h.aL,h.ci,cR s' m o h.mw⟩
def dn.trans{s' f:St}(h:dn m s s')(k:dn m s' f):dn m s f:=⟨fun j g=>(k.old j g).trans (h.old j g),k.aL.trans h.aL,k.ci.trans h.ci,k.mw⟩
def Bf:cL:=(0,((0,0),(0,0)))
def adN(n:Nat):aX [ag 0,ag 0,ag 0,ag 0,ag 0,ag 0,ag 0,ag 0,ag 0] n=aF ((gG n Bf).map cI):=by
 induction n with
 |zero=>rfl
 |succ n f=>rw[aX,f,List.replicate_succ,List.map_cons,aF];rfl
def auP(h:i+n<=R.length):eM (aF (R.map cI)) (i*9) (aF ((gG n Bf).map cI))=some (aF ((R.take i++(gG n Bf++R.drop (i+n))).map cI)):=by
 have y:R=R.take i++((R.drop i).take n++R.drop (i+n)):=by
  rw[<-xy,zz,zz]
 have o:(aF ((R.take i).map cI)).length=i*9:=by
  rw[oh wB];simp;omega
 have l:(aF (((R.drop i).take n).map cI)).length=n*9:=by
  rw[oh wB];simp;omega
 have j:(aF ((gG n Bf).map cI)).length=n*9:=by
  rw[oh wB];simp
 have g:(aF (R.map cI)).length=R.length*9:=by rw[oh wB];simp
 have f:bn (i*9+n*9) (R.length*9)=true:=cE (by omega);have q:aF (R.map cI)=aF ((R.take i).map cI)++(aF (((R.drop i).take n).map cI)++aF ((R.drop (i+n)).map cI)):=by
  conv=>lhs;rw[y]
  rw[eE,qx,eE,qx]
 unfold eM;rw[j,g,f,q];simp only[cT,aH,eE,qx];rw[Kv (by omega),qY (by omega)];congr 2;rw[<-o,<-xy,DJ,<-l,DJ]
structure Del (R:List cL) (m k:Nat) (K:List cL) (s s':St):Prop where
 but:dn m s s'
 row: ∃R':List cL,R'.length=R.length/\R'.take k=K/\s'.get [] m=some (.cells (aF (R'.map cI)))
def aq.ofWE{Q:aD}{f:FuncId}{fn:Func}{o:SC}{t:Tmp}{args:List aa}{R:aa->St->Prop}(A:Q.P.funcs[f]? =some fn)(B:fn.body.map dJ=some o)(z:fn.ntmps=n)(y:fn.results.toList=[.tmp t])(l:Q.spec f=none)(h:W Q f o (fZ n args) s fun x g j=>(x= .normal\/x= .ret)/\(ac g.env t).ge=true/\R (ac g.env t) j)(D:Q.specH f=none:=by rfl)(C:Q.specW f=none:=by rfl): ∃v q,aq Q f args s v q/\R v q:=by
 obtain⟨x,g,j,I,H,F,E⟩:=h;exact⟨_,j,aq.of2 A B z y l ⟨x,g,j,I,rfl,H,dK rfl F⟩ D C,E⟩
def VW(p:cL->Bool): ∀(l:List cL) (k:Nat),(td p l k= -1/\l.filter (fun x=> !p x)=l)\/ ∃f x g,l=f++x::g/\f.filter (fun x=> !p x)=f/\p x=true/\td p l k=((k+f.length:Nat):Int)
 | [],k=>.inl ⟨rfl,rfl⟩
 |x::l,k=>by
  cases h:p x with
  |true=>exact .inr ⟨[],x,l,rfl,rfl,h,by simp[td,h]⟩
  |false=>
   rcases VW p l (k+1) with⟨o,j⟩|⟨f,y,g,o,j,z,q⟩
   exact .inl ⟨by simp[td,h,o],by rw[Gy,h,j];rfl⟩;refine .inr ⟨x::f,y,g,by rw[o];rfl,by rw[Gy,h,j];rfl,z,?_⟩;simp only[td,h,cF,q,dM];omega
def agY{c:Nat}(q:s.get [] m=some (.cells (aF (R.map cI))))(h:i+n<=R.length)(f:s.gt<=s.aL): ∃j,(∀g,je ah [] .clear [363] g [.arr 9 m (i*9) n c] s=some (.tup [],j))/\dn m s j/\ ∃R':List cL,R'.length=R.length/\R'.take i=R.take i/\j.get [] m=some (.cells (aF (R'.map cI))):=by
 have y: ∀g,je ah [] .clear [363] g [.arr 9 m (i*9) n c] s=bif aK n 0 then some (.tup [],s) else(s.get [] m).bind fun o=>match o with
  | .cells cs=>(eM cs (i*9) (aX [ag 0,ag 0,ag 0,ag 0,ag 0,ag 0,ag 0,ag 0,ag 0] n)).bind fun l=>some (.tup [],s.put m (some (.cells l)))
  |_=>none:=by
  intro g;have u:ah.underlying 363=some (.slice 368):=by kernel_rfl
  simp only[je,u,bg,ux,sj,lK];cases aK n 0 with
  |true=>rfl
  |false=>
   simp only[fH,cF];cases s.get [] m with
   |none=>rfl
   |some o=>
    cases o with
    |cells cs=>
     simp only[bg];cases eM cs (i*9) _<;>rfl
    |_=>rfl
 simp only[y];cases hn:aK n 0 with
 |true=>exact⟨s,fun _=>rfl,.refl f,R,rfl,rfl,q⟩
 |false=>
  rw[q];simp only[cF,bg,adN,auP h];refine⟨_,fun _=>rfl,(dn.refl f).put _,_,?_,?_,by rw[aR,bS];rfl⟩;simp only[cD,sw,List.length_replicate,List.length_drop];omega;rw[Kv (by rw[sw];omega),qY (by rw[sw];omega)]
variable{a:cL}
def ahE(o:No Q 307){len:Nat}{s0:St}(O:n≠m)(hs:R.length<=1000000)(a0:len<=R.length)(hn:s0.get [] n=some (.cells (iR a)))(hx: ∀e lc s (i:Nat) (R':List cL),ac e 0= .arr 9 m 0 len lcap->ac e 5=aM i->dn m s0 s->R'.length=R.length->s.get [] m=some (.cells (aF (R'.map cI)))->i<=len->R'.take i=(R.take len).filter (fun x=> !iE a x)->K (.exit 0) ⟨e,42,lc⟩ s):
 ∀(r j i:Nat) (R':List cL) (e:aw) (lc:Ag.Loc) (s:St),r+j=len->i<j->R'.length=R.length->R'.take i=(R.take j).filter (fun x=> !iE a x)->R'.drop j=R.drop j->dn m s0 s->s.get [] m=some (.cells (aF (R'.map cI)))->
  ac e 0= .arr 9 m 0 len lcap->ac e 1= .func (.func 307) [] [.ptr n 0]->ac e 5=aM i->ac e 6=aM j->W Q 306 (.loop Ov) ⟨e,42,lc⟩ s K:=by
 intro r
 induction r with
 |zero=>
  intro j i R' e lc s hr T H I J E A g M l F;have hj:j=len:=by omega
  subst hj;refine bq ?_;simp only[go_sem,seval,Ov,Fl,g,l,F,cq];exact hx _ _ _ i R' (by simp only[sN,seval,g]) (by simp only[sN,seval,l]) E H A (by omega) I
 |succ r Z=>
  intro j i R' e lc s hr T H I J E A g M l F;have P:j<len:=by omega
  have C:j<R.length:=by omega
  have Y:R'[j]? =some R[j]:=by
   have:(R'.drop j)[0]? =(R.drop j)[0]? :=by rw[J]
   simpa[C] using this
  have B:=HM A Y;have q:=dg (n:=j) (by omega);have N:=dg (n:=i) (by omega);have a1:(cI R[j]).ge=true:=rfl;have S:i<len:=by omega
  have z:=WZ A (i:=i) (by omega) R[j];have y:(R.take (j+1)).filter (fun x=> !iE a x)=(R.take j).filter (fun x=> !iE a x)++(if !iE a R[j] then [R[j]] else []):=by
   rw[Sc C,Gx];cases hq:iE a R[j]<;>simp[hq]
  have V: ∀x,(R'.set i x).drop (j+1)=R.drop (j+1):=fun x=>by
   rw[List.drop_set_of_lt (by omega),<-xy,J,xy]
  have D:R'.drop (j+1)=R.drop (j+1):=by rw[<-xy,J,xy]
  have U:s.get [] n=some (.cells (iR a)):=(E.old n O).trans hn;simp only[cI,iR] at B z;refine bq ?_;simp only[go_sem,seval,Ov,Fl,g,M,l,F,P,B];refine ct.of (Vj (x:=R[j]) o U) (by decide) ?_;cases hd':aV (uO R[j].2) (jz a.2) with
  |true=>
   have f:iE a R[j]=true:=hd';simp only[go_sem,seval,F,q];refine Z (j+1) i R' _ _ s (by omega) (by omega) H (by rw[y,f];simpa using I) D E A ?_ ?_ ?_ ?_
   all_goals simp only[sN,seval,g,M,l]
  |false=>
   have f:iE a R[j]=false:=hd';simp only[go_sem,seval,cO,g,l,F,q,N,S,z];refine Z (j+1) (i+1) (R'.set i R[j]) _ _ _ (by omega) (by omega) (by simpa using H) ?_ (V _) (E.put _) (by rw[aR,bS];rfl) ?_ ?_ ?_ ?_;rw[y,f];have:(R'.set i R[j]).take (i+1)=R'.take i++[R[j]]:=by
    rw[Sc (by rw[List.length_set];omega),List.take_set_of_le (bk _),List.getElem_set_self]
   rw[this,I];rfl
   all_goals simp only[sN,seval,g,M]
def ahG(l:No Q 306)(q:No Q 418)(j:No Q 307){len:Nat}(E:n≠m)(T:R.length<=1000000)(o:len<=R.length)(I:s.get [] m=some (.cells (aF (R.map cI))))(U:s.get [] n=some (.cells (iR a)))(z:s.gt<=s.aL):
 ∃v O,aq Q 306 [.arr 9 m 0 len lcap,.func (.func 307) [] [.ptr n 0]] s v O/\(v= .arr 9 m 0 ((R.take len).filter fun x=> !iE a x).length lcap/\Del R m ((R.take len).filter fun x=> !iE a x).length ((R.take len).filter fun x=> !iE a x) s O):=by
 have A:(R.take len).length=len:=by rw[sw];omega
 refine aq.ofWE (by rw[Std.P];exact E7.1) E7.2 E7.3 E7.4 l.s ?_ (Std.H 306) l.w;refine bT ?_;simp only[go_sem,seval];refine ct.of (ama (lcap:=lcap) q j T o I U) (by decide) ?_;rcases VW (iE a) (R.take len) 0 with⟨B,N⟩|⟨f,x,S,B,N,e3,e4⟩
 rw[B];simp only[go_sem,seval,bO];rw[N,A];exact⟨rfl,.refl z,R,rfl,rfl,I⟩
 ·rw[e4,eH]
  have a0:f.length<len:=by rw[<-A,B];simp
  have D:an ((f.length:Nat):Int) (-1)=false:=by simp[an]
  have C:=dg (n:=f.length) (by omega);have y:R.take f.length=f:=by
   have:(R.take len).take f.length=f:=by rw[B,List.take_left]
   rwa [List.take_take,Nat.min_eq_left (by omega)] at this
  have hx:R.take (f.length+1)=f++[x]:=by
   have:(R.take len).take (f.length+1)=f++[x]:=by rw[B,List.take_length_add_append];rfl
   rwa [List.take_take,Nat.min_eq_left (by omega)] at this
  simp only[go_sem,seval,bO,D,C];refine ahE (lcap:=lcap) j E T o U ?_ (len-(f.length+1)) (f.length+1) f.length R _ _ s (by omega) (by omega) rfl (by rw[y,hx,Gx,N];simp[e3]) rfl (.refl z) I ?_ ?_ ?_ ?_;intro e lc s1 i R' h0 h5 Y hl F M V;obtain⟨s2,q1,q2,R2,q3,q4,Z⟩:=agY (c:=lcap-i) F (i:=i) (n:=len-i) (by omega) Y.mw;have J:i=((R.take len).filter fun x=> !iE a x).length:=by rw[<-V,sw];omega
  have n1: ∀g,ac g 37=aM i->eV g (some (.tmp 37)) 0=some i:=fun g h=>ZL (by rw[dR,h]);have n2: ∀g,ac g 40=aM i->eV g (some (.tmp 40)) len=some i:=fun g h=>ZL (by rw[dR,h]);have n3: ∀g d,eV g none d=some d:=fun _ _=>rfl;simp only[go_sem,seval,h0,h5,avB,n1,n2,n3,bk,Nat.zero_le,M,q1,Br,Nat.sub_zero];rw[<-J];exact⟨rfl,Y.trans q2,R2,by rw[q3,hl],by rw[q4,V],Z⟩
  all_goals simp only[sN,seval]
