/- head() returns true; contracts of the laws; MergeBoth: the plain law, the walk; its arguments as values. -/
import Derived.Test.YtbfmdojdemckbaaGreatM1
import Derived.Test.YtbfmdojdemckbaaGreatHdS
import Derived.Test.YtbfmdojdemckbaaGreatZ1
import Derived.ProofKit
open Bool renaming and_eq_true→cZ,and_self→gf,and_true→dY,not_false→gU,not_true→dS
open Go.Builtin renaming len→cW
open Go.Callee renaming builtin→cG
open Int renaming lt_trichotomy→wy
open List renaming cons_append→cH,drop_succ_cons→gr,drop_zero→nq,drop→a7,getElem?_cons_succ→mJ,getElem?_cons_zero→gg,getElem?_eq_getElem→js,getElem?_eq_none→jF,getElem?_map→rE,getElem?_of_mem→Bn,head?_cons→bO,length_append→dp,length_cons→aP,length_map→eH,length_nil→aW,map_cons→fw,mem_cons→om,nil_append→cq,perm_ext_iff_of_nodup→uC,take_succ_cons→eR,take_zero→wE,take→bN
open List.cons renaming injEq→mI
open Nat renaming eq_zero_or_pos→tl,le_refl→bB,le_trans→fW,lt_irrefl→eU,reduceAdd→bE,reduceBEq→ah,reduceLT→au,reduceLeDiff→cm,zero_add→aQ,zero_lt_succ→gV
open Go.Op renaming assign→aJ,binOp→bh,bytesLess→hZ,move→ay
open Go.Operand renaming const→aE,tmp→aa
open Option renaming bind_eq_some_iff→aG,bind_some→aq,getD_some→pc,map_some→qQ,none_or→p9,some_or→uI
open Option.some renaming injEq→bg
open Prod.mk renaming injEq→bL
open Go.Ag.bz renaming of2→ey
open Go.Value renaming bool→bK
open Go.Ag.W renaming block→cO,cond→bc,loop1→cR,reg→b7,ret→cd,seq→aR,skip→ck,sreg→aF
namespace Go.Proofs.YtbfmdojdemckbaaGreat
open Go.Ag
def uo:aj->aj
 | .agg [.list n xs _]=>.agg [.list n xs .no]
 |v=>v
theorem amf {G:Gh} {v:aj} {y:Value} (h:VR G v y):VR G (uo v) y:=by
 unfold uo
 split
 ·cases h with
  |agg hs hv=>
   cases hv with
   |cons a b=>
    cases b
    cases a with
    |list p1 p2 p3 p4 p5 p6=>exact .agg rfl (.cons (.list p1 p2 p3 p4 p5 trivial) .nil)
 ·exact h
theorem Gs {G:Gh}: ∀ {l:List aj} {ys:List Value},cp G l ys->cp G (l.map uo) ys
 | [],_,.nil=>.nil
 |_::_,_,.cons a b=>.cons (amf a) (Gs b)
def IB (l:List aj):Option aj:=
 bif mT (nT 9) l a1 then some r1 else bif mT (nT 9) l a2 then some r2 else bif mT (nT 9) l a3 then some r3 else bif mT (nT 9) l a4 then some r4 else none
def Da:Sp:=fun l=>IB (l.map uo)
def Db:Sp:=fun l=>bif mT (nT 9) (l.map uo) a5 then some r5 else none
theorem one_pos: ∀i,0<pK [] i 1:=fun _=>Nat.zero_lt_one
theorem YR:eN Tryz.prog 9 Da:=by
 intro args u hv G h w xs wr hx
 have hx:=Gs hx
 unfold Da IB at hv
 generalize args.map uo=l at hv hx
 cases h1:mT (nT 9) l a1 with
 |true=>
  rw[h1] at hv
  have h1:=r9 (fun a b=>vd 9) h1
  subst h1
  injection hv with hv;subst hv
  exact xR a1 r1 m1 G h w xs wr hx
 |false=>
 rw[h1] at hv
 cases h2:mT (nT 9) l a2 with
 |true=>
  rw[h2] at hv
  have h2:=r9 (fun a b=>vd 9) h2
  subst h2
  injection hv with hv;subst hv
  exact xR a2 r2 m2 G h w xs wr hx
 |false=>
 rw[h2] at hv
 cases h3:mT (nT 9) l a3 with
 |true=>
  rw[h3] at hv
  have h3:=r9 (fun a b=>vd 9) h3
  subst h3
  injection hv with hv;subst hv
  exact xR a3 r3 m3 G h w xs wr hx
 |false=>
 rw[h3] at hv
 cases h4:mT (nT 9) l a4 with
 |false=>rw[h4] at hv;cases hv
 |true=>
  rw[h4] at hv
  have h4:=r9 (fun a b=>vd 9) h4
  subst h4
  injection hv with hv;subst hv
  exact xR a4 r4 m4 G h w xs wr hx
theorem YS:eN Tryz.prog 21 Db:=by
 intro args u hv G h w xs wr hx
 have hx:=Gs hx
 unfold Db at hv
 generalize args.map uo=l at hv hx
 obtain⟨h1,hv⟩:=bX hv
 have h1:=r9 (fun a b=>vd 9) h1
 subst h1
 injection hv with hv;subst hv
 refine TI UD (fun i=>?_) (bB 1) m5 (args':=a5) (by kernel_rfl) (by kernel_rfl) G h w xs wr hx
 match i with
 |0=>decide
 |i+1=>exact Nat.zero_lt_one
def GL:eV:=(9,Da)::(21,Db)::HT
theorem UE:fT GL:=.cons YR (.cons YS UF)
theorem XH:ve GL [] [] 3000 7 []=some (.bool true,0):=by kernel_rfl
def xj:Sp
 | []=>some (.bool true)
 |_=>none
theorem YT:eN Tryz.prog 7 xj:=by
 intro args v hv G h w xs wr hx
 cases args with
 |nil=>
  injection hv with hv;subst hv
  exact TI UE one_pos (bB 0) (fun c hc=>by cases hc;exact XH) (args':=[]) rfl rfl G h w xs wr hx
 |cons _ _=>cases hv
def q8 (a b c:List Obj):Bool:=bif kj a 20 then bif kj b 20 then kj c 20 else false else false
theorem X7 {sp:FuncId->Option (List aj->Option aj)} (h8:sp 8=none) (h22:sp 22=some vi) {va vb vc:aj} {a b c:List Obj} (ha:bC 6 Obj.val va a) (hb:bC 6 Obj.val vb b) (hc:bC 6 Obj.val vc c) (ga: ∀q∈a,q.Good) (gb: ∀q∈b,q.Good) (gc: ∀q∈c,q.Good) (sa:a.length<small) (sb:b.length<small) (sc:c.length<small) (s:St):
 bz (QS sp) 8 [.agg [va],.agg [vb],.agg [vc]] s (.bool (q8 a b c)) s:=by
 have ca:=ha.clean
 have cb:=hb.clean
 have cc:=hc.clean
 have fa:=CE ha ga sa 20
 have fb:=CE hb gb sb 20
 have fc:=CE hc gc sc 20
 refine ey ag8 ag7 aha ag9 h8 ?_
 unfold k8
 refine aF ?_
 unfold QE
 simp only[dt,cY,az,aA,aB,ai,dA,cM,aN,jC,ak,aK,aD,bW,gl,aw,bJ,dC,aq,cK,cT,cF,cg,aP,aW,bS,tA,aQ,ah,au,bE,cm,cj,dT,aaO,aaP,aaQ]
 refine aF ?_
 unfold QF
 cases h1:kj a 20 with
 |false=>
  simp only[az,aA,dB,aB,gp,jr,ai,bR,aH,aN,di,bo,dK,dI,ak,aK,aD,bk,bm,bW,bt,cx,dj,d7,aw,aq,bf,cK,cT,cF,aV,ei,aP,aW,cut,bN,a7,bS,tA,aQ,ah,au,aZ,li,h22,fa,h1]
  exact cd ⟨rfl,.inr rfl,cE (by simp only[ai,ah,cT,cF,q8,h1]) rfl⟩
 |true=>
  cases h2:kj b 20 with
  |false=>
   simp only[az,aA,dB,aB,eP,gp,hQ,jr,ai,bR,aH,aN,di,bo,dK,dI,ak,aK,aD,bk,bm,bW,bt,cx,dj,eA,d7,aw,aq,bf,cK,cT,cF,aV,ei,aP,aW,cut,bN,a7,bS,tA,aQ,ah,au,aZ,li,h22,fa,h1,fb,h2]
   exact cd ⟨rfl,.inr rfl,cE (by simp only[ai,ah,cT,cF,q8,h1,h2]) rfl⟩
  |true=>
   simp only[az,aA,dB,aB,eP,hQ,ai,bR,aH,aN,di,bo,dK,dI,ak,aK,aD,bk,bm,bW,bt,cx,dj,eA,aw,aq,bf,cK,cT,cF,aV,ei,aP,aW,cut,bN,a7,bS,tA,aQ,ah,au,aZ,li,h22,fa,h1,fb,h2,fc]
   exact cd ⟨rfl,.inr rfl,cE (by simp only[ai,ah,cT,cF,q8,h1,h2]) rfl⟩
def tL:Sp
 | [u,v,w]=>(jw u).bind fun a=>(jw v).bind fun b=>(jw w).bind fun c=>some (.bool (q8 a b c))
 |_=>none
theorem X1 {va vb vc:aj} {a b c:List Obj} (ha:bC 6 Obj.val va a) (hb:bC 6 Obj.val vb b) (hc:bC 6 Obj.val vc c) (ga: ∀q∈a,q.Good) (gb: ∀q∈b,q.Good) (gc: ∀q∈c,q.Good) (sa:a.length<small) (sb:b.length<small) (sc:c.length<small):tL [.agg [va],.agg [vb],.agg [vc]]=some (.bool (q8 a b c)):=by
 simp only[tL,kh ha ga sa,kh hb gb sb,kh hc gc sc,aq]
def FT:eV:=[(22,vi)]
theorem UC:fT FT:=.cons X3 .nil
theorem X2:eN Tryz.prog 8 tL:=by
 intro args x hv G h w xs wr hx
 unfold tL at hv
 split at hv
 ·simp only[aG,bg] at hv
  obtain⟨a,h1,b,h2,c,h3,rfl⟩:=hv
  obtain⟨va,rfl,ha,ga,sa⟩:=lB h1
  obtain⟨vb,rfl,hb,gb,sb⟩:=lB h2
  obtain⟨vc,rfl,hc,gc,sc⟩:=lB h3
  obtain⟨t1,va',w1,ha'⟩:=lP ha ga
  obtain⟨t2,vb',w2,hb'⟩:=lP hb gb
  obtain⟨t3,vc',w3,hc'⟩:=lP hc gc
  have hw:ef [.agg [va],.agg [vb],.agg [vc]]=[.agg [va'],.agg [vb'],.agg [vc']]:=by simp only[ef,w1,w2,w3]
  exact gS (Q:=QT FT) (gK UC) (fun _=>gV 1) (args:=[.agg [va],.agg [vb],.agg [vc]]) (v:=.bool (q8 a b c)) (s':=s0) (by simp only[jT,t1,t2,t3,gf]) (by rw[hw];exact X7 (sp:=fun f=>fv f FT) rfl rfl ha' hb' hc' ga gb gc sa sb sc s0) rfl ⟨1,rfl⟩ G h w xs wr hx
 ·cases hv
theorem CF {l:List Obj} (h:kj l 20=true):l.length<=64:=by
 unfold kj at h
 cases hb:dz 20 (l.length:Nat) with
 |true=>rw[hb] at h;cases h
 |false=>
  have: ¬20<l.length:=by
   rw[show(20:Int)=((20:Nat):Int) from rfl,da] at hb
   exact of_decide_eq_false hb
  omega
def YI (q:Option Obj):aj:=match q with
 |some o=>.tup [o.val,.bool true]
 |none=>.tup [uw.val,.bool false]
def YH:Sp
 | [u,.str id]=>(jw u).bind fun l=>some (YI (dq id l))
 |_=>none
def akW:Sp
 | [u,v,.str id]=>(jw u).bind fun l=>(jw v).bind fun r=>some (.bool (dX (dq id l) (dq id r)))
 |_=>none
def W3 (id what:ar) (c:Cf):Bool:=c.1==id&&(what== []||c.2==what)
theorem He (c:Cf):rR (de c)=some c:=rfl
def W4:Sp
 | [v,.str a,.str b]=>bif bP v then(gj 2 rR v).bind fun l=>bif Nat.ble l.length 1000000 then some (.bool (l.any (W3 a b))) else none else none
 |_=>none
theorem SL: ∀l:List Cf,bP (fR 2 (l.map de))=true
 | []=>rfl
 |a::l=>by
  have h: ∀l:List Cf,pures (l.map de)=true:=by
   intro l
   induction l with
   |nil=>rfl
   |cons a l ih=>
    show(bP (de a)&&pures (l.map de))=true
    rw[ih];rfl
  show(pures ((a::l).map de)&&true)=true
  rw[h];rfl
theorem sK {p q:Option Obj}:dX p q=true↔(p=none/\q=none)\/ ∃a b,p=some a/\q=some b/\a.Eqv b:=by
 cases p<;>cases q<;>simp[dX,ai0]
theorem UA {a b:Obj} (h:a.Eqv b):b.Eqv a:=⟨h.id.symm,h.kind.symm,h.x.symm,h.y.symm,h.refs.symm,h.tags.symm⟩
theorem UB {a b c:Obj} (h:a.Eqv b) (g:b.Eqv c):a.Eqv c:=⟨g.id.trans h.id,g.kind.trans h.kind,g.x.trans h.x,g.y.trans h.y,g.refs.trans h.refs,g.tags.trans h.tags⟩
theorem sM (p:Option Obj):dX p p=true:=by
 rw[sK]
 cases p with
 |none=>exact .inl ⟨rfl,rfl⟩
 |some a=>exact .inr ⟨a,a,rfl,rfl,.rfl⟩
theorem FD {p q:Option Obj} (h:dX p q=true):dX q p=true:=by
 rw[sK] at h ⊢
 rcases h with⟨h1,h2⟩|⟨a,b,h1,h2,h3⟩
 ·exact .inl ⟨h2,h1⟩
 ·exact .inr ⟨b,a,h2,h1,UA h3⟩
theorem ajF {p q r:Option Obj} (h:dX p q=true) (g:dX q r=true):dX p r=true:=by
 rw[sK] at h g ⊢
 rcases h with⟨rfl,rfl⟩|⟨a,b,rfl,rfl,h3⟩
 ·rcases g with⟨_,rfl⟩|⟨a,b,h1,_⟩
  ·exact .inl ⟨rfl,rfl⟩
  ·cases h1
 ·rcases g with⟨h1,_⟩|⟨c,d,h1,rfl,h4⟩
  ·cases h1
  ·have h1:=Option.some.inj h1
   subst h1
   exact .inr ⟨a,d,rfl,rfl,UB h3 h4⟩
theorem ji.some {b o t:List Obj} {k:ar} (h:ji b o t k): ∃q,fS b o t k=some q:=by
 rcases h with h|h
 ·obtain⟨q,hq⟩:=Option.isSome_iff_exists.1 h
  exact⟨q,by simp only[fS,hq]⟩
 ·obtain⟨q,hq⟩:=Option.isSome_iff_exists.1 h.no.2
  exact⟨q,by simp only[fS,h.no.1,hq]⟩
theorem FC {p q:Option Obj} (h:dX p q=true):p.isSome=q.isSome:=by
 rcases sK.1 h with⟨rfl,rfl⟩|⟨a,b,rfl,rfl,_⟩<;>rfl
theorem aiB {pb po pt:Option Obj} (gb: ∀o,pb=some o->o.Good) (go: ∀o,po=some o->o.Good) (gt: ∀o,pt=some o->o.Good) (vb:j7 pb) (vo:j7 po) (vt:j7 pt): ∀q,iv pb po pt=some q->q.Good:=by
 intro q h
 have hl:=Rt go gt
 unfold iv at h
 cases h1:dX po pt||dX pt pb with
 |true=>rw[h1] at h;exact go q h
 |false=>
  rw[h1] at h
  cases h2:dX po pb with
  |true=>rw[h2] at h;exact gt q h
  |false=>
   rw[h2] at h
   simp only[cF] at h
   split at h
   ·rename_i b o t
    cases h3:bD o.kind b.kind&&bD t.kind b.kind with
    |true=>
     rw[h3] at h
     have h:=Option.some.inj h
     rw[<-h]
     exact Ia (gb b rfl) (go o rfl) (gt t rfl) (vb b rfl) (vo o rfl) (vt t rfl)
    |false=>rw[h3] at h;exact hl q h
   ·exact hl q h
theorem mN.ga {b o t:List Obj} (h:mN b o t) (k:ar):(∀q,dq k b=some q->q.Good)/\(∀q,dq k o=some q->q.Good)/\(∀q,dq k t=some q->q.Good):=⟨fun q hq=>h.gb q (sI hq).1,fun q hq=>h.go q (sI hq).1,fun q hq=>h.gt q (sI hq).1⟩
theorem amd {b o t:List Obj} (h:mN b o t) {k:ar} {q:Obj} (hq:fS b o t k=some q):q.Good:=by
 obtain⟨g1,g2,g3⟩:=h.ga k
 unfold fS at hq
 cases hm:gM b o t k with
 |some q'=>
  rw[hm] at hq
  have hq:=Option.some.inj hq
  rw[<-hq]
  exact aiB g1 g2 g3 (re h.vb k) (re h.vo k) (re h.vt k) q' hm
 |none=>
  rw[hm] at hq
  simp only[iY] at hq
  cases hb:dq k b with
  |some q'=>rw[hb] at hq;have hq:=Option.some.inj hq;rw[<-hq];exact g1 q' hb
  |none=>rw[hb] at hq;exact Rt g2 g3 q hq
theorem R3 {b o t:List Obj} (h:mN b o t): ∀q∈lN b o t,q.Good:=by
 intro q hq
 obtain⟨k,hk,rfl⟩:=List.mem_map.1 hq
 have hi:ji b o t k:=xO.1 ((mz _).mem_iff.1 hk)
 obtain⟨q,hq⟩:=hi.some
 simp only[qy,hq,pc]
 exact amd h hq
theorem aiv {b o t:List Obj} (h:mN b o t):(lN b o t).length<=900:=by
 have h1:=ajM b o t
 have h2:(ec b o t).length=b.length+(o.length+t.length):=by simp[ec]
 have h3:=(mz (n7 b o t)).length_eq
 have:=h.lb
 have:=h.lo
 have:=h.lt
 unfold lN
 rw[eH];omega
theorem W5 {b o t:List Obj} (h:mN b o t):(nQ b o t).length<=1000000:=by
 have h1:=HO (re h.vb) (re h.vo) (re h.vt)
 have h2:(ec b o t).length=b.length+(o.length+t.length):=by simp[ec]
 have h3:=(sW (pk b o t)).length_eq
 have:=h.lb
 have:=h.lo
 have:=h.lt
 unfold nQ
 omega
structure L5 (sp:FuncId->Option (List aj->Option aj)):Prop where
 h9:sp 9=some mq
 h13:sp 13=some qr
 h14:sp 14=some YH
 h15:sp 15=some akW
 h16:sp 16=some rm
 h17:sp 17=some W4
 h7:sp 7=some xj
 h8:sp 8=some tL
theorem HG (a b:Int):jn b a= -jn a b:=by
 unfold jn dz
 rcases wy a b with h|h|h
 ·rw[decide_eq_true h,decide_eq_false (show¬b<a by omega)];rfl
 ·subst h;rw[decide_eq_false (Int.lt_irrefl a)];rfl
 ·rw[decide_eq_true h,decide_eq_false (show¬a<b by omega)];rfl
theorem HH {a b:Int} (h:jn a b=0):a=b:=by
 unfold jn dz at h
 rcases wy a b with h1|h1|h1
 ·rw[decide_eq_true h1] at h;simp at h
 ·exact h1
 ·rw[decide_eq_true h1,decide_eq_false (show¬a<b by omega)] at h;simp at h
theorem Cb: ∀(a b:ar),dM a b<0↔hZ a b=true
 | [],[]=>by simp[dM,Go.Proofs.bytesLess_eq]
 | [],y::b=>by rw[Go.Proofs.bytesLess_eq,decide_eq_true_eq];simp[dM]
 |x::a,[]=>by rw[Go.Proofs.bytesLess_eq,decide_eq_true_eq];simp[dM]
 |x::a,y::b=>by
  have ih:=Cb a b
  rw[Go.Proofs.bytesLess_eq,decide_eq_true_eq] at ih ⊢
  rw[List.cons_lt_cons_iff,UInt8.lt_iff_toNat_lt,<-UInt8.toNat_inj]
  simp only[dM,dl]
  rcases Nat.lt_trichotomy x.toNat y.toNat with h|h|h
  ·simp[h]
  ·simp only[h,eU,decide_false,cF,false_or,tA];exact ih
  ·simp only[h,show¬x.toNat<y.toNat by omega,show¬x.toNat=y.toNat by omega,decide_false,dT,cF,cT,false_or,false_and,iff_false];omega
theorem ahB {a b:ar} (h:hZ a b=true):hZ b a=false:=by
 rw[Go.Proofs.bytesLess_eq,decide_eq_true_eq] at h
 rw[Go.Proofs.bytesLess_eq]
 exact decide_eq_false (List.lt_asymm h)
theorem WH (a b:ar):kW b a= -kW a b:=by
 unfold kW
 cases h:hZ a b with
 |true=>rw[ahB h];rfl
 |false=>cases hZ b a<;>rfl
theorem WJ {a b:ar} (h:kW a b=0):a=b:=by
 unfold kW at h
 cases h1:hZ a b with
 |true=>rw[h1] at h;simp at h
 |false=>
  cases h2:hZ b a with
  |true=>rw[h1,h2] at h;simp at h
  |false=>
   rw[Go.Proofs.bytesLess_eq] at h1 h2
   exact List.le_antisymm (List.not_lt.1 (of_decide_eq_false h2)) (List.not_lt.1 (of_decide_eq_false h1))
theorem Dj (a:Int):bD (-a) 0=bD a 0:=by
 by_cases h:a=0
 ·subst h;rfl
 ·rw[mi h,mi (by omega)]
theorem Ij: ∀l:List (Int×Int),mX (l.map fun p=>(p.2,p.1))= -mX l
 | []=>rfl
 |p::l=>by
  simp only[fw,mX,HG p.1 p.2,Dj,Ij l]
  cases bD (jn p.1 p.2) 0<;>rfl
theorem CJ: ∀ {l:List (Int×Int)},mX l=0-> ∀p∈l,p.1=p.2
 | [],_,p,h=>by cases h
 |q::l,h,p,hp=>by
  simp only[mX] at h
  by_cases hz:jn q.1 q.2=0
  ·rw[hz] at h
   rcases List.mem_cons.1 hp with rfl|hp
   ·exact HH hz
   ·exact CJ (by simpa[bD] using h) p hp
  ·rw[mi hz] at h;exact absurd h hz
theorem HL (a b:Int×Int):jy b a= -jy a b:=Ij [(a.1,b.1),(a.2,b.2)]
theorem HM {a b:Int×Int} (h:jy a b=0):a=b:=Prod.ext (CJ h (a.1,b.1) (by simp)) (CJ h (a.2,b.2) (by simp))
theorem Ch: ∀a b:List ar,iq b a= -iq a b
 | [],[]=>rfl
 | [],_::_=>rfl
 |_::_,[]=>rfl
 |a::x,b::y=>by
  simp only[iq,WH a b,Dj,Ch x y]
  cases bD (kW a b) 0<;>rfl
theorem Ci: ∀ {a b:List ar},iq a b=0->a=b
 | [],[],_=>rfl
 | [],_::_,h=>by simp[iq] at h
 |_::_,[],h=>by simp[iq] at h
 |a::x,b::y,h=>by
  simp only[iq] at h
  by_cases hz:kW a b=0
  ·rw[hz] at h
   rw[WJ hz,Ci (a:=x) (b:=y) (by simpa[bD] using h)]
  ·rw[mi hz] at h;exact absurd h hz
theorem Sv: ∀l:List Int,ld (l.map fun x=> -x)= -ld l
 | []=>rfl
 |x::l=>by
  simp only[fw,ld,Dj,Sv l]
  cases bD x 0<;>rfl
theorem Sw: ∀ {l:List Int},ld l=0-> ∀x∈l,x=0
 | [],_,x,h=>by cases h
 |y::l,h,x,hx=>by
  simp only[ld] at h
  by_cases hz:y=0
  ·rw[hz] at h
   rcases List.mem_cons.1 hx with rfl|hx
   ·exact hz
   ·exact Sw (by simpa[bD] using h) x hx
  ·rw[mi hz] at h;exact absurd h hz
theorem Uq: ∀ {a b:List cz},gq a=gq b->a=b
 | [],[],_=>rfl
 | [],_::_,h=>by simp[gq] at h
 |_::_,[],h=>by simp[gq] at h
 |s::a,t::b,h=>by
  simp only[gq,mI] at h
  rw[Uq h.2.2,Prod.ext h.1 h.2.1]
theorem WU (a b:Obj):l7 b a= -l7 a b:=by
 unfold l7
 rw[HG a.kind b.kind,HL (a.x,a.y) (b.x,b.y),Ch a.refs b.refs,Ch (gq a.tags) (gq b.tags)]
 exact Sv [jn a.kind b.kind,jy (a.x,a.y) (b.x,b.y),iq a.refs b.refs,iq (gq a.tags) (gq b.tags)]
theorem WV {a b:Obj} (h:l7 a b=0) (hid:a.id=b.id):b.Eqv a:=by
 have h0:=Sw h
 have h1:=HH (h0 (jn a.kind b.kind) (by simp))
 have h2:=HM (h0 (jy (a.x,a.y) (b.x,b.y)) (by simp))
 have h3:=Ci (h0 (iq a.refs b.refs) (by simp))
 have h4:=Uq (Ci (h0 (iq (gq a.tags) (gq b.tags)) (by simp)))
 have h2:=Prod.mk.inj h2
 exact⟨hid,h1,h2.1,h2.2,h3,h4⟩
theorem AH {a b:Int×Int}:jE a b=true↔a=b:=by
 unfold jE
 constructor
 ·intro h
  cases h1:bD a.1 b.1 with
  |false=>rw[h1] at h;cases h
  |true=>
   rw[h1] at h
   cases h2:bD a.2 b.2 with
   |false=>rw[h2] at h;cases h
   |true=>exact Prod.ext (by simpa[bD] using h1) (by simpa[bD] using h2)
 ·rintro rfl;rw[vp,vp];rfl
theorem SH (a b:Int×Int):jE a b=jE b a:=by
 rw[Bool.eq_iff_iff,AH,AH];exact eq_comm
theorem aiD (a b:Int×Int):nY a b=nY b a:=by
 unfold nY dz
 rw[HL b a]
 rcases wy (jy b a) 0 with h|h|h
 ·rw[decide_eq_true h,decide_eq_false (show¬ -jy b a<0 by omega)];rfl
 ·rw[HM h];cases decide (jy a a<0)<;>cases decide (-jy a a<0)<;>rfl
 ·rw[decide_eq_false (show¬jy b a<0 by omega),decide_eq_true (show-jy b a<0 by omega)];rfl
theorem aj2 (b o t:Int×Int):nb b o t=nb b t o:=by
 unfold nb
 rw[SH t o,aiD t o]
 cases h1:jE o t with
 |true=>
  have:=AH.1 h1
  subst this;rfl
 |false=>
  cases h2:jE t b with
  |true=>
   cases h3:jE o b with
   |true=>
    rw[AH] at h2 h3
    rw[h2,h3]
   |false=>rfl
  |false=>cases jE o b<;>rfl
theorem aj1 (b o t:Int×Int):oW b o t=oW b t o:=by
 unfold oW
 rw[SH t o]
 cases jE o t<;>cases jE t b<;>cases jE o b<;>rfl
theorem WB (b o t:List ar):oL b o t=oL b t o:=by
 unfold oL
 cases h1:o==b with
 |true=>
  have:=eq_of_beq h1
  subst this
  cases h2:t==o with
  |true=>rw[eq_of_beq h2];rfl
  |false=>rfl
 |false=>
  cases h2:t==b with
  |true=>rfl
  |false=>
   cases h3:t==o with
   |true=>rw[eq_of_beq h3,bS]
   |false=>
    have:(o==t)=false:=beq_eq_false_iff_ne.2 fun e=>(beq_eq_false_iff_ne.1 h3) e.symm
    rw[this];rfl
def wl (x:Nat×Nat×Nat):Nat×Nat×Nat:=(x.1,x.2.2,x.2.1)
theorem Tu (b o t:List ar): ∀(l:List (Nat×Nat×Nat)) (i j k:Nat) (out:List ar),j5 b t o (l.map wl) i k j out=j5 b o t l i j k out
 | [],_,_,_,_=>rfl
 |(p,q,r)::l,i,j,k,out=>by
  simp only[fw,wl,j5]
  rw[WB]
  cases oL ((b.drop i).take (p-i)) ((o.drop j).take (q-j)) ((t.drop k).take (r-k)) with
  |none=>rfl
  |some part=>exact Tu b o t l _ _ _ _
def wG (l:List (Nat×Nat)):Prop:=l.Pairwise fun a b=>a.1<b.1
theorem jY.asc {la lb i k:Nat} {l:List (Nat×Nat)} (h:jY la lb i k l):(∀x∈l,i<=x.1)/\wG l:=by
 induction h with
 |nil=>exact⟨fun x h=>(by cases h),.nil⟩
 |cons a b c d e ih=>
  refine⟨fun x hx=>?_,List.pairwise_cons.2 ⟨fun x hx=>?_,ih.2⟩⟩
  ·rcases List.mem_cons.1 hx with rfl|hx
   ·exact a
   ·have:=ih.1 x hx;omega
  ·have:=ih.1 x hx
   show _<_
   omega
theorem xP {N:List (Nat×Nat)} {p q r:Nat}: ∀ {M:List (Nat×Nat)},(p,q,r)∈ig N M↔(p,q)∈M/\iu p N=some r
 | []=>by simp[ig]
 |(a,b)::M=>by
  have ih:=xP (N:=N) (p:=p) (q:=q) (r:=r) (M:=M)
  simp only[ig]
  cases h:iu a N with
  |none=>
   simp only[ih,om,bL]
   constructor
   ·exact fun x=>⟨.inr x.1,x.2⟩
   ·rintro⟨⟨rfl,rfl⟩|x,y⟩
    ·rw[h] at y;cases y
    ·exact⟨x,y⟩
  |some k=>
   simp only[om,ih,bL]
   constructor
   ·rintro(⟨rfl,rfl,rfl⟩|⟨x,y⟩)
    ·exact⟨.inl ⟨rfl,rfl⟩,h⟩
    ·exact⟨.inr x,y⟩
   ·rintro⟨⟨rfl,rfl⟩|x,y⟩
    ·rw[h] at y
     exact .inl ⟨rfl,rfl,(Option.some.inj y).symm⟩
    ·exact .inr ⟨x,y⟩
theorem Ae {p r:Nat}: ∀ {N:List (Nat×Nat)},wG N->(iu p N=some r↔(p,r)∈N)
 | [],_=>by simp[iu]
 |(a,b)::N,h=>by
  have h:=List.pairwise_cons.1 h
  have ih:=Ae (p:=p) (r:=r) h.2
  simp only[iu,aZ,om,bL]
  by_cases e:p=a
  ·subst e
   rw[bS]
   constructor
   ·exact fun x=>.inl ⟨rfl,(Option.some.inj x).symm⟩
   ·rintro(⟨_,rfl⟩|x)
    ·rfl
    ·exact absurd (h.1 _ x) (eU _)
  ·rw[beq_eq_false_iff_ne.2 e]
   simp only[cF,ih,e,false_and,false_or]
theorem Gb {N:List (Nat×Nat)}: ∀ {M:List (Nat×Nat)},wG M->(ig N M).Pairwise fun a b=>a.1<b.1
 | [],_=>.nil
 |(a,b)::M,h=>by
  have h:=List.pairwise_cons.1 h
  have ih:=Gb (N:=N) h.2
  simp only[ig]
  cases iu a N with
  |none=>exact ih
  |some k=>
   refine List.pairwise_cons.2 ⟨fun x hx=>?_,ih⟩
   obtain⟨p,q,r⟩:=x
   exact h.1 (p,q) (xP.1 hx).1
theorem alq {M N:List (Nat×Nat)} (hM:wG M) (hN:wG N):(ig N M).map wl=ig M N:=by
 have h1:=Gb (N:=N) hM
 have h2:=Gb (N:=M) hN
 have h1':((ig N M).map wl).Pairwise fun a b=>a.1<b.1:=List.pairwise_map.2 h1
 have nd: ∀ {l:List (Nat×Nat×Nat)},l.Pairwise (fun a b=>a.1<b.1)->l.Nodup:=fun h=>h.imp fun hab e=>by subst e;exact eU _ hab
 refine List.Perm.eq_of_pairwise (le:=fun a b=>a.1<b.1) (fun a b _ _ x y=>absurd x (by omega)) h1' h2 ((uC (nd h1') (nd h2)).2 fun x=>?_)
 obtain⟨p,q,r⟩:=x
 rw[xP,Ae hM]
 constructor
 ·intro h
  obtain⟨⟨p',q',r'⟩,hm,e⟩:=List.mem_map.1 h
  obtain⟨rfl,rfl,rfl⟩:p'=p/\r'=q/\q'=r:=by
   simp only[wl,bL] at e
   exact e
  obtain⟨a,b⟩:=xP.1 hm
  exact⟨(Ae hN).1 b,a⟩
 ·rintro⟨a,b⟩
  exact List.mem_map.2 ⟨(p,r,q),xP.2 ⟨b,(Ae hN).2 a⟩,rfl⟩
theorem Vj (b o t:List ar):(oD b o t).map wl=oD b t o:=by
 unfold oD
 rw[List.map_append,alq (rg b o).asc.2 (rg b t).asc.2]
 rfl
theorem ak3 (b o t:List ar):ll b o t=ll b t o:=by
 have h1:kI [b,o,t]=kI [b,t,o]:=by
  simp only[kI]
  cases lL b<;>cases lL o<;>cases lL t<;>rfl
 have h2:ul b o t=ul b t o:=by
  unfold ul
  rw[<-Vj b o t,Tu]
 unfold ll
 rw[h1,h2]
theorem ajV (a b c:ar):j3 a b c=j3 a c b:=by
 unfold j3
 cases h1:c==b with
 |true=>rw[eq_of_beq h1,bS]
 |false=>
  have h2:(b==c)=false:=beq_eq_false_iff_ne.2 fun e=>(beq_eq_false_iff_ne.1 h1) e.symm
  rw[h2]
  cases h3:c==a with
  |true=>
   cases h4:b==a with
   |true=>rw[eq_of_beq h3,eq_of_beq h4]
   |false=>rfl
  |false=>cases b==a<;>rfl
def wn (k d:ar) (l:List cz):ar:=l.foldl (fun d t=>bif k==t.1 then t.2 else d) d
theorem SP {k y z:ar}: ∀(l:List cz) (V:ar->List ar) (x:ar),V k=[x,y,z]->rq 0 l V k=[wn k x l,y,z]
 | [],_,_,h=>h
 |t::l,V,x,h=>by
  refine(SP (k:=k) (y:=y) (z:=z) l (my t.1 0 t.2 V) (bif k==t.1 then t.2 else x) ?_)
  unfold my
  cases k==t.1 with
  |true=>rw[h];rfl
  |false=>exact h
theorem SQ {k x z:ar}: ∀(l:List cz) (V:ar->List ar) (y:ar),V k=[x,y,z]->rq 1 l V k=[x,wn k y l,z]
 | [],_,_,h=>h
 |t::l,V,y,h=>by
  refine(SQ (k:=k) (x:=x) (z:=z) l (my t.1 1 t.2 V) (bif k==t.1 then t.2 else y) ?_)
  unfold my
  cases k==t.1 with
  |true=>rw[h];rfl
  |false=>exact h
theorem SR {k x y:ar}: ∀(l:List cz) (V:ar->List ar) (z:ar),V k=[x,y,z]->rq 2 l V k=[x,y,wn k z l]
 | [],_,_,h=>h
 |t::l,V,z,h=>by
  refine(SR (k:=k) (x:=x) (y:=y) l (my t.1 2 t.2 V) (bif k==t.1 then t.2 else z) ?_)
  unfold my
  cases k==t.1 with
  |true=>rw[h];rfl
  |false=>exact h
theorem Ui (b o t:List cz) (k:ar):qH b o t k=[wn k [] b,wn k [] o,wn k [] t]:=SR t _ [] (SQ o _ [] (SP b _ [] rfl))
theorem alO (b o t:List cz) (k:ar) (st:List cz×List ar):mE (qH b o t) k st=mE (qH b t o) k st:=by
 unfold mE
 rw[Ui,Ui]
 simp only[mD]
 rw[ajV]
theorem Ua (b o t:List cz): ∀(ks:List ar) (st:List cz×List ar),j6 (qH b o t) ks st=j6 (qH b t o) ks st
 | [],_=>rfl
 |k::ks,st=>by
  have e: ∀V,j6 V (k::ks) st=j6 V ks (mE V k st):=fun _=>rfl
  rw[e,e,alO]
  exact Ua b o t ks _
theorem yO: ∀(l:List cz) (K:List ar),K.Nodup->(jG l K).Nodup
 | [],_,h=>h
 |t::r,K,h=>yO r (iT t.1 K) (G4 h)
theorem Ud (b o t:List cz):i8 b o t=i8 b t o:=by
 have nd: ∀b o t:List cz,(jO b o t).Nodup:=fun b o t=>yO _ _ (yO _ _ (yO _ _ List.nodup_nil))
 have hk:fh (jO b o t)=fh (jO b t o):=A0 ((uC (nd _ _ _) (nd _ _ _)).2 fun x=>by
  rw[Fc,Fc]
  constructor
  ·rintro(h|h|h)
   ·exact .inl h
   ·exact .inr (.inr h)
   ·exact .inr (.inl h)
  ·rintro(h|h|h)
   ·exact .inl h
   ·exact .inr (.inr h)
   ·exact .inr (.inl h))
 unfold i8
 rw[hk,Ua]
theorem S2 (b o t:Obj):lj b o t=lj b t o:=by
 unfold lj
 rw[ak3]
theorem akm (b o t:Obj):nf b o t=nf b t o:=by
 unfold nf
 rw[S2]
theorem Yb (b o t:Obj):oO b o t=oO b t o:=by
 unfold oO ue
 rw[akm,Ud,aj2]
theorem Ya (b o t:Obj) (C:List Cf):mV b o t C=mV b t o C:=by
 unfold mV l5 j4
 rw[S2,Ud,aj1]
theorem Su (p q:Option Obj):dX p q=dX q p:=by
 rw[Bool.eq_iff_iff]
 exact⟨FD,FD⟩
theorem Ru {p q:Option Obj} (hid: ∀a b,p=some a->q=some b->a.id=b.id):dX (ko p q) (ko q p)=true:=by
 cases p with
 |none=>cases q<;>exact sM _
 |some o=>
  cases q with
  |none=>exact sM _
  |some t=>
   simp only[ko,dz]
   rw[WU t o]
   rcases wy (l7 t o) 0 with h|h|h
   ·rw[decide_eq_true h,decide_eq_false (show¬ -l7 t o<0 by omega)];exact sM _
   ·rw[h]
    exact sK.2 (.inr ⟨o,t,rfl,rfl,WV h (hid o t rfl rfl).symm⟩)
   ·rw[decide_eq_false (show¬l7 t o<0 by omega),decide_eq_true (show-l7 t o<0 by omega)];exact sM _
theorem aiC {pb po pt:Option Obj} (hid: ∀a b,po=some a->pt=some b->a.id=b.id):dX (iv pb po pt) (iv pb pt po)=true:=by
 have hl:=Ru hid
 unfold iv
 rw[Su pt po]
 cases h1:dX po pt with
 |true=>exact h1
 |false=>
  cases h2:dX pt pb with
  |true=>
   cases h3:dX po pb with
   |true=>rw[ajF h3 (FD h2)] at h1;cases h1
   |false=>exact sM _
  |false=>
   cases h3:dX po pb with
   |true=>exact sM _
   |false=>
    simp only[Bool.or_self,cF]
    cases pb with
    |none=>cases po<;>cases pt<;>exact hl
    |some b=>
     cases po with
     |none=>cases pt<;>exact hl
     |some o=>
      cases pt with
      |none=>exact hl
      |some t=>
       show dX (bif bD o.kind b.kind&&bD t.kind b.kind then some (oO b o t) else ko (some o) (some t)) (bif bD t.kind b.kind&&bD o.kind b.kind then some (oO b t o) else ko (some t) (some o))=true
       rw[Bool.and_comm,Yb]
       cases bD t.kind b.kind&&bD o.kind b.kind with
       |true=>exact sM _
       |false=>exact hl
theorem aiA (k:ar) (pb po pt:Option Obj) (C:List Cf):fV k pb po pt C=fV k pb pt po C:=by
 unfold fV
 rw[Su pt po]
 cases dX po pt with
 |true=>rfl
 |false=>
  cases dX pt pb with
  |true=>cases dX po pb<;>rfl
  |false=>
   cases dX po pb with
   |true=>rfl
   |false=>
    simp only[Bool.or_self,cF]
    cases pb with
    |none=>cases po<;>cases pt<;>rfl
    |some b=>
     cases po with
     |none=>cases pt<;>rfl
     |some o=>
      cases pt with
      |none=>rfl
      |some t=>
       show(bif bD o.kind b.kind&&bD t.kind b.kind then mV b o t C else dG (k,gR) C)=bif bD t.kind b.kind&&bD o.kind b.kind then mV b t o C else dG (k,gR) C
       rw[Bool.and_comm,Ya]
section
variable {b o t:List Obj}
theorem Sh {k:ar} {l r:List Obj}: ∀a c,dq k l=some a->dq k r=some c->a.id=c.id:=fun _ _ h1 h2=>(sI h1).2.trans (sI h2).2.symm
theorem xQ (k:ar):dX (gM b o t k) (gM b t o k)=true:=aiC Sh
theorem Hw (k:ar):kJ b o t k=kJ b t o k:=aiA k _ _ _ []
theorem Ar (k:ar):dX (iY b o t k) (iY b t o k)=true:=by
 unfold iY
 cases dq k b with
 |some q=>exact sM _
 |none=>exact Ru Sh
theorem AE {p q:Option Obj} (h:dX p q=true) {a:Obj} (ha:p=some a): ∃c,q=some c/\a.Eqv c:=by
 rcases sK.1 h with⟨rfl,_⟩|⟨x,c,rfl,rfl,he⟩
 ·cases ha
 ·exact⟨c,rfl,by rw[<-Option.some.inj ha];exact he⟩
theorem FB {p q:Option Obj} (h:dX p q=true) (hp:p=none):q=none:=by
 rcases sK.1 h with⟨_,e⟩|⟨x,c,rfl,_,_⟩
 ·exact e
 ·cases hp
theorem Reach.swap {k:ar} (h:Reach b o t k):Reach b t o k:=by
 induction h with
 |of h1 h2 h3 h4=>
  obtain⟨c,hc,he⟩:=AE (xQ _) h1
  exact .of hc (by rw[he.refs];exact h2) (FB (xQ _) h3) (by rw[<-FC (Ar _)];exact h4)
 |step _ h1 h2 h3 h4 ih=>
  obtain⟨c,hc,he⟩:=AE (Ar _) h1
  exact .step ih hc (by rw[he.refs];exact h2) (FB (xQ _) h3) (by rw[<-FC (Ar _)];exact h4)
theorem ji.swap {k:ar} (h:ji b o t k):ji b t o k:=by
 rcases h with h|h
 ·exact .inl (by rw[<-FC (xQ k)];exact h)
 ·exact .inr h.swap
theorem ame (k:ar):dX (fS b o t k) (fS b t o k)=true:=by
 have hm:=xQ (b:=b) (o:=o) (t:=t) k
 unfold fS
 cases h:gM b o t k with
 |none=>
  rw[FB hm h]
  exact Ar k
 |some q=>
  obtain⟨c,hc,he⟩:=AE hm h
  rw[hc]
  exact sK.2 (.inr ⟨q,c,rfl,rfl,he⟩)
theorem ajN:fh (n7 b o t)=fh (n7 b t o):=
 A0 ((uC (FF _ _ _) (FF _ _ _)).2 fun k=>by
  rw[xO,xO]
  exact⟨ji.swap,ji.swap⟩)
theorem aix:qc (lN b o t) (lN b t o):=by
 unfold lN
 rw[ajN]
 refine⟨by simp,fun i x y h1 h2=>?_⟩
 rw[rE] at h1 h2
 cases hk:(fh (n7 b t o))[i]? with
 |none=>rw[hk] at h1;cases h1
 |some k=>
  rw[hk] at h1 h2
  have h1:=Option.some.inj h1
  have h2:=Option.some.inj h2
  rw[<-h1,<-h2]
  have hi:ji b t o k:=xO.1 ((mz _).mem_iff.1 (List.mem_of_getElem? hk))
  obtain⟨q,hq⟩:=hi.swap.some
  obtain⟨c,hc,he⟩:=AE (ame k) hq
  simp only[qy,hq,hc,pc]
  exact he
theorem W7:nQ b o t=nQ b t o:=by
 unfold nQ
 refine F7 ((uC (yS _ _ _) (yS _ _ _)).2 fun c=>?_)
 rw[Fa,Fa]
 constructor
 ·rintro(⟨k,h⟩|⟨k,h,e⟩)
  ·exact .inl ⟨k,by rw[<-Hw];exact h⟩
  ·exact .inr ⟨k,h.swap,e⟩
 ·rintro(⟨k,h⟩|⟨k,h,e⟩)
  ·exact .inl ⟨k,by rw[Hw];exact h⟩
  ·exact .inr ⟨k,h.swap,e⟩
def ahead (a c:Cf):Bool:=hZ a.1 c.1||(a.1==c.1&&hZ a.2 c.2)
theorem Vi {a c:Cf} (h:gJ a c<0):ahead a c=true:=by
 rw[u0] at h
 unfold ahead
 by_cases hz:dM a.1 c.1=0
 ·rw[if_pos hz] at h
  rw[wW hz,bS,(Cb _ _).1 h]
  simp
 ·rw[if_neg hz] at h
  rw[(Cb _ _).1 h];rfl
theorem W6:(nQ b o t).Pairwise fun a c=>ahead a c=true:=by
 have h1:=yj (pk b o t)
 have h2:(ie (pk b o t)).Nodup:=(sW _).nodup_iff.2 (yS b o t)
 refine(h1.and h2).imp ?_
 rintro a c ⟨h,hne⟩
 simp only[ltOf,Bool.not_eq_true',decide_eq_false_iff_not] at h
 refine Vi ?_
 rw[Cd a c] at h
 rcases wy (gJ a c) 0 with p|p|p
 ·exact p
 ·exact absurd (Ce p) hne
 ·omega
end
def ab2:List Nat:=[0,0,3,7,0,0,48,112,255]
def JY:aC:=
 [ae 4 (aJ (aE (bK false)))]
def JZ:aC:=
 [ae 6 (ay (aa 0)),
 ae 7 (Op.call ⟨cG cW,#[aa 6],#[27]⟩),
 ae 8 (ay (aa 1)),
 ae 9 (Op.call ⟨cG cW,#[aa 8],#[27]⟩),
 ae 10 (bh BinOp.neq 3 (aa 7) (aa 9) 3)]
def ab5:aC:=
 [ae 4 (aJ (aE (bK false)))]
def J0:aC:=
 [ae 5 (aJ (aE (Value.int IntKind.i64 0)))]
def DA:aC:=
 [ae 11 (ay (aa 5)),
 ae 12 (ay (aa 0)),
 ae 13 (Op.call ⟨cG cW,#[aa 12],#[27]⟩),
 ae 14 (bh BinOp.lss 3 (aa 11) (aa 13) 3)]
def J2:aC:=
 [ae 17 (ay (aa 0)),
 ae 18 (ay (aa 5)),
 ae 19 (Op.indexAddr 27 (aa 17) (aa 18)),
 ae 20 (Op.load 31 (aa 19)),
 ae 21 (ay (aa 1)),
 ae 22 (ay (aa 5)),
 ae 23 (Op.indexAddr 27 (aa 21) (aa 22)),
 ae 24 (Op.load 31 (aa 23)),
 ae 25 (bh BinOp.neq 31 (aa 20) (aa 24) 31)]
def ab6:aC:=
 [ae 4 (aJ (aE (bK false)))]
def J1:aC:=
 [ae 15 (ay (aa 5)),
 ae 16 (bh BinOp.add 3 (aa 15) (aE (Value.int IntKind.i64 1)) 3),
 ae 5 (aJ (aa 16))]
def zl:SC:=
 (.seq (.seq (.region DA)
 (.cond (aa 14) .skip (.exit 0)))
 (.seq (.block 1 (.seq (.draw J2 ab2)
 (.cond (aa 25) (.seq (.region ab6)
 .ret) .skip)))
 (.region J1)))
def J3:aC:=
 [ae 4 (aJ (aE (bK true)))]
def k11:SC:=
 (.seq (.region JY)
 (.seq (.seq (.region JZ)
 (.cond (aa 10) (.seq (.region ab5)
 .ret) .skip))
 (.seq (.seq (.region J0)
 (.block 0 (.loop zl)))
 (.seq (.region J3)
 .ret))))
theorem ab4:Tryz.prog.funcs[11]? =some Tryz.f11:=by kernel_rfl
theorem ab3:(Tryz.f11.body).map cL=some k11:=by kernel_rfl
theorem ab8:Tryz.f11.ntmps=26:=by kernel_rfl
theorem ab7:Tryz.f11.results.toList=[ResultVar.tmp 4]:=by kernel_rfl
theorem Ze:bI 11 7=0:=by kernel_rfl
theorem Zf:bI 11 9=0:=by kernel_rfl
theorem IJ:bI 11 13=0:=by kernel_rfl
theorem Wn (a b:ar):fy Tryz.prog .neq 31 (.agg [.str a,.str b]) (.agg [.str a,.str b])=some (.bool false):=by
 have h:qk Tryz.prog 31 (.agg [.str a,.str b]) (.agg [.str a,.str b])=(some (a==a)).bind fun r=>bif r then(some (b==b)).bind fun r=>bif r then some true else some false else some false:=by kernel_rfl
 rw[BQ,h,bS,bS];rfl
section
variable {sp:FuncId->Option (List aj->Option aj)}
theorem Wq {v u:aj} {l:List Cf} (hl:bC 2 de v l) (hu:bC 2 de u l) (hs:l.length<=1000000) {s:St} (hm:s.minw<=s.next) {lc:Ag.Loc}: ∀(rest pre:List Cf) (e:bj),l=pre++rest->
 ax e 0=v->ax e 1=u->ax e 5= .int .i64 (pre.length:Nat)->
 W (QS sp) 11 (.loop zl) ⟨e,26,lc⟩ s fun x fr s'=>s'=s/\fr.size=26/\x= .exit 0:=by
 intro rest
 have hcl:=hl.clean
 have hcu:=hu.clean
 have hln:=fun mk s=>hl.len xH xG mk s
 induction rest with
 |nil=>
  intro pre e hpre h0 h1 h5
  have hll:l.length=pre.length:=by rw[hpre];simp
  refine cR ?_
  unfold zl
  refine aR (aR (b7 ?_))
  unfold DA
  simp only[az,aA,aB,ai,aH,aX,cJ,ak,aD,bk,bm,aw,bU,cQ,cU,bJ,aq,bf,cT,cF,aV,cg,da,bS,tA,ah,au,aZ,decide_false,IJ,h0,h5,hcl,hln,hll,eU,aU]
  refine bc (t:=false) (by simp only[ak,ai,ah,cT,cF]) ?_
  exact W.exit ⟨rfl,rfl,rfl⟩
 |cons c rest ih=>
  intro pre e hpre h0 h1 h5
  obtain⟨a,w⟩:=c
  have hlt:pre.length<l.length:=by rw[hpre];simp
  have hat:l[pre.length]? =some (a,w):=by rw[hpre];simp
  have hia:=fun lc=>hl.at zd hat lc .i64
  have hiu:=fun lc=>hu.at zd hat lc .i64
  have hce:(de (a,w)).cells=[.str a,.str w]:=rfl
  have hwr:IntKind.i64.wrap ((pre.length:Int)+1)=((pre.length+1:Nat):Int):=by rw[ew (by omega) (by omega)];omega
  refine cR ?_
  unfold zl
  refine aR (aR (b7 ?_))
  unfold DA
  simp only[az,aA,aB,ai,aH,aX,cJ,ak,aD,bk,bm,aw,bU,cQ,cU,bJ,aq,bf,cT,cF,aV,cg,da,bS,tA,ah,au,aZ,dT,IJ,h0,h5,hcl,hln,hlt,aU]
  refine bc (t:=true) (by simp only[ak,ai,ah,cT,cF]) (ck ?_)
  simp only[aU]
  refine aR (cO (W.sdrawQ hm ?_))
  unfold J2
  simp only[eJ,eI,eK,isStore,ai,aH,bo,aX,ek,ak,aD,fQ,aw,aq,cK,cT,cF,aV,aP,aW,cut,bN,a7,eR,bS,tA,aQ,ah,au,bE,aZ,FM,h0,h1,h5,hia,hiu,hce,Wn]
  refine bc (t:=false) (by simp only[ak,ai,ah,cT,cF]) (ck ?_)
  simp only[dP,aU]
  refine b7 ?_
  unfold J1
  simp only[az,aA,aB,ai,aH,aN,aX,ak,aK,aD,bt,aw,dZ,aq,bf,cT,cF,aV,bS,tA,ah,au,h5,hwr,aU]
  refine ih (pre++[(a,w)]) _ (by rw[hpre];simp) ?_ ?_ ?_
  all_goals simp only[ai,ah,cT,cF,h0,h1,dp,aP,aW]
theorem Ws (h11:sp 11=none) {v u:aj} {l:List Cf} (hl:bC 2 de v l) (hu:bC 2 de u l) (hs:l.length<=1000000) {s:St} (hm:s.minw<=s.next):bz (QS sp) 11 [v,u] s (.bool true) s:=by
 have hcl:=hl.clean
 have hcu:=hu.clean
 have hln:=fun mk s=>hl.len xH xG mk s
 have hlu:=fun mk s=>hu.len xH xG mk s
 refine ey ab4 ab3 ab8 ab7 h11 ?_
 unfold k11
 refine aF ?_
 unfold JY
 simp only[dt,cY,az,aA,aB,aN,aK,bW,aw,cT,aP,aW,tA,aQ,au,bE,cm,cj,dT]
 refine aR (aR (b7 ?_))
 unfold JZ
 simp only[az,aA,aB,ai,aH,aX,cJ,ak,aD,bk,bm,aw,bU,qg,cU,bJ,aq,bf,cT,cF,aV,cg,dS,bS,tA,ah,au,aZ,Ze,Zf,hcl,hcu,hln,hlu,qg,vp,dS,aU]
 refine bc (t:=false) (by simp only[ak,ai,ah,cT,cF]) (ck ?_)
 simp only[aU]
 refine aR (aR (b7 ?_))
 unfold J0
 simp only[az,aA,aB,aN,aK,bt,aw,tA,au,aU]
 refine cO ?_
 refine(Wq hl hu hs hm l [] _ rfl ?_ ?_ ?_).mono ?_
 ·simp only[ai,ah,cT,cF]
 ·simp only[ai,ah,cT,cF]
 ·simp only[ai,ah,cT,cF];rfl
 rintro x ⟨e,sz,lc⟩ s' ⟨rfl,hz,rfl⟩
 have hz:sz=26:=hz
 subst hz
 show W (QS sp) 11 _ _ _ _
 refine aF ?_
 unfold J3
 simp only[az,aA,aB,aN,aK,bW,aw,tA,au]
 exact cd ⟨rfl,.inr rfl,cE (by simp only[ai,ah,cT]) rfl⟩
end
def uV:Sp
 | [v,u]=>bif bP v&&bP u then(gj 2 rR v).bind fun l=>(gj 2 rR u).bind fun r=>if l=r/\l.length<=1000000 then some (.bool true) else none else none
 |_=>none
theorem Wo {v u:aj} {l:List Cf} (h:bC 2 de v l) (h2:bC 2 de u l) (hp:bP v=true) (hp2:bP u=true) (hs:l.length<=1000000):uV [v,u]=some (.bool true):=by
 simp only[uV,hp,hp2,gf,cT,jI He h,jI He h2,aq,tA,if_pos hs]
theorem Wp:eN Tryz.prog 11 uV:=by
 intro args x hv G h w xs wr hx
 unfold uV at hv
 split at hv
 ·rename_i v u
  obtain⟨hp,hv⟩:=bX hv
  simp only[cZ] at hp
  simp only[aG] at hv
  obtain⟨l,h1,r,h2,hv⟩:=hv
  split at hv
  ·rename_i he
   obtain⟨rfl,hs⟩:=he
   injection hv with hv;subst hv
   have hl:=jb (fun v a=>yQ) h1
   have hu:=jb (fun v a=>yQ) h2
   have hpp:pures [v,u]=true:=by simp only[pures,hp.1,hp.2];rfl
   exact gS (Q:=QT []) (gK .nil) (fun _=>gV 1) (args:=[v,u]) (v:=.bool true) (s':=s0) (kA hpp) (by rw[iz hpp];exact Ws (sp:=fun f=>fv f []) rfl hl hu hs (bB _)) rfl ⟨1,rfl⟩ G h w xs wr hx
  ·cases hv
 ·cases hv
def pW (b o t:List Obj):Bool:=iX b&&(iX o&&iX t)
def uR:aj:=.tup [.agg [.nils],.nils]
theorem VB {sp:FuncId->Option (List aj->Option aj)} (h9:sp 9=none) (h13:sp 13=some qr) {vb vo vt:aj} {b o t:List Obj} (hb:bC 6 Obj.val vb b) (ho:bC 6 Obj.val vo o) (ht:bC 6 Obj.val vt t) (gb: ∀q∈b,q.Good) (go: ∀q∈o,q.Good) (gt: ∀q∈t,q.Good) (sb:b.length<small) (so:o.length<small) (st:t.length<small) (hv:pW b o t=false) (s:St):
 bz (QS sp) 9 [.agg [vb],.agg [vo],.agg [vt]] s uR s:=by
 have cb:=hb.clean
 have co:=ho.clean
 have ct:=ht.clean
 have hvb:=vB hb gb sb
 have hvo:=vB ho go so
 have hvt:=vB ht gt st
 refine ey QR QQ Ri Rh h9 ?_
 unfold k9
 refine aF ?_
 unfold EM
 simp only[dt,cY,az,aA,aB,ai,dA,cM,aN,gZ,jC,ak,aK,aD,gl,aw,bJ,dC,aq,cK,cT,cF,aV,cg,aP,aW,bS,tA,aQ,ah,au,bE,cm,cj,dT,wt,IT,IU,IV,IW,ofValue,fH]
 have done: ∀(e':bj) (lc':Ag.Loc) (KK:Ex->Fr->St->Prop),ax e' 31= .bool true->ax e' 6= .lref 6 1 0->lc'.gen 6=1->lc'.get 6 1=some [.nils]->(∀e2 lc2,ax e2 6= .lref 6 1 0->lc2.get 6 1=some [.nils]->ax e2 7= .nils->KK .ret ⟨e2,132,lc2⟩ s)->W (QS sp) 9 (.cond (aa 31) (.seq (.region EP) .ret) .skip) ⟨e',132,lc'⟩ s KK:=by
  intro e' lc' KK h31 h6 g6 l6 hk
  refine bc (t:=true) (by simp only[ak,h31]) (aF ?_)
  unfold EP
  simp only[az,aA,ej,aB,ep,ai,aN,lf,ez,ak,aK,aD,aw,dC,ix,aq,cK,cT,cF,aV,aP,aW,cV,bN,a7,cq,cH,bS,tA,aQ,ah,au,cm,dY,aZ,dl,cj,dT,VH,A5,wt,ofValue,fH,dQ,h6,l6]
  refine cd (hk _ _ ?_ ?_ ?_)
  ·simp only[ai,ah,cF,h6]
  ·simp only[bR,bS,cT]
  ·simp only[ai,ah,cT,cF]
 refine aR (aR (b7 ?_))
 unfold EN
 cases h1:iX b with
 |false=>
  rw[h1] at hvb
  simp only[az,aA,dB,aB,gp,j8,ai,bR,aH,di,bo,hG,dK,dI,ak,aK,aD,bk,bm,bW,cx,dj,eA,aw,hJ,aq,gI,cK,cT,cF,aV,ei,aP,aW,cut,bN,a7,gU,bS,tA,aQ,ah,au,aZ,li,h13,hvb,aU]
  refine done _ _ _ ?_ ?_ ?_ ?_ (fun e2 lc2 q6 l6 q7=>⟨rfl,.inr rfl,AQ rfl (ov:=.nils) (w:=.nils) q6 l6 q7 rfl⟩)
  ·simp only[ai,ah,cT,cF]
  ·simp only[ai,ah,cT,cF]
  ·simp only[dA,cM,ah,cT,cF]
  ·simp only[bR,ah,cT,cF,bS]
 |true=>
  rw[h1] at hvb
  cases h2:iX o with
  |false=>
   rw[h2] at hvo
   simp only[az,aA,dB,aB,eP,gp,j8,gn,ai,bR,aH,di,bo,hG,dK,dI,ak,aK,aD,bk,bm,bW,cx,dj,eA,d7,aw,hJ,aq,gI,cK,cT,cF,aV,ei,aP,aW,cut,bN,a7,dS,gU,bS,tA,aQ,ah,au,aZ,li,h13,hvb,hvo,aU]
   refine done _ _ _ ?_ ?_ ?_ ?_ (fun e2 lc2 q6 l6 q7=>⟨rfl,.inr rfl,AQ rfl (ov:=.nils) (w:=.nils) q6 l6 q7 rfl⟩)
   ·simp only[ai,ah,cT,cF]
   ·simp only[ai,ah,cT,cF]
   ·simp only[dA,cM,ah,cT,cF]
   ·simp only[bR,ah,cT,cF,bS]
  |true=>
   rw[h2] at hvo
   have h3:iX t=false:=by rw[pW,h1,h2] at hv;exact hv
   rw[h3] at hvt
   simp only[az,aA,dB,aB,eP,gn,ai,bR,aH,di,bo,hG,dK,dI,ak,aK,aD,bk,bm,bW,cx,dj,d7,aw,hJ,aq,gI,cK,cT,cF,aV,ei,aP,aW,cut,bN,a7,dS,gU,bS,tA,aQ,ah,au,aZ,li,h13,hvb,hvo,hvt,aU]
   refine done _ _ _ ?_ ?_ ?_ ?_ (fun e2 lc2 q6 l6 q7=>⟨rfl,.inr rfl,AQ rfl (ov:=.nils) (w:=.nils) q6 l6 q7 rfl⟩)
   ·simp only[ai,ah,cT,cF]
   ·simp only[ai,ah,cT,cF]
   ·simp only[dA,cM,ah,cT,cF]
   ·simp only[bR,ah,cT,cF,bS]
def wQ:Sp
 | [u,v,w]=>(jw u).bind fun b=>(jw v).bind fun o=>(jw w).bind fun t=>bif pW b o t then none else some uR
 |_=>none
def BB:eV:=[(13,qr)]
theorem UQ:fT BB:=.cons E8 .nil
theorem Hj {vb vo vt:aj} {b o t:List Obj} (hb:bC 6 Obj.val vb b) (ho:bC 6 Obj.val vo o) (ht:bC 6 Obj.val vt t) (gb: ∀q∈b,q.Good) (go: ∀q∈o,q.Good) (gt: ∀q∈t,q.Good) (sb:b.length<small) (so:o.length<small) (st:t.length<small) (hv:pW b o t=false):wQ [.agg [vb],.agg [vo],.agg [vt]]=some uR:=by
 simp only[wQ,kh hb gb sb,kh ho go so,kh ht gt st,aq,hv,cF]
theorem VC:eN Tryz.prog 9 wQ:=by
 intro args x hv G h w xs wr hx
 unfold wQ at hv
 split at hv
 ·rename_i a1 a2 a3
  simp only[aG] at hv
  obtain⟨b,h1,o,h2,t,h3,hv⟩:=hv
  cases hc:pW b o t with
  |true=>rw[hc] at hv;cases hv
  |false=>
   rw[hc] at hv
   have hv:=Option.some.inj hv
   subst hv
   obtain⟨vb,rfl,hb,hgb,hsb⟩:=lB h1
   obtain⟨vo,rfl,ho,hgo,hso⟩:=lB h2
   obtain⟨vt,rfl,ht,hgt,hst⟩:=lB h3
   obtain⟨t1,vb',w1,hb'⟩:=lP hb hgb
   obtain⟨t2,vo',w2,ho'⟩:=lP ho hgo
   obtain⟨t3,vt',w3,ht'⟩:=lP ht hgt
   have hw:ef [.agg [vb],.agg [vo],.agg [vt]]=[.agg [vb'],.agg [vo'],.agg [vt']]:=by simp only[ef,w1,w2,w3]
   exact gS (Q:=QT BB) (gK UQ) (fun _=>gV 1) (args:=[.agg [vb],.agg [vo],.agg [vt]]) (v:=uR) (s':=s0) (by simp only[jT,t1,t2,t3,gf]) (by rw[hw];exact VB (sp:=fun f=>fv f BB) rfl rfl hb' ho' ht' hgb hgo hgt hsb hso hst hc s0) rfl ⟨4,rfl⟩ G h w xs wr hx
 ·cases hv
noncomputable def qu:Sp:=fun args=>(mq args).or (wQ args)
theorem aiy:eN Tryz.prog 9 qu:=by
 intro args x hv
 unfold qu at hv
 cases h:mq args with
 |some v=>rw[h] at hv;rw[<-Option.some.inj hv];exact xR args v h
 |none=>rw[h] at hv;exact VC args x hv
structure L3 (sp:FuncId->Option (List aj->Option aj)):Prop where
 h7:sp 7=some xj
 h8:sp 8=some tL
 h9:sp 9=some qu
 h10:sp 10=some v7
 h11:sp 11=some uV
theorem Vh {a c:Cf} (h:ahead a c=true):Ag.leBytes a.1 c.1=true:=by
 unfold ahead at h
 unfold Ag.leBytes
 cases h1:hZ a.1 c.1 with
 |true=>rfl
 |false=>
  rw[h1] at h
  simp only[Bool.false_or,cZ] at h
  rw[h.1];rfl
theorem Vg {a c:Cf} (h:ahead a c=true) (he:(a.1==c.1)=true):hZ a.2 c.2=true:=by
 unfold ahead at h
 rw[he,eq_of_beq he,Rx] at h
 simpa using h
structure N3 (mv mu cv cu:aj) (e:bj) (lc:Ag.Loc):Prop where
 h7:ax e 7= .bool true
 h8:ax e 8= .lref 8 1 0
 h9:ax e 9=cv
 h10:ax e 10= .lref 10 1 0
 h11:ax e 11=cu
 g8:lc.gen 8=1
 g10:lc.gen 10=1
 b8:lc.get 8 1=some [mv]
 b10:lc.get 10 1=some [mu]
section
variable {sp:FuncId->Option (List aj->Option aj)} (hS:L3 sp) {mv mu cv cu:aj}
theorem ajJ {C:List Cf} (hcv:bC 2 de cv C) (hC:C.length<=1000000) (hst:C.Pairwise fun a c=>ahead a c=true) {s:St} (hm:s.minw<=s.next) {lc:Ag.Loc}: ∀(rest:List Cf) (a:Cf) (pre:List Cf) (e:bj),C=pre++a::rest->
 N3 mv mu cv cu e lc->ax e 12= .int .i64 ((pre.length+1:Nat):Int)->
 W (QS sp) 3 (.loop vv) ⟨e,91,lc⟩ s fun x fr s'=>s'=s/\x= .exit 0/\ ∃e',fr=⟨e',91,lc⟩/\N3 mv mu cv cu e' lc:=by
 intro rest
 have ccv:=hcv.clean
 have hlen:=fun mk s=>hcv.len xH xG mk s
 induction rest with
 |nil=>
  intro a pre e hpre I h12
  obtain⟨h7,h8,h9,h10,h11,g8,g10,b8,b10⟩:=I
  have hlen':C.length=pre.length+1:=by rw[hpre];simp
  refine cR ?_
  unfold vv
  refine aR (aR (b7 ?_))
  unfold zE
  simp only[az,aA,aB,ai,aH,aX,cJ,ak,aD,bk,bm,aw,bU,cQ,cU,bJ,aq,bf,cT,cF,aV,cg,da,bS,tA,ah,au,aZ,decide_false,De,h9,h12,ccv,hlen,hlen',eU,aU]
  refine bc (t:=false) (by simp only[ak,ai,ah,cT,cF]) ?_
  refine W.exit ⟨rfl,rfl,_,rfl,⟨?_,?_,?_,?_,?_,g8,g10,b8,b10⟩⟩
  all_goals simp only[ai,ah,cF,h7,h8,h9,h10,h11]
 |cons c rest ih=>
  intro a pre e hpre I h12
  obtain⟨h7,h8,h9,h10,h11,g8,g10,b8,b10⟩:=I
  have hlt:pre.length+1<C.length:=by rw[hpre];simp
  have hat0:C[pre.length]? =some a:=by rw[hpre];simp
  have hat1:C[pre.length+1]? =some c:=by rw[hpre];simp[]
  have hi0:=fun lc=>hcv.at zd hat0 lc .i64
  have hi1:=fun lc=>hcv.at zd hat1 lc .i64
  have he0:(de a).cells=[.str a.1,.str a.2]:=rfl
  have he1:(de c).cells=[.str c.1,.str c.2]:=rfl
  have hah:ahead a c=true:=by
   rw[hpre] at hst
   exact(List.pairwise_cons.1 (List.pairwise_append.1 hst).2.1).1 c (by simp)
  have hle:=Vh hah
  have hwm:IntKind.i64.wrap (((pre.length+1:Nat):Int)-1)=((pre.length:Nat):Int):=by rw[ew (by omega) (by omega)];omega
  have hwr:IntKind.i64.wrap (((pre.length+1:Nat):Int)+1)=((pre.length+1+1:Nat):Int):=by rw[ew (by omega) (by omega)];omega
  refine cR ?_
  unfold vv
  refine aR (aR (b7 ?_))
  unfold zE
  simp only[az,aA,aB,ai,aH,aX,cJ,ak,aD,bk,bm,aw,bU,cQ,cU,bJ,aq,bf,cT,cF,aV,cg,da,bS,tA,ah,au,aZ,dT,De,h9,h12,ccv,hlen,hlt,aU]
  refine bc (t:=true) (by simp only[ak,ai,ah,cT,cF]) (ck ?_)
  simp only[aU]
  refine aR (cO (W.sdrawQ hm ?_))
  unfold Od
  cases hq:a.1==c.1 with
  |false=>
   simp only[eJ,eI,mO,eK,oZ,rz,isStore,jr,gn,ai,aH,di,bo,aX,bZ,ek,ak,aK,aD,bW,bt,fQ,dj,d7,aw,qW,jd,aq,bf,cS,cT,cF,aV,a7,bO,dS,bS,tA,ah,au,dH,H7,h9,h12,hwm,hi0,hi1,he0,he1,BZ,jd,hle,hq]
   refine bc (t:=false) (by simp only[ak,ai,ah,cT,cF]) (ck ?_)
   simp only[dP,aU]
   refine b7 ?_
   unfold D5
   simp only[az,aA,aB,ai,aH,aN,aX,ak,aK,aD,bt,aw,dZ,aq,bf,cT,cF,aV,bS,tA,ah,au,h12,hwr,aU]
   refine ih c (pre++[a]) _ (by rw[hpre];simp) ⟨?_,?_,?_,?_,?_,g8,g10,b8,b10⟩ ?_
   all_goals simp only[ai,ah,cT,cF,h7,h8,h9,h10,h11,dp,aP,aW]
  |true=>
   have hlt2:=Vg hah hq
   simp only[eJ,eI,mO,eK,oZ,isStore,hQ,gn,ai,aH,di,bo,aX,bZ,ek,ak,aK,aD,bW,bt,fQ,dj,eA,d7,aw,qW,jd,aq,bf,cS,cT,cF,aV,a7,bO,dS,bS,tA,ah,au,dH,H7,XN,h9,h12,hwm,hi0,hi1,he0,he1,BZ,V3,jd,hle,hq,hlt2]
   refine bc (t:=false) (by simp only[ak,ai,ah,cT,cF]) (ck ?_)
   simp only[dP,aU]
   refine b7 ?_
   unfold D5
   simp only[az,aA,aB,ai,aH,aN,aX,ak,aK,aD,bt,aw,dZ,aq,bf,cT,cF,aV,bS,tA,ah,au,h12,hwr,aU]
   refine ih c (pre++[a]) _ (by rw[hpre];simp) ⟨?_,?_,?_,?_,?_,g8,g10,b8,b10⟩ ?_
   all_goals simp only[ai,ah,cT,cF,h7,h8,h9,h10,h11,dp,aP,aW]
end
structure Bt (mv mu cv cu:aj) (M M2:List Obj) (C:List Cf):Prop where
 m:bC 6 Obj.val mv M
 m2:bC 6 Obj.val mu M2
 e:qc M M2
 g: ∀q∈M,q.Good
 g2: ∀q∈M2,q.Good
 l:M.length<small
 c:bC 2 de cv C
 c2:bC 2 de cu C
 p:bP cv=true
 p2:bP cu=true
 lc:C.length<=1000000
 st:C.Pairwise fun a c=>ahead a c=true
 k:mv.cells=[mv]
 k2:mu.cells=[mu]
theorem aiz {vb vo vt:aj} {b o t:List Obj} (hb:bC 6 Obj.val vb b) (ho:bC 6 Obj.val vo o) (ht:bC 6 Obj.val vt t) (gb: ∀q∈b,q.Good) (go: ∀q∈o,q.Good) (gt: ∀q∈t,q.Good) (lb:b.length<=300) (lo:o.length<=300) (lt:t.length<=300):
 ∃mv mu cv cu M M2 C,qu [.agg [vb],.agg [vo],.agg [vt]]=some (.tup [.agg [mv],cv])/\qu [.agg [vb],.agg [vt],.agg [vo]]=some (.tup [.agg [mu],cu])/\Bt mv mu cv cu M M2 C:=by
 have hsm:small=9223372036854775808:=rfl
 cases hv:pW b o t with
 |true=>
  have hv':iX b=true/\iX o=true/\iX t=true:=by
   simp only[pW,cZ] at hv
   exact hv
  obtain⟨v1,v2,v3⟩:=hv'
  have hi:mN b o t:=⟨v1,v2,v3,gb,go,gt,lb,lo,lt⟩
  have hj:mN b t o:=⟨v1,v3,v2,gb,gt,go,lb,lt,lo⟩
  have ce: ∀l:List Obj,(fR 6 (l.map Obj.val)).cells=[fR 6 (l.map Obj.val)]:=fun l=>by cases l<;>rfl
  refine⟨fR 6 ((lN b o t).map Obj.val),fR 6 ((lN b t o).map Obj.val),fR 2 ((nQ b o t).map de),fR 2 ((nQ b t o).map de),lN b o t,lN b t o,nQ b o t,?_,?_,?_⟩
  ·simp only[qu,R6 hb ho ht hi,uI,sQ]
  ·simp only[qu,R6 hb ht ho hj,uI,sQ]
  ·refine⟨sH _,sH _,aix,R3 hi,R3 hj,by have:=aiv hi;omega,sH _,?_,SL _,SL _,W5 hi,W6,ce _,ce _⟩
   rw[W7]
   exact sH _
 |false=>
  have hno: ∀ {b o t:List Obj},pW b o t=false-> ¬mN b o t:=fun h hi=>by
   rw[pW,hi.vb,hi.vo,hi.vt] at h;cases h
  have hv2:pW b t o=false:=by
   rw[<-hv]
   simp only[pW]
   rw[Bool.and_comm (iX t)]
  refine⟨.nils,.nils,.nils,.nils,[],[],[],?_,?_,?_⟩
  ·simp only[qu,mq,kh hb gb (by omega),kh ho go (by omega),kh ht gt (by omega),aq,if_neg (hno hv),p9,Hj hb ho ht gb go gt (by omega) (by omega) (by omega) hv,uR]
  ·simp only[qu,mq,kh hb gb (by omega),kh ho go (by omega),kh ht gt (by omega),aq,if_neg (hno hv2),p9,Hj hb ht ho gb gt go (by omega) (by omega) (by omega) hv2,uR]
  ·exact⟨.inl ⟨rfl,rfl⟩,.inl ⟨rfl,rfl⟩,.rfl,fun q h=>(by cases h),fun q h=>(by cases h),by show 0<small;omega,.inl ⟨rfl,rfl⟩,.inl ⟨rfl,rfl⟩,rfl,rfl,Nat.zero_le _,.nil,rfl,rfl⟩
section
variable {sp:FuncId->Option (List aj->Option aj)} (hS:L3 sp) {mv mu cv cu:aj}
include hS
theorem Ro {M M2:List Obj} {C:List Cf} (B:Bt mv mu cv cu M M2 C) {s:St} {e:bj} {lc:Ag.Loc} (I:N3 mv mu cv cu e lc):W (QS sp) 3 (.seq (.region tS) .ret) ⟨e,91,lc⟩ s fun x fr s'=>s'=s/\x= .ret/\ax fr.env 6= .bool true:=by
 obtain⟨h7,h8,h9,h10,h11,g8,g10,b8,b10⟩:=I
 have c1:=B.m.clean
 have c2:=B.m2.clean
 have c3:=B.c.clean
 have c4:=B.c2.clean
 have s1:=akT B.m B.m2 B.e B.g B.g2 B.l
 have s2:=Wo B.c B.c2 B.p B.p2 B.lc
 refine aF ?_
 unfold tS
 simp only[az,aA,dB,aB,eP,hQ,ai,aH,aN,di,bo,dK,dI,ak,aK,aD,bk,bm,bW,cx,dj,eA,aw,aq,cK,cT,cF,aV,ei,aP,aW,cut,bN,a7,bS,tA,aQ,ah,au,aZ,li,h7,h8,h9,h10,h11,b8,b10,c3,c4,hS.h10,hS.h11,s1,s2]
 exact cd ⟨rfl,rfl,by simp only[ai,ah,cT,cF]⟩
theorem ahu {M M2:List Obj} {C:List Cf} (B:Bt mv mu cv cu M M2 C) {s:St} (hm:s.minw<=s.next) {e:bj} {lc:Ag.Loc} (I:N3 mv mu cv cu e lc):W (QS sp) 3 (.seq (.seq (.region D4) (.block 0 (.loop vv))) (.seq (.region tS) .ret)) ⟨e,91,lc⟩ s fun x fr s'=>s'=s/\x= .ret/\ax fr.env 6= .bool true:=by
 have I0:=I
 obtain⟨h7,h8,h9,h10,h11,g8,g10,b8,b10⟩:=I
 refine aR (aF ?_)
 unfold D4
 simp only[az,aA,aB,aN,aK,bt,aw,tA,au]
 refine cO ?_
 have cont: ∀e':bj,N3 mv mu cv cu e' lc->W (QS sp) 3 (.seq (.region tS) .ret) ⟨e',91,lc⟩ s fun x fr s'=>s'=s/\x= .ret/\ax fr.env 6= .bool true:=fun e' I'=>Ro hS B I'
 have ccv:=B.c.clean
 have hlen:=fun mk s=>B.c.len xH xG mk s
 cases hC:C with
 |nil=>
  have hlen':C.length=0:=by rw[hC];rfl
  refine cR ?_
  unfold vv
  refine aR (aR (b7 ?_))
  unfold zE
  have h10':dz 1 ((0:Nat):Int)=false:=rfl
  simp only[az,aA,aB,ai,aH,aX,cJ,ak,aD,bk,bm,aw,bU,cQ,cU,bJ,aq,bf,cT,cF,aV,cg,bS,tA,ah,au,aZ,De,h9,ccv,hlen,hlen',h10',aU]
  refine bc (t:=false) (by simp only[ak,ai,ah,cT,cF]) ?_
  refine W.exit ?_
  show W (QS sp) 3 (.seq (.region tS) .ret) _ s _
  refine cont _ ⟨?_,?_,?_,?_,?_,g8,g10,b8,b10⟩
  all_goals simp only[ai,ah,cF,h7,h8,h9,h10,h11]
 |cons a rest=>
  refine(ajJ (mv:=mv) (mu:=mu) (cu:=cu) B.c B.lc B.st hm rest a [] _ hC ⟨?_,?_,?_,?_,?_,g8,g10,b8,b10⟩ ?_).mono ?_
  ·simp only[ai,ah,cF,h7]
  ·simp only[ai,ah,cF,h8]
  ·simp only[ai,ah,cF,h9]
  ·simp only[ai,ah,cF,h10]
  ·simp only[ai,ah,cF,h11]
  ·simp only[ai,ah,cT];rfl
  rintro x fr s' ⟨rfl,rfl,e',rfl,I'⟩
  show W (QS sp) 3 (.seq (.region tS) .ret) _ s' _
  exact Ro hS B I'
theorem ahv (h3:sp 3=none) {vb vo vt:aj} {b o t:List Obj} (hb:bC 6 Obj.val vb b) (ho:bC 6 Obj.val vo o) (ht:bC 6 Obj.val vt t) (gb: ∀q∈b,q.Good) (go: ∀q∈o,q.Good) (gt: ∀q∈t,q.Good) (sb:b.length<small) (so:o.length<small) (st:t.length<small) {s:St} (hm:s.minw<=s.next):
 bz (QS sp) 3 [.agg [vb],.agg [vo],.agg [vt]] s (.bool true) s:=by
 have cb:=hb.clean
 have co:=ho.clean
 have ct:=ht.clean
 have hhd:xj []=some (.bool true):=rfl
 have hfew:=X1 hb ho ht gb go gt sb so st
 refine ey aeB aeA aeE aeD h3 ?_
 unfold k3
 refine aF ?_
 unfold N7
 simp only[dt,cY,az,aA,aB,ai,dA,cM,aN,jC,ak,aK,aD,gl,aw,bJ,dC,aq,cK,cT,cF,cg,aP,aW,bS,tA,aQ,ah,au,bE,cm,cj,dT,ZW,ZX,ZY,ofValue,fH]
 refine aF ?_
 unfold N8
 simp only[az,aA,aB,ai,aN,dK,dI,ak,bk,aw,aq,cT,cF,ei,bS,tA,ah,au,hS.h7,hhd]
 refine aR (aR (b7 ?_))
 unfold N9
 cases h1:q8 b o t with
 |false=>
  rw[h1] at hfew
  simp only[az,aA,aB,ai,bR,bo,hG,dK,dI,ak,aD,bk,bm,cx,aw,hJ,aq,gI,cK,cT,cF,aV,ei,aP,aW,cut,bN,a7,gU,bS,tA,aQ,ah,au,aZ,li,hS.h8,hfew,aU]
  refine bc (t:=true) (by simp only[ak,ai,ah,cT,cF]) (aF ?_)
  unfold Oa
  simp only[az,aA,aB,ai,aH,aN,ak,aw,cT,cF,bS,tA,ah,au]
  exact cd ⟨rfl,.inr rfl,cE (by simp only[ai,ah,cT,cF]) rfl⟩
 |true=>
  rw[h1] at hfew
  simp only[az,aA,aB,ai,bR,bo,hG,dK,dI,ak,aD,bk,bm,cx,aw,hJ,aq,gI,cK,cT,cF,aV,ei,aP,aW,cut,bN,a7,dS,bS,tA,aQ,ah,au,aZ,li,hS.h8,hfew,aU]
  refine bc (t:=false) (by simp only[ak,ai,ah,cT,cF]) (ck ?_)
  simp only[aU]
  have hfb:kj b 20=true/\kj o 20=true/\kj t 20=true:=by
   unfold q8 at h1
   cases e1:kj b 20 with
   |false=>rw[e1] at h1;cases h1
   |true=>
    rw[e1] at h1
    cases e2:kj o 20 with
    |false=>rw[e2] at h1;cases h1
    |true=>rw[e2] at h1;exact⟨rfl,rfl,h1⟩
  have lb:=CF hfb.1
  have lo:=CF hfb.2.1
  have lt:=CF hfb.2.2
  obtain⟨mv,mu,cv,cu,M,M2,C,r1,r2,B⟩:=aiz hb ho ht gb go gt (by omega) (by omega) (by omega)
  have c1:=B.m.clean
  have c2:=B.m2.clean
  have c3:=B.c.clean
  have c4:=B.c2.clean
  have k1:=B.k
  have k2:=B.k2
  refine aF ?_
  unfold Ob
  simp only[az,aA,ej,aB,ep,ai,dA,cM,bR,jz,aH,aN,gZ,bo,ez,jD,dK,dI,ak,aD,bk,bm,gl,cx,aw,bJ,dC,ix,aq,cK,cT,cF,aV,cg,ei,aP,aW,cut,cV,bN,a7,cq,cH,bS,tA,aQ,ah,au,cm,dY,aZ,dl,cj,dT,ZZ,li,wt,A5,hS.h9,r1,iE,gg,mJ]
  refine aF ?_
  unfold Oc
  simp only[az,aA,ej,aB,ep,ai,dA,cM,bR,jz,aH,aN,gZ,bo,ez,jD,dK,dI,ak,aD,bk,bm,gl,cx,aw,bJ,dC,ix,aq,cK,cT,cF,aV,cg,ei,aP,aW,cut,cV,bN,a7,cq,cH,bS,tA,aQ,ah,au,cm,dY,aZ,dl,cj,dT,ZV,li,wt,A5,hS.h9,r2,iE,gg,mJ]
  refine W.mono (ahu (mv:=mv) (mu:=mu) (cv:=cv) (cu:=cu) hS B hm ⟨?_,?_,?_,?_,?_,?_,?_,?_,?_⟩) ?_
  case refine_10=>
   rintro x fr s' ⟨rfl,rfl,h6⟩
   exact⟨rfl,.inr rfl,cE h6 rfl⟩
  all_goals simp only[ai,cM,bR,dA,ah,cT,cF,bS]
end
noncomputable def yF:eV:=[(7,xj),(8,tL),(9,qu),(10,v7),(11,uV)]
theorem UG:fT yF:=.cons YT (.cons X2 (.cons aiy (.cons akU (.cons Wp .nil))))
theorem UH:L3 (fun f=>fv f yF):=⟨rfl,rfl,rfl,rfl,rfl⟩
theorem aht {x y z:aj} {b o t:List Obj} (hb:bC 6 Obj.val x b) (ho:bC 6 Obj.val y o) (ht:bC 6 Obj.val z t) (gb: ∀q∈b,q.Good) (go: ∀q∈o,q.Good) (gt: ∀q∈t,q.Good) (sb:b.length<small) (so:o.length<small) (st:t.length<small) (G:Gh) (h:bv bH) (w:World) (xs:List Value) (wr:WR G h w) (hx:cp G [.agg [x],.agg [y],.agg [z]] xs):
 kF Tryz.prog 3 ⟨xs⟩ w fun r w'=> ∃G',WR G' h w'/\dr G h w G' h w' 0 0/\VR G' (.bool true) r:=by
 obtain⟨t1,x',w1,hb'⟩:=lP hb gb
 obtain⟨t2,y',w2,ho'⟩:=lP ho go
 obtain⟨t3,z',w3,ht'⟩:=lP ht gt
 have hw:ef [.agg [x],.agg [y],.agg [z]]=[.agg [x'],.agg [y'],.agg [z']]:=by simp only[ef,w1,w2,w3]
 exact gS (Q:=QT yF) (gK UG) (fun _=>gV 1) (args:=[.agg [x],.agg [y],.agg [z]]) (v:=.bool true) (s':=s0) (by simp only[jT,t1,t2,t3];rfl) (by rw[hw];exact ahv (sp:=fun f=>fv f yF) UH rfl hb' ho' ht' gb go gt sb so st (bB _)) rfl ⟨1,rfl⟩ G h w xs wr hx
def AY:Value->Option aj
 | .bool b=>some (.bool b)
 | .int k n=>some (.int k n)
 | .string s=>some (.str s.data.toList)
 | .slice none 0 0=>some .nils
 |_=>none
theorem ak1 {G:Gh} {x:Value} {v:aj} (h:AY x=some v):v.scal=true/\VR G v x:=by
 unfold AY at h
 split at h
 ·injection h with h;subst h;exact⟨rfl,.bool _⟩
 ·injection h with h;subst h;exact⟨rfl,.int _ _⟩
 ·injection h with h;subst h;exact⟨rfl,.str _⟩
 ·injection h with h;subst h;exact⟨rfl,.nils⟩
 ·cases h
def lG (W:World) (b o:Nat):Option aj:=(W.cell? ⟨b,o,none⟩).bind AY
open Classical in
noncomputable def pick (P:aj->Prop):Option aj:=if h: ∃v,P v then some (Classical.choose h) else none
theorem SD {P:aj->Prop} {v:aj} (h:pick P=some v):P v:=by
 unfold pick at h
 split at h
 ·rename_i e
  injection h with h;subst h
  exact Classical.choose_spec e
 ·cases h
theorem SB {P:aj->Prop} {v:aj} (h:P v): ∃u,pick P=some u/\P u:=by
 have e: ∃v,P v:=⟨v,h⟩
 exact⟨Classical.choose e,by unfold pick;rw[dif_pos e],Classical.choose_spec e⟩
def tu (W:World) (x:Value) (v:aj):Prop:= ∃(a:Addr) (len cap:Nat) (strs:List ar),x= .slice (some a) len cap/\v= .list 1 (strs.map bu) .no/\(cap=0\/a.spot=none)/\strs.length=len/\len<=cap/\len<small/\(∀s∈strs,s.length<small)/\
 ∀(i:Nat) (s:ar),strs[i]? =some s->W.cell? ⟨a.block,a.off+i,none⟩=some (.string ⟨⟨s⟩⟩)
def tw (W:World) (x:Value) (v:aj):Prop:= ∃(a:Addr) (len cap:Nat) (tags:List cz),x= .slice (some a) len cap/\v= .list 2 (tags.map eC) .no/\(cap=0\/a.spot=none)/\tags.length=len/\len<=cap/\len<small/\(∀t∈tags,t.1.length<small)/\
 ∀(i:Nat) (t:cz),tags[i]? =some t->W.cell? ⟨a.block,a.off+(i*2+0),none⟩=some (.string ⟨⟨t.1⟩⟩)/\W.cell? ⟨a.block,a.off+(i*2+1),none⟩=some (.string ⟨⟨t.2⟩⟩)
noncomputable def yi (W:World) (b o:Nat):Option aj:=
 (W.cell? ⟨b,o,none⟩).bind fun x=>match W.cell? ⟨b,o-1,none⟩ with
  |some (.int _ _)=>pick (tu W x)
  |some (.slice _ _ _)=>pick (tw W x)
  |_=>none
noncomputable def mc (W:World):Gh where
 at_ _:=none
 dim _:=none
 ro b o:=(lG W b o).or (yi W b o)
theorem zb {W:World} {b o:Nat} {s:ar} (h:W.cell? ⟨b,o,none⟩=some (.string ⟨⟨s⟩⟩)):(mc W).ro b o=some (.str s):=by
 show(lG W b o).or _=_
 have:lG W b o=some (.str s):=by
  simp only[lG,h,aq];rfl
 rw[this];rfl
theorem ako {W:World} {x:Value} {v:aj} (h:tu W x v):VR (mc W) v x:=by
 obtain⟨d,len,cap,strs,rfl,rfl,hsp,hl,hc,_,_,hcell⟩:=h
 rw[<-hl] at hc ⊢
 have hm:(strs.map bu).length=strs.length:=by simp
 rw[<-hm]
 refine .list hsp Nat.one_pos ?_ (by rw[hm];exact hc) ?_ trivial
 ·intro y hy
  obtain⟨s,_,rfl⟩:=List.mem_map.1 hy
  rfl
 ·intro i y hy
  rw[vj,rE] at hy
  cases e:strs[i]? with
  |none=>rw[e] at hy;cases hy
  |some s=>
   rw[e] at hy
   simp only[qQ,bg] at hy
   subst hy
   exact zb (hcell i s e)
theorem Sf: ∀ {l:List aj} {i:Nat} {v:aj},l[i]? =some v->iJ l i=v
 | [],_,_,h=>by simp at h
 |_::_,0,_,h=>by simpa[iJ] using h
 |_::l,i+1,v,h=>Sf (l:=l) (i:=i) (by simpa using h)
theorem Im {sz:Nat} {xs:List aj} (hsz: ∀x∈xs,x.cells.length=sz) {i:Nat} {y:aj} (h:(bQ xs)[i]? =some y): ∃v,xs[i / sz]? =some v/\v.cells[i % sz]? =some y/\i=i / sz*sz+i % sz:=by
 have hlt:i<(bQ xs).length:=by
  rcases Nat.lt_or_ge i (bQ xs).length with h1|h1
  ·exact h1
  ·rw[jF h1] at h;cases h
 rw[kK hsz] at hlt
 have hpos:0<sz:=by
  rcases tl sz with h0|h0
  ·subst h0;omega
  ·exact h0
 have hj:i / sz<xs.length:=(Nat.div_lt_iff_lt_mul hpos).2 hlt
 have hi:i % sz<sz:=Nat.mod_lt _ hpos
 have e:i=i / sz*sz+i % sz:=by rw[Nat.mul_comm];exact(Nat.div_add_mod i sz).symm
 have hg:=Io hsz hj hi
 rw[<-e,h] at hg
 refine⟨xs[i / sz],js hj,?_,e⟩
 rw[Sf (js hj)] at hg
 exact hg.symm
theorem alU {W:World} {x:Value} {v:aj} (h:tw W x v):VR (mc W) v x:=by
 obtain⟨d,len,cap,tags,rfl,rfl,hsp,hl,hc,_,_,hcell⟩:=h
 rw[<-hl] at hc ⊢
 have hm:(tags.map eC).length=tags.length:=by simp
 have hsz: ∀y∈tags.map eC,y.cells.length=2:=by
  intro y hy
  obtain⟨s,_,rfl⟩:=List.mem_map.1 hy
  rfl
 rw[<-hm]
 refine .list hsp (Nat.succ_pos 1) hsz (by rw[hm];exact hc) ?_ trivial
 intro i y hy
 obtain⟨u,h1,h2,h3⟩:=Im hsz hy
 rw[rE] at h1
 cases e:tags[i / 2]? with
 |none=>rw[e] at h1;cases h1
 |some t=>
  rw[e] at h1
  simp only[qQ,bg] at h1
  subst h1
  obtain⟨c0,c1⟩:=hcell _ t e
  have hm2:i % 2=0\/i % 2=1:=by omega
  rcases hm2 with hm2|hm2
  ·rw[hm2] at h2 h3
   simp only[eC,aj.cells,gg,bg] at h2
   subst h2
   rw[h3]
   exact zb c0
  ·rw[hm2] at h2 h3
   simp only[eC,aj.cells,mJ,gg,bg] at h2
   subst h2
   rw[h3]
   exact zb c1
theorem YL (W:World):WR (mc W) .nil W where
 obj m o h:=by cases h
 sep m k x y h:=absurd rfl h
 ro b o v h:=by
  have h:(lG W b o).or (yi W b o)=some v:=h
  cases e:lG W b o with
  |some u=>
   rw[e] at h
   simp only[uI,bg] at h
   subst h
   unfold lG at e
   rw[aG] at e
   obtain⟨x,h1,h2⟩:=e
   obtain⟨h3,h4⟩:=ak1 (G:=mc W) h2
   exact⟨h3,x,h1,h4⟩
  |none=>
   rw[e] at h
   simp only[p9] at h
   unfold yi at h
   rw[aG] at h
   obtain⟨x,h1,h2⟩:=h
   split at h2
   ·have h2:=SD h2
    have hs:v.scal=true:=by obtain⟨_,_,_,_,_,rfl,_⟩:=h2;rfl
    exact⟨hs,x,h1,ako h2⟩
   ·have h2:=SD h2
    have hs:v.scal=true:=by obtain⟨_,_,_,_,_,rfl,_⟩:=h2;rfl
    exact⟨hs,x,h1,alU h2⟩
   ·cases h2
 apart m ob x i v h:=by cases h
 dim b d h:=by cases h
 below m x h:=by cases h
section
variable {H:Type} {enc:TypeId×Value->H} {W:World} {held:Bool}
theorem Gp:Tryz.prog.underlying 3=some (.int .i64):=by kernel_rfl
theorem B5:Tryz.prog.cellsOf 9=1:=by kernel_rfl
theorem Ho:Tryz.prog.cellsOf 3=1:=by kernel_rfl
theorem V9:Tryz.prog.cellsOf 37=1:=by kernel_rfl
theorem Wa:Tryz.prog.cellsOf 38=1:=by kernel_rfl
theorem Hp:Tryz.prog.cellsOf 36=2:=by kernel_rfl
theorem B4:Tryz.prog.cellsOf 51=2:=by kernel_rfl
theorem B3:Tryz.prog.cellsOf 40=6:=by kernel_rfl
theorem V8:Tryz.prog.cellsOf 24=1:=by kernel_rfl
theorem V7:Tryz.prog.cellsOf 22=1:=by kernel_rfl
theorem Ba:Tryz.prog.underlying 9=some .string:=by kernel_rfl
theorem al6:Tryz.prog.underlying 38=some (.slice 51):=by kernel_rfl
theorem al5:Tryz.prog.underlying 22=some (.slice 40):=by kernel_rfl
theorem Ga {a:Addr} {v:Value} (h:W.cell? a=some v):a.spot=none:=by
 unfold World.cell? at h
 split at h
 ·split at h
  ·cases h
  ·rename_i hs
   cases e:a.spot with
   |none=>rfl
   |some _=>rw[e] at hs;simp at hs
 ·cases h
theorem G5 {a:Addr} (h:a.spot=none) (i:Nat):a.add i=⟨a.block,a.off+i,none⟩:=by
 obtain⟨b,o,sp⟩:=a
 simp only at h;subst h
 exact l0 b o i
theorem Aj {n:Nat} (h:n<=maxLen):n<small:=by
 have h1:maxLen=9223372036854775807:=by decide
 have h2:small=9223372036854775808:=rfl
 omega
theorem Gi {s:ByteArray} (h:s.size<=maxLen):s.data.toList.length<small:=by
 have e:s.data.toList.length=s.size:=Array.length_toList
 rw[e];exact Aj h
theorem ahy {α:Type} {l:List α} (h:l.length=1): ∃a,l=[a]:=by
 match l,h with
 | [a],_=>exact⟨a,rfl⟩
theorem Rr {α:Type} {l:List α} (h:l.length=2): ∃a b,l=[a,b]:=by
 match l,h with
 | [a,b],_=>exact⟨a,b,rfl⟩
theorem ahz {α:Type} {l:List α} (h:l.length=5): ∃a b c d e,l=[a,b,c,d,e]:=by
 match l,h with
 | [a,b,c,d,e],_=>exact⟨a,b,c,d,e,rfl⟩
theorem ahA {α:Type} {l:List α} (h:l.length=6): ∃a b c d e f,l=[a,b,c,d,e,f]:=by
 match l,h with
 | [a,b,c,d,e,f],_=>exact⟨a,b,c,d,e,f,rfl⟩
theorem ajA {fuel:Nat} {cs:List Value} {x:DataW H×List MemPlace} (h:DataW.trod enc Tryz.prog W 0 (fun _=>true) held fuel 37 cs=some x): ∃v,cs=[v]/\(v= .slice none 0 0\/ ∃u,tu W v u):=by
 rcases Go.ChangeShapes.open_strings ym Ba B5 h with⟨rfl,_⟩|⟨a,len,cap,ss,rfl,_,hl,hm,hss,_,hcell,hsz⟩
 ·exact⟨_,rfl,.inl rfl⟩
 ·simp only[if_true] at hss
  refine⟨_,rfl,.inr ⟨_,a,len,cap,(ss.take len).map (fun s=>s.data.toList),rfl,rfl,?_,?_,hl,Aj (fW hl hm),?_,?_⟩⟩
  ·rcases tl cap with h0|h0
   ·exact .inl h0
   ·refine .inr (Ga (W:=W) (v:=.string (ss.getD 0 ByteArray.empty)) ?_)
    have:=hcell 0 (by omega)
    exact this
  ·rw[eH,List.length_take,hss];omega
  ·intro s hs
   obtain⟨b,hb,rfl⟩:=List.mem_map.1 hs
   have:=hsz b (List.mem_of_mem_take hb)
   exact Gi this
  ·intro i s hi
   rw[rE] at hi
   cases e:(ss.take len)[i]? with
   |none=>rw[e] at hi;cases hi
   |some b=>
    rw[e] at hi
    simp only[qQ,bg] at hi
    subst hi
    rw[List.getElem?_take] at e
    split at e
    ·have hlt:=(List.getElem?_eq_some_iff.1 e).1
     have hc:=hcell i hlt
     have hsp:a.spot=none:=Ga (W:=W) (v:=.string (ss.getD 0 ByteArray.empty)) (hcell 0 (by omega))
     rw[G5 hsp,List.getD_eq_getElem?_getD,e] at hc
     exact hc
    ·cases e
theorem al4 {fuel:Nat} {cs:List Value} {x:DataW H×List MemPlace} (h:DataW.trod enc Tryz.prog W 0 (fun _=>true) held fuel 51 cs=some x): ∃k v:ar,cs=[.string ⟨⟨k⟩⟩,.string ⟨⟨v⟩⟩]/\k.length<small:=by
 obtain⟨y0,y1,n,_,hl,h0,h1⟩:=Go.ChangeShapes.trod_struct2 Tryz.underlying51 h
 rw[B4] at hl
 obtain⟨a,b,rfl⟩:=Rr hl
 rw[B5] at h0 h1
 obtain⟨s,e0,_,hs⟩:=DataW.trod_string Ba h0
 obtain⟨r,e1,_,hr⟩:=DataW.trod_string Ba h1
 simp only[nq,eR,wE,mI,and_true] at e0
 simp only[gr,nq,eR,wE,mI,and_true] at e1
 subst e0;subst e1
 exact⟨s.data.toList,r.data.toList,rfl,Gi hs⟩
theorem al3 {fuel:Nat} {cs:List Value} {x:DataW H×List MemPlace} (h:DataW.trod enc Tryz.prog W 0 (fun _=>true) held fuel 36 cs=some x): ∃k v:Int,cs=[.int .i64 k,.int .i64 v]:=by
 obtain⟨y0,y1,n,_,hl,h0,h1⟩:=Go.ChangeShapes.trod_struct2 Tryz.underlying36 h
 rw[Hp] at hl
 obtain⟨a,b,rfl⟩:=Rr hl
 rw[Ho] at h0 h1
 obtain⟨s,e0,_,_⟩:=DataW.trod_int Gp h0
 obtain⟨r,e1,_,_⟩:=DataW.trod_int Gp h1
 simp only[nq,eR,wE,mI,and_true] at e0
 simp only[gr,nq,eR,wE,mI,and_true] at e1
 subst e0;subst e1
 exact⟨s,r,rfl⟩
theorem E6 {α:Type} {P:Nat->α->Prop}: ∀(n:Nat),(∀i,i<n-> ∃o,P i o)-> ∃l:List α,l.length=n/\ ∀(i:Nat) o,l[i]? =some o->P i o
 |0,_=>⟨[],rfl,fun i o h=>by simp at h⟩
 |n+1,h=>by
  obtain⟨l,h1,h2⟩:=E6 n fun i hi=>h i (by omega)
  obtain⟨o,ho⟩:=h n (by omega)
  refine⟨l++[o],by simp[h1],fun i p hp=>?_⟩
  rcases Nat.lt_or_ge i l.length with hi|hi
  ·rw[List.getElem?_append_left hi] at hp
   exact h2 i p hp
  ·rw[List.getElem?_append_right hi] at hp
   have:i-l.length=0:=by
    rcases tl (i-l.length) with h|h
    ·exact h
    ·rw[jF (by simp;omega)] at hp;cases hp
   rw[this] at hp
   simp only[gg,bg] at hp
   subst hp
   have:i=n:=by omega
   subst this;exact ho
theorem HX {e:TypeId} {c n i:Nat} {a:Addr} {elems:List (DataW H×List MemPlace)} (hc:Tryz.prog.cellsOf e=c) (hi:i<elems.length) (hsp:a.spot=none)
 (h:(W.cells? 0 (a.add (i*Tryz.prog.cellsOf e)) (Tryz.prog.cellsOf e)).bind (DataW.trod enc Tryz.prog W 0 (fun _=>true) held n e)=elems[i]?):
 ∃cs y,DataW.trod enc Tryz.prog W 0 (fun _=>true) held n e cs=some y/\cs.length=c/\ ∀j,j<c->W.cell? ⟨a.block,a.off+(i*c+j),none⟩=cs[j]? :=by
 rw[hc,js hi,aG] at h
 obtain⟨cs,h1,h2⟩:=h
 obtain⟨_,hl,hcell⟩:=World.cells?_some h1
 refine⟨cs,_,h2,hl,fun j hj=>?_⟩
 rw[<-hcell j hj,G5 hsp,l0,Nat.add_assoc]
theorem TA {e:TypeId} {n len cap:Nat} {a:Addr} {elems rest:List (DataW H×List MemPlace)} (hpos:0<Tryz.prog.cellsOf e) (hlen:elems.length=len) (_hle:len<=cap)
 (hel: ∀i,i<len->(W.cells? 0 (a.add (i*Tryz.prog.cellsOf e)) (Tryz.prog.cellsOf e)).bind (DataW.trod enc Tryz.prog W 0 (fun _=>true) held n e)=elems[i]?)
 (hsp:rest.length=cap-len/\ ∀j,j<cap-len->(W.cells? 0 (a.add ((len+j)*Tryz.prog.cellsOf e)) (Tryz.prog.cellsOf e)).bind (DataW.trod enc Tryz.prog W 0 (fun _=>true) held n e)=rest[j]?):cap=0\/a.spot=none:=by
 rcases tl cap with h0|h0
 ·exact .inl h0
 ·refine .inr ?_
  have key: ∀o:Option (DataW H×List MemPlace),o.isSome=true->(W.cells? 0 (a.add (0*Tryz.prog.cellsOf e)) (Tryz.prog.cellsOf e)).bind (DataW.trod enc Tryz.prog W 0 (fun _=>true) held n e)=o->a.spot=none:=by
   intro o ho h
   cases o with
   |none=>cases ho
   |some y=>
    rw[aG] at h
    obtain⟨cs,h1,_⟩:=h
    obtain⟨_,hl,hcell⟩:=World.cells?_some h1
    have:=hcell 0 hpos
    rw[Nat.zero_mul] at this
    have hx:(a.add 0).add 0=a:=rfl
    rw[hx,js (by omega)] at this
    exact Ga this
  rcases tl len with h1|h1
  ·have:=hsp.2 0 (by omega)
   rw[h1] at this
   refine key _ ?_ this
   rw[js (by omega)];rfl
  ·refine key _ ?_ (hel 0 h1)
   rw[js (by omega)];rfl
theorem ajB {fuel:Nat} {cs:List Value} {x:DataW H×List MemPlace} (h:DataW.trod enc Tryz.prog W 0 (fun _=>true) held fuel 38 cs=some x): ∃v,cs=[v]/\(v= .slice none 0 0\/ ∃u,tw W v u):=by
 rcases DataW.trod_slice al6 h with⟨rfl,_⟩|⟨a,len,cap,elems,rest,n,_,rfl,_,_,hl,hm,hlen,hel,hsp,_⟩
 ·exact⟨_,rfl,.inl rfl⟩
 ·have hspot:=TA (by rw[B4];omega) hlen hl hel (hsp rfl)
  obtain⟨tags,t1,t2⟩:=E6 (P:=fun i (t:cz)=>t.1.length<small/\W.cell? ⟨a.block,a.off+(i*2+0),none⟩=some (.string ⟨⟨t.1⟩⟩)/\W.cell? ⟨a.block,a.off+(i*2+1),none⟩=some (.string ⟨⟨t.2⟩⟩)) len fun i hi=>by
   have hs:a.spot=none:=by
    rcases hspot with h0|h0
    ·omega
    ·exact h0
   obtain⟨cs,y,q1,q2,q3⟩:=HX B4 (by omega) hs (hel i hi)
   obtain⟨k,v,rfl,hk⟩:=al4 q1
   exact⟨(k,v),hk,q3 0 (by omega),q3 1 (by omega)⟩
  refine⟨_,rfl,.inr ⟨_,a,len,cap,tags,rfl,rfl,hspot,t1,hl,Aj (fW hl hm),?_,fun i t hi=>(t2 i t hi).2⟩⟩
  intro t ht
  obtain⟨i,hi⟩:=Bn ht
  exact(t2 i t hi).1
theorem ajy {fuel:Nat} {cs:List Value} {x:DataW H×List MemPlace} (h:DataW.trod enc Tryz.prog W 0 (fun _=>true) held fuel 40 cs=some x):
 ∃(id:ar) (k px py:Int) (rv tv:Value),cs=[.string ⟨⟨id⟩⟩,.int .i64 k,.int .i64 px,.int .i64 py,rv,tv]/\id.length<small/\(rv= .slice none 0 0\/ ∃u,tu W rv u)/\(tv= .slice none 0 0\/ ∃u,tw W tv u):=by
 obtain⟨xs,n,_,_,hl,hlen,hf⟩:=DataW.trod_struct Tryz.underlying40 h
 rw[B3] at hl
 obtain⟨a,b,c,d,e,f,rfl⟩:=ahA hl
 obtain⟨y0,y1,y2,y3,y4,rfl⟩:=ahz (l:=xs) hlen
 have h0:DataW.trod enc Tryz.prog W 0 (fun _=>true) held n 9 (([a,b,c,d,e,f].drop 0).take (Tryz.prog.cellsOf 9))=some y0:=hf 0 _ rfl
 have h1:DataW.trod enc Tryz.prog W 0 (fun _=>true) held n 3 (([a,b,c,d,e,f].drop 1).take (Tryz.prog.cellsOf 3))=some y1:=hf 1 _ rfl
 have h2:DataW.trod enc Tryz.prog W 0 (fun _=>true) held n 36 (([a,b,c,d,e,f].drop 2).take (Tryz.prog.cellsOf 36))=some y2:=hf 2 _ rfl
 have h3:DataW.trod enc Tryz.prog W 0 (fun _=>true) held n 37 (([a,b,c,d,e,f].drop 4).take (Tryz.prog.cellsOf 37))=some y3:=hf 3 _ rfl
 have h4:DataW.trod enc Tryz.prog W 0 (fun _=>true) held n 38 (([a,b,c,d,e,f].drop 5).take (Tryz.prog.cellsOf 38))=some y4:=hf 4 _ rfl
 rw[B5] at h0
 rw[Ho] at h1
 rw[Hp] at h2
 rw[V9] at h3
 rw[Wa] at h4
 obtain⟨s,e0,_,hs⟩:=DataW.trod_string Ba h0
 obtain⟨k,e1,_,_⟩:=DataW.trod_int Gp h1
 obtain⟨px,py,e2⟩:=al3 h2
 obtain⟨rv,e3,hr⟩:=ajA h3
 obtain⟨tv,e4,ht⟩:=ajB h4
 simp only[nq,gr,eR,wE,mI,and_true] at e0 e1 e2 e3 e4
 obtain⟨rfl,rfl⟩:=e2
 subst e0;subst e1;subst e3;subst e4
 exact⟨s.data.toList,k,px,py,_,_,rfl,Gi hs,hr,ht⟩
theorem akp {x:Value} {v:aj} (h:tu W x v): ∃strs:List ar,bC 1 bu v strs/\strs.length<small/\(∀s∈strs,s.length<small)/\bP v=true:=by
 obtain⟨_,_,_,strs,_,rfl,_,hl,_,h1,h2,_⟩:=h
 refine⟨strs,.inr ⟨_,rfl⟩,by omega,h2,?_⟩
 simp only[bP,x4 TP strs,gf]
theorem alV {x:Value} {v:aj} (h:tw W x v): ∃tags:List cz,bC 2 eC v tags/\tags.length<small/\(∀t∈tags,t.1.length<small)/\bP v=true:=by
 obtain⟨_,_,_,tags,_,rfl,_,hl,_,h1,h2,_⟩:=h
 refine⟨tags,.inr ⟨_,rfl⟩,by omega,h2,?_⟩
 simp only[bP,x4 TY tags,gf]
theorem xi {b o:Nat} {x:Value} {v:aj} (h:W.cell? ⟨b,o,none⟩=some x) (hs:AY x=some v):(mc W).ro b o=some v:=by
 show(lG W b o).or _=_
 have:lG W b o=some v:=by simp only[lG,h,aq,hs]
 rw[this];rfl
theorem YJ {a:Addr} {i:Nat} {x:Value} {u:aj} {k:IntKind} {z:Int} (hp:W.cell? ⟨a.block,a.off+(i*6+3),none⟩=some (.int k z)) (h:W.cell? ⟨a.block,a.off+(i*6+4),none⟩=some x) (hu:tu W x u): ∃v,(mc W).ro a.block (a.off+(i*6+4))=some v/\tu W x v:=by
 obtain⟨v,h1,h2⟩:=SB hu
 refine⟨v,?_,h2⟩
 show(lG W _ _).or _=_
 have e:lG W a.block (a.off+(i*6+4))=none:=by
  obtain⟨d,len,cap,_,rfl,_⟩:=hu
  simp only[lG,h,aq];rfl
 have e2:a.off+(i*6+4)-1=a.off+(i*6+3):=by omega
 rw[e,p9,yi,h,e2,hp]
 exact h1
theorem YK {a:Addr} {i:Nat} {x:Value} {u:aj} {y:Option Addr} {p q:Nat} (hp:W.cell? ⟨a.block,a.off+(i*6+4),none⟩=some (.slice y p q)) (h:W.cell? ⟨a.block,a.off+(i*6+5),none⟩=some x) (hu:tw W x u): ∃v,(mc W).ro a.block (a.off+(i*6+5))=some v/\tw W x v:=by
 obtain⟨v,h1,h2⟩:=SB hu
 refine⟨v,?_,h2⟩
 show(lG W _ _).or _=_
 have e:lG W a.block (a.off+(i*6+5))=none:=by
  obtain⟨d,len,cap,_,rfl,_⟩:=hu
  simp only[lG,h,aq];rfl
 have e2:a.off+(i*6+5)-1=a.off+(i*6+4):=by omega
 rw[e,p9,yi,h,e2,hp]
 exact h1
theorem ajz {fuel:Nat} {cs:List Value} {x:DataW H×List MemPlace} (h:DataW.trod enc Tryz.prog W 0 (fun _=>true) held fuel 22 cs=some x):
 ∃(val:Value) (v:aj) (l:List Obj),cs=[val]/\VR (mc W) v val/\v.scal=true/\bC 6 Obj.val v l/\(∀o∈l,o.Good)/\l.length<small:=by
 rcases DataW.trod_slice al5 h with⟨rfl,_⟩|⟨a,len,cap,elems,rest,n,_,rfl,_,_,hl,hm,hlen,hel,hsp,_⟩
 ·refine⟨_,.nils,[],rfl,.nils,rfl,.inl ⟨rfl,rfl⟩,(fun o ho=>by cases ho),by decide⟩
 ·have hspot:=TA (by rw[B3];omega) hlen hl hel (hsp rfl)
  obtain⟨l,t1,t2⟩:=E6 (P:=fun i (o:Obj)=>o.Good/\ ∀(j:Nat) v,o.cells[j]? =some v->(mc W).ro a.block (a.off+(i*6+j))=some v) len fun i hi=>by
   have hs:a.spot=none:=by
    rcases hspot with h0|h0
    ·omega
    ·exact h0
   obtain⟨cs,y,q1,q2,q3⟩:=HX B3 (by omega) hs (hel i hi)
   obtain⟨id,k,px,py,rv,tv,rfl,hid,hr,ht⟩:=ajy q1
   have p0:=q3 0 (by omega)
   have p1:=q3 1 (by omega)
   have p2:=q3 2 (by omega)
   have p3:=q3 3 (by omega)
   have p4:=q3 4 (by omega)
   have p5:=q3 5 (by omega)
   simp only[gg,mJ] at p0 p1 p2 p3 p4 p5
   have R: ∃(v:aj) (strs:List ar),(mc W).ro a.block (a.off+(i*6+4))=some v/\bC 1 bu v strs/\strs.length<small/\(∀s∈strs,s.length<small)/\bP v=true:=by
    rcases hr with rfl|⟨u,hu⟩
    ·exact⟨.nils,[],xi p4 rfl,.inl ⟨rfl,rfl⟩,by decide,(fun s hs=>by cases hs),rfl⟩
    ·obtain⟨v,g1,g2⟩:=YJ p3 p4 hu
     obtain⟨strs,g3⟩:=akp g2
     exact⟨v,strs,g1,g3⟩
   have hsl: ∃y p q,rv= .slice y p q:=by
    rcases hr with rfl|⟨u,hu⟩
    ·exact⟨_,_,_,rfl⟩
    ·obtain⟨d,len,cap,_,rfl,_⟩:=hu;exact⟨_,_,_,rfl⟩
   have T: ∃(v:aj) (tags:List cz),(mc W).ro a.block (a.off+(i*6+5))=some v/\bC 2 eC v tags/\tags.length<small/\(∀s∈tags,s.1.length<small)/\bP v=true:=by
    rcases ht with rfl|⟨u,hu⟩
    ·exact⟨.nils,[],xi p5 rfl,.inl ⟨rfl,rfl⟩,by decide,(fun s hs=>by cases hs),rfl⟩
    ·obtain⟨y,p,q,rfl⟩:=hsl
     obtain⟨v,g1,g2⟩:=YK p4 p5 hu
     obtain⟨tags,g3⟩:=alV g2
     exact⟨v,tags,g1,g3⟩
   obtain⟨rV,strs,r1,r2,r3,r4,r5⟩:=R
   obtain⟨tV,tags,s1,s2,s3,s4,s5⟩:=T
   refine⟨⟨id,k,px,py,rV,tV,strs,tags⟩,⟨⟨r2,s2,hid,r3,r4,s3,s4⟩,r5,s5⟩,?_⟩
   intro j v hv
   match j,hv with
   |0,hv=>simp only[Obj.cells,gg,bg] at hv;subst hv;exact zb p0
   |1,hv=>simp only[Obj.cells,mJ,gg,bg] at hv;subst hv;exact xi p1 rfl
   |2,hv=>simp only[Obj.cells,mJ,gg,bg] at hv;subst hv;exact xi p2 rfl
   |3,hv=>simp only[Obj.cells,mJ,gg,bg] at hv;subst hv;exact xi p3 rfl
   |4,hv=>simp only[Obj.cells,mJ,gg,bg] at hv;subst hv;exact r1
   |5,hv=>simp only[Obj.cells,mJ,gg,bg] at hv;subst hv;exact s1
   |j+6,hv=>simp[Obj.cells] at hv
  have hg: ∀o∈l,o.Good:=fun o ho=>by
   obtain⟨i,hi⟩:=Bn ho
   exact(t2 i o hi).1
  refine⟨_,.list 6 (l.map Obj.val) .no,l,rfl,?_,rfl,.inr ⟨_,rfl⟩,hg,by rw[t1];exact Aj (fW hl hm)⟩
  have hm2:(l.map Obj.val).length=len:=by simp[t1]
  have hsz: ∀y∈l.map Obj.val,y.cells.length=6:=by
   intro y hy
   obtain⟨o,_,rfl⟩:=List.mem_map.1 hy
   rfl
  have:VR (mc W) (.list 6 (l.map Obj.val) .no) (.slice (some a) (l.map Obj.val).length cap):=by
   refine .list hspot (by omega) hsz (by rw[hm2];exact hl) ?_ trivial
   intro i y hy
   obtain⟨u,h1,h2,h3⟩:=Im hsz hy
   rw[rE] at h1
   cases e:l[i / 6]? with
   |none=>rw[e] at h1;cases h1
   |some o=>
    rw[e] at h1
    simp only[qQ,bg] at h1
    subst h1
    rw[h3]
    exact(t2 _ o e).2 _ _ h2
  rw[hm2] at this
  exact this
theorem FA {v:Value} {d:DataW H} {ps:List MemPlace} (hv: ∃cs,v= .agg cs) (h:DataW.Trod enc Tryz.prog W 0 (fun _=>true) held 24 v d ps):
 ∃(x:aj) (l:List Obj),VR (mc W) (.agg [x]) v/\bC 6 Obj.val x l/\(∀o∈l,o.Good)/\l.length<small:=by
 obtain⟨fuel,h⟩:=h
 obtain⟨cs,rfl⟩:=hv
 obtain⟨y0,n,_,hl,h0⟩:=Go.ChangeShapes.trod_struct1 Tryz.underlying24 h
 rw[V7] at h0
 have hcs:(Value.agg cs).cells.toList=cs.toList:=rfl
 rw[hcs] at h0 hl
 rw[V8] at hl
 obtain⟨val,x,l,e,h1,hsc,h2,h3,h4⟩:=ajz h0
 have hc:cs= #[val]:=by
  obtain⟨cl⟩:=cs
  obtain⟨c,rfl⟩:=ahy (l:=cl) hl
  simp only[nq,eR,wE,mI,and_true] at e
  subst e;rfl
 subst hc
 refine⟨x,l,.agg ?_ (.cons h1 .nil),h2,h3,h4⟩
 simp only[dL,List.all_cons,hsc,List.all_nil,gf]
end
end Go.Proofs.YtbfmdojdemckbaaGreat
