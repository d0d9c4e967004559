/- head() returns true; plain laws. -/
import Derived.Test.YtnnppcoplinajaaGreatHdS
set_option linter.defProp false
open Bool renaming and_eq_true→bA,and_self→cH,eq_iff_iff→yK,false_or→jd,not_eq_false'→nh,not_false→fy,not_true→dS,or_eq_false_iff→kj,or_self→iR
open Classical renaming byContradiction→l9
open Int renaming lt_trichotomy→yM
open List renaming drop_eq_getElem_cons→vC,drop_eq_nil_of_le→AJ,drop_length→vD,drop→ay,filter_cons→rz,foldl_cons→vE,getElem?_cons_succ→MV,getElem?_eq_getElem→gL,le_antisymm→AK,length_cons→cP,map_congr_left→CT,map_cons→dG,mem_append→iE,mem_cons→cQ,mem_filter→uf,mem_map→dp,nodup_cons→uh,nodup_nil→pJ,not_lt→yQ,not_mem_nil→rC,pairwise_cons→iT,pairwise_singleton→MX,perm_ext_iff_of_nodup→CU,replicate→ui,take→aN
open Nat renaming beq→aJ,le_refl→aU,lt_irrefl→cR,lt_succ_self→fK,mul_le_mul_right→uj,reduceAdd→aG,reduceBEq→aa,reduceLT→ah,reduceLeDiff→aV,succ_mul→uk,zero_le→cV,zero_lt_succ→eH
open Go.Op renaming bytesLess→c8
open Option renaming bind_eq_some_iff→az,bind_some→bn,getD_some→fq,isSome_iff_exists→rE
open Prod.mk renaming injEq→bj
open Go.Ag.aM renaming of2→dz
open Go.Proofs.Tryz renaming prog→ar
open Go.Ag.W renaming reg→bH,ret→bo,seq→aC,sreg→aw
namespace Go.Proofs.YtnnppcoplinajaaGreat
open Go.Ag
def yC:ae->ae
 | .agg [.list n xs _]=>.agg [.list n xs .no]
 |v=>v
variable{v:ae}
def apm{G:Gh}{y:Value}(h:VR G v y):VR G (yC v) y:=by
 unfold yC;split;cases h with
 |agg hs hv=>
  cases hv with
  |cons a b=>
   cases b;cases a with
   |list p1 p2 p3 p4 p5 p6=>exact .agg rfl (.cons (.list p1 p2 p3 p4 p5 trivial) .nil)
 exact h
def MF{G:Gh}: ∀ {l:List ae} {ys:List Value},bP G l ys->bP G (l.map yC) ys
 | [],_,.nil=>.nil
 |_::_,_,.cons a b=>.cons (apm a) (MF b)
def Pw(l:List ae):Option ae:=
 bif oX (qh 9) l a1 then some r1 else bif oX (qh 9) l a2 then some r2 else bif oX (qh 9) l a3 then some r3 else bif oX (qh 9) l a4 then some r4 else none
def JE:Sp:=fun l=>Pw (l.map yC)
def JF:Sp:=fun l=>bif oX (qh 9) (l.map yC) a5 then some r5 else none
def one_pos: ∀i,0<su [] i 1:=fun _=>Nat.zero_lt_one
def ac0:cq ar 47 JE:=by
 intro args u hv G h w xs wr hx;have hx:=MF hx;unfold JE Pw at hv;generalize args.map yC=l at hv hx;cases h1:oX (qh 9) l a1 with
 |true=>
  rw[h1] at hv;have h1:=vZ (fun a b=>zq 9) h1;subst h1;injection hv with hv;subst hv
  exact Ca a1 r1 m1 G h w xs wr hx
 |false=>
 rw[h1] at hv;cases h2:oX (qh 9) l a2 with
 |true=>
  rw[h2] at hv;have h2:=vZ (fun a b=>zq 9) h2;subst h2;injection hv with hv;subst hv
  exact Ca a2 r2 m2 G h w xs wr hx
 |false=>
 rw[h2] at hv;cases h3:oX (qh 9) l a3 with
 |true=>
  rw[h3] at hv;have h3:=vZ (fun a b=>zq 9) h3;subst h3;injection hv with hv;subst hv
  exact Ca a3 r3 m3 G h w xs wr hx
 |false=>
 rw[h3] at hv;cases h4:oX (qh 9) l a4 with
 |false=>rw[h4] at hv;cases hv
 |true=>
  rw[h4] at hv;have h4:=vZ (fun a b=>zq 9) h4;subst h4;injection hv with hv;subst hv
  exact Ca a4 r4 m4 G h w xs wr hx
def ac1:cq ar 50 JF:=by
 intro args u hv G h w xs wr hx;have hx:=MF hx;unfold JF at hv;generalize args.map yC=l at hv hx;obtain⟨h1,hv⟩:=bm hv;have h1:=vZ (fun a b=>zq 9) h1;subst h1;injection hv with hv;subst hv
 refine U8 Wr (fun i=>?_) (aU 1) m5 (args':=a5) (by kernel_rfl) (by kernel_rfl) G h w xs wr hx
 match i with
 |0=>decide
 |i+1=>exact Nat.zero_lt_one
def M4:du:=(47,JE)::(50,JF)::HT
def Ws:dc M4:=.cons ac0 (.cons ac1 Wu)
def aaD:zr M4 [] [] 3000 45 []=some (.bool true,0):=by kernel_rfl
def DL:Sp
 | []=>some (.bool true)
 |_=>none
def ac2:cq ar 45 DL:=by
 intro args v hv G h w xs wr hx;cases args with
 |nil=>
  injection hv with hv;subst hv
  exact U8 Ws one_pos (aU 0) (fun c hc=>by cases hc;exact aaD) (args':=[]) rfl rfl G h w xs wr hx
 |cons _ _=>cases hv
def uF(a b c:List Obj):Bool:=bif lM a 20 then bif lM b 20 then lM c 20 else false else false
variable{b:List Obj}{vb:ae}{sp:bC}
def abz(h8:sp 46=none)(h22:sp 33=some zw){va vc:ae}{a c:List Obj}(ha:aD 6 Obj.val va a)(hb:aD 6 Obj.val vb b)(hc:aD 6 Obj.val vc c)(ga: ∀q∈a,q.Al)(gb: ∀q∈b,q.Al)(gc: ∀q∈c,q.Al)(sa:a.length<small)(sb:b.length<small)(sc:c.length<small)(s:St):
 aM (QS sp) 46 [.agg [va],.agg [vb],.agg [vc]] s (.bool (uF a b c)) s:=by
 have ca:=ha.aL;have cb:=hb.aL;have cc:=hc.aL;have fa:=I9 ha ga sa 20;have fb:=I9 hb gb sb 20;have fc:=I9 hc gc sc 20;refine dz FI.1 FI.2 FI.3 FI.4 h8 ?_;refine aw ?_;simp only[ai,bv,bt,aa,ah,aG,aV,adr];refine aw ?_;cases h1:lM a 20 with
 |false=>
  simp only[ai,ax,cut,aN,ay,aa,ah,h22,fa,h1];exact bo ⟨rfl,.inr rfl,bz (by simp only[aq,aa,uF,h1]) rfl⟩
 |true=>
  cases h2:lM b 20 with
  |false=>
   simp only[ai,ax,cut,aN,ay,aa,ah,h22,fa,h1,fb,h2];exact bo ⟨rfl,.inr rfl,bz (by simp only[aq,aa,uF,h1,h2]) rfl⟩
  |true=>
   simp only[ai,ax,cut,aN,ay,aa,ah,h22,fa,h1,fb,h2,fc];exact bo ⟨rfl,.inr rfl,bz (by simp only[aq,aa,uF,h1,h2]) rfl⟩
def zu:Sp
 | [u,v,w]=>(jF u).bind fun a=>(jF v).bind fun b=>(jF w).bind fun c=>some (.bool (uF a b c))
 |_=>none
def abt{va vc:ae}{a c:List Obj}(ha:aD 6 Obj.val va a)(hb:aD 6 Obj.val vb b)(hc:aD 6 Obj.val vc c)(ga: ∀q∈a,q.Al)(gb: ∀q∈b,q.Al)(gc: ∀q∈c,q.Al)(sa:a.length<small)(sb:b.length<small)(sc:c.length<small):zu [.agg [va],.agg [vb],.agg [vc]]=some (.bool (uF a b c)):=by
 simp only[zu,lK ha ga sa,lK hb gb sb,lK hc gc sc,bn]
def FT:du:=[(33,zw)]
def Wh:dc FT:=.cons abv .nil
def abu:cq ar 46 zu:=by
 intro args x hv G h w xs wr hx;unfold zu at hv;split at hv;simp only[az,Option.some.injEq] at hv;obtain⟨a,h1,b,h2,c,h3,rfl⟩:=hv;obtain⟨va,rfl,ha,ga,sa⟩:=lJ h1;obtain⟨vb,rfl,hb,gb,sb⟩:=lJ h2;obtain⟨vc,rfl,hc,gc,sc⟩:=lJ h3;obtain⟨t1,va',w1,ha'⟩:=oq ha ga;obtain⟨t2,vb',w2,hb'⟩:=oq hb gb;obtain⟨t3,vc',w3,hc'⟩:=oq hc gc;have hw:ej [.agg [va],.agg [vb],.agg [vc]]=[.agg [va'],.agg [vb'],.agg [vc']]:=by simp only[ej,w1,w2,w3]
 exact eA (Q:=QT FT) (ep Wh) (fun _=>eH 1) (args:=[.agg [va],.agg [vb],.agg [vc]]) (v:=.bool (uF a b c)) (s':=s0) (by simp only[jn,t1,t2,t3,cH]) (by rw[hw];exact abz (sp:=fun f=>cI f FT) rfl rfl ha' hb' hc' ga gb gc sa sb sc s0) rfl ⟨1,rfl⟩ G h w xs wr hx;cases hv
def Ja{l:List Obj}(h:lM l 20=true):l.length<=64:=by
 unfold lM at h;cases hb:bG 20 (l.length:Nat) with
 |true=>rw[hb] at h;cases h
 |false=>
  have: ¬20<l.length:=by
   rw[show(20:Int)=((20:Nat):Int) from rfl,im] at hb;exact of_decide_eq_false hb
  omega
def Iq(c:Cf):vQ (cg c)=some c:=rfl
def CQ:eP.Al:=(lf (v:=eP.val) (by kernel_rfl)).2
def al1: ∀l:List Cf,aQ (fv 2 (l.map cg))=true
 | []=>rfl
 |a::l=>by
  have h: ∀l:List Cf,pures (l.map cg)=true:=by
   intro l
   induction l with
   |nil=>rfl
   |cons a l ih=>
    show(aQ (cg a)&&pures (l.map cg))=true;rw[ih];rfl
  show(pures ((a::l).map cg)&&true)=true;rw[h];rfl
def zK{p q:Option Obj}:gS p q=p\/gS p q=q:=by
 cases p with
 |none=>exact .inr rfl
 |some a=>
  cases q with
  |none=>exact .inl rfl
  |some b=>
   simp only[gS];cases bG (tk b a) 0 with
   |true=>exact .inr rfl
   |false=>exact .inl rfl
variable{pb po pt:Option Obj}{k:ak}
def SP(hb: ∀o,pb=some o->o.id=k)(ho: ∀o,po=some o->o.id=k)(ht: ∀o,pt=some o->o.id=k): ∀q,dl pb po pt=some q->q.id=k:=by
 have hl: ∀q,gS po pt=some q->q.id=k:=fun q h=>by
  rcases zK (p:=po) (q:=pt) with e|e
  rw[e] at h;exact ho q h;rw[e] at h;exact ht q h
 intro q h;unfold dl at h;cases h1:cU po pt||cU pt pb with
 |true=>rw[h1] at h;exact ho q h
 |false=>
  rw[h1] at h;cases h2:cU po pb with
  |true=>rw[h2] at h;exact ht q h
  |false=>
   rw[h2] at h;simp only[cF] at h;split at h;rename_i b o t;cases h3:aK o.uP b.uP&&aK t.uP b.uP with
   |true=>
    rw[h3] at h;have h:=sI h;rw[<-h];have hid:(jK b o t).id=b.id:=by
     unfold jK;cases ia b o t<;>rfl
    exact hid.trans (hb b rfl)
   |false=>rw[h3] at h;exact hl q h
   exact hl q h
variable{o t:List Obj}{q:Obj}
def api(h:eN b o t k=some q):q.id=k:=by
 unfold eN at h;cases hm:ee b o t k with
 |some q'=>
  rw[hm] at h;have h:=sI h;rw[<-h];exact SP (fun _ h=>(iO h).2) (fun _ h=>(iO h).2) (fun _ h=>(iO h).2) q' hm
 |none=>
  rw[hm] at h;simp only[fS] at h;cases hb:bc k b with
  |some q'=>
   rw[hb] at h;have h:=sI h;rw[<-h];exact(iO hb).2
  |none=>
   rw[hb] at h;rcases zK (p:=bc k o) (q:=bc k t) with e|e
   have h:gS (bc k o) (bc k t)=some q:=h;rw[e] at h;exact(iO h).2;have h:gS (bc k o) (bc k t)=some q:=h;rw[e] at h;exact(iO h).2
def jh.some(h:jh b o t k): ∃q,eN b o t k=some q:=by
 rcases h with h|h
 obtain⟨q,hq⟩:=rE.1 h;exact⟨q,by simp only[eN,hq]⟩;obtain⟨q,hq⟩:=rE.1 h.no.2;exact⟨q,by simp only[eN,h.no.1,hq]⟩
def TR(h:jh b o t k):(pn b o t k).id=k:=by
 obtain⟨q,hq⟩:=h.some;simp only[pn,hq,fq];exact api hq
def Tb{f:ak->Obj}{k:ak}: ∀ {ks:List ak},(∀j∈ks,(f j).id=j)->(k∈ks->bc k (ks.map f)=some (f k))/\(k ∉ ks->bc k (ks.map f)=none)
 | [],_=>⟨fun h=>(by cases h),fun _=>rfl⟩
 |a::ks,h=>by
  obtain⟨h1,h2⟩:=Tb (f:=f) (k:=k) (ks:=ks) fun j hj=>h j (by simp[hj]);have ha:=h a (by simp);simp only[dG,bc,ha];cases hk:k==a with
  |true=>
   have:=eq_of_beq hk;subst this;exact⟨fun _=>rfl,fun hn=>absurd (List.mem_cons_self) hn⟩
  |false=>
   have hne:k≠a:=bN.1 hk;exact⟨fun hm=>h1 ((cQ.1 hm).resolve_left hne),fun hn=>h2 fun hm=>hn (List.mem_cons_of_mem _ hm)⟩
def Tc:(jh b o t k->bc k (jH b o t)=eN b o t k)/\(¬jh b o t k->bc k (jH b o t)=none):=by
 have hmem: ∀j,j∈eX (qw b o t)↔jh b o t j:=fun j=>(lr _).mem_iff.trans Gd;have h:=Tb (f:=pn b o t) (k:=k) (ks:=eX (qw b o t)) fun j hj=>TR ((hmem j).1 hj);refine⟨fun hi=>?_,fun hn=>h.2 fun hm=>hn ((hmem k).1 hm)⟩;obtain⟨q,hq⟩:=hi.some;have h1:bc k (jH b o t)=some (pn b o t k):=h.1 ((hmem k).2 hi);rw[h1,hq];simp only[pn,hq,fq]
variable{c:Cf}
def ai5:c∈oV b o t↔(∃k,c∈kF b o t k)\/ ∃k,Reach b o t k/\c=(k,dw):=(vu _).mem_iff.trans SK
def aju(gb: ∀o,pb=some o->o.Al)(go: ∀o,po=some o->o.Al)(gt: ∀o,pt=some o->o.Al)(vb:lB pb)(vo:lB po)(vt:lB pt): ∀q,dl pb po pt=some q->q.Al:=by
 intro q h;have hl:=KS go gt;unfold dl at h;cases h1:cU po pt||cU pt pb with
 |true=>rw[h1] at h;exact go q h
 |false=>
  rw[h1] at h;cases h2:cU po pb with
  |true=>rw[h2] at h;exact gt q h
  |false=>
   rw[h2] at h;simp only[cF] at h;split at h;rename_i b o t;cases h3:aK o.uP b.uP&&aK t.uP b.uP with
   |true=>
    rw[h3] at h;have h:=sI h;rw[<-h];exact Bo (gb b rfl) (go o rfl) (gt t rfl) (vb b rfl) (vo o rfl) (vt t rfl)
   |false=>rw[h3] at h;exact hl q h
   exact hl q h
def pP.ga(h:pP b o t)(k:ak):(∀q,bc k b=some q->q.Al)/\(∀q,bc k o=some q->q.Al)/\(∀q,bc k t=some q->q.Al):=⟨fun q hq=>h.gb q (iO hq).1,fun q hq=>h.go q (iO hq).1,fun q hq=>h.gt q (iO hq).1⟩
def aph(h:pP b o t)(hq:eN b o t k=some q):q.Al:=by
 obtain⟨g1,g2,g3⟩:=h.ga k;unfold eN at hq;cases hm:ee b o t k with
 |some q'=>
  rw[hm] at hq;have hq:=sI hq;rw[<-hq];exact aju g1 g2 g3 (uY h.vb k) (uY h.vo k) (uY h.vt k) q' hm
 |none=>
  rw[hm] at hq;simp only[fS] at hq;cases hb:bc k b with
  |some q'=>rw[hb] at hq;have hq:=sI hq;rw[<-hq];exact g1 q' hb
  |none=>rw[hb] at hq;exact KS g2 g3 q hq
def SN(h:pP b o t): ∀q∈jH b o t,q.Al:=by
 intro q hq;obtain⟨k,hk,rfl⟩:=dp.1 hq;have hi:jh b o t k:=Gd.1 ((lr _).mem_iff.1 hk);obtain⟨q,hq⟩:=hi.some;simp only[pn,hq,fq];exact aph h hq
def ajq(h:pP b o t):(jH b o t).length<=900:=by
 have h1:=alq b o t;have h2:(dg b o t).length=b.length+(o.length+t.length):=by simp[dg]
 have h3:=(lr (qw b o t)).length_eq
 have:=h.lb
 have:=h.lo
 have:=h.lt;unfold jH;rw[List.length_map];omega
def ZU(h:pP b o t):(oV b o t).length<=1000000:=by
 have h1:=OG (uY h.vb) (uY h.vo) (uY h.vt);have h2:(dg b o t).length=b.length+(o.length+t.length):=by simp[dg]
 have h3:=(vu (rR b o t)).length_eq
 have:=h.lb
 have:=h.lo
 have:=h.lt;unfold oV;omega
def Vl{l:List ak}(h1:l.Pairwise fun a b=>lk a b=true)(h2:l.Nodup):l.Pairwise fun a b=>c8 a b=true:=by
 refine(h1.and h2).imp ?_;rintro a b ⟨h,hne⟩;rw[Go.Proofs.bytesLess_eq,dE];simp only[lk,dE] at h;exact l9 fun hc=>hne (AK h (yQ.1 hc))
def xo: ∀(l:List be) (K:List ak),K.Nodup->(jP l K).Nodup
 | [],_,h=>h
 |t::r,K,h=>xo r (iW t.1 K) (NF h)
def Tk:ef q=true↔kI q=false/\nk q.uP [] [] q.gE=false/\(bif aK q.uP 1 then(q.gE.length==0)&&kM q.x q.y else bif aK q.uP 5 then(q.gE.length==3)&&t8 q else t8 q)=true:=by
 unfold ef;cases kI q with
 |true=>simp
 |false=>cases nk q.uP [] [] q.gE<;>simp
def XS(h:ef q=true):(aK q.uP 1=true->kM q.x q.y=true)/\(aK q.uP 1=false->(aK q.x 0&&aK q.y 0)=true):=by
 obtain⟨_,_,h3⟩:=Tk.1 h;refine⟨fun e=>?_,fun e=>?_⟩;rw[e] at h3;simp only[cT,bA] at h3;exact h3.2;rw[e] at h3;cases h5:aK q.uP 5 with
 |true=>
  rw[h5] at h3;simp only[cz,bA] at h3
  have:=h3.2;unfold t8 at this;exact this
 |false=>rw[h5] at h3;exact h3
def Tn: ∀(l:List Obj) (last:ak),mX last l=true-> ∀q∈l,ef q=true
 | [],_,_,q,h=>by cases h
 |o::r,last,h,q,hq=>by
  simp only[mX] at h;cases hb:(!ef o||Ag.leBytes o.id last) with
  |true=>rw[hb] at h;cases h
  |false=>
   rw[hb] at h;rcases cQ.1 hq with rfl|hq
   simp only[kj,nh] at hb;exact hb.1;exact Tn r o.id h q hq
def Zx(a b:Int):gp b a= -gp a b:=by
 unfold gp bG;rcases yM a b with h|h|h
 rw[dQ h,dN (show¬b<a by omega)];rfl;subst h;rw[dN (Int.lt_irrefl a)];rfl;rw[dQ h,dN (show¬a<b by omega)];rfl
def ZA{a b:Int}(h:gp a b=0):a=b:=by
 unfold gp bG at h;rcases yM a b with h1|h1|h1
 rw[dQ h1] at h;simp at h;exact h1;rw[dQ h1,dN (show¬a<b by omega)] at h;simp at h
def Bd: ∀(a b:ak),dv a b<0↔c8 a b=true
 | [],[]=>by simp[dv,Go.Proofs.bytesLess_eq]
 | [],y::b=>by rw[Go.Proofs.bytesLess_eq,dE];simp[dv]
 |x::a,[]=>by rw[Go.Proofs.bytesLess_eq,dE];simp[dv]
 |x::a,y::b=>by
  have ih:=Bd a b;rw[Go.Proofs.bytesLess_eq,dE] at ih ⊢;rw[List.cons_lt_cons_iff,UInt8.lt_iff_toNat_lt,<-UInt8.toNat_inj];simp only[dv,jU];rcases Nat.lt_trichotomy x.toNat y.toNat with h|h|h
  simp[h];simp only[h,cR,dF,cF,false_or,tA];exact ih;simp only[cz,h,show¬x.toNat<y.toNat by omega,show¬x.toNat=y.toNat by omega,dF,dT,false_or,false_and,iff_false];omega
variable{a:ak}
def R9{b:ak}(h:c8 a b=true):c8 b a=false:=by
 rw[Go.Proofs.bytesLess_eq,dE] at h;rw[Go.Proofs.bytesLess_eq];exact dN (List.lt_asymm h)
def ZD(a b:ak):kG b a= -kG a b:=by
 unfold kG;cases h:c8 a b with
 |true=>rw[R9 h];rfl
 |false=>cases c8 b a<;>rfl
def ZG{b:ak}(h:kG a b=0):a=b:=by
 unfold kG at h;cases h1:c8 a b with
 |true=>rw[h1] at h;simp at h
 |false=>
  cases h2:c8 b a with
  |true=>rw[h1,h2] at h;simp at h
  |false=>
   rw[Go.Proofs.bytesLess_eq] at h1 h2;exact AK (yQ.1 (of_decide_eq_false h2)) (yQ.1 (of_decide_eq_false h1))
def adO(a:Int):aK (-a) 0=aK a 0:=by
 by_cases h:a=0;subst h;rfl;rw[iy h,iy (by omega)]
def OD: ∀a b:List ak,gQ b a= -gQ a b
 | [],[]=>rfl
 | [],_::_=>rfl
 |_::_,[]=>rfl
 |a::x,b::y=>by
  simp only[gQ,ZD a b,adO,OD x y];cases aK (kG a b) 0<;>rfl
def HO(l:List (Nat×Nat)):Prop:=l.Pairwise fun a b=>a.1<b.1
variable{i:Nat}
def kB.asc{la lb k:Nat}{l:List (Nat×Nat)}(h:kB la lb i k l):(∀x∈l,i<=x.1)/\HO l:=by
 induction h with
 |nil=>exact⟨fun x h=>(by cases h),.nil⟩
 |cons a b c d e ih=>
  refine⟨fun x hx=>?_,iT.2 ⟨fun x hx=>?_,ih.2⟩⟩;rcases cQ.1 hx with rfl|hx
  exact a
  have:=ih.1 x hx;omega
  have:=ih.1 x hx;show _<_;omega
def B9{N:List (Nat×Nat)}{p q r:Nat}: ∀ {M:List (Nat×Nat)},(p,q,r)∈iB N M↔(p,q)∈M/\e7 p N=some r
 | []=>by simp[iB]
 |(a,b)::M=>by
  have ih:=B9 (N:=N) (p:=p) (q:=q) (r:=r) (M:=M);simp only[iB];cases h:e7 a N with
  |none=>
   simp only[ih,cQ,bj];constructor;exact fun x=>⟨.inr x.1,x.2⟩;rintro⟨⟨rfl,rfl⟩|x,y⟩;rw[h] at y;cases y;exact⟨x,y⟩
  |some k=>
   simp only[cQ,ih,bj];constructor;rintro(⟨rfl,rfl,rfl⟩|⟨x,y⟩);exact⟨.inl ⟨rfl,rfl⟩,h⟩;exact⟨.inr x,y⟩;rintro⟨⟨rfl,rfl⟩|x,y⟩;rw[h] at y;exact .inl ⟨rfl,rfl,(sI y).symm⟩;exact .inr ⟨x,y⟩
def KW{p r:Nat}: ∀ {N:List (Nat×Nat)},HO N->(e7 p N=some r↔(p,r)∈N)
 | [],_=>by simp[e7]
 |(a,b)::N,h=>by
  have h:=iT.1 h;have ih:=KW (p:=p) (r:=r) h.2;simp only[e7,fe,cQ,bj];by_cases e:p=a;subst e;rw[bS];constructor;exact fun x=>.inl ⟨rfl,(sI x).symm⟩;rintro(⟨_,rfl⟩|x);rfl;exact absurd (h.1 _ x) (cR _);rw[bN.2 e];simp only[cF,ih,e,false_and,false_or]
def Va{N:List (Nat×Nat)}: ∀ {M:List (Nat×Nat)},HO M->(iB N M).Pairwise fun a b=>a.1<b.1
 | [],_=>.nil
 |(a,b)::M,h=>by
  have h:=iT.1 h;have ih:=Va (N:=N) h.2;simp only[iB];cases e7 a N with
  |none=>exact ih
  |some k=>
   refine iT.2 ⟨fun x hx=>?_,ih⟩;obtain⟨p,q,r⟩:=x;exact h.1 (p,q) (B9.1 hx).1
def rl(k d:ak)(l:List be):ak:=l.foldl (fun d t=>bif k==t.1 then t.2 else d) d
def Uf{k y z:ak}: ∀(l:List be) (V:ak->List ak) (x:ak),V k=[x,y,z]->vl 0 l V k=[rl k x l,y,z]
 | [],_,_,h=>h
 |t::l,V,x,h=>by
  refine(Uf (k:=k) (y:=y) (z:=z) l (oA t.1 0 t.2 V) (bif k==t.1 then t.2 else x) ?_);unfold oA;cases k==t.1 with
  |true=>rw[h];rfl
  |false=>exact h
def Ug{k x z:ak}: ∀(l:List be) (V:ak->List ak) (y:ak),V k=[x,y,z]->vl 1 l V k=[x,rl k y l,z]
 | [],_,_,h=>h
 |t::l,V,y,h=>by
  refine(Ug (k:=k) (x:=x) (z:=z) l (oA t.1 1 t.2 V) (bif k==t.1 then t.2 else y) ?_);unfold oA;cases k==t.1 with
  |true=>rw[h];rfl
  |false=>exact h
def Uh{k x y:ak}: ∀(l:List be) (V:ak->List ak) (z:ak),V k=[x,y,z]->vl 2 l V k=[x,y,rl k z l]
 | [],_,_,h=>h
 |t::l,V,z,h=>by
  refine(Uh (k:=k) (x:=x) (y:=y) l (oA t.1 2 t.2 V) (bif k==t.1 then t.2 else z) ?_);unfold oA;cases k==t.1 with
  |true=>rw[h];rfl
  |false=>exact h
def apl(b o t:List be)(k:ak):rp b o t k=[rl k [] b,rl k [] o,rl k [] t]:=Uh t _ [] (Ug o _ [] (Uf b _ [] rfl))
section
variable{b o t:List Obj}
def ahead(a c:Cf):Bool:=c8 a.1 c.1||(a.1==c.1&&c8 a.2 c.2)
def NM{a:Cf}(h:fH a c<0):ahead a c=true:=by
 rw[xE] at h;unfold ahead;by_cases hz:dv a.1 c.1=0;rw[iP hz] at h;rw[Be hz,bS,(Bd _ _).1 h];simp;rw[iN hz] at h;rw[(Bd _ _).1 h];rfl
def ZV:(oV b o t).Pairwise fun a c=>ahead a c=true:=by
 have h1:=CG (rR b o t);have h2:(ic (rR b o t)).Nodup:=(vu _).nodup_iff.2 (OH b o t);refine(h1.and h2).imp ?_;rintro a c ⟨h,hne⟩;simp only[ltOf,Bool.not_eq_true',decide_eq_false_iff_not] at h;refine NM ?_;rw[Bf a c] at h;rcases yM (fH a c) 0 with p|p|p
 exact p;exact absurd (Dr p) hne;omega
end
def Za(a b:ak):d8 ar .neq 143 (.agg [.str a,.str b]) (.agg [.str a,.str b])=some (.bool false):=by
 have h:rX ar 143 (.agg [.str a,.str b]) (.agg [.str a,.str b])=(some (a==a)).bind fun r=>bif r then(some (b==b)).bind fun r=>bif r then some true else some false else some false:=by kernel_rfl
 rw[Il,h,bS,bS];rfl
variable{l:List Cf}{s:St}{u:ae}
section
variable{sp:bC}
def Zd(hl:aD 2 cg v l)(hu:aD 2 cg u l)(hs:l.length<=1000000)(hm:s.ge<=s.al){lc:Ag.Loc}: ∀(rest pre:List Cf) (e:aI),l=pre++rest->
 aj e 0=v->aj e 1=u->aj e 5= .int .i64 (pre.length:Nat)->
 W (QS sp) 49 (.loop ahl) ⟨e,26,lc⟩ s fun x fr s'=>s'=s/\fr.size=26/\x= .exit 0:=by
 intro rest;have hcl:=hl.aL;have hcu:=hu.aL;have hln:=fun mk s=>hl.len BW BV mk s
 induction rest with
 |nil=>
  intro pre e hpre h0 h1 h5;have hll:l.length=pre.length:=by rw[hpre];simp
  refine W.loop1 ?_;refine aC (aC (bH ?_));simp only[ai,aA,aa,ah,JL,h0,h5,hcl,hln,hll,cR];refine W.cnFZ ?_;exact W.exit ⟨rfl,rfl,rfl⟩
 |cons c rest ih=>
  intro pre e hpre h0 h1 h5;obtain⟨a,w⟩:=c;have hlt:pre.length<l.length:=by rw[hpre];simp
  have hat:l[pre.length]? =some (a,w):=by rw[hpre];simp
  have hia:=fun lc=>hl.at DR hat lc .i64;have hiu:=fun lc=>hu.at DR hat lc .i64;have hce:(cg (a,w)).cells=[.str a,.str w]:=rfl;have hwr:=eE (n:=pre.length) (by omega);refine W.loop1 ?_;refine aC (aC (bH ?_));simp only[ai,aA,aa,ah,JL,h0,h5,hcl,hln,hlt];refine W.cnTZ (W.skip ?_);simp only[bM];refine aC (W.block (W.sdrawQ hm ?_));simp only[ai,ax,isStore,cut,aN,ay,aa,ah,aG,h0,h1,h5,hia,hiu,hce,Za];refine W.cnSZ ?_;simp only[dA];refine bH ?_;simp only[ai,aA,aa,ah,h5,hwr];refine ih (pre++[(a,w)]) _ (by rw[hpre];simp) ?_ ?_ ?_
  all_goals simp only[aq,cK,aa,h0,h1]
def Zf(h11:sp 49=none)(hl:aD 2 cg v l)(hu:aD 2 cg u l)(hs:l.length<=1000000)(hm:s.ge<=s.al):aM (QS sp) 49 [v,u] s (.bool true) s:=by
 have hcl:=hl.aL;have hcu:=hu.aL;have hln:=fun mk s=>hl.len BW BV mk s;have hlu:=fun mk s=>hu.len BW BV mk s;refine dz FP.1 FP.2 FP.3 FP.4 h11 ?_;refine aw ?_;simp only[ai,bv,bt,ah,aG,aV];refine aC (aC (bH ?_));simp only[ai,aA,aa,ah,JL,hcl,hcu,hln,hlu,qQ];refine W.cnSZ ?_;simp only[bM];refine aC (aC (bH ?_));simp only[cG,hQ,ah,bM];refine W.block ?_;refine(Zd hl hu hs hm l [] _ rfl ?_ ?_ ?_).mono ?_;simp only[aq,aa];simp only[aq,aa];simp only[aq,aa];rfl;rintro x ⟨e,sz,lc⟩ s' ⟨rfl,hz,rfl⟩;have hz:sz=26:=hz;subst hz;show W (QS sp) 49 _ _ _ _;refine aw ?_;simp only[cG,gV,ah];exact bo ⟨rfl,.inr rfl,bz (by simp only[ik,aa]) rfl⟩
end
def zd:Sp
 | [v,u]=>bif aQ v&&aQ u then(fF 2 vQ v).bind fun l=>(fF 2 vQ u).bind fun r=>if l=r/\l.length<=1000000 then some (.bool true) else none else none
 |_=>none
def Zb(h:aD 2 cg v l)(h2:aD 2 cg u l)(hp:aQ v=true)(hp2:aQ u=true)(hs:l.length<=1000000):zd [v,u]=some (.bool true):=by
 simp only[ce,zd,hp,hp2,cH,i8 Iq h,i8 Iq h2,tA,iP hs]
def Zc:cq ar 49 zd:=by
 intro args x hv G h w xs wr hx;unfold zd at hv;split at hv;rename_i v u;obtain⟨hp,hv⟩:=bm hv;simp only[bA] at hp;simp only[az] at hv;obtain⟨l,h1,r,h2,hv⟩:=hv;split at hv;rename_i he;obtain⟨rfl,hs⟩:=he;injection hv with hv;subst hv
 have hl:=ij (fun v a=>A2) h1;have hu:=ij (fun v a=>A2) h2;have hpp:pures [v,u]=true:=by simp only[pures,hp.1,hp.2];rfl
 exact eA (Q:=QT []) (ep .nil) (fun _=>eH 1) (args:=[v,u]) (v:=.bool true) (s':=s0) (kh hpp) (by rw[gK hpp];exact Zf (sp:=fun f=>cI f []) rfl hl hu hs (aU _)) rfl ⟨1,rfl⟩ G h w xs wr hx;cases hv;cases hv
def qB(b o t:List Obj):Bool:=gU b&&(gU o&&gU t)
def A4:ae:=.tup [.agg [.AL],.AL]
def XV(h9:sp 47=none)(h13:sp 31=some uW){vo vt:ae}(hb:aD 6 Obj.val vb b)(ho:aD 6 Obj.val vo o)(ht:aD 6 Obj.val vt t)(gb: ∀q∈b,q.Al)(go: ∀q∈o,q.Al)(gt: ∀q∈t,q.Al)(sb:b.length<small)(so:o.length<small)(st:t.length<small)(hv:qB b o t=false)(s:St):
 aM (QS sp) 47 [.agg [vb],.agg [vo],.agg [vt]] s A4 s:=by
 have cb:=hb.aL;have co:=ho.aL;have ct:=ht.aL;have hvb:=zN hb gb sb;have hvo:=zN ho go so;have hvt:=zN ht gt st;refine dz wx.1 wx.2 wx.3 wx.4 h9 ?_;refine aw ?_;simp only[ai,ax,bv,bt,aa,ah,aG,aV,uR,ofValue,aX];have done: ∀(e':aI) (lc':Ag.Loc) (KK:Ex->Fr->St->Prop),aj e' 31= .bool true->aj e' 6= .Ge 6 1 0->lc'.gen 6=1->lc'.get 6 1=some [.AL]->(∀e2 lc2,aj e2 6= .Ge 6 1 0->lc2.get 6 1=some [.AL]->aj e2 7= .AL->KK .ret ⟨e2,132,lc2⟩ s)->W (QS sp) 47 (.cond (Operand.tmp 31) (.seq (.region RD) .ret) .skip) ⟨e',132,lc'⟩ s KK:=by
  intro e' lc' KK h31 h6 g6 l6 hk;refine W.cond (t:=true) (by simp only[bq,h31]) (aw ?_);simp only[ai,ax,bu,aN,ay,aa,ah,aV,ofValue,aX,cS,h6,l6];refine bo (hk _ _ ?_ ?_ ?_);simp only[au,aa,h6];simp only[ew,bS,cT];simp only[aq,aa]
 refine aC (aC (bH ?_));cases h1:gU b with
 |false=>
  rw[h1] at hvb;simp only[ai,ax,aA,cut,aN,ay,aa,ah,h13,hvb];refine done _ _ _ ?_ ?_ ?_ ?_ (fun e2 lc2 q6 l6 q7=>⟨rfl,.inr rfl,G8 rfl (ov:=.AL) (w:=.AL) q6 l6 q7 rfl⟩);simp only[aq,aa];simp only[aq,aa];simp only[cz,gi,eZ,aa];simp only[cz,ew,aa,bS]
 |true=>
  rw[h1] at hvb;cases h2:gU o with
  |false=>
   rw[h2] at hvo;simp only[ai,ax,aA,cut,aN,ay,aa,ah,h13,hvb,hvo];refine done _ _ _ ?_ ?_ ?_ ?_ (fun e2 lc2 q6 l6 q7=>⟨rfl,.inr rfl,G8 rfl (ov:=.AL) (w:=.AL) q6 l6 q7 rfl⟩);simp only[aq,aa];simp only[aq,aa];simp only[cz,gi,eZ,aa];simp only[cz,ew,aa,bS]
  |true=>
   rw[h2] at hvo;have h3:gU t=false:=by rw[qB,h1,h2] at hv;exact hv
   rw[h3] at hvt;simp only[ai,ax,aA,cut,aN,ay,aa,ah,h13,hvb,hvo,hvt];refine done _ _ _ ?_ ?_ ?_ ?_ (fun e2 lc2 q6 l6 q7=>⟨rfl,.inr rfl,G8 rfl (ov:=.AL) (w:=.AL) q6 l6 q7 rfl⟩);simp only[aq,aa];simp only[aq,aa];simp only[cz,gi,eZ,aa];simp only[cz,ew,aa,bS]
def A5:Sp
 | [u,v,w]=>(jF u).bind fun b=>(jF v).bind fun o=>(jF w).bind fun t=>bif qB b o t then none else some A4
 |_=>none
def H1:du:=[(31,uW)]
def WV:dc H1:=.cons K7 .nil
def XX{vo vt:ae}(hb:aD 6 Obj.val vb b)(ho:aD 6 Obj.val vo o)(ht:aD 6 Obj.val vt t)(gb: ∀q∈b,q.Al)(go: ∀q∈o,q.Al)(gt: ∀q∈t,q.Al)(sb:b.length<small)(so:o.length<small)(st:t.length<small)(hv:qB b o t=false):A5 [.agg [vb],.agg [vo],.agg [vt]]=some A4:=by
 simp only[A5,lK hb gb sb,lK ho go so,lK ht gt st,bn,hv,cF]
def XY:cq ar 47 A5:=by
 intro args x hv G h w xs wr hx;unfold A5 at hv;split at hv;rename_i a1 a2 a3;simp only[az] at hv;obtain⟨b,h1,o,h2,t,h3,hv⟩:=hv;cases hc:qB b o t with
 |true=>rw[hc] at hv;cases hv
 |false=>
  rw[hc] at hv;have hv:=sI hv;subst hv;obtain⟨vb,rfl,hb,hgb,hsb⟩:=lJ h1;obtain⟨vo,rfl,ho,hgo,hso⟩:=lJ h2;obtain⟨vt,rfl,ht,hgt,hst⟩:=lJ h3;obtain⟨t1,vb',w1,hb'⟩:=oq hb hgb;obtain⟨t2,vo',w2,ho'⟩:=oq ho hgo;obtain⟨t3,vt',w3,ht'⟩:=oq ht hgt;have hw:ej [.agg [vb],.agg [vo],.agg [vt]]=[.agg [vb'],.agg [vo'],.agg [vt']]:=by simp only[ej,w1,w2,w3]
  exact eA (Q:=QT H1) (ep WV) (fun _=>eH 1) (args:=[.agg [vb],.agg [vo],.agg [vt]]) (v:=A4) (s':=s0) (by simp only[jn,t1,t2,t3,cH]) (by rw[hw];exact XV (sp:=fun f=>cI f H1) rfl rfl hb' ho' ht' hgb hgo hgt hsb hso hst hc s0) rfl ⟨4,rfl⟩ G h w xs wr hx
 cases hv
noncomputable def ya:Sp:=fun args=>(qq args).or (A5 args)
def ajs:cq ar 47 ya:=by
 intro args x hv;unfold ya at hv;cases h:qq args with
 |some v=>rw[h] at hv;rw[<-sI hv];exact Ca args v h
 |none=>rw[h] at hv;exact XY args x hv
def dV(k:ak):List be->Option ak
 | []=>none
 |t::l=>bif t.1==k then some t.2 else dV k l
def ip(k v:ak):Bool->List be->List be
 |d,[]=>bif d then [] else [(k,v)]
 |d,t::l=>bif !d&& !c8 t.1 k then(k,v)::(bif t.1==k then ip k v true l else t::ip k v true l) else bif t.1==k then ip k v d l else t::ip k v d l
def sw(a x y:ak):ak×Bool:=bif x==y||y==a then(x,false) else bif x==a then(y,false) else(a,true)
def vv(b o t:List be)(k:ak)(st:List be×List ak):List be×List ak:=
 let r:=sw ((dV k b).getD []) ((dV k o).getD []) ((dV k t).getD [])
 let GE:= !(r.1== [])&&(st.1.length==60)
 (bif r.1== []||GE then st.1 else st.1++[(k,r.1)],bif r.2||GE then st.2++[k] else st.2)
def oc(l:List be)(K:List be):List be:=l.foldl (fun K t=>ip t.1 t.2 (t.2== []) K) K
def AA(b o t:List be):List be×List ak:=((oc (b++o++t) []).map (·.1)).foldl (fun st k=>vv b o t k st) ([],[])
def wg(k:ak):List ak->List ak
 | []=>[k]
 |a::r=>bif c8 a k then a::wg k r else bif a==k then a::r else k::a::r
def rK(l:List ak):Prop:=l.Pairwise fun a b=>c8 a b=true
def FY{b c:ak}(h1:c8 a b=true)(h2:c8 b c=true):c8 a c=true:=by
 rw[Go.Proofs.bytesLess_eq,dE] at h1 h2 ⊢;exact List.lt_trans h1 h2
def KT{b:ak}(h1:c8 a b=false)(h2:a≠b):c8 b a=true:=by
 rw[Go.Proofs.bytesLess_eq] at h1 ⊢;have h1:=of_decide_eq_false h1;exact dQ (l9 fun hc=>h2 (AK (yQ.1 hc) (yQ.1 h1)))
def Lc{k x:ak}: ∀ {l:List ak},x∈wg k l↔x=k\/x∈l
 | []=>by simp[wg]
 |a::r=>by
  simp only[wg];cases c8 a k with
  |true=>
   simp only[cT,cQ,Lc (l:=r)];constructor;rintro(h|h|h)<;>simp[h];rintro(h|h|h)<;>simp[h]
  |false=>
   simp only[cF];cases he:a==k with
   |true=>
    rw[eq_of_beq he];simp
   |false=>simp
def P5{k:ak}: ∀ {l:List ak},rK l->rK (wg k l)
 | [],_=>MX _ _
 |a::r,h=>by
  have h0:=h;have h:=iT.1 h;simp only[wg];cases hl:c8 a k with
  |true=>
   refine iT.2 ⟨fun x hx=>?_,P5 h.2⟩;rcases Lc.1 hx with rfl|hx
   exact hl;exact h.1 x hx
  |false=>
   simp only[cF];cases he:a==k with
   |true=>exact h0
   |false=>
    have hka:=KT hl (bN.1 he);refine iT.2 ⟨fun x hx=>?_,h0⟩;rcases cQ.1 hx with rfl|hx
    exact hka;exact FY hka (h.1 x hx)
def LW{k v:ak}: ∀ {l:List be},(∀t∈l,t.1≠k)->ip k v true l=l
 | [],_=>rfl
 |t::l,h=>by
  have h1:(t.1==k)=false:=bN.2 (h t (by simp));simp only[ip,dS,Bool.false_and,cF,h1];rw[LW fun u hu=>h u (by simp[hu])]
def Ue{k v:ak}: ∀ {l:List be},rK (l.map (·.1))->(ip k v false l).map (·.1)=wg k (l.map (·.1))
 | [],_=>rfl
 |t::l,h=>by
  have h:=iT.1 h;simp only[ip,wg,dG,fy,Bool.true_and];cases hl:c8 t.1 k with
  |true=>
   have hne:(t.1==k)=false:=bN.2 fun e=>by rw[e,zL] at hl;cases hl
   simp only[cz,dS,hne,dG,Ue h.2]
  |false=>
   simp only[cz,fy];cases he:t.1==k with
   |true=>
    have e:=eq_of_beq he;simp only[cT,dG];rw[LW fun u hu e2=>?_,e];have this:c8 t.1 u.1=true:=h.1 u.1 (dp.2 ⟨u,hu,rfl⟩);rw[e2,e,zL] at this;cases this
   |false=>
    have hka:=KT hl (bN.1 he);simp only[cF,dG];rw[LW fun u hu e2=>?_]
    have:=FY hka (h.1 u.1 (dp.2 ⟨u,hu,rfl⟩));rw[e2,zL] at this;cases this
def RY: ∀(l K:List be),(∀t∈l,t.2≠ [])->rK (K.map (·.1))->rK ((oc l K).map (·.1))/\ ∀x,x∈(oc l K).map (·.1)↔x∈K.map (·.1)\/x∈l.map (·.1)
 | [],K,_,h=>⟨h,fun x=>by simp[oc]⟩
 |t::l,K,hv,h=>by
  have hne:(t.2== [])=false:=bN.2 (hv t (by simp));have e:oc (t::l) K=oc l (ip t.1 t.2 false K):=by
   unfold oc;rw[vE,hne]
  have hk:=Ue (k:=t.1) (v:=t.2) h;obtain⟨h1,h2⟩:=RY l (ip t.1 t.2 false K) (fun u hu=>hv u (by simp[hu])) (by rw[hk];exact P5 h);rw[e];refine⟨h1,fun x=>?_⟩;rw[h2,hk,Lc,dG,cQ];constructor;rintro((h|h)|h)<;>simp[h];rintro(h|h|h)<;>simp[h]
def VG: ∀(l:List be) (last:ak),m9 last l=true->(∀t∈l,t.2≠ [])/\(∀k∈l.map (·.1),c8 last k=true)/\rK (l.map (·.1))
 | [],_,_=>⟨fun t h=>(by cases h),fun k h=>(by cases h),.nil⟩
 |u::r,last,h=>by
  simp only[m9] at h;cases hb:lX last u with
  |true=>rw[hb] at h;cases h
  |false=>
   rw[hb] at h;simp only[lX,kj] at hb;obtain⟨h1,h2,h3⟩:=VG r u.1 h;have hl:c8 last u.1=true:=by rw[xX,hb.1.1.2];rfl
   refine⟨fun t ht=>?_,fun k hk=>?_,iT.2 ⟨h2,h3⟩⟩;rcases cQ.1 ht with rfl|ht
   exact bN.1 hb.1.2;exact h1 t ht;rcases cQ.1 hk with rfl|hk
   exact hl;exact FY hl (h2 k hk)
def Hr{l:List be}(h:cY l=true):(∀t∈l,t.2≠ [])/\rK (l.map (·.1)):=by
 simp only[cY,bA] at h;obtain⟨h1,_,h3⟩:=VG l [] h.1;exact⟨h1,h3⟩
def CI{l:List ak}(h:rK l):l.Nodup:=h.imp fun hab e=>by subst e;rw[zL] at hab;cases hab
def Vk{l r:List ak}(hl:rK l)(hr:rK r)(h: ∀x,x∈l↔x∈r):l=r:=by
 refine List.Perm.eq_of_pairwise (le:=fun a b=>c8 a b=true) (fun a b _ _ h1 h2=>?_) hl hr ((CU (CI hl) (CI hr)).2 h);rw[R9 h1] at h2;cases h2
def ahG{b o t:List be}(vb:cY b=true)(vo:cY o=true)(vt:cY t=true):(oc (b++o++t) []).map (·.1)=eX (lP b o t):=by
 have hv: ∀u∈b++o++t,u.2≠ []:=fun u hu=>by
  rcases iE.1 hu with hu|hu
  rcases iE.1 hu with hu|hu
  exact(Hr vb).1 u hu;exact(Hr vo).1 u hu;exact(Hr vt).1 u hu
 obtain⟨h1,h2⟩:=RY (b++o++t) [] hv .nil;refine Vk h1 (Vl (Hh _) ((lr _).nodup_iff.2 (xo _ _ (xo _ _ (xo _ _ pJ))))) fun x=>?_;rw[h2,(lr _).mem_iff,SL];simp only[List.map_nil,rC,false_or,List.map_append,iE,dp,or_assoc]
def VA{k:ak}: ∀ {l:List be} {d:ak},k ∉ l.map (·.1)->rl k d l=d
 | [],_,_=>rfl
 |t::l,d,h=>by
  simp only[dG,cQ,not_or] at h;have e:rl k d (t::l)=rl k (bif k==t.1 then t.2 else d) l:=rfl;rw[e,bN.2 h.1];exact VA h.2
def Hq{k:ak}: ∀ {l:List be},(l.map (·.1)).Nodup->rl k [] l=(dV k l).getD []
 | [],_=>rfl
 |t::l,h=>by
  simp only[dG,uh] at h;have e:rl k [] (t::l)=rl k (bif k==t.1 then t.2 else []) l:=rfl;rw[e];simp only[dV];cases hk:t.1==k with
  |true=>
   have:=eq_of_beq hk;rw[<-this,bS,cT,VA h.1];rfl
  |false=>
   have:(k==t.1)=false:=bN.2 fun e=>(bN.1 hk) e.symm;rw[this];exact Hq h.2
def akr(a x y:ak):sw a x y=((jZ a x y).getD a,(jZ a x y).isNone):=by
 unfold sw jZ;cases h1:x==y with
 |true=>rw[eq_of_beq h1,bS];rfl
 |false=>
  have h2:(y==x)=false:=bN.2 fun e=>(bN.1 h1) e.symm;rw[h2];cases y==a with
  |true=>rfl
  |false=>cases x==a<;>rfl
def an9{b o t:List be}(nb:(b.map (·.1)).Nodup)(no:(o.map (·.1)).Nodup)(nt:(t.map (·.1)).Nodup){st:List be×List ak}(h60:st.1.length<=60)(hk:k ∉ st.2):vv b o t k st=pB (rp b o t) k st:=by
 obtain⟨xs,ys⟩:=st;unfold vv pB;rw[apl,Hq nb,Hq no,Hq nt];simp only[akr,oC];generalize hv:(jZ ((dV k b).getD []) ((dV k o).getD []) ((dV k t).getD [])).getD ((dV k b).getD [])=v;have hel:ys.elem k=false:=by
  cases he:ys.elem k with
  |false=>rfl
  |true=>exact absurd (List.mem_of_elem_eq_true he) hk
 have h6:(xs.length==60)= !decide (xs.length<60):=by
  have h60:xs.length<=60:=h60;by_cases h:xs.length<60;rw[dQ h];exact bN.2 (by omega);rw[dN h,show xs.length=60 by omega];rfl
 rw[h6];unfold lY;cases jZ ((dV k b).getD []) ((dV k o).getD []) ((dV k t).getD []) with
 |some w=>
  simp only[Option.isNone_some,jd];cases v== [] with
  |true=>rfl
  |false=>
   cases decide (xs.length<60) with
   |true=>rfl
   |false=>simp only[cz,fy,cH,iR,hel,jd]
 |none=>
  simp only[Option.isNone_none,Bool.true_or,cT];have hel2:(ys++[k]).elem k=true:=List.elem_eq_true_of_mem (by simp);cases v== [] with
  |true=>rfl
  |false=>
   cases decide (xs.length<60) with
   |true=>rfl
   |false=>simp only[cz,fy,cH,jd,hel2]
def Vf{b o t:List be}(nb:(b.map (·.1)).Nodup)(no:(o.map (·.1)).Nodup)(nt:(t.map (·.1)).Nodup): ∀(ks:List ak) (st:List be×List ak),ks.Nodup->st.1.length<=60->(∀y∈st.2,y ∉ ks)->ks.foldl (fun st k=>vv b o t k st) st=lZ (rp b o t) ks st
 | [],_,_,_,_=>rfl
 |k::ks,st,hn,h60,hy=>by
  simp only[uh] at hn;have hk:k ∉ st.2:=fun hm=>hy k hm (by simp);have e:lZ (rp b o t) (k::ks) st=lZ (rp b o t) ks (pB (rp b o t) k st):=rfl;rw[vE,e,an9 nb no nt h60 hk];refine Vf nb no nt ks _ hn.2 (Vv h60).1 fun y hy'=>?_;rcases(Vw (V:=rp b o t) (k:=k) (st:=st)).2 y hy' with h|h
  exact fun hm=>hy y h (by simp[hm]);rw[h];exact hn.1
def aoQ{b o t:List be}(vb:cY b=true)(vo:cY o=true)(vt:cY t=true):AA b o t=iu b o t:=by
 have nd: ∀ {l:List be},cY l=true->(l.map (·.1)).Nodup:=fun h=>CI (Hr h).2;unfold AA iu;rw[ahG vb vo vt];exact Vf (nd vb) (nd vo) (nd vt) _ _ ((lr _).nodup_iff.2 (xo _ _ (xo _ _ (xo _ _ pJ)))) (cV _) (fun y h=>by cases h)
def dW:List ak->List ak->Nat
 | [],_=>0
 |_::_,[]=>0
 |x::a,y::b=>bif x==y then dW a b+1 else max (dW a (y::b)) (dW (x::a) b)
termination_by a b=>a.length+b.length
def KN(a:List ak):dW a []=0:=by cases a<;>simp[dW]
def Lu(b:List ak):dW [] b=0:=by simp[dW]
def KM(x y:ak)(a b:List ak):dW (x::a) (y::b)=bif x==y then dW a b+1 else max (dW a (y::b)) (dW (x::a) b):=by rw[dW]
def BS: ∀(a b:List ak),dW a b<=a.length
 | [],b=>by rw[Lu];exact cV _
 |x::a,[]=>by rw[KN];exact cV _
 |x::a,y::b=>by
  rw[KM];cases x==y with
  |true=>
   have:=BS a b;simp only[cT,cP];omega
  |false=>
   have h1:=BS a (y::b);have h2:=BS (x::a) b;simp only[cF,cP] at h2 ⊢;exact Nat.max_le.2 ⟨by omega,h2⟩
termination_by a b=>a.length+b.length
def TZ{w k i' k':Nat}(hk:k<w)(hk':k'<w)(h:i*w+k=i'*w+k'):i=i'/\k=k':=by
 rcases Nat.lt_trichotomy i i' with h1|h1|h1
 have:=uj w (show i+1<=i' from h1);rw[uk] at this;omega;subst h1;exact⟨rfl,by omega⟩
 have:=uj w (show i'+1<=i from h1);rw[uk] at this;omega
variable{T:List Int}{p:Nat}
def VN{o:Nat}{v:Int}(hp:p<T.length):up (T.set p v) o=if p=o then v else up T o:=by
 unfold up;rw[List.getElem?_set];by_cases h:p=o;subst h;rw[iP rfl,iP rfl,iP hp];rfl;rw[iN h,iN h]
structure mL (a b:List ak) (T:List Int) (i k:Nat):Prop where
 len:T.length=(a.length+1)*(b.length+1)
 ok: ∀i' k',i'<=a.length->k'<=b.length->(i<i'\/(i'=i/\k<=k'))->up T (i'*(b.length+1)+k')=(dW (a.drop i') (b.drop k'):Nat)
 side: ∀i',i'<=a.length->up T (i'*(b.length+1)+b.length)=0
section
variable{a b:List ak}
def alW{k:Nat}(hi:i<=a.length)(hk:k<=b.length):i*(b.length+1)+k<(a.length+1)*(b.length+1):=by
 have:=uj (b.length+1) hi;rw[uk];omega
def ap5{z:Int}(h1:0<=z)(h2:z<2147483648):IntKind.i32.wrap z=z:=by
 rw[IntKind.wrap_i32];omega
def mL.step{k:Nat}(h:mL a b T i (k+1))(hi:i<a.length)(hk:k<b.length)(sa:a.length<=2000):mL a b (pA a b (b.length+1) i k T) i k:=by
 have hp:i*(b.length+1)+k<T.length:=by rw[h.len];exact alW (by omega) (by omega)
 have da:a.drop i=a[i]::a.drop (i+1):=vC hi;have db:b.drop k=b[k]::b.drop (k+1):=vC hk;have u1:=h.ok (i+1) (k+1) hi hk (.inl (fK _));have u2:=h.ok (i+1) k hi (by omega) (.inl (fK _));have u3:=h.ok i (k+1) (by omega) hk (.inr ⟨rfl,aU _⟩);have hl:=BS (a.drop (i+1)) (b.drop (k+1));rw[List.length_drop] at hl;have hv:(bif(a[i]?).getD []==(b[k]?).getD [] then IntKind.i32.wrap (up T ((i+1)*(b.length+1)+(k+1))+1) else bif bG (up T ((i+1)*(b.length+1)+k)) (up T (i*(b.length+1)+(k+1))) then up T (i*(b.length+1)+(k+1)) else up T ((i+1)*(b.length+1)+k))=((dW (a.drop i) (b.drop k):Nat):Int):=by
  rw[gL hi,gL hk,fq,fq,u1,u2,u3,da,db,KM];cases a[i]==b[k] with
  |true=>
   simp only[cT];rw[ap5 (by omega) (by omega)];omega
  |false=>
   simp only[cF,im];rw[<-da,<-db];by_cases hlt:dW (a.drop (i+1)) (b.drop k)<dW (a.drop i) (b.drop (k+1));rw[dQ hlt,cT,Nat.max_eq_right (by omega)];rw[dN hlt,cF,Nat.max_eq_left (by omega)]
 unfold pA;rw[hv];refine⟨by rw[List.length_set,h.len],fun i' k' hi' hk' hc=>?_,fun i' hi'=>?_⟩;rw[VN hp];by_cases he:i*(b.length+1)+k=i'*(b.length+1)+k';obtain⟨rfl,rfl⟩:=TZ (by omega) (by omega) he;rw[iP rfl];rw[iN he];refine h.ok i' k' hi' hk' ?_;rcases hc with hc|⟨rfl,hc⟩
 exact .inl hc;refine .inr ⟨rfl,?_⟩;have:k≠k':=fun e=>he (by rw[e]);omega;rw[VN hp,iN fun he=>?_];exact h.side i' hi'
 have:=(TZ (by omega) (by omega) he).2;omega
def mL.row{i:Nat}(hi:i<a.length)(sa:a.length<=2000): ∀(k:Nat) (T:List Int),k<=b.length->mL a b T i k->mL a b (wN a b (b.length+1) i k T) i 0
 |0,_,_,h=>h
 |k+1,T,hk,h=>mL.row hi sa k _ (by omega) (h.step hi (by omega) sa)
def mL.all(sa:a.length<=2000): ∀(i:Nat) (T:List Int),i<=a.length->mL a b T i 0->mL a b (xq a b (b.length+1) i T) 0 0
 |0,_,_,h=>h
 |i+1,T,hi,h=>by
  refine mL.all sa i _ (by omega) (mL.row (by omega) sa b.length T (aU _) ⟨h.len,fun i' k' hi' hk' hc=>?_,h.side⟩);rcases hc with hc|⟨rfl,hc⟩
  refine h.ok i' k' hi' hk' ?_;by_cases he:i'=i+1;exact .inr ⟨he,cV _⟩;exact .inl (by omega);have:k'=b.length:=by omega
  subst this;rw[h.side i' hi',vD,KN];rfl
def mL.zero:mL a b (ui ((a.length+1)*(b.length+1)) 0) a.length 0:=by
 have hz: ∀o,up (ui ((a.length+1)*(b.length+1)) 0) o=0:=fun o=>by
  unfold up;rw[List.getElem?_replicate];by_cases h:o<(a.length+1)*(b.length+1);rw[iP h];rfl;rw[iN h];rfl
 refine⟨List.length_replicate,fun i' k' hi' hk' hc=>?_,fun i' _=>hz _⟩;have:i'=a.length:=by omega
 subst this;rw[hz,vD,Lu];rfl
end
def mP:List ak->List ak->Nat->Nat->List (Nat×Nat)
 | [],_,_,_=>[]
 |_::_,[],_,_=>[]
 |x::a,y::b,i,k=>bif x==y then(i,k)::mP a b (i+1) (k+1) else bif aJ (dW a (y::b)) (dW (x::a) (y::b)) then mP a (y::b) (i+1) k else mP (x::a) b i (k+1)
termination_by a b=>a.length+b.length
def K1(b:List ak)(i k:Nat):mP [] b i k=[]:=by rw[mP]
def F8(a:List ak)(i k:Nat):mP a [] i k=[]:=by cases a<;>rw[mP]
def K0(x y:ak)(a b:List ak)(i k:Nat):mP (x::a) (y::b) i k=bif x==y then(i,k)::mP a b (i+1) (k+1) else bif aJ (dW a (y::b)) (dW (x::a) (y::b)) then mP a (y::b) (i+1) k else mP (x::a) b i (k+1):=by rw[mP]
def Hx{a b:List ak}{T:List Int}(h:mL a b T 0 0): ∀n i k,a.length-i+(b.length-k)<=n->na T a b (b.length+1) n i k=mP (a.drop i) (b.drop k) i k
 |0,i,k,hn=>by
  have:a.length<=i:=by omega
  rw[AJ this,K1];rfl
 |n+1,i,k,hn=>by
  simp only[na];by_cases hc:i<a.length/\k<b.length;rw[iP hc];obtain⟨hi,hk⟩:=hc;have da:a.drop i=a[i]::a.drop (i+1):=vC hi;have db:b.drop k=b[k]::b.drop (k+1):=vC hk;rw[gL hi,gL hk,fq,fq,h.ok (i+1) k hi (by omega) (by omega),h.ok i k (by omega) (by omega) (by omega),da,db,K0,Hx h n (i+1) (k+1) (by omega),Hx h n (i+1) k (by omega),Hx h n i (k+1) (by omega),<-da,<-db,o8,fe];rw[iN hc];by_cases hi:i<a.length;rw[AJ (show b.length<=k by omega),F8];rw[AJ (show a.length<=i by omega),K1]
def aiW{a b:List ak}(sa:a.length<=2000):jx a b=mP a b 0 0:=
 Hx (mL.all sa a.length _ (aU _) mL.zero) _ 0 0 (by omega)
def mR:List ak->List ak->Nat->List Int
 | [],_,_=>[]
 |_::a,[],k=> -1::mR a [] k
 |x::a,y::b,k=>bif x==y then(k:Int)::mR a b (k+1) else bif aJ (dW a (y::b)) (dW (x::a) (y::b)) then-1::mR a (y::b) k else mR (x::a) b (k+1)
termination_by a b=>a.length+b.length
def K4(b:List ak)(k:Nat):mR [] b k=[]:=by rw[mR]
def K6(x:ak)(a:List ak)(k:Nat):mR (x::a) [] k= -1::mR a [] k:=by rw[mR]
def B4(x y:ak)(a b:List ak)(k:Nat):mR (x::a) (y::b) k=bif x==y then(k:Int)::mR a b (k+1) else bif aJ (dW a (y::b)) (dW (x::a) (y::b)) then-1::mR a (y::b) k else mR (x::a) b (k+1):=by rw[mR]
def xu(o:Option Nat):Int:=match o with
 |some k=>(k:Nat)
 |none=> -1
def F7: ∀(a b:List ak) (i k:Nat), ∀x∈mP a b i k,i<=x.1
 | [],b,i,k,x,hx=>by rw[K1] at hx;cases hx
 |x::a,[],i,k,z,hz=>by rw[F8] at hz;cases hz
 |x::a,y::b,i,k,z,hz=>by
  rw[K0] at hz;cases hxy:x==y with
  |true=>
   rw[hxy] at hz;simp only[cT] at hz;rcases cQ.1 hz with rfl|hz
   exact aU _
   have:=F7 a b (i+1) (k+1) z hz;omega
  |false=>
   cases hq:aJ (dW a (y::b)) (dW (x::a) (y::b)) with
   |true=>
    rw[hxy,hq] at hz;simp only[cz] at hz
    have:=F7 a (y::b) (i+1) k z hz;omega
   |false=>
    rw[hxy,hq] at hz;simp only[cF] at hz;exact F7 (x::a) b i (k+1) z hz
termination_by a b=>a.length+b.length
def Sn{p:Nat}: ∀ {l:List (Nat×Nat)},(∀x∈l,x.1≠p)->e7 p l=none
 | [],_=>rfl
 |(a,b)::l,h=>by
  have h1:p≠a:=fun e=>h (a,b) (by simp) e.symm;simp only[e7,fe,bN.2 h1,cF];exact Sn fun x hx=>h x (by simp[hx])
def B6: ∀(a b:List ak) (i k j:Nat),j<a.length->(mR a b k)[j]? =some (xu (e7 (i+j) (mP a b i k)))
 | [],b,i,k,j,hj=>by cases hj
 |x::a,[],i,k,j,hj=>by
  rw[K6,F8];cases j with
  |zero=>rfl
  |succ j=>
   have:=B6 a [] (i+1) k j (by simpa using hj);rw[F8] at this;exact this
 |x::a,y::b,i,k,j,hj=>by
  rw[B4,K0];cases x==y with
  |true=>
   simp only[cT];cases j with
   |zero=>simp only[e7,Nat.add_zero,fe,bS,cT,List.getElem?_cons_zero,xu]
   |succ j=>
    have hne:(i+(j+1)==i)=false:=bN.2 (by omega);simp only[MV,e7,fe,hne,cF];rw[B6 a b (i+1) (k+1) j (by simpa using hj),show i+1+j=i+(j+1) by omega]
  |false=>
   simp only[cF];cases hq:aJ (dW a (y::b)) (dW (x::a) (y::b)) with
   |true=>
    simp only[cT];cases j with
    |zero=>
     rw[Sn fun z hz=>by have:=F7 a (y::b) (i+1) k z hz;omega];rfl
    |succ j=>
     rw[MV,B6 a (y::b) (i+1) k j (by simpa using hj),show i+1+j=i+(j+1) by omega]
   |false=>
    simp only[cF];exact B6 (x::a) b i (k+1) j hj
termination_by a b=>a.length+b.length
def B5: ∀(a b:List ak) (k:Nat),(mR a b k).length=a.length
 | [],b,k=>by rw[K4];rfl
 |x::a,[],k=>by rw[K6,cP,B5 a [] k];rfl
 |x::a,y::b,k=>by
  rw[B4];cases x==y with
  |true=>simp only[cT,cP,B5 a b (k+1)]
  |false=>
   cases aJ (dW a (y::b)) (dW (x::a) (y::b)) with
   |true=>simp only[cz,cP,B5 a (y::b) k]
   |false=>simp only[cF];exact B5 (x::a) b (k+1)
termination_by a b=>a.length+b.length
def Sy{a b:List ak}(sa:a.length<=2000){j:Nat}(hj:j<a.length):(mR a b 0)[j]? =some (xu (e7 j (jx a b))):=by
 rw[B6 a b 0 0 j hj,Nat.zero_add,aiW sa]
def lq(b o t:List ak)(p:Nat):List (Nat×Nat×Nat):=(iB (jx b t) (jx b o)).filter (fun x=>decide (p<=x.1))++[(b.length,o.length,t.length)]
def Uv(b o t:List ak):lq b o t 0=rM b o t:=by
 unfold lq rM;rw[List.filter_eq_self.2 fun x _=>by simp]
def O2: ∀ {l:List (Nat×Nat×Nat)},(∀x∈l,x.1≠p)->l.filter (fun x=>decide (p<=x.1))=l.filter (fun x=>decide (p+1<=x.1)):=by
 intro l h;refine List.filter_congr fun x hx=>?_
 have:=h x hx;by_cases hp:p<=x.1;rw[dQ hp,dQ (by omega)];rw[dN hp,dN (by omega)]
def O0{p:Nat}{e:Nat×Nat}: ∀ {l:List (Nat×Nat×Nat)},l.Pairwise (fun a b=>a.1<b.1)->(p,e)∈l->l.filter (fun x=>decide (p<=x.1))=(p,e)::l.filter (fun x=>decide (p+1<=x.1))
 | [],_,h=>by cases h
 |a::l,hs,h=>by
  have hs:=iT.1 hs;rcases cQ.1 h with rfl|h
  rw[rz,iP (by simp),rz,iN (by simp)];rw[O2 fun x hx=>by have:=hs.1 x hx;exact fun e=>by rw[e] at this;exact cR _ this];have h1:=hs.1 _ h;have h1:a.1<p:=h1;rw[rz,iN (by simp;omega),rz,iN (by simp;omega)];exact O0 hs.2 h
def Uu{b o t:List ak}(h:e7 p (jx b o)=none\/e7 p (jx b t)=none):lq b o t p=lq b o t (p+1):=by
 unfold lq;rw[O2 fun x hx e=>?_];obtain⟨a,q,r⟩:=x;have e:a=p:=e;subst e;obtain⟨h1,h2⟩:=B9.1 hx;rw[<-KW (sj b o).asc.2] at h1;rcases h with h|h
 rw[h] at h1;cases h1;rw[h] at h2;cases h2
def amM{b o t:List ak}{q r:Nat}(h1:e7 p (jx b o)=some q)(h2:e7 p (jx b t)=some r):lq b o t p=(p,q,r)::lq b o t (p+1):=by
 unfold lq;rw[O0 (Va (sj b o).asc.2) (B9.2 ⟨(KW (sj b o).asc.2).1 h1,h2⟩)];rfl
def amL{b o t:List ak}:lq b o t b.length=[(b.length,o.length,t.length)]:=by
 unfold lq;rw[List.filter_eq_nil_iff.2 fun x hx=>?_];rfl;obtain⟨p,q,r⟩:=x;have h1:=(B9.1 hx).1;have:p<b.length:=by
  have h: ∀ {la lb i k:Nat} {l:List (Nat×Nat)},kB la lb i k l-> ∀x∈l,x.1<la:=fun h=>by
   induction h with
   |nil=>intro x hx;cases hx
   |cons _ _ c _ _ ih=>
    intro x hx;rcases cQ.1 hx with rfl|hx
    exact c;exact ih x hx
  exact h (sj b o) _ h1
 simp only[dE];omega
def LH: ∀(l:List be) (p:Option ak) (last:ak),(p=none\/p=some last)->m9 last l=true->j6 p l=true
 | [],_,_,_,_=>rfl
 |t::r,p,last,hp,h=>by
  simp only[m9] at h;cases hb:lX last t with
  |true=>rw[hb] at h;cases h
  |false=>
   rw[hb] at h;simp only[lX,kj,nh] at hb;obtain⟨⟨⟨h1,h2⟩,h3⟩,h4⟩:=hb;have h5:mY p t.1=false:=by
    rcases hp with rfl|rfl
    rfl;simp only[mY,nh,xX,h2,fy]
   have h6:decide (t.2.length<1)=false:=by
    cases ht:t.2 with
    |nil=>rw[ht] at h3;cases h3
    |cons _ _=>exact dN (by simp)
   simp only[j6,lA,h1,h4,h5,h6,dS,iR,cF];exact LH r (some t.1) t.1 (.inr rfl) h
def Tx(uP:Int): ∀(l:List ak) (p:Option ak) (last:ak) (seen:List ak),(p=none\/p=some last)->nk uP last seen l=false->mZ uP p seen l=true
 | [],_,_,_,_,_=>rfl
 |r::l,p,last,seen,hp,h=>by
  simp only[nk,wW,kj,nh] at h;obtain⟨⟨⟨h1,h2⟩,h3⟩,h4⟩:=h;have h5:(aK uP 2&&yq p r)=false:=by
   rcases hp with rfl|rfl
   exact Bool.and_false _;have:yq (some last) r=(r==last):=by
    show(last==r)=(r==last);by_cases e:r=last;subst e;rfl;rw[bN.2 e,bN.2 (Ne.symm e)]
   rw[this];exact h1
  simp only[mZ,rf,h2,h3,h5,dS,iR,cF];exact Tx uP l (some r) r (lH r seen) (.inr rfl) h4
def VQ{o:Obj}(h:ef o=true):mH o=true:=by
 obtain⟨h1,h2,h3⟩:=Tk.1 h;simp only[kI,kj,nh] at h1;obtain⟨⟨⟨⟨w1,w2⟩,w3⟩,w4⟩,w5⟩:=h1;simp only[cY,bA,dE] at w3;have ht:iq o.gT=true:=by
  unfold iq;rw[dN (show¬60<o.gT.length by omega)];exact LH o.gT none [] (.inl rfl) w3.1
 have hr:=Tx o.uP o.gE none [] [] (.inl rfl) h2;have hk:=V3 w1;have w4:=of_decide_eq_false w4;unfold qn at w4;have hc:rS o.uP o.gE.length=true:=by
  unfold rS;cases k1:aK o.uP 1 with
  |true=>
   rw[k1] at h3;simp only[cT,bA] at h3 ⊢;exact h3.1
  |false=>
  cases k2:aK o.uP 2 with
  |true=>rw[k2] at w4;simp only[cz,dE] at w4 ⊢;omega
  |false=>
  rw[k2] at w4;cases k3:aK o.uP 3 with
  |true=>rw[k3] at w4;simp only[cz,dE] at w4 ⊢;omega
  |false=>
  rw[k3] at w4;cases k4:aK o.uP 4 with
  |true=>rw[k4] at w4;simp only[cz,dE] at w4 ⊢;omega
  |false=>
  cases k5:aK o.uP 5 with
  |true=>
   rw[k1,k5] at h3;simp only[cz,bA] at h3 ⊢;exact h3.1
  |false=>
   exfalso;have hne: ∀ {a b:Int},aK a b=false->a≠b:=fun h e=>by subst e;rw[qQ] at h;cases h
   have e0:o.uP=0:=by
    simp only[bA,ec,bG,dE] at hk
    have:=hne k1
    have:=hne k2
    have:=hne k3
    have:=hne k4
    have:=hne k5;omega
   rw[e0] at w1;cases w1
 have hro:rh o=true:=by
  unfold rh;rw[w5,hr,hc];rfl
 have ha:xw o=true:=by
  unfold xw
  have:=XS h;cases k1:aK o.uP 1 with
  |true=>exact this.1 k1
  |false=>exact this.2 k1
 simp only[mH,w2,w1,ha,ht,hro,fy,cH]
def apj(o:Obj):mH o=ef o:=by
 rw[yK];exact⟨Uo,VQ⟩
def Tw: ∀(l:List Obj) (p:Option ak) (last:ak),(p=none\/p=some last)->mX last l=true->rg p l=true
 | [],_,_,_,_=>rfl
 |o::r,p,last,hp,h=>by
  simp only[mX] at h;cases hb:(!ef o||Ag.leBytes o.id last) with
  |true=>rw[hb] at h;cases h
  |false=>
   rw[hb] at h;simp only[kj,nh] at hb;have h5:mY p o.id=false:=by
    rcases hp with rfl|rfl
    rfl;simp only[mY,nh,xX,hb.2,fy]
   simp only[rg,tH,VQ hb.1,h5,dS,iR,cF];exact Tw r (some o.id) o.id (.inr rfl) h
def aiP(l:List Obj):sO l=gU l:=by
 rw[yK];refine⟨amF,fun h=>?_⟩;simp only[gU,bA,dE] at h;unfold sO;rw[dN (show¬1000000<l.length by omega)];exact Tw l none [] (.inl rfl) h.1
def jQ:List ak->List ak->Bool
 | [],[]=>false
 | [],_::_=>true
 |_::_,[]=>false
 |a::x,b::y=>bif a==b then jQ x y else c8 a b
def ZF(a:ak):kG a a=0:=by unfold kG;rw[zL];rfl
def ZC(a b:ak):bG (kG a b) 0=c8 a b:=by
 unfold kG;cases c8 a b with
 |true=>rfl
 |false=>cases c8 b a<;>rfl
def A6: ∀a b:List ak,jQ a b=bG (gQ a b) 0
 | [],[]=>rfl
 | [],_::_=>rfl
 |_::_,[]=>rfl
 |a::x,b::y=>by
  simp only[jQ,gQ];by_cases h:a=b;subst h;rw[bS,ZF];exact A6 x y;have hz:kG a b≠0:=fun e=>h (ZG e);rw[bN.2 h,iy hz];exact(ZC a b).symm
def wf(a b:List ak):Bool:= !jQ a b&& !jQ b a
def adE(a b:List ak):wf a b=aK (gQ a b) 0:=by
 unfold wf;rw[A6,A6,OD a b];unfold bG;rcases yM (gQ a b) 0 with h|h|h
 rw[dQ h,iy (by omega)];rfl;rw[h];rfl;rw[dN (show¬gQ a b<0 by omega),dQ (show-gQ a b<0 by omega),iy (by omega)];rfl
def tm(a b:Int×Int):Int:=bif bG a.1 b.1||(aK a.1 b.1&&bG a.2 b.2) then-1 else bif jJ a b then 0 else 1
def Zz(a:Int):gp a a=0:=by have:=Zx a a;omega
def IK(a b:Int×Int):tm a b=oS a b:=by
 obtain⟨a1,a2⟩:=a;obtain⟨b1,b2⟩:=b;show(bif bG a1 b1||(aK a1 b1&&bG a2 b2) then(-1:Int) else bif bif aK a1 b1 then bif aK a2 b2 then true else false else false then 0 else 1)=bif aK (gp a1 b1) 0 then bif aK (gp a2 b2) 0 then 0 else gp a2 b2 else gp a1 b1
 have key: ∀x y:Int,(bG x y=true/\aK x y=false/\gp x y= -1)\/(bG x y=false/\aK x y=true/\gp x y=0)\/(bG x y=false/\aK x y=false/\gp x y=1):=fun x y=>by
  unfold gp bG;rcases yM x y with h|h|h
  rw[dQ h];exact .inl ⟨rfl,iy (by omega),rfl⟩;subst h;rw[dN (Int.lt_irrefl x)];exact .inr (.inl ⟨rfl,qQ x,rfl⟩);rw[dN (show¬x<y by omega),dQ h];exact .inr (.inr ⟨rfl,iy (by omega),rfl⟩)
 rcases key a1 b1 with⟨x1,x2,x3⟩|⟨x1,x2,x3⟩|⟨x1,x2,x3⟩<;>rcases key a2 b2 with⟨y1,y2,y3⟩|⟨y1,y2,y3⟩|⟨y1,y2,y3⟩<;>rw[x1,x2,x3,y1,y2,y3]<;>rfl
def kJ(a b:Obj):Bool:=bif !(aK a.uP b.uP) then bG a.uP b.uP else bif !(aK (tm (a.x,a.y) (b.x,b.y)) 0) then bG (tm (a.x,a.y) (b.x,b.y)) 0 else bif !(wf a.gE b.gE) then jQ a.gE b.gE else jQ (dR a.gT) (dR b.gT)
def ahX(a b:Obj):kJ a b=bG (tk a b) 0:=by
 unfold kJ tk;rw[IK,adE,A6,A6];simp only[qv];have hk:aK a.uP b.uP=aK (gp a.uP b.uP) 0:=by
  by_cases h:a.uP=b.uP;rw[h,qQ,Zz];rfl;rw[iy h,iy fun e=>h (ZA e)]
 have hl:bG a.uP b.uP=bG (gp a.uP b.uP) 0:=by
  unfold gp;cases bG a.uP b.uP with
  |true=>rfl
  |false=>cases bG b.uP a.uP<;>rfl
 rw[hk,hl];have h4:bG (gQ (dR a.gT) (dR b.gT)) 0=bG (bif aK (gQ (dR a.gT) (dR b.gT)) 0 then 0 else gQ (dR a.gT) (dR b.gT)) 0:=by
  by_cases h:gQ (dR a.gT) (dR b.gT)=0;rw[h];rfl;rw[iy h];rfl
 rw[h4];cases aK (gp a.uP b.uP) 0 with
 |false=>rfl
 |true=>
  cases aK (oS (a.x,a.y) (b.x,b.y)) 0 with
  |false=>rfl
  |true=>cases aK (gQ a.gE b.gE) 0<;>rfl
def R7(o t:Obj):gS (some o) (some t)=bif kJ t o then some t else some o:=by
 simp only[gS,ahX]
def kD(b o t:Obj):List ak:=(match ia b o t with
 |none=>[oz]
 |some _=>[])++((bif lp (b.x,b.y) (o.x,o.y) (t.x,t.y) then [sP] else [])++(iu b.gT o.gT t.gT).2.map jm)
def SM{id:ak}{c:Cf}: ∀ {ks:List ak},c∈m8 id ks []↔c.1=id/\c.2∈ks.map jm
 | []=>by simp[m8]
 |k::ks=>by
  have h1:m8 id (k::ks) []=m8 id ks (dh (id,jm k) []):=rfl;rw[h1,zS,sk,SM (ks:=ks)];obtain⟨c1,c2⟩:=c;simp only[rC,or_false,bj,dG,cQ];constructor;rintro(⟨h,h'⟩|⟨h,h'⟩);exact⟨h,.inl h'⟩;exact⟨h,.inr h'⟩;rintro⟨h,h'|h'⟩;exact .inl ⟨h,h'⟩;exact .inr ⟨h,h'⟩
def ai7{b o t:Obj}:c∈qN b o t []↔c.1=b.id/\c.2∈kD b o t:=by
 unfold qN kD;rw[zS,La,SM,iE,iE];have h1:c∈kN b o t []↔c.1=b.id/\c.2∈(match ia b o t with
  |none=>[oz]
  |some _=>[]):=by
  unfold kN;cases ia b o t with
  |none=>
   rw[sk];obtain⟨c1,c2⟩:=c;simp
  |some _=>simp
 have h2:c∈nl b o t []↔c.1=b.id/\c.2∈(bif lp (b.x,b.y) (o.x,o.y) (t.x,t.y) then [sP] else []):=by
  unfold nl;cases lp (b.x,b.y) (o.x,o.y) (t.x,t.y) with
  |true=>
   simp only[cT];rw[sk];obtain⟨c1,c2⟩:=c;simp
  |false=>simp
 rw[h1,h2];constructor;rintro((⟨p,q⟩|⟨p,q⟩)|⟨p,q⟩);exact⟨p,.inl q⟩;exact⟨p,.inr (.inl q)⟩;exact⟨p,.inr (.inr q)⟩;rintro⟨p,q|q|q⟩;exact .inl (.inl ⟨p,q⟩);exact .inl (.inr ⟨p,q⟩);exact .inr ⟨p,q⟩
def tZ(pb po pt:Option Obj):List ak:=bif cU po pt||cU pt pb then [] else bif cU po pb then [] else match pb,po,pt with
 |some b,some o,some t=>bif aK o.uP b.uP&&aK t.uP b.uP then kD b o t else [dw]
 |_,_,_=>[dw]
def aja(hb: ∀q,pb=some q->q.id=k):c∈fR k pb po pt []↔c.1=k/\c.2∈tZ pb po pt:=by
 have h1:c∈dh (k,dw) []↔c.1=k/\c.2∈ [dw]:=by
  rw[sk];obtain⟨c1,c2⟩:=c;simp
 unfold fR tZ;cases cU po pt||cU pt pb with
 |true=>simp
 |false=>
  cases cU po pb with
  |true=>simp
  |false=>
   simp only[cF];cases pb with
   |none=>cases po<;>cases pt<;>exact h1
   |some b=>
    cases po with
    |none=>cases pt<;>exact h1
    |some o=>
     cases pt with
     |none=>exact h1
     |some t=>
      show c∈(bif aK o.uP b.uP&&aK t.uP b.uP then qN b o t [] else dh (k,dw) [])↔c.1=k/\c.2∈(bif aK o.uP b.uP&&aK t.uP b.uP then kD b o t else [dw]);cases aK o.uP b.uP&&aK t.uP b.uP with
      |true=>simp only[cT];rw[ai7,hb b rfl]
      |false=>exact h1
def yG(b o t:List Obj)(k:ak):List ak:=tZ (bc k b) (bc k o) (bc k t)
def ai4:c∈kF b o t k↔c.1=k/\c.2∈yG b o t k:=aja fun _ h=>(iO h).2
def xp{a:Cf}:ahead a c=true↔fH a c<0:=by
 refine⟨fun h=>?_,NM⟩;rw[xE];unfold ahead at h;cases h1:c8 a.1 c.1 with
 |true=>
  have:=(Bd _ _).2 h1;rw[iN (by omega)];exact this
 |false=>
  rw[h1] at h;simp only[jd,bA] at h;rw[iP (by rw[eq_of_beq h.1,Dq])];exact(Bd _ _).2 h.2
def ut(l:List Cf):Prop:=l.Pairwise fun a c=>ahead a c=true
def gN(c:Cf):List Cf->List Cf
 | []=>[c]
 |a::r=>bif ahead a c then a::gN c r else bif a==c then a::r else c::a::r
def Gb{c x:Cf}: ∀ {l:List Cf},x∈gN c l↔x=c\/x∈l
 | []=>by simp[gN]
 |a::r=>by
  simp only[gN];cases ahead a c with
  |true=>
   simp only[cT,cQ,Gb (l:=r)];constructor;rintro(h|h|h)<;>simp[h];rintro(h|h|h)<;>simp[h]
  |false=>
   simp only[cF];cases he:a==c with
   |true=>rw[eq_of_beq he];simp
   |false=>simp
def Ik{c:Cf}: ∀ {l:List Cf},ut l->ut (gN c l)
 | [],_=>MX _ _
 |a::r,h=>by
  have h0:=h;have h:=iT.1 h;simp only[gN];cases hl:ahead a c with
  |true=>
   refine iT.2 ⟨fun x hx=>?_,Ik h.2⟩;rcases Gb.1 hx with rfl|hx
   exact hl;exact h.1 x hx
  |false=>
   simp only[cF];cases he:a==c with
   |true=>exact h0
   |false=>
    have hca:fH c a<0:=by
     have h1: ¬fH a c<0:=fun hh=>by rw[xp.2 hh] at hl;cases hl
     rw[Bf a c];rcases yM (fH a c) 0 with p|p|p
     exact absurd p h1;exact absurd (Dr p) (bN.1 he);omega
    refine iT.2 ⟨fun x hx=>?_,h0⟩;rcases cQ.1 hx with rfl|hx
    exact xp.2 hca;exact xp.2 (IJ hca (xp.1 (h.1 x hx)))
def Vj(h:ut l):l.Nodup:=h.imp fun hab e=>by
 subst e
 have:=xp.1 hab;rw[OC] at this;omega
def aoe{r:List Cf}(hl:ut l)(hr:ut r)(h: ∀x,x∈l↔x∈r):l=r:=by
 refine List.Perm.eq_of_pairwise (le:=fun a b=>ahead a b=true) (fun a b _ _ h1 h2=>?_) hl hr ((CU (Vj hl) (Vj hr)).2 h);have h1:=xp.1 h1;have h2:=xp.1 h2;rw[Bf a b] at h2;omega
def pS(l:List Obj):Prop:=rK (l.map (·.id))
def iC(k:ak)(l:List Obj):List Obj:=l.filter fun q=> !(q.id==k)
def nD(x:Obj):List Obj->List Obj
 | []=>[x]
 |q::r=>bif c8 q.id x.id then q::nD x r else x::q::r
def iJ(x:Obj)(l:List Obj):List Obj:=nD x (iC x.id l)
variable{l:List Obj}
def V2: ∀q∈iC k l,q.id≠k:=fun q hq=>by
 have:=(uf.1 hq).2;simpa using this
def apR(h:pS l):pS (iC k l):=h.sublist ((List.filter_sublist).map _)
def B8{x q:Obj}: ∀ {l:List Obj},q∈nD x l↔q=x\/q∈l
 | []=>by simp[nD]
 |a::r=>by
  simp only[nD];cases c8 a.id x.id with
  |true=>
   simp only[cT,cQ,B8 (l:=r)];constructor;rintro(h|h|h)<;>simp[h];rintro(h|h|h)<;>simp[h]
  |false=>simp
def P4{x:Obj}: ∀ {l:List Obj},pS l->(∀q∈l,q.id≠x.id)->pS (nD x l)
 | [],_,_=>MX _ _
 |a::r,h,hn=>by
  have h0:=h;have h:=iT.1 h;simp only[nD];cases hl:c8 a.id x.id with
  |true=>
   refine iT.2 ⟨fun k hk=>?_,P4 h.2 fun q hq=>hn q (by simp[hq])⟩;obtain⟨q,hq,rfl⟩:=dp.1 hk;rcases B8.1 hq with rfl|hq
   exact hl;exact h.1 q.id (dp.2 ⟨q,hq,rfl⟩)
  |false=>
   have hxa:=KT hl (hn a (by simp));refine iT.2 ⟨fun k hk=>?_,h0⟩;rcases cQ.1 hk with rfl|hk
   exact hxa;exact FY hxa (h.1 k hk)
variable{x:Obj}
def VY(h:pS l):pS (iJ x l):=P4 (apR h) V2
def Td{k j:ak}: ∀ {l:List Obj},bc k (iC j l)=bif k==j then none else bc k l
 | []=>by unfold iC;cases k==j<;>rfl
 |q::l=>by
  have ih:=Td (k:=k) (j:=j) (l:=l);unfold iC at ih ⊢;rw[rz];cases hq:q.id==j with
  |true=>
   rw[iN (by simp),ih,eq_of_beq hq|>.symm];simp only[bc];cases k==q.id<;>rfl
  |false=>
   rw[iP (by simp)];simp only[bc,ih];cases hk:k==q.id with
   |true=>
    have:(k==j)=false:=by rw[eq_of_beq hk];exact hq
    rw[this];rfl
   |false=>rfl
def Ta{k:ak}{x:Obj}: ∀ {l:List Obj},(∀q∈l,q.id≠x.id)->bc k (nD x l)=bif k==x.id then some x else bc k l
 | [],_=>rfl
 |q::l,h=>by
  simp only[nD];cases c8 q.id x.id with
  |true=>
   simp only[cT,bc,Ta (l:=l) fun r hr=>h r (by simp[hr])];cases hk:k==q.id with
   |true=>
    have:(k==x.id)=false:=by rw[eq_of_beq hk];exact bN.2 (h q (by simp))
    rw[this];rfl
   |false=>rfl
  |false=>rfl
def Lz:bc k (iJ x l)=bif k==x.id then some x else bc k l:=by
 unfold iJ;rw[Ta V2,Td];cases k==x.id<;>rfl
def Ly: ∀ {l:List Obj},(l.map (·.id)).Nodup-> ∀q∈l,bc q.id l=some q
 | [],_,q,h=>by cases h
 |a::l,hn,q,h=>by
  simp only[dG,uh] at hn;simp only[bc];rcases cQ.1 h with rfl|h
  rw[bS];rfl;have:(q.id==a.id)=false:=bN.2 fun e=>hn.1 (by rw[<-e];exact dp.2 ⟨q,h,rfl⟩);rw[this];exact Ly hn.2 q h
def akc{r:List Obj}(hl:pS l)(hr:pS r)(h: ∀k,bc k l=bc k r):l=r:=by
 have hid:l.map (·.id)=r.map (·.id):=Vk hl hr fun k=>by rw[<-yf,<-yf,h]
 have key: ∀ {l:List Obj},pS l->(l.map (·.id)).map (fun k=>(bc k l).getD eP)=l:=fun {l} hl=>by
  rw[List.map_map];refine(CT fun q hq=>?_).trans (List.map_id _);show(bc q.id l).getD eP=q;rw[Ly (CI hl) q hq];rfl
 rw[<-key hl,<-key hr,hid];exact CT fun k _=>by rw[h]
def Cq(p:Option Obj)(out:List Obj):List Obj:=match p with
 |some x=>iJ x out
 |none=>out
def pU(k:ak)(ws:List ak)(C:List Cf):List Cf:=ws.foldl (fun C w=>gN (k,w) C) C
def NK{k:ak}: ∀(ws:List ak) (C:List Cf),ut C->ut (pU k ws C)/\ ∀c,c∈pU k ws C↔c∈C\/(c.1=k/\c.2∈ws)
 | [],C,h=>⟨h,fun c=>by simp[pU]⟩
 |w::ws,C,h=>by
  have e:pU k (w::ws) C=pU k ws (gN (k,w) C):=rfl;obtain⟨h1,h2⟩:=NK (k:=k) ws (gN (k,w) C) (Ik h);rw[e];refine⟨h1,fun c=>?_⟩;rw[h2,Gb];obtain⟨c1,c2⟩:=c;simp only[bj,cQ];constructor;rintro((⟨p,q⟩|p)|⟨p,q⟩);exact .inr ⟨p,.inl q⟩;exact .inl p;exact .inr ⟨p,.inr q⟩;rintro(p|⟨p,q|q⟩);exact .inl (.inr p);exact .inl (.inl ⟨p,q⟩);exact .inr ⟨p,q⟩
structure pQ (b o t:List Obj) (D:ak->Prop) (out:List Obj) (C:List Cf):Prop where
 so:pS out
 sc:ut C
 at_: ∀k,(D k->bc k out=ee b o t k)/\(¬D k->bc k out=none)
 cf: ∀c,c∈C↔ ∃k,D k/\c∈kF b o t k
variable{C:List Cf}{D:ak->Prop}
def pQ.step{out:List Obj}(h:pQ b o t D out C)(j:ak):pQ b o t (fun k=>D k\/k=j) (Cq (ee b o t j) out) (pU j (yG b o t j) C):=by
 obtain⟨a1,a2⟩:=NK (k:=j) (yG b o t j) C h.sc;refine⟨?_,a1,fun k=>?_,fun c=>?_⟩;cases ee b o t j with
 |none=>exact h.so
 |some x=>exact VY h.so
 cases hm:ee b o t j with
 |none=>
  refine⟨fun hd=>?_,fun hn=>(h.at_ k).2 fun hd=>hn (.inl hd)⟩;by_cases hk:D k;exact(h.at_ k).1 hk;have e:=hd.resolve_left hk;rw[e,hm,<-e];exact(h.at_ k).2 hk
 |some x=>
  have hx:x.id=j:=SP (fun _ h=>(iO h).2) (fun _ h=>(iO h).2) (fun _ h=>(iO h).2) x hm;have e:bc k (iJ x out)=bif k==x.id then some x else bc k out:=Lz
  show(D k\/k=j->bc k (iJ x out)=ee b o t k)/\(¬(D k\/k=j)->bc k (iJ x out)=none);rw[e,hx];by_cases hk:k=j;rw[hk,bS,hm];exact⟨fun _=>rfl,fun hn=>absurd (.inr rfl) hn⟩;rw[bN.2 hk];exact⟨fun hd=>(h.at_ k).1 (hd.resolve_right hk),fun hn=>(h.at_ k).2 fun hd=>hn (.inl hd)⟩
 rw[a2,h.cf,<-ai4];constructor;rintro(⟨k,hd,hc⟩|hc);exact⟨k,.inl hd,hc⟩;exact⟨j,.inr rfl,hc⟩;rintro⟨k,hd|rfl,hc⟩;exact .inl ⟨k,hd,hc⟩;exact .inr hc
def pQ.start:pQ b o t (fun k=>k∈([]:List Obj).map (·.id)) [] []:=
 ⟨.nil,.nil,fun k=>⟨fun h=>(by cases h),fun _=>rfl⟩,fun c=>⟨fun h=>(by cases h),fun⟨_,h,_⟩=>(by cases h)⟩⟩
def pQ.iff{D':ak->Prop}{out:List Obj}(h:pQ b o t D out C)(hd: ∀k,D k↔D' k):pQ b o t D' out C:=by
 have:D=D':=funext fun k=>propext (hd k);subst this;exact h
def tF(b o t out:List Obj):Option ak:=(out.flatMap (·.gE)).find? fun id=>(bc id out).isNone&&(fS b o t id).isSome
structure rI (b o t out:List Obj) (C:List Cf):Prop where
 so:pS out
 sc:ut C
 val: ∀k q,bc k out=some q->jh b o t k/\eN b o t k=some q
 base: ∀k,(ee b o t k).isSome=true->(bc k out).isSome=true
 cf: ∀c,c∈C↔(∃k,c∈kF b o t k)\/ ∃k,(bc k out).isSome=true/\ee b o t k=none/\c=(k,dw)
def pQ.two{out:List Obj}(h:pQ b o t (fun k=>k∈dg b o t) out C):rI b o t out C:=by
 have hout: ∀k,k ∉ dg b o t->kF b o t k=[]/\ee b o t k=none:=fun k hk=>Ld hk;refine⟨h.so,h.sc,fun k q hq=>?_,fun k hk=>?_,fun c=>?_⟩;by_cases hd:k∈dg b o t;rw[(h.at_ k).1 hd] at hq;exact⟨.inl (by rw[hq];rfl),by simp only[eN,hq]⟩;rw[(h.at_ k).2 hd] at hq;cases hq;by_cases hd:k∈dg b o t;rw[(h.at_ k).1 hd];exact hk;rw[(hout k hd).2] at hk;cases hk;rw[h.cf];constructor;rintro⟨k,_,hc⟩;exact .inl ⟨k,hc⟩;rintro(⟨k,hc⟩|⟨k,h1,h2,_⟩);refine⟨k,l9 fun hn=>?_,hc⟩;rw[(hout k hn).1] at hc;cases hc;by_cases hd:k∈dg b o t;rw[(h.at_ k).1 hd,h2] at h1;cases h1;rw[(h.at_ k).2 hd] at h1;cases h1
def SX{out:List Obj}(h:rI b o t out C){id:ak}(hm:tF b o t out=some id):bc id out=none/\Reach b o t id:=by
 have h1:=List.find?_some hm;have h2:=List.mem_of_find?_eq_some hm;simp only[bA,Option.isNone_iff_eq_none] at h1;obtain⟨q,hq,hid⟩:=List.mem_flatMap.1 h2;obtain⟨hi,hv⟩:=h.val q.id q (Ly (CI h.so) q hq);have hn:ee b o t id=none:=by
  cases hk:ee b o t id with
  |none=>rfl
  |some x=>
   have:=h.base id (by rw[hk];rfl);rw[h1.1] at this;cases this
 exact⟨h1.1,hi.al hv hid hn h1.2⟩
def Ls(h:fS b o t k=some x):x.id=k:=by
 unfold fS at h;cases hb:bc k b with
 |some q=>
  rw[hb] at h;rw[<-sI h];exact(iO hb).2
 |none=>
  rw[hb] at h;have h:gS (bc k o) (bc k t)=some x:=h;rcases zK (p:=bc k o) (q:=bc k t) with e|e
  rw[e] at h;exact(iO h).2;rw[e] at h;exact(iO h).2
def rI.step{out:List Obj}(h:rI b o t out C){id:ak}(hm:tF b o t out=some id)(hx:fS b o t id=some x):rI b o t (iJ x out) (gN (id,dw) C):=by
 obtain⟨hno,hr⟩:=SX h hm;have hid:=Ls hx;have hmg:=hr.no.1;have e: ∀k,bc k (iJ x out)=bif k==id then some x else bc k out:=fun k=>by rw[Lz,hid]
 refine⟨VY h.so,Ik h.sc,fun k q hq=>?_,fun k hk=>?_,fun c=>?_⟩;rw[e] at hq;cases hk:k==id with
 |true=>
  rw[hk] at hq;rw[eq_of_beq hk,<-sI hq];exact⟨.inr hr,by simp only[eN,hmg,hx]⟩
 |false=>
  rw[hk] at hq;exact h.val k q hq
 rw[e];cases k==id with
 |true=>rfl
 |false=>exact h.base k hk
 rw[Gb,h.cf];constructor;rintro(rfl|hc|⟨k,h1,h2,h3⟩);exact .inr ⟨id,by rw[e,bS];rfl,hmg,rfl⟩;exact .inl hc;refine .inr ⟨k,?_,h2,h3⟩;rw[e];cases k==id<;>first|rfl|exact h1
 rintro(hc|⟨k,h1,h2,h3⟩);exact .inr (.inl hc);rw[e] at h1;cases hk:k==id with
 |true=>rw[eq_of_beq hk] at h3;exact .inl h3
 |false=>rw[hk] at h1;exact .inr (.inr ⟨k,h1,h2,h3⟩)
def rI.stop{out:List Obj}(h:rI b o t out C)(hm:tF b o t out=none):out=jH b o t/\C=oV b o t:=by
 have hmiss: ∀q∈out, ∀id∈q.gE,(fS b o t id).isSome=true->(bc id out).isSome=true:=fun q hq id hid hn=>by
  have:=List.find?_eq_none.1 hm id (List.mem_flatMap.2 ⟨q,hq,hid⟩);simp only[hn,Bool.and_true,Option.isNone_iff_eq_none] at this;cases ho:bc id out with
  |none=>exact absurd ho this
  |some _=>rfl
 have hreach: ∀k,Reach b o t k->(bc k out).isSome=true:=fun k hr=>by
  induction hr with
  |of h1 h2 h3 h4=>
   obtain⟨q',hq'⟩:=rE.1 (h.base _ (by rw[h1];rfl));have hv:=(h.val _ _ hq').2;simp only[eN,h1] at hv;have e:=sI hv;rw[e] at h2;exact hmiss q' (iO hq').1 _ h2 h4
  |step hr h1 h2 h3 h4 ih=>
   obtain⟨q',hq'⟩:=rE.1 ih;have hv:=(h.val _ _ hq').2;simp only[eN,hr.no.1,h1] at hv;have e:=sI hv;rw[e] at h2;exact hmiss q' (iO hq').1 _ h2 h4
 have hall: ∀k,jh b o t k->(bc k out).isSome=true:=fun k hi=>hi.elim (h.base k) (hreach k);have hid:pS (jH b o t):=by
  have e:(jH b o t).map (·.id)=eX (qw b o t):=by
   unfold jH;rw[List.map_map];refine(CT fun k hk=>?_).trans (List.map_id _);exact TR (Gd.1 ((lr _).mem_iff.1 hk))
  unfold pS;rw[e];exact Vl (Hh _) ((lr _).nodup_iff.2 (TS b o t))
 refine⟨akc h.so hid fun k=>?_,aoe h.sc ZV fun c=>?_⟩;by_cases hi:jh b o t k;obtain⟨q,hq⟩:=rE.1 (hall k hi);rw[Tc.1 hi,hq,(h.val k q hq).2];rw[Tc.2 hi];cases ho:bc k out with
 |none=>rfl
 |some q=>exact absurd (h.val k q ho).1 hi
 rw[h.cf,ai5];constructor;rintro(hc|⟨k,h1,h2,h3⟩);exact .inl hc;obtain⟨q,hq⟩:=rE.1 h1;refine .inr ⟨k,((h.val k q hq).1.resolve_left fun hs=>?_),h3⟩;rw[h2] at hs;cases hs;rintro(hc|⟨k,hr,h3⟩);exact .inl hc;exact .inr ⟨k,hreach k hr,hr.no.1,h3⟩
def yb(b o t out:List Obj):Nat:=((dg b o t).filter fun k=>(bc k out).isNone).length
def SV{out:List Obj}(h:rI b o t out C){id:ak}(hm:tF b o t out=some id)(hx:fS b o t id=some x):yb b o t (iJ x out)<yb b o t out:=by
 obtain⟨hno,hr⟩:=SX h hm;have hid:=Ls hx;have hname:id∈dg b o t:=Gq (by rw[hx];rfl);unfold yb;have hsub: ∀l:List ak,l.filter (fun k=>(bc k (iJ x out)).isNone)=(l.filter fun k=>(bc k out).isNone).filter fun k=> !(k==id):=by
  intro l;rw[List.filter_filter];refine List.filter_congr fun k _=>?_;rw[Lz,hid];cases hk:k==id with
  |true=>simp
  |false=>simp
 rw[hsub];refine Nat.lt_of_le_of_ne (List.length_filter_le _ _) fun hc=>?_
 have:=List.length_filter_eq_length_iff.1 hc id (uf.2 ⟨hname,by rw[hno];rfl⟩);simp at this
