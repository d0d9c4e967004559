/- MergeMatchesReference: the walk, the law. -/
import Derived.Test.YtnnppcoplinajaaGreatR1
import Derived.ProofKit
set_option linter.defProp false
open Bool renaming and_self→cH
open List renaming drop_succ_cons→yN,drop_zero→pF,getElem?_cons_zero→jN,getElem?_eq_getElem→gL,getElem?_eq_none→jE,getElem?_map→vG,getElem?_of_mem→HI,mem_map→dp,take_succ_cons→yT,take_zero→xd
open List.cons renaming injEq→pE
open Nat renaming eq_zero_or_pos→xf,le_trans→fh,reduceAdd→aG,reduceBEq→aa,reduceLeDiff→aV
open Option renaming bind_eq_some_iff→az,bind_some→bn,map_some→s8,none_or→ul,some_or→AP
open Option.some renaming injEq→aP
open Go.Proofs.Tryz renaming prog→ar
namespace Go.Proofs.YtnnppcoplinajaaGreat
open Go.Ag
variable{b o t:List Obj}
def ajn(gb: ∀q∈b,q.Al)(go: ∀q∈o,q.Al)(gt: ∀q∈t,q.Al)(sb:b.length<=64)(so:o.length<=64)(st:t.length<=64): ∃(M:List Obj) (C:List Cf),u4 b o t= .tup [.agg [kL M],nr C]/\(∀q∈M,q.Al)/\M.length<small/\C.length<=1000000:=by
 have hsm:=fg;unfold u4;cases hv:qB b o t with
 |true=>
  have hi:=KZ hv gb go gt sb so st;exact⟨jH b o t,oV b o t,rfl,SN hi,by have:=ajq hi;omega,ZU hi⟩
 |false=>exact⟨[],[],rfl,fun q h=>(by cases h),by simp only[List.length_nil];omega,Nat.zero_le _⟩
def ajt{vb vo vt:ae}(lb:aD 6 Obj.val vb b)(lo:aD 6 Obj.val vo o)(lt:aD 6 Obj.val vt t)(gb: ∀q∈b,q.Al)(go: ∀q∈o,q.Al)(gt: ∀q∈t,q.Al)(sb:b.length<=64)(so:o.length<=64)(st:t.length<=64):ya [.agg [vb],.agg [vo],.agg [vt]]=some (u4 b o t):=by
 have hsm:=fg;unfold u4;cases hv:qB b o t with
 |true=>
  have hi:=KZ hv gb go gt sb so st;simp only[ya,ajw lb lo lt hi,AP,cT]
 |false=>
  have hno: ¬pP b o t:=fun hi=>by
   rw[qB,hi.vb,hi.vo,hi.vt] at hv;cases hv
  simp only[ya,qq,lK lb gb (by omega),lK lo go (by omega),lK lt gt (by omega),bn,iN hno,ul,XX lb lo lt gb go gt (by omega) (by omega) (by omega) hv,cF]
section
variable{sp:bC}
def ahJ(h12:sp 12=none)(h45:sp 45=some DL)(h46:sp 46=some zu)(h47:sp 47=some ya)(h48:sp 48=some zU)(h20:sp 20=some Ar)(h49:sp 49=some zd){vb vo vt:ae}(hb:aD 6 Obj.val vb b)(ho:aD 6 Obj.val vo o)(ht:aD 6 Obj.val vt t)(gb: ∀q∈b,q.Al)(go: ∀q∈o,q.Al)(gt: ∀q∈t,q.Al)(sb:b.length<small)(so:o.length<small)(st:t.length<small)(pb:aQ (.agg [vb])=true)(po:aQ (.agg [vo])=true)(pt:aQ (.agg [vt])=true):
 aM (QS sp) 12 [.agg [vb],.agg [vo],.agg [vt]] s0 (.bool true) s0:=by
 have kb:=hb.aL;have ko:=ho.aL;have kt:=ht.aL;have db:=hb.scal;have d_o:=ho.scal;have dt:=ht.scal;have q0:DL []=some (.bool true):=rfl;have q1:=abt hb ho ht gb go gt sb so st;refine aM.of3 Ec.1 Ec.2 Ec.3 Ec.4 h12 rfl ?_;unfold Qq;cases h1:uF b o t with
 |false=>
  rw[h1] at q1;simp only[ai,ax,aA,bv,bt,cut,List.take,List.drop,aa,Nat.reduceLT,aG,aV,reduceCtorEq,ofValue,aX,PE,h45,h46,q0,q1]
 |true=>
  rw[h1] at q1;have hfb:lM b 20=true/\lM o 20=true/\lM t 20=true:=by
   unfold uF at h1;cases e1:lM b 20 with
   |false=>rw[e1] at h1;cases h1
   |true=>
    rw[e1] at h1;cases e2:lM o 20 with
    |false=>rw[e2] at h1;cases h1
    |true=>rw[e2] at h1;exact⟨rfl,rfl,h1⟩
  have lb:=Ja hfb.1;have lo:=Ja hfb.2.1;have lt:=Ja hfb.2.2;have q2:=ajt hb ho ht gb go gt lb lo lt;have q3:=ajl hb ho ht gb go gt pb po pt lb lo lt;obtain⟨M,C,hM,gM,sM,sC⟩:=ajn gb go gt lb lo lt;rw[hM] at q2 q3;have q4:=anl (om M) (om M) .rfl gM gM sM;have q5:=Zb (tj C) (tj C) (Dp C) (Dp C) sC;have c1:=(om M).aL;have c2:=(tj C).aL;have c3:=Cg M;simp only[fG,ai,ax,aA,bv,bt,cut,bu,List.take,List.drop,aa,Nat.reduceLT,aG,aV,reduceCtorEq,ofValue,aX,PE,h45,h46,h47,h48,h20,h49,q0,q1,q2,q3,q4,q5,c2,dU]
end
noncomputable def HV:du:=[(45,DL),(46,zu),(47,ya),(48,zU),(20,Ar),(49,zd)]
def Wv:dc HV:=.cons ac2 (.cons abu (.cons ajs (.cons ajm (.cons anm (.cons Zc .nil)))))
def ahI{x y z:ae}(hb:aD 6 Obj.val x b)(ho:aD 6 Obj.val y o)(ht:aD 6 Obj.val z t)(gb: ∀q∈b,q.Al)(go: ∀q∈o,q.Al)(gt: ∀q∈t,q.Al)(sb:b.length<small)(so:o.length<small)(st:t.length<small)(G:Gh)(h:aZ bf)(w:World)(xs:List Value)(wr:WR G h w)(hx:bP G [.agg [x],.agg [y],.agg [z]] xs):
 mh ar 12 ⟨xs⟩ w fun r w'=> ∃G',WR G' h w'/\cM G h w G' h w' 0 0/\VR G' (.bool true) r:=by
 obtain⟨t1,x',w1,hb',p1⟩:=LD hb gb;obtain⟨t2,y',w2,ho',p2⟩:=LD ho go;obtain⟨t3,z',w3,ht',p3⟩:=LD ht gt;have hw:ej [.agg [x],.agg [y],.agg [z]]=[.agg [x'],.agg [y'],.agg [z']]:=by simp only[ej,w1,w2,w3]
 have ht3:jn [.agg [x],.agg [y],.agg [z]]=true:=by
  show(ie (.agg [x])&&(ie (.agg [y])&&(ie (.agg [z])&&true)))=true;rw[t1,t2,t3];rfl
 exact eA (Q:=QT HV) (ep Wv) (fun _=>Nat.zero_lt_succ 1) (args:=[.agg [x],.agg [y],.agg [z]]) (v:=.bool true) (s':=s0) ht3 (by rw[hw];exact ahJ (sp:=fun f=>cI f HV) rfl rfl rfl rfl rfl rfl rfl hb' ho' ht' gb go gt sb so st p1 p2 p3) rfl ⟨1,rfl⟩ G h w xs wr hx
def Hf:Value->Option ae
 | .bool b=>some (.bool b)
 | .int k n=>some (.int k n)
 | .string s=>some (.str s.data.toList)
 | .slice none 0 0=>some .AL
 |_=>none
variable{x:Value}{v:ae}
def anv{G:Gh}(h:Hf x=some v):v.scal=true/\VR G v x:=by
 unfold Hf at h;split at h;injection h with h;subst h;exact⟨rfl,.bool _⟩
 injection h with h;subst h;exact⟨rfl,.int _ _⟩
 injection h with h;subst h;exact⟨rfl,.str _⟩
 injection h with h;subst h;exact⟨rfl,.AL⟩
 cases h
def np(W:World)(b o:Nat):Option ae:=(W.cell? ⟨b,o,none⟩).bind Hf
open Classical in
noncomputable def pick(P:ae->Prop):Option ae:=if h: ∃v,P v then some (Classical.choose h) else none
variable{P:ae->Prop}
def TY(h:pick P=some v):P v:=by
 unfold pick at h;split at h;rename_i e;injection h with h;subst h
 exact Classical.choose_spec e;cases h
def TX(h:P v): ∃u,pick P=some u/\P u:=by
 have e: ∃v,P v:=⟨v,h⟩;exact⟨Classical.choose e,by unfold pick;rw[dif_pos e],Classical.choose_spec e⟩
def xj(W:World)(x:Value)(v:ae):Prop:= ∃(a:Addr) (len cap:Nat) (strs:List ak),x= .slice (some a) len cap/\v= .list 1 (strs.map aF) .no/\(cap=0\/a.spot=none)/\strs.length=len/\len<=cap/\len<small/\(∀s∈strs,s.length<small)/\
 ∀(i:Nat) (s:ak),strs[i]? =some s->W.cell? ⟨a.block,a.off+i,none⟩=some (.string ⟨⟨s⟩⟩)
def xl(W:World)(x:Value)(v:ae):Prop:= ∃(a:Addr) (len cap:Nat) (gT:List be),x= .slice (some a) len cap/\v= .list 2 (gT.map bD) .no/\(cap=0\/a.spot=none)/\gT.length=len/\len<=cap/\len<small/\(∀t∈gT,t.1.length<small)/\
 ∀(i:Nat) (t:be),gT[i]? =some t->W.cell? ⟨a.block,a.off+(i*2+0),none⟩=some (.string ⟨⟨t.1⟩⟩)/\W.cell? ⟨a.block,a.off+(i*2+1),none⟩=some (.string ⟨⟨t.2⟩⟩)
noncomputable def CF(W:World)(b o:Nat):Option ae:=
 (W.cell? ⟨b,o,none⟩).bind fun x=>match W.cell? ⟨b,o-1,none⟩ with
  |some (.int _ _)=>pick (xj W x)
  |some (.slice _ _ _)=>pick (xl W x)
  |_=>none
noncomputable def nZ(W:World):Gh where
 at_ _:=none
 dim _:=none
 ro b o:=(np W b o).or (CF W b o)
def DJ{W:World}{b o:Nat}{s:ak}(h:W.cell? ⟨b,o,none⟩=some (.string ⟨⟨s⟩⟩)):(nZ W).ro b o=some (.str s):=by
 show(np W b o).or _=_;have:np W b o=some (.str s):=by
  simp only[np,h,bn];rfl
 rw[this];rfl
def amH{W:World}(h:xj W x v):VR (nZ W) v x:=by
 obtain⟨d,len,cap,strs,rfl,rfl,hsp,hl,hc,_,_,hcell⟩:=h;rw[<-hl] at hc ⊢;have hm:(strs.map aF).length=strs.length:=by simp
 rw[<-hm];refine .list hsp Nat.one_pos ?_ (by rw[hm];exact hc) ?_ trivial;intro y hy;obtain⟨s,_,rfl⟩:=dp.1 hy;rfl;intro i y hy;rw[zx,vG] at hy;cases e:strs[i]? with
 |none=>rw[e] at hy;cases hy
 |some s=>
  rw[e] at hy;simp only[s8,aP] at hy;subst hy;exact DJ (hcell i s e)
def S8: ∀ {l:List ae} {i:Nat} {v:ae},l[i]? =some v->iA l i=v
 | [],_,_,h=>by simp at h
 |_::_,0,_,h=>by simpa[iA] using h
 |_::l,i+1,v,h=>S8 (l:=l) (i:=i) (by simpa using h)
variable{i:Nat}
def Pa{sz:Nat}{xs:List ae}(hsz: ∀x∈xs,x.cells.length=sz){y:ae}(h:(bB xs)[i]? =some y): ∃v,xs[i / sz]? =some v/\v.cells[i % sz]? =some y/\i=i / sz*sz+i % sz:=by
 have hlt:i<(bB xs).length:=by
  rcases Nat.lt_or_ge i (bB xs).length with h1|h1
  exact h1;rw[jE h1] at h;cases h
 rw[mw hsz] at hlt;have hpos:0<sz:=by
  rcases xf sz with h0|h0
  subst h0;omega;exact h0
 have hj:i / sz<xs.length:=(Nat.div_lt_iff_lt_mul hpos).2 hlt;have hi:i % sz<sz:=Nat.mod_lt _ hpos;have e:i=i / sz*sz+i % sz:=by rw[Nat.mul_comm];exact(Nat.div_add_mod i sz).symm
 have hg:=Pb hsz hj hi;rw[<-e,h] at hg;refine⟨xs[i / sz],gL hj,?_,e⟩;rw[S8 (gL hj)] at hg;exact hg.symm
def aoS{W:World}(h:xl W x v):VR (nZ W) v x:=by
 obtain⟨d,len,cap,gT,rfl,rfl,hsp,hl,hc,_,_,hcell⟩:=h;rw[<-hl] at hc ⊢;have hm:(gT.map bD).length=gT.length:=by simp
 have hsz: ∀y∈gT.map bD,y.cells.length=2:=by
  intro y hy;obtain⟨s,_,rfl⟩:=dp.1 hy;rfl
 rw[<-hm];refine .list hsp (Nat.succ_pos 1) hsz (by rw[hm];exact hc) ?_ trivial;intro i y hy;obtain⟨u,h1,h2,h3⟩:=Pa hsz hy;rw[vG] at h1;cases e:gT[i / 2]? with
 |none=>rw[e] at h1;cases h1
 |some t=>
  rw[e] at h1;simp only[s8,aP] at h1;subst h1;obtain⟨c0,c1⟩:=hcell _ t e;have hm2:i % 2=0\/i % 2=1:=by omega
  rcases hm2 with hm2|hm2
  rw[hm2] at h2 h3;simp only[bD,ae.cells,jN,aP] at h2;subst h2;rw[h3];exact DJ c0;rw[hm2] at h2 h3;simp only[fG,bD,ae.cells,aP] at h2;subst h2;rw[h3];exact DJ c1
def acC(W:World):WR (nZ W) .nil W where
 obj m o h:=by cases h
 sep m k x y h:=absurd rfl h
 ro b o v h:=by
  have h:(np W b o).or (CF W b o)=some v:=h;cases e:np W b o with
  |some u=>
   rw[e] at h;simp only[AP,aP] at h;subst h;unfold np at e;rw[az] at e;obtain⟨x,h1,h2⟩:=e;obtain⟨h3,h4⟩:=anv (G:=nZ W) h2;exact⟨h3,x,h1,h4⟩
  |none=>
   rw[e] at h;simp only[ul] at h;unfold CF at h;rw[az] at h;obtain⟨x,h1,h2⟩:=h;split at h2;have h2:=TY h2;have hs:v.scal=true:=by obtain⟨_,_,_,_,_,rfl,_⟩:=h2;rfl
   exact⟨hs,x,h1,amH h2⟩;have h2:=TY h2;have hs:v.scal=true:=by obtain⟨_,_,_,_,_,rfl,_⟩:=h2;rfl
   exact⟨hs,x,h1,aoS h2⟩;cases h2
 apart m ob x i v h:=by cases h
 dim b d h:=by cases h
 below m x h:=by cases h
variable{a:Addr}{cs:List Value}{fuel n:Nat}{α:Type}{e:TypeId}{u:ae}
section
variable{H:Type}{enc:TypeId×Value->H}{W:World}{held:Bool}
def MB:ar.underlying 3=some (.int .i64):=by kernel_rfl
def IE:ar.cellsOf 9=1:=by kernel_rfl
def Oa:ar.cellsOf 3=1:=by kernel_rfl
def YH:ar.cellsOf 25=1:=by kernel_rfl
def YI:ar.cellsOf 50=1:=by kernel_rfl
def Ob:ar.cellsOf 49=2:=by kernel_rfl
def IC:ar.cellsOf 92=2:=by kernel_rfl
def IB:ar.cellsOf 52=6:=by kernel_rfl
def YG:ar.cellsOf 24=1:=by kernel_rfl
def YF:ar.cellsOf 22=1:=by kernel_rfl
def Hv:ar.underlying 9=some .string:=by kernel_rfl
def ao6:ar.underlying 50=some (.slice 92):=by kernel_rfl
def ao5:ar.underlying 22=some (.slice 52):=by kernel_rfl
def Mm{v:Value}(h:W.cell? a=some v):a.spot=none:=by
 unfold World.cell? at h;split at h;split at h;cases h;rename_i hs;cases e:a.spot with
 |none=>rfl
 |some _=>rw[e] at hs;simp at hs
 cases h
def NG(h:a.spot=none)(i:Nat):a.add i=⟨a.block,a.off+i,none⟩:=by
 obtain⟨b,o,sp⟩:=a;simp only at h;subst h;exact nW b o i
def Ga(h:n<=maxLen):n<small:=by
 have h1:maxLen=9223372036854775807:=by decide
 have h2:=fg;omega
def Mr{s:ByteArray}(h:s.size<=maxLen):s.data.toList.length<small:=by
 have e:s.data.toList.length=s.size:=Array.length_toList;rw[e];exact Ga h
def ahM{l:List α}(h:l.length=1): ∃a,l=[a]:=by
 match l,h with
 | [a],_=>exact⟨a,rfl⟩
def R4{l:List α}(h:l.length=2): ∃a b,l=[a,b]:=by
 match l,h with
 | [a,b],_=>exact⟨a,b,rfl⟩
def ahQ{l:List α}(h:l.length=5): ∃a b c d e,l=[a,b,c,d,e]:=by
 match l,h with
 | [a,b,c,d,e],_=>exact⟨a,b,c,d,e,rfl⟩
def ahR{l:List α}(h:l.length=6): ∃a b c d e f,l=[a,b,c,d,e,f]:=by
 match l,h with
 | [a,b,c,d,e,f],_=>exact⟨a,b,c,d,e,f,rfl⟩
def alf{x:DataW H×List MemPlace}(h:DataW.trod enc ar W 0 (fun _=>true) held fuel 25 cs=some x): ∃v,cs=[v]/\(v= .slice none 0 0\/ ∃u,xj W v u):=by
 rcases Go.ChangeShapes.open_strings CK Hv IE h with⟨rfl,_⟩|⟨a,len,cap,ss,rfl,_,hl,hm,hss,_,hcell,hsz⟩
 exact⟨_,rfl,.inl rfl⟩;simp only[if_true] at hss;refine⟨_,rfl,.inr ⟨_,a,len,cap,(ss.take len).map (fun s=>s.data.toList),rfl,rfl,?_,?_,hl,Ga (fh hl hm),?_,?_⟩⟩;rcases xf cap with h0|h0
 exact .inl h0;refine .inr (Mm (W:=W) (v:=.string (ss.getD 0 ByteArray.empty)) ?_)
 have:=hcell 0 (by omega);exact this;rw[List.length_map,List.length_take,hss];omega;intro s hs;obtain⟨b,hb,rfl⟩:=dp.1 hs
 have:=hsz b (List.mem_of_mem_take hb);exact Mr this;intro i s hi;rw[vG] at hi;cases e:(ss.take len)[i]? with
 |none=>rw[e] at hi;cases hi
 |some b=>
  rw[e] at hi;simp only[s8,aP] at hi;subst hi;rw[List.getElem?_take] at e;split at e;have hlt:=(List.getElem?_eq_some_iff.1 e).1;have hc:=hcell i hlt;have hsp:a.spot=none:=Mm (W:=W) (v:=.string (ss.getD 0 ByteArray.empty)) (hcell 0 (by omega));rw[NG hsp,List.getD_eq_getElem?_getD,e] at hc;exact hc;cases e
def ao4{x:DataW H×List MemPlace}(h:DataW.trod enc ar W 0 (fun _=>true) held fuel 92 cs=some x): ∃k v:ak,cs=[.string ⟨⟨k⟩⟩,.string ⟨⟨v⟩⟩]/\k.length<small:=by
 obtain⟨y0,y1,n,_,hl,h0,h1⟩:=Go.ChangeShapes.trod_struct2 Tryz.underlying92 h;rw[IC] at hl;obtain⟨a,b,rfl⟩:=R4 hl;rw[IE] at h0 h1;obtain⟨s,e0,_,hs⟩:=DataW.trod_string Hv h0;obtain⟨r,e1,_,hr⟩:=DataW.trod_string Hv h1;simp only[pF,yT,xd,pE,aT] at e0;simp only[yN,pF,yT,xd,pE,aT] at e1;subst e0;subst e1;exact⟨s.data.toList,r.data.toList,rfl,Mr hs⟩
def ao3{x:DataW H×List MemPlace}(h:DataW.trod enc ar W 0 (fun _=>true) held fuel 49 cs=some x): ∃k v:Int,cs=[.int .i64 k,.int .i64 v]:=by
 obtain⟨y0,y1,n,_,hl,h0,h1⟩:=Go.ChangeShapes.trod_struct2 Tryz.underlying49 h;rw[Ob] at hl;obtain⟨a,b,rfl⟩:=R4 hl;rw[Oa] at h0 h1;obtain⟨s,e0,_,_⟩:=DataW.trod_int MB h0;obtain⟨r,e1,_,_⟩:=DataW.trod_int MB h1;simp only[pF,yT,xd,pE,aT] at e0;simp only[yN,pF,yT,xd,pE,aT] at e1;subst e0;subst e1;exact⟨s,r,rfl⟩
def KV{α:Type}{P:Nat->α->Prop}: ∀(n:Nat),(∀i,i<n-> ∃o,P i o)-> ∃l:List α,l.length=n/\ ∀(i:Nat) o,l[i]? =some o->P i o
 |0,_=>⟨[],rfl,fun i o h=>by simp at h⟩
 |n+1,h=>by
  obtain⟨l,h1,h2⟩:=KV n fun i hi=>h i (by omega);obtain⟨o,ho⟩:=h n (by omega);refine⟨l++[o],by simp[h1],fun i p hp=>?_⟩;rcases Nat.lt_or_ge i l.length with hi|hi
  rw[List.getElem?_append_left hi] at hp;exact h2 i p hp;rw[List.getElem?_append_right hi] at hp;have:i-l.length=0:=by
   rcases xf (i-l.length) with h|h
   exact h;rw[jE (by simp;omega)] at hp;cases hp
  rw[this] at hp;simp only[jN,aP] at hp;subst hp;have:i=n:=by omega
  subst this;exact ho
def OL{c:Nat}{elems:List (DataW H×List MemPlace)}(hc:ar.cellsOf e=c)(hi:i<elems.length)(hsp:a.spot=none)(h:(W.cells? 0 (a.add (i*ar.cellsOf e)) (ar.cellsOf e)).bind (DataW.trod enc ar W 0 (fun _=>true) held n e)=elems[i]?):
 ∃cs y,DataW.trod enc ar W 0 (fun _=>true) held n e cs=some y/\cs.length=c/\ ∀j,j<c->W.cell? ⟨a.block,a.off+(i*c+j),none⟩=cs[j]? :=by
 rw[hc,gL hi,az] at h;obtain⟨cs,h1,h2⟩:=h;obtain⟨_,hl,hcell⟩:=World.cells?_some h1;refine⟨cs,_,h2,hl,fun j hj=>?_⟩;rw[<-hcell j hj,NG hsp,nW,Nat.add_assoc]
def UV{len cap:Nat}{elems rest:List (DataW H×List MemPlace)}(hpos:0<ar.cellsOf e)(hlen:elems.length=len)(_hle:len<=cap)(hel: ∀i,i<len->(W.cells? 0 (a.add (i*ar.cellsOf e)) (ar.cellsOf e)).bind (DataW.trod enc ar W 0 (fun _=>true) held n e)=elems[i]?)(hsp:rest.length=cap-len/\ ∀j,j<cap-len->(W.cells? 0 (a.add ((len+j)*ar.cellsOf e)) (ar.cellsOf e)).bind (DataW.trod enc ar W 0 (fun _=>true) held n e)=rest[j]?):cap=0\/a.spot=none:=by
 rcases xf cap with h0|h0
 exact .inl h0;refine .inr ?_;have key: ∀o:Option (DataW H×List MemPlace),o.isSome=true->(W.cells? 0 (a.add (0*ar.cellsOf e)) (ar.cellsOf e)).bind (DataW.trod enc ar W 0 (fun _=>true) held n e)=o->a.spot=none:=by
  intro o ho h;cases o with
  |none=>cases ho
  |some y=>
   rw[az] at h;obtain⟨cs,h1,_⟩:=h;obtain⟨_,hl,hcell⟩:=World.cells?_some h1
   have:=hcell 0 hpos;rw[Nat.zero_mul] at this;have hx:(a.add 0).add 0=a:=rfl;rw[hx,gL (by omega)] at this;exact Mm this
 rcases xf len with h1|h1
 have:=hsp.2 0 (by omega);rw[h1] at this;refine key _ ?_ this;rw[gL (by omega)];rfl;refine key _ ?_ (hel 0 h1);rw[gL (by omega)];rfl
def alg{x:DataW H×List MemPlace}(h:DataW.trod enc ar W 0 (fun _=>true) held fuel 50 cs=some x): ∃v,cs=[v]/\(v= .slice none 0 0\/ ∃u,xl W v u):=by
 rcases DataW.trod_slice ao6 h with⟨rfl,_⟩|⟨a,len,cap,elems,rest,n,_,rfl,_,_,hl,hm,hlen,hel,hsp,_⟩
 exact⟨_,rfl,.inl rfl⟩;have hspot:=UV (by rw[IC];omega) hlen hl hel (hsp rfl);obtain⟨gT,t1,t2⟩:=KV (P:=fun i (t:be)=>t.1.length<small/\W.cell? ⟨a.block,a.off+(i*2+0),none⟩=some (.string ⟨⟨t.1⟩⟩)/\W.cell? ⟨a.block,a.off+(i*2+1),none⟩=some (.string ⟨⟨t.2⟩⟩)) len fun i hi=>by
  have hs:a.spot=none:=by
   rcases hspot with h0|h0
   omega;exact h0
  obtain⟨cs,y,q1,q2,q3⟩:=OL IC (by omega) hs (hel i hi);obtain⟨k,v,rfl,hk⟩:=ao4 q1;exact⟨(k,v),hk,q3 0 (by omega),q3 1 (by omega)⟩
 refine⟨_,rfl,.inr ⟨_,a,len,cap,gT,rfl,rfl,hspot,t1,hl,Ga (fh hl hm),?_,fun i t hi=>(t2 i t hi).2⟩⟩;intro t ht;obtain⟨i,hi⟩:=HI ht;exact(t2 i t hi).1
def ald{x:DataW H×List MemPlace}(h:DataW.trod enc ar W 0 (fun _=>true) held fuel 52 cs=some x):
 ∃(id:ak) (k px py:Int) (rv tv:Value),cs=[.string ⟨⟨id⟩⟩,.int .i64 k,.int .i64 px,.int .i64 py,rv,tv]/\id.length<small/\(rv= .slice none 0 0\/ ∃u,xj W rv u)/\(tv= .slice none 0 0\/ ∃u,xl W tv u):=by
 obtain⟨xs,n,_,_,hl,hlen,hf⟩:=DataW.trod_struct Tryz.underlying52 h;rw[IB] at hl;obtain⟨a,b,c,d,e,f,rfl⟩:=ahR hl;obtain⟨y0,y1,y2,y3,y4,rfl⟩:=ahQ (l:=xs) hlen;have h0:DataW.trod enc ar W 0 (fun _=>true) held n 9 (([a,b,c,d,e,f].drop 0).take (ar.cellsOf 9))=some y0:=hf 0 _ rfl;have h1:DataW.trod enc ar W 0 (fun _=>true) held n 3 (([a,b,c,d,e,f].drop 1).take (ar.cellsOf 3))=some y1:=hf 1 _ rfl;have h2:DataW.trod enc ar W 0 (fun _=>true) held n 49 (([a,b,c,d,e,f].drop 2).take (ar.cellsOf 49))=some y2:=hf 2 _ rfl;have h3:DataW.trod enc ar W 0 (fun _=>true) held n 25 (([a,b,c,d,e,f].drop 4).take (ar.cellsOf 25))=some y3:=hf 3 _ rfl;have h4:DataW.trod enc ar W 0 (fun _=>true) held n 50 (([a,b,c,d,e,f].drop 5).take (ar.cellsOf 50))=some y4:=hf 4 _ rfl;rw[IE] at h0;rw[Oa] at h1;rw[Ob] at h2;rw[YH] at h3;rw[YI] at h4;obtain⟨s,e0,_,hs⟩:=DataW.trod_string Hv h0;obtain⟨k,e1,_,_⟩:=DataW.trod_int MB h1;obtain⟨px,py,e2⟩:=ao3 h2;obtain⟨rv,e3,hr⟩:=alf h3;obtain⟨tv,e4,ht⟩:=alg h4;simp only[pF,yN,yT,xd,pE,aT] at e0 e1 e2 e3 e4;obtain⟨rfl,rfl⟩:=e2;subst e0;subst e1;subst e3;subst e4;exact⟨s.data.toList,k,px,py,_,_,rfl,Mr hs,hr,ht⟩
def amI(h:xj W x v): ∃strs:List ak,aD 1 aF v strs/\strs.length<small/\(∀s∈strs,s.length<small)/\aQ v=true:=by
 obtain⟨_,_,_,strs,_,rfl,_,hl,_,h1,h2,_⟩:=h;refine⟨strs,.inr ⟨_,rfl⟩,by omega,h2,?_⟩;simp only[aQ,Cp Vi strs,cH]
def aoT(h:xl W x v): ∃gT:List be,aD 2 bD v gT/\gT.length<small/\(∀t∈gT,t.1.length<small)/\aQ v=true:=by
 obtain⟨_,_,_,gT,_,rfl,_,hl,_,h1,h2,_⟩:=h;refine⟨gT,.inr ⟨_,rfl⟩,by omega,h2,?_⟩;simp only[aQ,Cp Hp gT,cH]
def Bw{b o:Nat}(h:W.cell? ⟨b,o,none⟩=some x)(hs:Hf x=some v):(nZ W).ro b o=some v:=by
 show(np W b o).or _=_;have:np W b o=some v:=by simp only[np,h,bn,hs]
 rw[this];rfl
def acA{k:IntKind}{z:Int}(hp:W.cell? ⟨a.block,a.off+(i*6+3),none⟩=some (.int k z))(h:W.cell? ⟨a.block,a.off+(i*6+4),none⟩=some x)(hu:xj W x u): ∃v,(nZ W).ro a.block (a.off+(i*6+4))=some v/\xj W x v:=by
 obtain⟨v,h1,h2⟩:=TX hu;refine⟨v,?_,h2⟩;show(np W _ _).or _=_;have e:np W a.block (a.off+(i*6+4))=none:=by
  obtain⟨d,len,cap,_,rfl,_⟩:=hu;simp only[np,h,bn];rfl
 have e2:a.off+(i*6+4)-1=a.off+(i*6+3):=by omega
 rw[e,ul,CF,h,e2,hp];exact h1
def acB{y:Option Addr}{p q:Nat}(hp:W.cell? ⟨a.block,a.off+(i*6+4),none⟩=some (.slice y p q))(h:W.cell? ⟨a.block,a.off+(i*6+5),none⟩=some x)(hu:xl W x u): ∃v,(nZ W).ro a.block (a.off+(i*6+5))=some v/\xl W x v:=by
 obtain⟨v,h1,h2⟩:=TX hu;refine⟨v,?_,h2⟩;show(np W _ _).or _=_;have e:np W a.block (a.off+(i*6+5))=none:=by
  obtain⟨d,len,cap,_,rfl,_⟩:=hu;simp only[np,h,bn];rfl
 have e2:a.off+(i*6+5)-1=a.off+(i*6+4):=by omega
 rw[e,ul,CF,h,e2,hp];exact h1
def ale{x:DataW H×List MemPlace}(h:DataW.trod enc ar W 0 (fun _=>true) held fuel 22 cs=some x):
 ∃(val:Value) (v:ae) (l:List Obj),cs=[val]/\VR (nZ W) v val/\v.scal=true/\aD 6 Obj.val v l/\(∀o∈l,o.Al)/\l.length<small:=by
 rcases DataW.trod_slice ao5 h with⟨rfl,_⟩|⟨a,len,cap,elems,rest,n,_,rfl,_,_,hl,hm,hlen,hel,hsp,_⟩
 refine⟨_,.AL,[],rfl,.AL,rfl,.inl ⟨rfl,rfl⟩,(fun o ho=>by cases ho),by decide⟩;have hspot:=UV (by rw[IB];omega) hlen hl hel (hsp rfl);obtain⟨l,t1,t2⟩:=KV (P:=fun i (o:Obj)=>o.Al/\ ∀(j:Nat) v,o.cells[j]? =some v->(nZ W).ro a.block (a.off+(i*6+j))=some v) len fun i hi=>by
  have hs:a.spot=none:=by
   rcases hspot with h0|h0
   omega;exact h0
  obtain⟨cs,y,q1,q2,q3⟩:=OL IB (by omega) hs (hel i hi);obtain⟨id,k,px,py,rv,tv,rfl,hid,hr,ht⟩:=ald q1;have p0:=q3 0 (by omega);have p1:=q3 1 (by omega);have p2:=q3 2 (by omega);have p3:=q3 3 (by omega);have p4:=q3 4 (by omega);have p5:=q3 5 (by omega);simp only[fG] at p0 p1 p2 p3 p4 p5;have R: ∃(v:ae) (strs:List ak),(nZ W).ro a.block (a.off+(i*6+4))=some v/\aD 1 aF v strs/\strs.length<small/\(∀s∈strs,s.length<small)/\aQ v=true:=by
   rcases hr with rfl|⟨u,hu⟩
   exact⟨.AL,[],Bw p4 rfl,.inl ⟨rfl,rfl⟩,by decide,(fun s hs=>by cases hs),rfl⟩;obtain⟨v,g1,g2⟩:=acA p3 p4 hu;obtain⟨strs,g3⟩:=amI g2;exact⟨v,strs,g1,g3⟩
  have hsl: ∃y p q,rv= .slice y p q:=by
   rcases hr with rfl|⟨u,hu⟩
   exact⟨_,_,_,rfl⟩;obtain⟨d,len,cap,_,rfl,_⟩:=hu;exact⟨_,_,_,rfl⟩
  have T: ∃(v:ae) (gT:List be),(nZ W).ro a.block (a.off+(i*6+5))=some v/\aD 2 bD v gT/\gT.length<small/\(∀s∈gT,s.1.length<small)/\aQ v=true:=by
   rcases ht with rfl|⟨u,hu⟩
   exact⟨.AL,[],Bw p5 rfl,.inl ⟨rfl,rfl⟩,by decide,(fun s hs=>by cases hs),rfl⟩;obtain⟨y,p,q,rfl⟩:=hsl;obtain⟨v,g1,g2⟩:=acB p4 p5 hu;obtain⟨gT,g3⟩:=aoT g2;exact⟨v,gT,g1,g3⟩
  obtain⟨rV,strs,r1,r2,r3,r4,r5⟩:=R;obtain⟨tV,gT,s1,s2,s3,s4,s5⟩:=T;refine⟨⟨id,k,px,py,rV,tV,strs,gT⟩,⟨⟨r2,s2,hid,r3,r4,s3,s4⟩,r5,s5⟩,?_⟩;intro j v hv
  match j,hv with
  |0,hv=>simp only[Obj.cells,jN,aP] at hv;subst hv;exact DJ p0
  |1,hv=>simp only[fG,Obj.cells,aP] at hv;subst hv;exact Bw p1 rfl
  |2,hv=>simp only[fG,Obj.cells,aP] at hv;subst hv;exact Bw p2 rfl
  |3,hv=>simp only[fG,Obj.cells,aP] at hv;subst hv;exact Bw p3 rfl
  |4,hv=>simp only[fG,Obj.cells,aP] at hv;subst hv;exact r1
  |5,hv=>simp only[fG,Obj.cells,aP] at hv;subst hv;exact s1
  |j+6,hv=>simp[Obj.cells] at hv
 have hg: ∀o∈l,o.Al:=fun o ho=>by
  obtain⟨i,hi⟩:=HI ho;exact(t2 i o hi).1
 refine⟨_,.list 6 (l.map Obj.val) .no,l,rfl,?_,rfl,.inr ⟨_,rfl⟩,hg,by rw[t1];exact Ga (fh hl hm)⟩;have hm2:(l.map Obj.val).length=len:=by simp[t1]
 have hsz: ∀y∈l.map Obj.val,y.cells.length=6:=by
  intro y hy;obtain⟨o,_,rfl⟩:=dp.1 hy;rfl
 have:VR (nZ W) (.list 6 (l.map Obj.val) .no) (.slice (some a) (l.map Obj.val).length cap):=by
  refine .list hspot (by omega) hsz (by rw[hm2];exact hl) ?_ trivial;intro i y hy;obtain⟨u,h1,h2,h3⟩:=Pa hsz hy;rw[vG] at h1;cases e:l[i / 6]? with
  |none=>rw[e] at h1;cases h1
  |some o=>
   rw[e] at h1;simp only[s8,aP] at h1;subst h1;rw[h3];exact(t2 _ o e).2 _ _ h2
 rw[hm2] at this;exact this
def LO{v:Value}{d:DataW H}{ps:List MemPlace}(hv: ∃cs,v= .agg cs)(h:DataW.Trod enc ar W 0 (fun _=>true) held 24 v d ps):
 ∃(x:ae) (l:List Obj),VR (nZ W) (.agg [x]) v/\aD 6 Obj.val x l/\(∀o∈l,o.Al)/\l.length<small:=by
 obtain⟨fuel,h⟩:=h;obtain⟨cs,rfl⟩:=hv;obtain⟨y0,n,_,hl,h0⟩:=Go.ChangeShapes.trod_struct1 Tryz.underlying24 h;rw[YF] at h0;have hcs:(Value.agg cs).cells.toList=cs.toList:=rfl;rw[hcs] at h0 hl;rw[YG] at hl;obtain⟨val,x,l,e,h1,hsc,h2,h3,h4⟩:=ale h0;have hc:cs= #[val]:=by
  obtain⟨cl⟩:=cs;obtain⟨c,rfl⟩:=ahM (l:=cl) hl;simp only[pF,yT,xd,pE,aT] at e;subst e;rfl
 subst hc;refine⟨x,l,.agg ?_ (.cons h1 .nil),h2,h3,h4⟩;simp only[dn,List.all_cons,hsc,List.all_nil,cH]
end
