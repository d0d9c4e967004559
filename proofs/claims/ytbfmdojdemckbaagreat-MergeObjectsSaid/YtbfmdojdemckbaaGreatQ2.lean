/- sequence.Merge: matching. -/
import Derived.Test.YtbfmdojdemckbaaGreatQ1
namespace Go.Proofs.YtbfmdojdemckbaaGreat
open _root_.Bool renaming and_self→gK,and_true→dB
open _root_.List renaming append_nil→im,cons_append→cq,drop_succ_cons→gl,drop→aR,getElem?_eq_getElem→jf,head?_cons→bN,length_cons→aK,length_map→ep,length_nil→aQ,length_singleton→oK,nil_append→bT,replicate→wq,take_append_drop→mR,take_succ_cons→eP,take→bA
open _root_.Nat renaming add_mul→ma,ble_eq_true_of_le→ew,ble→cr,le_of_ble_eq_true→io,le_refl→bv,mul_le_mul_right→uo,reduceAdd→bt,reduceBEq→ae,reduceLT→ar,reduceLeDiff→bR,zero_add→aM
open _root_.Option renaming bind_some→ak
open Go.Ag
theorem GG (P:Program) (t:TypeId) (a b:Int):fR P .mul t (.int .i64 a) (.int .i64 b)=some (.int .i64 (IntKind.i64.wrap (a*b))):=rfl
theorem UH (P:Program) (t:TypeId) (a b:Int):fR P .add t (.int .i32 a) (.int .i32 b)=some (.int .i32 (IntKind.i32.wrap (a+b))):=rfl
theorem UI (P:Program) (t:TypeId) (a b:Int):fR P .eql t (.int .i32 a) (.int .i32 b)=some (.bool (bL a b)):=rfl
theorem UW (P:Program) (mk:bj) (ts:List TypeId) (mu:Bool) (a b:Int) (s:St):ld P mk .max ts mu [.int .i32 a,.int .i32 b] s=some (.int .i32 (bif du a b then b else a),s):=by
 have:(IntKind.i32==IntKind.i32)=true:=rfl
 simp only [ld,qS,this,cT,ak]
def kj (z:Int):ai:=.int .i32 z
def up (T:List Int) (o:Nat):Int:=(T[o]?).getD 0
def tZ (a b:List ax) (w i k:Nat) (T:List Int):List Int:=
 T.set (i*w+k) (bif(a[i]?).getD []==(b[k]?).getD [] then IntKind.i32.wrap (up T ((i+1)*w+(k+1))+1) else bif du (up T ((i+1)*w+k)) (up T (i*w+(k+1))) then up T (i*w+(k+1)) else up T ((i+1)*w+k))
def tX (a b:List ax) (w i:Nat):Nat→List Int→List Int
 |0,T=>T
 |k+1,T=>tX a b w i k (tZ a b w i k T)
def ux (a b:List ax) (w:Nat):Nat→List Int→List Int
 |0,T=>T
 |i+1,T=>ux a b w i (tX a b w i b.length T)
theorem SX (a b:List ax) (w i k:Nat) (T:List Int):(tZ a b w i k T).length=T.length:=by simp [tZ]
theorem Fg (a b:List ax) (w i:Nat): ∀(k:Nat) (T:List Int),(tX a b w i k T).length=T.length
 |0,_=>rfl
 |k+1,T=>by rw [tX,Fg a b w i k,SX]
theorem xZ {T:List Int} {o:Nat} (h:o<T.length):((T.map kj).drop o).head?=some (kj (up T o)):=by
 rw [List.head?_drop,List.getElem?_map,up,jf h];rfl
theorem TB {T:List Int} {o:Nat} (h:o<T.length) (z:Int):cI (T.map kj) o [kj z]=some ((T.set o z).map kj):=by
 have h1:cr (o+1) (T.map kj).length=true:=ew (by rw [ep];omega)
 simp only [cI,aK,aQ,aM,h1,cT]
 rw [List.map_set,List.set_eq_take_append_cons_drop,if_pos (by rw [ep];exact h)]
 rfl
structure lG (s:St) (bw ba row w:Nat) (T:List Int):Prop where
 hw:s.get [] bw=some (.cells [.int .i64 w])
 ha:s.get [] ba=some (.cells [.arr 1 row 0 T.length T.length])
 hr:s.get [] row=some (.cells (T.map kj))
 ne:row≠bw∧row≠ba
 minw:s.minw≤s.next
theorem lG.top {s:St} {bw ba row w:Nat} {T:List Int} (t:lG s bw ba row w T):lG s.top bw ba row w T:=⟨t.hw,t.ha,t.hr,t.ne,bv _⟩
theorem tf {sp:FuncId→Option (List ai→Option ai)} (h183:sp 183=none) {s:St} {bw ba row w:Nat} {T:List Int} (t:lG s bw ba row w T) {i k:Nat} (hik:i*w+k<T.length) (hT:T.length<100000000):br (QS sp) 183 [.int .i64 i,.int .i64 k,.ptr ba 0,.ptr bw 0] s (.ptr row (i*w+k)) s:=by
 have hw:=t.hw
 have ha:=t.ha
 have w1:IntKind.i64.wrap ((i:Int)*(w:Int))=((i*w:Nat):Int):=by
  have h2:((i*w:Nat):Int)<100000000:=by omega
  rw [show((i:Int)*(w:Int))=((i*w:Nat):Int) by simp,eC (by omega) (by omega)]
 have w2:IntKind.i64.wrap (((i*w:Nat):Int)+(k:Int))=((i*w+k:Nat):Int):=by rw [eC (by omega) (by omega)];omega
 have hnat:fF (.int .i64 ((i*w+k:Nat):Int))=some (i*w+k):=rfl
 refine br.of2 acv acu acx acw h183 ?_
 unfold Kr
 refine W.sreg ?_
 unfold Ks
 simp only [dg,cM,az,aA,aB,aJ,aI,aw,cT,aK,aQ,tA,aM,ar,bt,bR,bQ,dT,iC]
 refine W.sreg ?_
 unfold Kt
 simp only [az,aA,aB,ah,aE,aJ,bf,aW,ec,aj,aC,sh,aw,d8,ak,aZ,cT,cF,aP,aR,bN,bS,tA,aM,ae,ar,Bool.true_and,aU,cP,dT,fT,ajW,aan,dl,hw,ha,dj,GG,w1,w2,hik,Nat.mul_one]
 exact W.ret ⟨rfl,.inr rfl,cp (by simp only [ah,ae,cT,cF, *]) rfl⟩
theorem th {e:bc} {x:Operand} {av:Array Operand} {ts:Array TypeId} {ba bw:Nat} (h:ev e x=some (.func (.func 183) [] [.ptr ba 0,.ptr bw 0])):callee e ⟨.value x,av,ts⟩=(evcs e av.toList).bind fun args=>some (183,args++[.ptr ba 0,.ptr bw 0]):=by
 simp only [callee,h,ak,bT]
structure wx (e e':bc):Prop where
 h0:aq e' 0=aq e 0
 h1:aq e' 1=aq e 1
 h7:aq e' 7=aq e 7
section
variable {sp:FuncId→Option (List ai→Option ai)} (h183:sp 183=none) {va vb:ai} {a b:List ax} (ha:bu 1 bp va a) (hb:bu 1 bp vb b) (sa:a.length≤2000) (sb:b.length≤2000) {bw ba row:Nat}
include h183 ha hb sa sb
theorem aki {i:Nat} (hi:i<a.length): ∀(k:Nat) (e:bc) (lc:Ag.Loc) (s:St) (T:List Int),k≤b.length→lG s bw ba row (b.length+1) T→T.length=(a.length+1)*(b.length+1)→
 aq e 0=va→aq e 1=vb→aq e 7= .func (.func 183) [] [.ptr ba 0,.ptr bw 0]→aq e 8= .int .i64 i→aq e 9= .int .i64 ((k:Int)-1)→
 W (QS sp) 115 (.loop w9) ⟨e,130,lc⟩ s fun x fr s'=>x= .exit 2∧fr.size=130∧wx e fr.env∧aq fr.env 8= .int .i64 i∧lG s' bw ba row (b.length+1) (tX a b (b.length+1) i k T)∧s'.next=s.next∧s'.ci=s.ci:=by
 have ca:=ha.clean
 have cb:=hb.clean
 intro k
 induction k with
 |zero=>
  intro e lc s T hk t hT h0 h1 h7 h8 h9
  have hge:ig 0 ((0:Nat)-1:Int)=false:=rfl
  refine W.loop1 ?_
  unfold w9
  refine W.seq (W.seq (W.reg ?_))
  unfold CW
  simp only [az,aA,aB,ah,aE,aW,aj,aI,aC,bo,aw,mh,ak,aZ,cT,aP,bS,tA,ar,h9,hge,aN]
  refine W.cond (t:=false) (by simp only [aj,ah,ae,cT,cF, *]) (W.exit ?_)
  exact⟨rfl,rfl,⟨by simp only [ah,ae,cF, *],by simp only [ah,ae,cF, *],by simp only [ah,ae,cF, *]⟩,by simp only [ah,ae,cF, *],t,rfl,rfl⟩
 |succ k ih=>
  intro e lc s T hk t hT h0 h1 h7 h8 h9
  have hkb:k<b.length:=hk
  have hge:ig 0 (((k+1:Nat):Int)-1)=true:=by rw [show(((k+1:Nat):Int)-1)=((k:Nat):Int) by omega,show(0:Int)=((0:Nat):Int) from rfl,qK];simp
  have e9:aq e 9= .int .i64 (k:Nat):=by rw [h9];congr 1;omega
  have hu:a[i]? =some a[i]:=jf hi
  have hv:b[k]? =some b[k]:=jf hkb
  have hia:=fun lc=>ha.at mp hu lc .i64
  have hib:=fun lc=>hb.at mp hv lc .i64
  have wi:IntKind.i64.wrap ((i:Int)+1)=((i+1:Nat):Int):=by rw [eC (by omega) (by omega)];omega
  have wk:IntKind.i64.wrap ((k:Int)+1)=((k+1:Nat):Int):=by rw [eC (by omega) (by omega)];omega
  have wk2:IntKind.i64.wrap ((k:Int)-1)=(k:Int)-1:=eC (by omega) (by omega)
  have hN:(a.length+1)*(b.length+1)≤2001*2001:=Nat.mul_le_mul (by omega) (by omega)
  have hT2:T.length<100000000:=by omega
  have q0:(i+1)*(b.length+1)+(b.length+1)≤(a.length+1)*(b.length+1):=by
   have:=uo (b.length+1) (show i+1+1≤a.length+1 by omega)
   rw [ma,Nat.one_mul] at this;exact this
  have q00:(i+1)*(b.length+1)=i*(b.length+1)+(b.length+1):=by rw [ma,Nat.one_mul]
  have p0:i*(b.length+1)+k<T.length:=by omega
  have p1:(i+1)*(b.length+1)+(k+1)<T.length:=by omega
  have p2:(i+1)*(b.length+1)+k<T.length:=by omega
  have p3:i*(b.length+1)+(k+1)<T.length:=by omega
  have hrow:=t.hr
  have hsc1:(bp a[i]).cells=[bp a[i]]:=rfl
  have hsc2:(bp b[k]).cells=[bp b[k]]:=rfl
  have step: ∀z,z=(bif(a[i]?).getD []==(b[k]?).getD [] then IntKind.i32.wrap (up T ((i+1)*(b.length+1)+(k+1))+1) else bif du (up T ((i+1)*(b.length+1)+k)) (up T (i*(b.length+1)+(k+1))) then up T (i*(b.length+1)+(k+1)) else up T ((i+1)*(b.length+1)+k))→
   ∀s',(∀n,s'.get [] n=(s.put row (some (.cells ((T.set (i*(b.length+1)+k) z).map kj)))).get [] n)→s'.minw≤s'.next→lG s' bw ba row (b.length+1) (tZ a b (b.length+1) i k T):=fun z hz s' hg hm=>by
   have hst:tZ a b (b.length+1) i k T=T.set (i*(b.length+1)+k) z:=by rw [tZ,hz]
   rw [hst]
   refine⟨?_,?_,?_,t.ne,hm⟩
   ·rw [hg,cD,beq_eq_false_iff_ne.2 (fun h=>t.ne.1 h.symm)];exact t.hw
   ·rw [hg,cD,beq_eq_false_iff_ne.2 (fun h=>t.ne.2 h.symm),List.length_set];exact t.ha
   ·rw [hg,cD,bS];rfl
  have fin: ∀(e':bc) (s':St),wx e e'→aq e' 8= .int .i64 i→aq e' 9= .int .i64 (k:Nat)→lG s' bw ba row (b.length+1) (tZ a b (b.length+1) i k T)→s'.next=s.next→s'.ci=s.ci→
   W (QS sp) 115 (.region CZ) ⟨e',130,lc⟩ s' (Ex.next (fun x fr s'=>x= .exit 2∧fr.size=130∧wx e fr.env∧aq fr.env 8= .int .i64 i∧lG s' bw ba row (b.length+1) (tX a b (b.length+1) i (k+1) T)∧s'.next=s.next∧s'.ci=s.ci) fun fr s'=>W (QS sp) 115 (.loop w9) fr s' fun x fr s'=>x= .exit 2∧fr.size=130∧wx e fr.env∧aq fr.env 8= .int .i64 i∧lG s' bw ba row (b.length+1) (tX a b (b.length+1) i (k+1) T)∧s'.next=s.next∧s'.ci=s.ci):=by
   intro e' s' kp e8 e9' t' hn hc
   have e9'':=e9'
   refine W.reg ?_
   unfold CZ
   simp only [az,aA,aB,ah,aE,aJ,aW,aj,aI,aC,bo,aw,tg,ak,aZ,cT,cF,aP,bS,tA,ae,ar,e9'',wk2,aN]
   refine W.mono (ih _ lc s' _ (by omega) t' (by rw [SX];exact hT) ?_ ?_ ?_ ?_ ?_) ?_
   ·simp only [ah,ae,cF,kp.h0,h0]
   ·simp only [ah,ae,cF,kp.h1,h1]
   ·simp only [ah,ae,cF,kp.h7,h7]
   ·simp only [ah,ae,cF,e8]
   ·simp only [ah,ae,cT]
   rintro x fr s2 ⟨rfl,g1,g2,g3,g4,g5,g6⟩
   refine⟨rfl,g1,⟨g2.h0.trans ?_,g2.h1.trans ?_,g2.h7.trans ?_⟩,g3,g4,g5.trans hn,g6.trans hc⟩
   ·simp only [ah,ae,cF,kp.h0]
   ·simp only [ah,ae,cF,kp.h1]
   ·simp only [ah,ae,cF,kp.h7]
  refine W.loop1 ?_
  unfold w9
  refine W.seq (W.seq (W.reg ?_))
  unfold CW
  simp only [az,aA,aB,ah,aE,aW,aj,aI,aC,bo,aw,mh,ak,aZ,cT,aP,bS,tA,ar,h9,hge,aN]
  refine W.cond (t:=true) (by simp only [aj,ah,ae,cT,cF, *]) (W.skip ?_)
  simp only [aN]
  refine W.seq (W.block (W.sdrawQ t.minw ?_))
  unfold IA
  simp only [fh,fg,fu,isStore,ah,aE,bf,aW,ec,aj,aC,eI,aw,iJ,kF,ak,cu,cT,cF,aP,aR,bN,bS,tA,ae,ar,dD,h0,h1,e9,h8,hia,hib,bp]
  cases hz:a[i]==b[k] with
  |true=>
   have hz0:((a[i]?).getD []==(b[k]?).getD [])=true:=by rw [hu,hv];exact hz
   refine W.cond (t:=true) (by simp only [aj,ah,ae,cT,cF]) (W.region (fD 3 ?_))
   unfold IB
   simp only [az,aA,aB,ah,aE,aj,aw,cF,bA,aR,tA,ae,ar,h7,h8,e9]
   refine fQ (g:=183) (args:=[.int .i64 (i:Nat),.int .i64 (k:Nat),.ptr ba 0,.ptr bw 0]) ?_ (tf h183 t p0 hT2) (by decide) ?_
   ·rw [th (ba:=ba) (bw:=bw) (by simp only [aj,ah,ae,cT,cF])]
    simp only [ah,aj,aC,be,bh,ak,aZ,cT,cF,bT,cq,bS,ae]
   refine fD 5 ?_
   simp only [az,aA,aB,ah,aE,aW,aj,aI,aC,bo,aw,d8,ak,aZ,cT,cF,aP,bA,aR,bS,tA,ae,ar,h7,h8,e9,wi,wk]
   refine fQ (g:=183) (args:=[.int .i64 ((i+1:Nat):Int),.int .i64 ((k+1:Nat):Int),.ptr ba 0,.ptr bw 0]) ?_ (tf h183 t p1 hT2) (by decide) ?_
   ·rw [th (ba:=ba) (bw:=bw) (by simp only [aj,ah,ae,cT,cF])]
    simp only [ah,aj,aC,be,bh,ak,aZ,cT,cF,bT,cq,bS,ae]
   refine fP ?_
   have hup:=xZ p1
   have hwr:=TB p0 (IntKind.i32.wrap (up T ((i+1)*(b.length+1)+(k+1))+1))
   simp only [kj] at hup hwr hrow
   simp only [az,aA,dH,aB,dI,ah,bf,dJ,aW,fI,aj,aI,aC,bo,aw,wF,ak,aZ,cT,cF,aP,aK,aQ,bS,tA,aM,ae,ar,dB,aU,cP,dT,xM,S4,fG,dl,hrow,dj,hup,UH,j7,j6,hwr,dS,aN]
   refine fin _ _ ?_ ?_ ?_ ?_ ?_ ?_
   ·exact⟨by simp only [ah,ae,cF, *],by simp only [ah,ae,cF, *],by simp only [ah,ae,cF, *]⟩
   ·simp only [ah,ae,cF, *]
   ·simp only [ah,ae,cF];exact e9
   ·exact step _ (by rw [hz0];rfl) _ (fun n=>rfl) (ju s row _ t.minw)
   ·rfl
   ·rfl
  |false=>
   have hz0:((a[i]?).getD []==(b[k]?).getD [])=false:=by rw [hu,hv];exact hz
   refine W.cond (t:=false) (by simp only [aj,ah,ae,cT,cF]) (W.drawD ?_)
   rw [show mq=mq.take 3++(mq.drop 3) from(mR 3 _).symm]
   refine WD.calmOps t.minw (fun _ h=>by cases h) (fun _ h=>by cases h) ?_
   unfold mq
   simp only [fh,fg,fu,isStore,ah,aE,aj,aw,cF,aK,aQ,bA,aR,bT,cq,tA,aM,ae,ar,bt,h7,h8,e9]
   intro rs1 c1 i1
   refine WD.calmCall t.minw (g:=183) (args:=[.int .i64 (i:Nat),.int .i64 (k:Nat),.ptr ba 0,.ptr bw 0]) c1 i1 ?_ (tf h183 t.top p0 hT2) (by decide) (fun rs2 c2 i2=>?_)
   ·rw [th (ba:=ba) (bw:=bw) (by simp only [aj,ah,ae,cT,cF])]
    simp only [ah,aj,aC,be,bh,ak,aZ,cT,cF,bT,cq,bS,ae]
   refine WD.calmOps (l1:=mq.drop 4|>.take 4) (l2:=mq.drop 8) t.minw c2 i2 ?_
   unfold mq
   simp only [fh,fg,fu,isStore,ah,aE,aW,aj,aI,aC,bo,aw,d8,ak,aZ,cT,cF,aP,aK,aQ,bA,aR,gl,eP,bS,tA,aM,ae,ar,bt,h7,h8,e9,wi]
   intro rs3 c3 i3
   refine WD.calmCall t.minw (g:=183) (args:=[.int .i64 ((i+1:Nat):Int),.int .i64 (k:Nat),.ptr ba 0,.ptr bw 0]) c3 i3 ?_ (tf h183 t.top p2 hT2) (by decide) (fun rs4 c4 i4=>?_)
   ·rw [th (ba:=ba) (bw:=bw) (by simp only [aj,ah,ae,cT,cF])]
    simp only [ah,aj,aC,be,bh,ak,aZ,cT,cF,bT,cq,bS,ae]
   have hup2:=xZ p2
   have hup3:=xZ p3
   have hrt:s.top.get [] row=some (.cells (T.map kj)):=hrow
   simp only [kj] at hup2 hup3 hrt
   refine WD.calmOps (l1:=mq.drop 9|>.take 6) (l2:=mq.drop 15) t.minw c4 i4 ?_
   unfold mq
   simp only [fh,fg,fu,isStore,ah,aE,bf,aW,fI,aj,aI,aC,bo,aw,d8,ak,aZ,cT,cF,aP,aK,aQ,bA,aR,gl,eP,bS,tA,aM,ae,ar,bt,xM,h7,h8,e9,wk,fG,dl,hrt,dj,hup2,bA,aR]
   intro rs5 c5 i5
   refine WD.calmCall t.minw (g:=183) (args:=[.int .i64 (i:Nat),.int .i64 ((k+1:Nat):Int),.ptr ba 0,.ptr bw 0]) c5 i5 ?_ (tf h183 t.top p3 hT2) (by decide) (fun rs6 c6 i6=>?_)
   ·rw [th (ba:=ba) (bw:=bw) (by simp only [aj,ah,ae,cT,cF])]
    simp only [ah,aj,aC,be,bh,ak,aZ,cT,cF,bT,cq,bS,ae]
   refine WD.calmOps (l1:=mq.drop 16|>.take 4) (l2:=mq.drop 20) t.minw c6 i6 ?_
   unfold mq
   simp only [fh,fg,fu,isStore,ah,bf,fI,cL,aj,aC,be,bh,aw,cd,bH,ak,aZ,cT,cF,aP,bX,aK,aQ,bA,aR,gl,eP,bS,tA,aM,ae,ar,bt,aU,xM,fG,dl,hrt,dj,hup3,UW,bA,aR]
   intro rs7 c7 i7
   have hwr:=TB p0 (bif du (up T ((i+1)*(b.length+1)+k)) (up T (i*(b.length+1)+(k+1))) then up T (i*(b.length+1)+(k+1)) else up T ((i+1)*(b.length+1)+k))
   simp only [kj] at hwr
   refine WD.fullL (v:=gX) (lc:=lc) (s1:=s.top.put row (some (.cells ((T.set (i*(b.length+1)+k) (bif du (up T ((i+1)*(b.length+1)+k)) (up T (i*(b.length+1)+(k+1))) then up T (i*(b.length+1)+(k+1)) else up T ((i+1)*(b.length+1)+k))).map kj)))) i7 (by decide) rfl ?_ rfl rfl (fun rs8 k8=>?_)
   ·simp only [ah,dJ,aj,aC,wF,ak,aZ,cT,cF,aP,aK,aQ,bS,aM,ae,ar,dB,aU,cP,dT,S4,j7,hrt,j6,hwr]
   refine WD.nil ?_
   simp only [dS,aN]
   refine fin _ _ ?_ ?_ ?_ ?_ ?_ ?_
   ·exact⟨by simp only [ah,ae,cF, *],by simp only [ah,ae,cF, *],by simp only [ah,ae,cF, *]⟩
   ·simp only [ah,ae,cF, *]
   ·simp only [ah,ae,cF];exact e9
   ·refine step _ (by rw [hz0];rfl) _ (fun n=>rfl) ?_
    show(bif cr s.minw _ then s.minw else _)≤s.next
    cases cr s.minw _ with
    |true=>exact t.minw
    |false=>exact ju s.top row _ (bv _)
   ·rfl
   ·rfl
end
theorem ajA {Q:ck} {f:FuncId} {e:bc} {sz:Nat} {lc:Ag.Loc} {s:St} {d:Option Tmp} {g:SG} {mk:bj} (t:TypeId) (l c:Operand):dN Q f ⟨d,.makeSlice t l c,g⟩ mk ⟨e,sz,lc⟩ s=(ev e l).bind fun l=>(ev e c).bind fun c=>gR (sf Q.P t l c (Nat.beq (mn (Q.hint f) d) 2) s) lc:=rfl
theorem Sh (z:ai): ∀n,gg [z] n=wq n z
 |0=>rfl
 |n+1=>by
  show [z]++gg [z] n=_
  rw [Sh z n];rfl
theorem aip {N:Nat} (h0:0<N) (hN:N<100000000) (s:St):sf Tryz.prog 289 (.int .i64 N) (.int .i64 N) false s=some (.arr 1 s.next 0 N N,s.new (.cells ((wq N 0).map kj))):=by
 have hna:fF (.int .i64 ((N:Nat):Int))=some N:=rfl
 have h1:cr N N=true:=ew (bv _)
 have h2:cr (N*4) 1099511627776=true:=ew (by omega)
 have h3:cr N 1099511627776=true:=ew (by omega)
 have h4:Nat.beq N 0=false:=by rw [aU];exact beq_eq_false_iff_ne.2 (by omega)
 have h5:jc Tryz.prog 289=some ⟨1,4,false,(.int .i32 0)⟩:=Wd
 simp only [sf,h5,ak,hna,h1,h2,h3,h4,gK,cT,Bool.false_and,cF]
 rw [show(ai.int IntKind.i32 0).cells=[kj 0] from rfl,Sh,List.map_replicate]
def oA (p:Nat×Nat):ai:=.agg [.int .i64 p.1,.int .i64 p.2]
def l6 (T:List Int) (a b:List ax) (w:Nat):Nat→Nat→Nat→List (Nat×Nat)
 |0,_,_=>[]
 |n+1,i,k=>if i<a.length∧k<b.length then
   bif(a[i]?).getD []==(b[k]?).getD [] then(i,k)::l6 T a b w n (i+1) (k+1)
   else bif bL (up T ((i+1)*w+k)) (up T (i*w+k)) then l6 T a b w n (i+1) k else l6 T a b w n i (k+1)
  else []
inductive kf (la lb:Nat):Nat→Nat→List (Nat×Nat)→Prop
 |nil {i k:Nat}:kf la lb i k []
 |cons {i k p q:Nat} {l:List (Nat×Nat)}:i≤p→k≤q→p<la→q<lb→kf la lb (p+1) (q+1) l→kf la lb i k ((p,q)::l)
theorem kf.weak {la lb i k i' k':Nat} {l:List (Nat×Nat)} (h:kf la lb i k l) (hi:i'≤i) (hk:k'≤k):kf la lb i' k' l:=by
 cases h with
 |nil=>exact .nil
 |cons a b c d e=>exact .cons (by omega) (by omega) c d e
theorem AQ (T:List Int) (a b:List ax) (w:Nat): ∀n i k,kf a.length b.length i k (l6 T a b w n i k)
 |0,_,_=>.nil
 |n+1,i,k=>by
  simp only [l6]
  by_cases h:i<a.length∧k<b.length
  ·rw [if_pos h]
   cases (a[i]?).getD []==(b[k]?).getD [] with
   |true=>exact .cons (bv _) (bv _) h.1 h.2 (AQ T a b w n _ _)
   |false=>
    cases bL (up T ((i+1)*w+k)) (up T (i*w+k)) with
    |true=>exact(AQ T a b w n _ _).weak (by omega) (bv _)
    |false=>exact(AQ T a b w n _ _).weak (bv _) (by omega)
  ·rw [if_neg h];exact .nil
theorem kf.length {la lb i k:Nat} {l:List (Nat×Nat)} (h:kf la lb i k l) (hi:i≤la):l.length+i≤la:=by
 induction h with
 |nil=>simpa using hi
 |cons a b c d e ih=>
  have:=ih (by omega)
  simp only [aK];omega
def mw (a b:List ax):List (Nat×Nat):=l6 (ux a b (b.length+1) a.length (wq ((a.length+1)*(b.length+1)) 0)) a b (b.length+1) (a.length+b.length) 0 0
theorem tI (a b:List ax):kf a.length b.length 0 0 (mw a b):=AQ _ _ _ _ _ _ _
theorem Gs (a b:List ax) (w:Nat): ∀(i:Nat) (T:List Int),(ux a b w i T).length=T.length
 |0,_=>rfl
 |i+1,T=>by rw [ux,Gs a b w i,Fg]
theorem UY {e:bc} {x:Operand} {a b:ai} (h:ev e x=some (.agg [a,b])) (s:St):dR Tryz.prog 180 1 [(0,x)] false e s=some (.list 2 [.agg [a,b]] .full,s):=by
 simp only [dR,Hf,ak,dL,evc,h,ai.clean,cT,gg,ai.cells,aK,aQ,cI,Nat.zero_mul,aM,bt,Nat.reduceMul,ie,cut]
 rfl
section
variable {sp:FuncId→Option (List ai→Option ai)} (h183:sp 183=none) {va vb:ai} {a b:List ax} (ha:bu 1 bp va a) (hb:bu 1 bp vb b) (sa:a.length≤2000) (sb:b.length≤2000) {bw ba row:Nat}
include h183 ha hb sa sb
theorem Uv: ∀(i:Nat) (e:bc) (lc:Ag.Loc) (s:St) (T:List Int),i≤a.length→lG s bw ba row (b.length+1) T→T.length=(a.length+1)*(b.length+1)→
 aq e 0=va→aq e 1=vb→aq e 7= .func (.func 183) [] [.ptr ba 0,.ptr bw 0]→aq e 8= .int .i64 ((i:Int)-1)→
 W (QS sp) 115 (.loop yX) ⟨e,130,lc⟩ s fun x fr s'=>x= .exit 0∧fr.size=130∧wx e fr.env∧lG s' bw ba row (b.length+1) (ux a b (b.length+1) i T)∧s'.next=s.next∧s'.ci=s.ci:=by
 have cb:=hb.clean
 have hlen:=fun mk s=>hb.len iT jl mk s
 intro i
 induction i with
 |zero=>
  intro e lc s T hi t hT h0 h1 h7 h8
  have hge:ig 0 ((0:Nat)-1:Int)=false:=rfl
  refine W.loop1 ?_
  unfold yX
  refine W.seq (W.seq (W.reg ?_))
  unfold CV
  simp only [az,aA,aB,ah,aE,aW,aj,aI,aC,bo,aw,mh,ak,aZ,cT,aP,bS,tA,ar,h8,hge,aN]
  refine W.cond (t:=false) (by simp only [aj,ah,ae,cT,cF, *]) (W.exit ?_)
  exact⟨rfl,rfl,⟨by simp only [ah,ae,cF, *],by simp only [ah,ae,cF, *],by simp only [ah,ae,cF, *]⟩,t,rfl,rfl⟩
 |succ i ih=>
  intro e lc s T hi t hT h0 h1 h7 h8
  have hge:ig 0 (((i+1:Nat):Int)-1)=true:=by rw [show(((i+1:Nat):Int)-1)=((i:Nat):Int) by omega,show(0:Int)=((0:Nat):Int) from rfl,qK];simp
  have e8:aq e 8= .int .i64 (i:Nat):=by rw [h8];congr 1;omega
  have w1:IntKind.i64.wrap ((b.length:Int)-1)=(b.length:Int)-1:=eC (by omega) (by omega)
  have w2:IntKind.i64.wrap ((i:Int)-1)=(i:Int)-1:=eC (by omega) (by omega)
  refine W.loop1 ?_
  unfold yX
  refine W.seq (W.seq (W.reg ?_))
  unfold CV
  simp only [az,aA,aB,ah,aE,aW,aj,aI,aC,bo,aw,mh,ak,aZ,cT,aP,bS,tA,ar,h8,hge,aN]
  refine W.cond (t:=true) (by simp only [aj,ah,ae,cT,cF, *]) (W.skip ?_)
  simp only [aN]
  refine W.seq (W.block (W.sreg ?_))
  unfold IT
  simp only [az,aA,aB,ah,aE,aJ,aW,cL,aj,aI,aC,be,bh,bo,aw,cd,tg,da,bH,ak,aZ,cT,cF,aP,bX,bS,tA,ae,ar,aU,X6,h1,cb,hlen,w1]
  refine W.block ?_
  refine W.mono (aki h183 ha hb sa sb (i:=i) (by omega) b.length _ lc s T (bv _) t hT ?_ ?_ ?_ ?_ ?_) ?_
  ·simp only [ah,ae,cF, *]
  ·simp only [ah,ae,cF, *]
  ·simp only [ah,ae,cF, *]
  ·simp only [ah,ae,cF];exact e8
  ·simp only [ah,ae,cT]
  rintro x ⟨e',sz',lc'⟩ s' ⟨rfl,hs,kp,g8,t',hn,hc⟩
  have hs:sz'=130:=hs
  subst hs
  have g8:aq e' 8= .int .i64 i:=g8
  have k0:aq e' 0=va:=kp.h0.trans (by simp only [ah,ae,cF, *])
  have k1:aq e' 1=vb:=kp.h1.trans (by simp only [ah,ae,cF, *])
  have k7:aq e' 7= .func (.func 183) [] [.ptr ba 0,.ptr bw 0]:=kp.h7.trans (by simp only [ah,ae,cF, *])
  show W (QS sp) 115 _ _ _ _
  refine W.reg ?_
  unfold IR
  simp only [az,aA,aB,ah,aE,aJ,aW,aj,aI,aC,bo,aw,tg,ak,aZ,cT,cF,aP,bS,tA,ae,ar,g8,w2,aN]
  refine W.mono (ih _ lc' s' _ (by omega) t' (by rw [Fg];exact hT) ?_ ?_ ?_ ?_) ?_
  ·simp only [ah,ae,cF, *]
  ·simp only [ah,ae,cF, *]
  ·simp only [ah,ae,cF, *]
  ·simp only [ah,ae,cT]
  rintro x ⟨e2,sz2,lc2⟩ s2 ⟨rfl,hs,kp2,t2,hn2,hc2⟩
  refine⟨rfl,hs,⟨kp2.h0.trans ?_,kp2.h1.trans ?_,kp2.h7.trans ?_⟩,t2,hn2.trans hn,hc2.trans hc⟩
  ·simp only [ah,ae,cF,k0,h0]
  ·simp only [ah,ae,cF,k1,h1]
  ·simp only [ah,ae,cF,k7,h7]
theorem alP {T:List Int} (hT:T.length=(a.length+1)*(b.length+1)) {lo:Nat} (hlo:bw<lo∧ba<lo∧row<lo): ∀(n i k:Nat) (e:bc) (lc:Ag.Loc) (s:St) (ov:ai) (acc:List (Nat×Nat)),a.length+b.length≤n+(i+k)→acc.length≤i→lG s bw ba row (b.length+1) T→lo≤s.next→gi 2 lo s ov (acc.map oA)→
 aq e 0=va→aq e 1=vb→aq e 7= .func (.func 183) [] [.ptr ba 0,.ptr bw 0]→aq e 10=ov→aq e 11= .int .i64 i→aq e 12= .int .i64 k→i≤a.length→k≤b.length→
 W (QS sp) 115 (.loop xa) ⟨e,130,lc⟩ s fun x fr s'=>x= .exit 4∧fr.size=130∧ ∃ov',aq fr.env 10=ov'∧gi 2 lo s' ov' ((acc++l6 T a b (b.length+1) n i k).map oA)∧s'.ci=s.ci:=by
 have ca:=ha.clean
 have cb:=hb.clean
 have hla:=fun mk s=>ha.len iT jl mk s
 have hlb:=fun mk s=>hb.len iT jl mk s
 have stop: ∀(n i k:Nat) (e:bc) (lc:Ag.Loc) (s:St) (ov:ai) (acc:List (Nat×Nat)), ¬(i<a.length∧k<b.length)→gi 2 lo s ov (acc.map oA)→aq e 0=va→aq e 1=vb→aq e 10=ov→aq e 11= .int .i64 i→aq e 12= .int .i64 k→
  W (QS sp) 115 (.loop xa) ⟨e,130,lc⟩ s fun x fr s'=>x= .exit 4∧fr.size=130∧ ∃ov',aq fr.env 10=ov'∧gi 2 lo s' ov' (acc.map oA)∧s'.ci=s.ci:=by
  intro n i k e lc s ov acc hik hO h0 h1 h10 h11 h12
  refine W.loop1 ?_
  unfold xa
  refine W.seq (W.seq (W.reg ?_))
  unfold CU
  by_cases hi:i<a.length
  ·have hk: ¬k<b.length:=fun h=>hik ⟨hi,h⟩
   simp only [az,aA,cJ,aB,dz,eA,ah,aE,cw,aW,cL,aj,aI,aC,be,bh,bJ,cx,dy,aw,cd,cQ,da,bH,ak,aZ,cT,cF,aP,bX,cZ,bS,tA,ae,ar,aU,dT,decide_false,CH,H2,h0,h1,h11,h12,ca,cb,hla,hlb,hi,hk,aN]
   refine W.cond (t:=false) (by simp only [aj,ah,ae,cT,cF, *]) (W.exit ⟨rfl,rfl,ov,?_,hO,rfl⟩)
   simp only [ah,ae,cF,h10]
  ·simp only [az,aA,cJ,aB,ee,ia,ah,aE,cw,aW,cL,aj,aI,aC,be,bh,bJ,cx,dv,aw,cd,cQ,da,bH,ak,aZ,cT,cF,aP,bX,cZ,bS,tA,ae,ar,aU,decide_false,CH,h0,h11,ca,hla,hi,aN]
   refine W.cond (t:=false) (by simp only [aj,ah,ae,cT,cF, *]) (W.exit ⟨rfl,rfl,ov,?_,hO,rfl⟩)
   simp only [ah,ae,cF,h10]
 intro n
 induction n with
 |zero=>
  intro i k e lc s ov acc hn hac t hls hO h0 h1 h7 h10 h11 h12 hia hkb
  have:=stop 0 i k e lc s ov acc (by omega) hO h0 h1 h10 h11 h12
  simpa [l6] using this
 |succ n ih=>
  intro i k e lc s ov acc hn hac t hls hO h0 h1 h7 h10 h11 h12 hia hkb
  by_cases hik:i<a.length∧k<b.length
  ·obtain⟨hi,hk⟩:=hik
   have hu:a[i]? =some a[i]:=jf hi
   have hv:b[k]? =some b[k]:=jf hk
   have hja:=fun lc=>ha.at mp hu lc .i64
   have hjb:=fun lc=>hb.at mp hv lc .i64
   have wi:IntKind.i64.wrap ((i:Int)+1)=((i+1:Nat):Int):=by rw [eC (by omega) (by omega)];omega
   have wk:IntKind.i64.wrap ((k:Int)+1)=((k+1:Nat):Int):=by rw [eC (by omega) (by omega)];omega
   have hN:(a.length+1)*(b.length+1)≤2001*2001:=Nat.mul_le_mul (by omega) (by omega)
   have hT2:T.length<100000000:=by omega
   have q0:(i+1)*(b.length+1)+(b.length+1)≤(a.length+1)*(b.length+1):=by
    have:=uo (b.length+1) (show i+1+1≤a.length+1 by omega)
    rw [ma,Nat.one_mul] at this;exact this
   have q00:(i+1)*(b.length+1)=i*(b.length+1)+(b.length+1):=by rw [ma,Nat.one_mul]
   have p0:i*(b.length+1)+k<T.length:=by omega
   have p2:(i+1)*(b.length+1)+k<T.length:=by omega
   have hrow:=t.hr
   have hwalk:l6 T a b (b.length+1) (n+1) i k=bif(a[i]?).getD []==(b[k]?).getD [] then(i,k)::l6 T a b (b.length+1) n (i+1) (k+1) else bif bL (up T ((i+1)*(b.length+1)+k)) (up T (i*(b.length+1)+k)) then l6 T a b (b.length+1) n (i+1) k else l6 T a b (b.length+1) n i (k+1):=by
    simp only [l6];rw [if_pos ⟨hi,hk⟩]
   refine W.loop1 ?_
   unfold xa
   refine W.seq (W.seq (W.reg ?_))
   unfold CU
   simp only [az,aA,cJ,aB,dz,eA,ah,aE,cw,aW,cL,aj,aI,aC,be,bh,bJ,cx,dy,aw,cd,cQ,da,bH,ak,aZ,cT,cF,aP,bX,cZ,bS,tA,ae,ar,aU,dT,CH,H2,h0,h1,h11,h12,ca,cb,hla,hlb,hi,hk,aN]
   refine W.cond (t:=true) (by simp only [aj,ah,ae,cT,cF, *]) (W.skip ?_)
   simp only [aN]
   refine W.block (W.block (W.seq (W.drawQ t.minw ?_)))
   unfold IH
   simp only [fh,fg,fu,isStore,ah,aE,aJ,bf,aW,ec,aj,aC,eI,aw,iJ,kF,ak,cu,cT,cF,aP,aR,bN,bS,tA,ae,ar,dD,h0,h1,h11,h12,hja,hjb,bp,aN]
   cases hz:a[i]==b[k] with
   |true=>
    have hz0:((a[i]?).getD []==(b[k]?).getD [])=true:=by rw [hu,hv];exact hz
    rw [hz0,cT] at hwalk
    have hbs: ∀e s,aq e 105= .agg [.int .i64 (i:Nat),.int .i64 (k:Nat)]→dR Tryz.prog 180 1 [(0,.tmp 105)] false e s=some (.list 2 [.agg [.int .i64 (i:Nat),.int .i64 (k:Nat)]] .full,s):=fun e s h=>UY (by rw [aj,h]) s
    have hbd: ∀e,aq e 103= .int .i64 (i:Nat)→aq e 104= .int .i64 (k:Nat)→fY Tryz.prog 183 [(0,.tmp 103),(1,.tmp 104)] e=some (.agg [.int .i64 (i:Nat),.int .i64 (k:Nat)]):=fun e p q=>by
     rw [UK]
     simp only [FW,ak,dL,evc,ev,p,q,aZ,cT]
     rfl
    obtain⟨ov',s',happ,hO',hc',hn',hm',hold,hcell⟩:=wC Hf rfl (by decide) (y:=.list 2 [.agg [.int .i64 (i:Nat),.int .i64 (k:Nat)]] .full) (ys:=[oA (i,k)]) hO rfl (by rw [ep,oK];omega) hls t.minw
    have hoc:=hO.clean
    have hoc':=hO'.clean
    have t':lG s' bw ba row (b.length+1) T:=⟨(hold _ hlo.1).trans t.hw,(hold _ hlo.2.1).trans t.ha,(hold _ hlo.2.2).trans t.hr,t.ne,hm'⟩
    refine W.cond (t:=true) (by simp only [aj,ah,ae,cT,cF]) (W.seq (W.reg ?_))
    unfold II
    simp only [az,aA,aB,ah,aE,aJ,kL,kM,cL,aj,aC,be,bh,aw,cd,nZ,bH,ak,i8,cT,cF,aP,bX,bS,tA,ae,ar,aU,aaE,X0,X1,h10,h11,h12,hoc,hbd,hbs,happ,aN]
    refine W.reg ?_
    unfold IJ
    simp only [az,aA,aB,ah,aE,aJ,aW,aj,aI,aC,bo,aw,d8,ak,aZ,cT,cF,aP,bS,tA,ae,ar,h11,h12,wi,wk,dS,aN]
    refine W.mono (ih (i+1) (k+1) _ lc s' ov' (acc++[(i,k)]) (by omega) (by rw [List.length_append,oK];omega) t' (by omega) (by rw [List.map_append];exact hO') ?_ ?_ ?_ ?_ ?_ ?_ (by omega) (by omega)) ?_
    ·simp only [ah,ae,cF, *]
    ·simp only [ah,ae,cF, *]
    ·simp only [ah,ae,cF, *]
    ·simp only [ah,ae,cT,cF]
    ·simp only [ah,ae,cT,cF]
    ·simp only [ah,ae,cT,cF]
    rintro x fr s2 ⟨rfl,g1,ov2,g2,g3,g4⟩
    refine⟨rfl,g1,ov2,g2,?_,g4.trans hc'⟩
    rw [hwalk]
    rw [List.append_assoc] at g3
    exact g3
   |false=>
    have hz0:((a[i]?).getD []==(b[k]?).getD [])=false:=by rw [hu,hv];exact hz
    rw [hz0,cF] at hwalk
    have hup2:=xZ p2
    have hup0:=xZ p0
    have hrt:s.top.get [] row=some (.cells (T.map kj)):=hrow
    simp only [kj] at hup2 hup0 hrt
    refine W.cond (t:=false) (by simp only [aj,ah,ae,cT,cF]) ?_
    refine W.seq (W.drawD ?_)
    rw [show pS=pS.take 4++(pS.drop 4) from(mR 4 _).symm]
    refine WD.calmOps t.minw (fun _ h=>by cases h) (fun _ h=>by cases h) ?_
    unfold pS
    simp only [fh,fg,fu,isStore,ah,aE,aW,aj,aI,aC,bo,aw,d8,ak,aZ,cT,cF,aP,aK,aQ,bA,aR,bT,cq,bS,tA,aM,ae,ar,bt,h7,h11,h12,wi]
    intro rs1 c1 i1
    refine WD.calmCall t.minw (g:=183) (args:=[.int .i64 ((i+1:Nat):Int),.int .i64 (k:Nat),.ptr ba 0,.ptr bw 0]) c1 i1 ?_ (tf h183 t.top p2 hT2) (by decide) (fun rs2 c2 i2=>?_)
    ·rw [th (ba:=ba) (bw:=bw) (by simp only [aj,ah,ae,cT,cF])]
     simp only [ah,aj,aC,be,bh,ak,aZ,cT,cF,bT,cq,bS,ae]
    refine WD.calmOps (l1:=pS.drop 5|>.take 5) (l2:=pS.drop 10) t.minw c2 i2 ?_
    unfold pS
    simp only [fh,fg,fu,isStore,ah,aE,bf,fI,aj,aw,ak,cT,cF,aP,aK,aQ,bA,aR,gl,eP,bS,tA,aM,ae,ar,bt,xM,h7,h11,h12,fG,dl,hrt,dj,hup2,bA,aR]
    intro rs3 c3 i3
    refine WD.calmCall t.minw (g:=183) (args:=[.int .i64 (i:Nat),.int .i64 (k:Nat),.ptr ba 0,.ptr bw 0]) c3 i3 ?_ (tf h183 t.top p0 hT2) (by decide) (fun rs4 c4 i4=>?_)
    ·rw [th (ba:=ba) (bw:=bw) (by simp only [aj,ah,ae,cT,cF])]
     simp only [ah,aj,aC,be,bh,ak,aZ,cT,cF,bT,cq,bS,ae]
    refine WD.calmOps (l1:=pS.drop 11) (l2:=[]) t.minw c4 i4 ?_
    unfold pS
    simp only [fh,fg,fu,isStore,ah,aJ,bf,aW,fI,aj,aC,aw,ak,aZ,cT,cF,aP,aK,aQ,aR,gl,bS,tA,aM,ae,ar,bt,xM,fG,dl,hrt,dj,hup0,UI,aR]
    intro rs5 c5 i5
    refine WD.nil ?_
    simp only [aN]
    cases hy:bL (up T ((i+1)*(b.length+1)+k)) (up T (i*(b.length+1)+k)) with
    |true=>
     rw [hy,cT] at hwalk
     refine W.cond (t:=true) (by simp only [aj,ah,ae,cT,cF]) (W.reg ?_)
     unfold IL
     simp only [az,aA,aB,ah,aE,aJ,aW,aj,aI,aC,bo,aw,d8,ak,aZ,cT,cF,aP,bS,tA,ae,ar,h11,wi,dS,aN]
     refine W.mono (ih (i+1) k _ lc s ov acc (by omega) (by omega) t hls hO ?_ ?_ ?_ ?_ ?_ ?_ (by omega) (by omega)) ?_
     ·simp only [ah,ae,cF, *]
     ·simp only [ah,ae,cF, *]
     ·simp only [ah,ae,cF, *]
     ·simp only [ah,ae,cF, *]
     ·simp only [ah,ae,cT,cF]
     ·simp only [ah,ae,cF, *]
     rintro x fr s2 ⟨rfl,g1,ov2,g2,g3,g4⟩
     exact⟨rfl,g1,ov2,g2,by rw [hwalk];exact g3,g4⟩
    |false=>
     rw [hy,cF] at hwalk
     refine W.cond (t:=false) (by simp only [aj,ah,ae,cT,cF]) (W.reg ?_)
     unfold IG
     simp only [az,aA,aB,ah,aE,aJ,aW,aj,aI,aC,bo,aw,d8,ak,aZ,cT,cF,aP,bS,tA,ae,ar,h12,wk,dS,aN]
     refine W.mono (ih i (k+1) _ lc s ov acc (by omega) (by omega) t hls hO ?_ ?_ ?_ ?_ ?_ ?_ (by omega) (by omega)) ?_
     ·simp only [ah,ae,cF, *]
     ·simp only [ah,ae,cF, *]
     ·simp only [ah,ae,cF, *]
     ·simp only [ah,ae,cF, *]
     ·simp only [ah,ae,cF, *]
     ·simp only [ah,ae,cT,cF]
     rintro x fr s2 ⟨rfl,g1,ov2,g2,g3,g4⟩
     exact⟨rfl,g1,ov2,g2,by rw [hwalk];exact g3,g4⟩
  ·have hw:l6 T a b (b.length+1) (n+1) i k=[]:=by
    simp only [l6];rw [if_neg hik]
   rw [hw,im]
   exact stop 0 i k e lc s ov acc hik hO h0 h1 h10 h11 h12
end
theorem ah6 {sp:FuncId→Option (List ai→Option ai)} (h115:sp 115=none) (h183:sp 183=none) {va vb:ai} {a b:List ax} (ha:bu 1 bp va a) (hb:bu 1 bp vb b) (sa:a.length≤2000) (sb:b.length≤2000) {s:St} (hm:s.minw≤s.next):
 ∃ov s',br (QS sp) 115 [va,vb] s ov s'∧gi 2 (s.next+3) s' ov ((mw a b).map oA)∧s'.ci=s.ci:=by
 have ca:=ha.clean
 have cb:=hb.clean
 have hla:=fun mk s=>ha.len iT jl mk s
 have hlb:=fun mk s=>hb.len iT jl mk s
 have wa:IntKind.i64.wrap ((a.length:Int)+1)=((a.length+1:Nat):Int):=by rw [eC (by omega) (by omega)];omega
 have wb:IntKind.i64.wrap ((b.length:Int)+1)=((b.length+1:Nat):Int):=by rw [eC (by omega) (by omega)];omega
 have wa1:IntKind.i64.wrap ((a.length:Int)-1)=(a.length:Int)-1:=eC (by omega) (by omega)
 have hN:(a.length+1)*(b.length+1)≤2001*2001:=Nat.mul_le_mul (by omega) (by omega)
 have hN0:0<(a.length+1)*(b.length+1):=Nat.mul_pos (by omega) (by omega)
 have wm:IntKind.i64.wrap (((a.length+1:Nat):Int)*((b.length+1:Nat):Int))=(((a.length+1)*(b.length+1):Nat):Int):=by
  rw [←Int.natCast_mul,eC (by omega) (by omega)]
 have hmk:=fun s=>aip hN0 (by omega) s
 refine br.ofEx aa4 aa3 aa6 aa5 h115 ?_
 unfold Ix
 refine W.sreg ?_
 unfold Iy
 simp only [dg,cM,az,aA,aB,aJ,aI,aw,cT,aK,aQ,tA,aM,ar,bt,bR,bQ,dT,ofValue,fk]
 refine W.sreg ?_
 unfold Iz
 have hself:(s.new (.cells [.int .i64 0])).get [] s.next=some (.cells [.int .i64 0]):=by rw [cW,bS];rfl
 simp only [az,aA,dH,aB,dI,ah,aE,fH,dJ,aW,cL,aj,aI,aC,be,bh,bo,iA,aw,cd,d8,da,bH,wF,ak,aZ,cT,cF,aP,bX,aK,aQ,cI,bA,aR,gl,bT,im,bS,tA,aM,ae,ar,bR,dB,aU,cP,bQ,dT,alc,amc,X7,X2,cb,hlb,wb,iA,j7,hself,j6]
 obtain⟨s1,hs1⟩: ∃x,x=(s.new (.cells [.int .i64 0])).put s.next (some (.cells [.int .i64 ((b.length+1:Nat):Int)])):=⟨_,rfl⟩
 rw [←hs1]
 have hw1:s1.get [] s.next=some (.cells [.int .i64 ((b.length+1:Nat):Int)]):=by rw [hs1,cD,bS];rfl
 have n1:s1.next=s.next+1:=by rw [hs1];rfl
 have m1:s1.minw≤s1.next:=by rw [hs1];exact ju _ _ _ (Nat.le_succ_of_le hm)
 have c1:s1.ci=s.ci:=by rw [hs1];rfl
 refine W.sreg ?_
 unfold IK
 have hself2: ∀o,((s1.new o).new (.cells [.nils])).get [] (s1.next+1)=some (.cells [.nils]):=fun o=>by rw [cW,i9,bS];rfl
 simp only [az,aA,dH,aB,dI,ah,aE,fH,bf,dJ,aW,cL,aj,aI,aC,be,bh,bo,iA,aw,cd,d8,da,bH,ak,aZ,cT,cF,aP,bX,aK,aQ,cI,bA,aR,bN,gl,bT,im,bS,tA,aM,ae,ar,bR,dB,aU,cP,bQ,dT,fT,alb,amb,X8,X3,X4,ca,hla,wa,dl,hw1,dj,GG,wm,ajA,hmk,BJ,BH,iA,wG,i9,j7,hself2,j6]
 obtain⟨s3,hs3⟩: ∃x,x=((s1.new (.cells ((wq ((a.length+1)*(b.length+1)) 0).map kj))).new (.cells [.nils])).put (s1.next+1) (some (.cells [.arr 1 s1.next 0 ((a.length+1)*(b.length+1)) ((a.length+1)*(b.length+1))])):=⟨_,rfl⟩
 rw [←hs3]
 have n3:s3.next=s1.next+2:=by rw [hs3];rfl
 have c3:s3.ci=s.ci:=by rw [hs3];exact c1
 have t3:lG s3 s.next (s1.next+1) s1.next (b.length+1) (wq ((a.length+1)*(b.length+1)) 0):=by
  have hg: ∀n,n<s1.next→s3.get [] n=s1.get [] n:=fun n h=>by
   rw [hs3,cD,beq_eq_false_iff_ne.2 (by omega:n≠s1.next+1),cF,cW,i9,beq_eq_false_iff_ne.2 (by omega:n≠s1.next+1),cF,cW,beq_eq_false_iff_ne.2 (by omega:n≠s1.next)];rfl
  refine⟨(hg _ (by omega)).trans hw1,?_,?_,⟨by omega,by omega⟩,?_⟩
  ·rw [hs3,cD,bS,List.length_replicate];rfl
  ·rw [hs3,cD,beq_eq_false_iff_ne.2 (by omega:s1.next≠s1.next+1),cF,cW,i9,beq_eq_false_iff_ne.2 (by omega:s1.next≠s1.next+1),cF,cW,bS];rfl
  ·rw [hs3];exact ju _ _ _ (by show s1.minw≤s1.next+1+1;omega)
 refine W.sreg ?_
 unfold IP
 simp only [az,aA,aB,ah,aJ,vG,aj,aC,be,bh,aw,ak,dM,cT,cF,bS,tA,ae,ar,oe]
 refine W.seq (W.sreg ?_)
 unfold IQ
 simp only [az,aA,aB,ah,aE,aJ,aW,cL,aj,aI,aC,be,bh,bo,aw,cd,tg,da,bH,ak,aZ,cT,cF,aP,bX,bS,tA,ae,ar,aU,X5,ca,hla,wa1]
 refine W.block ?_
 refine W.mono (Uv h183 ha hb sa sb a.length _ _ s3 _ (bv _) t3 (List.length_replicate ..) ?_ ?_ ?_ ?_) ?_
 ·simp only [ah,ae,cT,cF, *]
 ·simp only [ah,ae,cT,cF, *]
 ·simp only [ah,ae,cT,cF, *]
 ·simp only [ah,ae,cT,cF, *]
 rintro x ⟨e,sz,lc⟩ s4 ⟨rfl,hs,kp,t4,n4,c4⟩
 have hs:sz=130:=hs
 subst hs
 have k0:aq e 0=va:=kp.h0.trans (by simp only [ah,ae,cT,cF, *])
 have k1:aq e 1=vb:=kp.h1.trans (by simp only [ah,ae,cT,cF, *])
 have k7:aq e 7= .func (.func 183) [] [.ptr (s1.next+1) 0,.ptr s.next 0]:=kp.h7.trans (by simp only [ah,ae,cT,cF, *])
 show W (QS sp) 115 _ _ _ _
 refine W.sreg ?_
 unfold IC
 simp only [az,aA,aB,aJ,aI,aw,tA,ar,ofValue,fk]
 refine W.seq (W.sreg ?_)
 unfold IE
 simp only [az,aA,aB,aJ,aI,bo,aw,tA,ar]
 refine W.block ?_
 refine W.mono (alP h183 ha hb sa sb (T:=ux a b (b.length+1) a.length (wq ((a.length+1)*(b.length+1)) 0)) (by rw [Gs,List.length_replicate]) (lo:=s.next+3) ⟨by omega,by omega,by omega⟩ (a.length+b.length) 0 0 _ _ s4 .nils [] (by omega) (bv _) t4 (by omega) (.inl ⟨rfl,rfl⟩) ?_ ?_ ?_ ?_ ?_ ?_ (Nat.zero_le _) (Nat.zero_le _)) ?_
 ·simp only [ah,ae,cF, *]
 ·simp only [ah,ae,cF, *]
 ·simp only [ah,ae,cF, *]
 ·simp only [ah,ae,cT,cF, *]
 ·simp only [ah,ae,cT,cF];rfl
 ·simp only [ah,ae,cT,cF];rfl
 rintro x ⟨e2,sz2,lc2⟩ s5 ⟨rfl,hs,ov,h10,hO,c5⟩
 have hs:sz2=130:=hs
 subst hs
 have h10:aq e2 10=ov:=h10
 have hoc:=hO.clean
 show W (QS sp) 115 _ _ _ _
 refine W.sreg ?_
 unfold IM
 simp only [az,aA,aB,ah,aE,aJ,aj,aw,cT,bS,tA,ar,h10]
 exact W.ret ⟨.inr rfl,ov,cp (by simp only [ah,ae,cT,cF, *]) hoc,hO,c5.trans (c4.trans c3)⟩
def Ey (l:List (Nat×Nat)):ai:=match l with
 | []=>.nils
 |l=>.list 2 (l.map oA) .no
theorem QR (l:List (Nat×Nat)):bu 2 oA (Ey l) l:=by
 cases l with
 |nil=>exact .inl ⟨rfl,rfl⟩
 |cons a l=>exact .inr ⟨.no,rfl⟩
theorem tQ {l:List ai} (h: ∀v∈l,bM v=true):pures l=true:=by
 induction l with
 |nil=>rfl
 |cons a l ih=>
  show(bM a&&pures l)=true
  rw [h a (by simp),ih fun v hv=>h v (by simp [hv])];rfl
def fS (sz:Nat):List ai→ai
 | []=>.nils
 |x::l=>.list sz (x::l) .no
theorem wX {h:bq bE} {sz lo:Nat} {s:St} {ov:ai} {xs:List ai} (hO:gi sz lo s ov xs) {k:Nat} (hx: ∀v∈xs,cR h k v=some v):cR h (k+1) ov=some (fS sz xs):=by
 rcases hO with⟨rfl,rfl⟩|⟨hne,n,rfl,_⟩
 ·rfl
 ·show(dZ (cR h k) xs).bind (fun ys=>some (ai.list sz ys .no))=_
  rw [uZ hx]
  cases xs with
  |nil=>exact absurd rfl hne
  |cons a l=>rfl
def vm:Sp
 | [u,v]=>bif pures [u,v] then(gN 1 kZ u).bind fun a=>(gN 1 kZ v).bind fun b=>bif cr a.length 2000&&cr b.length 2000 then some (Ey (mw a b)) else none else none
 |_=>none
theorem Ro {va vb:ai} {a b:List ax} (ha:bu 1 bp va a) (hb:bu 1 bp vb b) (pa:bM va=true) (pb:bM vb=true) (sa:a.length≤2000) (sb:b.length≤2000):vm [va,vb]=some (Ey (mw a b)):=by
 have h1:cr a.length 2000=true:=ew sa
 have h2:cr b.length 2000=true:=ew sb
 simp only [vm,pures,pa,pb,gK,cT,jE nX ha,jE nX hb,ak,h1,h2]
theorem ah5:eD Tryz.prog 115 vm:=by
 intro args x hv G h w xs wr hx
 unfold vm at hv
 split at hv
 ·rename_i u v
  obtain⟨hp,hv⟩:=bW hv
  simp only [Option.bind_eq_some_iff] at hv
  obtain⟨a,h1,b,h2,hv⟩:=hv
  obtain⟨hs,hv⟩:=bW hv
  injection hv with hv;subst hv
  simp only [Bool.and_eq_true] at hs
  have ha:=iX (fun v a=>nW) h1
  have hb:=iX (fun v a=>nW) h2
  obtain⟨ov,s',r1,r2,r3⟩:=ah6 (sp:=fun f=>eY f []) rfl rfl ha hb (io hs.1) (io hs.2) (s:=s0) (bv _)
  refine gJ (Q:=QT []) (gD .nil) (fun _=>Nat.zero_lt_succ 1) (args:=[u,v]) (v:=ov) (s':=s') (kB hp) (by rw [iw hp];exact r1) r3 ⟨3,?_⟩ G h w xs wr hx
  rw [wX r2 (k:=2) fun v hv=>?_]
  ·cases mw a b<;>rfl
  ·obtain⟨p,_,rfl⟩:=List.mem_map.1 hv
   rfl
 ·cases hv
end Go.Proofs.YtbfmdojdemckbaaGreat
