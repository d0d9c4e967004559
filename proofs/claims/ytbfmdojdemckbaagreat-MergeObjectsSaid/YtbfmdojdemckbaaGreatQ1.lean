/- sequence.Merge: short, merged, cut. -/
import Derived.Test.YtbfmdojdemckbaaGreatS3
namespace Go.Proofs.YtbfmdojdemckbaaGreat
open _root_.Bool renaming and_self→gK,and_true→dB,false_or→jz,or_false→oH
open _root_.List renaming append_nil→im,drop→aR,head?_cons→bN,length_append→dn,length_cons→aK,length_map→ep,length_nil→aQ,nil_append→bT,take→bA
open _root_.Nat renaming add_zero→cY,beq→aY,ble_eq_true_of_le→ew,ble→cr,blt→bP,le_of_ble_eq_true→io,le_refl→bv,le_succ_of_le→j8,lt_succ_of_lt→mS,lt_succ_self→ic,min_eq_left→wu,reduceAdd→bt,reduceBEq→ae,reduceLT→ar,reduceLeDiff→bR,zero_add→aM,zero_lt_succ→gL
open _root_.Option renaming bind_eq_some_iff→aF,bind_some→ak
open _root_.Option.some renaming injEq→a7
open Go.Ag
theorem RE {xs:List ai} {i:Nat} {v:ai} (h:xs[i]? =some v):iu xs i=v:=by
 induction xs generalizing i with
 |nil=>simp at h
 |cons a xs ih=>
  cases i with
  |zero=>simp at h;subst h;rfl
  |succ i=>exact ih (by simpa using h)
def nm (l:List ax):Bool:=decide (2000<l.length)
theorem ahY {sp:FuncId→Option (List ai→Option ai)} (h0:sp 182=none) {v:ai} {l:List ax} (hl:bu 1 bp v l) (s:St):br (QS sp) 182 [v] s (.bool (nm l)) s:=by
 have hlen:=fun mk s=>hl.len iT jl mk s
 have hcl:=hl.clean
 have hg:du 2000 ((l.length:Nat):Int)=nm l:=cZ 2000 _
 refine br.of2 acr acq act acs h0 ?_
 unfold Ko
 refine W.sreg ?_
 unfold Kp
 simp only [dg,cM,az,aA,aB,aJ,aI,bJ,aw,cT,aK,aQ,tA,aM,ar,bR,bQ,dT]
 refine W.sreg ?_
 unfold Kq
 simp only [az,aA,aB,ah,aE,aJ,aW,cL,aj,aI,aC,be,bh,bo,aw,cd,lL,da,bH,ak,aZ,cT,cF,aP,bX,bS,tA,ae,ar,aU,YA,hcl,hlen,hg]
 exact W.ret ⟨rfl,.inr rfl,cp (by simp only [ah,ae,cT,cF, *]) rfl⟩
def tF:Sp
 | [a]=>bif pures [a] then(gN 1 kZ a).bind fun l=>some (.bool (nm l)) else none
 |_=>none
theorem ahW {v:ai} {l:List ax} (hl:bu 1 bp v l) (hv:bM v=true):tF [v]=some (.bool (nm l)):=by
 simp only [tF,pures,hv,gK,cT,jE nX hl,ak]
theorem ahX:eD Tryz.prog 182 tF:=by
 intro args x hv G h w xs wr hx
 unfold tF at hv
 split at hv
 ·rename_i a
  obtain⟨hp,hv⟩:=bW hv
  simp only [aF,a7] at hv
  obtain⟨l,h1,rfl⟩:=hv
  have hl:=iX (fun v a=>nW) h1
  exact gJ (Q:=QT []) (gD .nil) (fun _=>gL 1) (args:=[a]) (v:=.bool (nm l)) (s':=s0) (kB hp) (by rw [iw hp];exact ahY (sp:=fun f=>eY f []) rfl hl s0) rfl ⟨1,rfl⟩ G h w xs wr hx
 ·cases hv
inductive Rows:List ai→List (List ax)→Prop
 |nil:Rows [] []
 |cons {v:ai} {l:List ax} {vs:List ai} {ls:List (List ax)}:bu 1 bp v l→bM v=true→Rows vs ls→Rows (v::vs) (l::ls)
def od:List (List ax)→Nat→Int
 | [],_=> -1
 |l::ls,i=>bif nm l then(i:Int) else od ls (i+1)
theorem Vl {e:bc} {x:Operand} {av:Array Operand} {ts:Array TypeId} (h:ev e x=some (.func (.func 182) [] [])):callee e ⟨.value x,av,ts⟩=(evcs e av.toList).bind fun args=>some (182,args):=by
 simp only [callee,h,ak,bT,im]
theorem aav {sp:FuncId→Option (List ai→Option ai)} (h182:sp 182=some tF) {vs:List ai} {r:fC} (hsmall:vs.length<1000) {s:St} {lc:Ag.Loc}: ∀(rest pre:List ai) (ls:List (List ax)) (e:bc),vs=pre++rest→Rows rest ls→
 aq e 0= .list 1 vs r→aq e 1= .func (.func 182) [] []→aq e 7= .int .i64 (vs.length:Nat)→aq e 8= .int .i64 (pre.length:Nat)→
 W (QS sp) 238 (.loop ze) ⟨e,19,lc⟩ s fun x fr s'=>s'=s∧fr.size=19∧((x= .exit 0∧od ls pre.length= -1)∨(x= .ret∧aq fr.env 4= .int .i64 (od ls pre.length))):=by
 intro rest
 induction rest with
 |nil=>
  intro pre ls e hpre hR h0 h1 h7 h8
  cases hR
  have hl':vs.length=pre.length:=by rw [hpre];simp
  refine W.loop1 ?_
  unfold ze
  refine W.sreg ?_
  unfold Dl
  simp only [az,aA,aB,aW,aj,aC,aw,cQ,ak,aZ,cT,aP,cZ,tA,ar,decide_false,h7,h8,hl',Nat.lt_irrefl]
  refine W.seq (W.cond (t:=false) (by simp only [aj,ah,ae,cT, *]) ?_)
  exact W.exit ⟨rfl,rfl,.inl ⟨rfl,rfl⟩⟩
 |cons v rest ih=>
  intro pre ls e hpre hR h0 h1 h7 h8
  cases hR with
  |cons hl hp hR=>
  rename_i l ls
  have hlt:pre.length<vs.length:=by rw [hpre];simp
  have hat:iu vs pre.length=v:=RE (by rw [hpre];simp)
  have hsc:=hl.scal
  have hcl:=hl.clean
  have hsp:=ahW hl hp
  have hwr:IntKind.i64.wrap ((pre.length:Int)+1)=((pre.length+1:Nat):Int):=by rw [eC (by omega) (by omega)];omega
  refine W.loop1 ?_
  unfold ze
  refine W.sreg ?_
  unfold Dl
  simp only [az,aA,aB,aW,aj,aC,aw,cQ,ak,aZ,cT,aP,cZ,tA,ar,dT,h7,h8,hlt]
  refine W.seq (W.cond (t:=true) (by simp only [aj,ah,ae,cT, *]) (W.skip ?_))
  simp only [aN]
  refine W.seq (W.block (W.sreg ?_))
  unfold LD
  simp only [az,aA,aB,ah,aE,aJ,aj,aw,cT,cF,bS,tA,ae,ar,h8]
  refine W.sreg ?_
  unfold LF
  simp only [az,aA,aB,ah,aE,bf,ec,dc,aj,aC,be,bh,eI,sh,aw,ak,cT,cF,aP,dt,aR,bN,bS,tA,ae,ar,Bool.true_and,aU,cP,dT,iE,aam,h0,h1,hlt,hat,hsc,hcl,Vl,h182,hsp]
  cases hz:nm l with
  |true=>
   refine W.cond (t:=true) (by simp only [aj,ah,ae,cT,cF]) (W.sreg ?_)
   unfold LG
   simp only [az,aA,aB,ah,aE,aJ,aj,aw,cT,cF,bS,tA,ae,ar]
   exact W.ret ⟨rfl,rfl,.inr ⟨rfl,by simp only [ah,ae,cT,cF,od,hz]⟩⟩
  |false=>
   refine W.cond (t:=false) (by simp only [aj,ah,ae,cT,cF]) (W.skip ?_)
   simp only [dS,aN]
   refine W.reg ?_
   unfold LH
   simp only [az,aA,aB,ah,aE,aW,aj,aI,aC,bo,aw,d8,ak,aZ,cT,cF,aP,bS,tA,ae,ar,h8,hwr,aN]
   refine(ih (pre++[v]) ls _ (by rw [hpre];simp) hR (by simp only [ah,ae,cF, *]) (by simp only [ah,ae,cF, *]) (by simp only [ah,ae,cF, *]) (by simp only [ah,ae,cT,cF,dn,aK,aQ])).mono ?_
   simp only [od,hz,cF,dn,aK,aQ]
   exact fun _ _ _ h=>h
theorem aaw {sp:FuncId→Option (List ai→Option ai)} (h238:sp 238=none) (h182:sp 182=some tF) {vs:List ai} {ls:List (List ax)} {r:fC} (hR:Rows vs ls) (hsmall:vs.length<1000) (s:St):br (QS sp) 238 [.list 1 vs r,.func (.func 182) [] []] s (.int .i64 (od ls 0)) s:=by
 refine br.of2 ada ac9 adc adb h238 ?_
 unfold Lz
 refine W.sreg ?_
 unfold LA
 simp only [dg,cM,az,aA,aB,aJ,aI,bo,aw,cT,aK,aQ,tA,aM,ar,bt,bR,bQ,dT]
 refine W.seq (W.sreg ?_)
 unfold LC
 simp only [az,aA,aB,ah,aE,cL,aj,aI,aC,be,bh,bo,aw,cd,da,bH,ak,i8,cT,cF,aP,bX,bS,tA,ae,ar,aU,aht,YI]
 refine W.block ?_
 refine(aav h182 (r:=r) hsmall vs [] ls _ rfl hR (by simp only [ah,ae,cT,cF, *]) (by simp only [ah,ae,cT,cF, *]) (by simp only [ah,ae,cT,cF, *]) (by simp only [ah,ae,cT,cF];rfl)).mono ?_
 rintro x ⟨e,sz,lc⟩ s' ⟨rfl,hs,⟨rfl,hok⟩|⟨rfl,h2⟩⟩
 ·have hs:sz=19:=hs
  subst hs
  have hok:od ls 0= -1:=hok
  show W (QS sp) 238 _ _ _ _
  refine W.sreg ?_
  unfold LI
  simp only [az,aA,aB,aJ,aI,bo,aw,tA,ar]
  exact W.ret ⟨rfl,.inr rfl,cp (by simp only [ah,ae,cT,hok]) rfl⟩
 ·exact⟨rfl,.inr rfl,cp h2 rfl⟩
def uA (a:ai):Option (List ax):=bif bM a then gN 1 kZ a else none
theorem Fh: ∀ {vs:List ai} {ls:List (List ax)},j3 uA vs=some ls→Rows vs ls
 | [],ls,h=>by
   simp only [j3,a7] at h
   subst h;exact .nil
 |v::vs,ls,h=>by
  simp only [j3,aF,a7] at h
  obtain⟨l,h1,r,h2,rfl⟩:=h
  unfold uA at h1
  obtain⟨hp,h1⟩:=bW h1
  exact .cons (iX (fun v a=>nW) h1) hp (Fh h2)
theorem xN: ∀ {vs:List ai} {ls:List (List ax)},Rows vs ls→j3 uA vs=some ls∧pures vs=true
 | [],_,.nil=>⟨rfl,rfl⟩
 |v::vs,_,.cons h1 h2 h3=>by
  obtain⟨a,b⟩:=xN h3
  have h4:=jE nX h1
  simp only [j3,uA,h2,cT,h4,ak,a,pures,b,gK,and_self]
def u5:Sp
 | [.list 1 vs .full,.func (.func 182) [] []]=>(j3 uA vs).bind fun ls=>bif bP vs.length 1000 then some (.int .i64 (od ls 0)) else none
 |_=>none
def Bp:eE:=[(182,tF)]
theorem Uk:fV Bp:=.cons ahX .nil
theorem aau:eD Tryz.prog 238 u5:=by
 intro args x hv G h w xs wr hx
 unfold u5 at hv
 split at hv
 ·rename_i vs
  simp only [aF] at hv
  obtain⟨ls,h1,hv⟩:=hv
  obtain⟨hs,hv⟩:=bW hv
  injection hv with hv;subst hv
  have hR:=Fh h1
  have hp:pures [.list 1 vs .full,.func (.func 182) [] []]=true:=by
   show(bM (.list 1 vs .full)&&(bM (.func (.func 182) [] [])&&true))=true
   show((pures vs&&true)&&_)=true
   rw [(xN hR).2];rfl
  exact gJ (Q:=QT Bp) (gD Uk) (fun _=>gL 1) (args:=[.list 1 vs .full,.func (.func 182) [] []]) (v:=.int .i64 (od ls 0)) (s':=s0) (kB hp) (by rw [iw hp];exact aaw (sp:=fun f=>eY f Bp) rfl rfl hR (io hs) s0) rfl ⟨1,rfl⟩ G h w xs wr hx
 ·cases hv
def lI:List (List ax)→Bool
 | []=>false
 |l::ls=>nm l||lI ls
theorem Gu: ∀(ls:List (List ax)) (i:Nat),ig 0 (od ls i)=lI ls
 | [],_=>rfl
 |l::ls,i=>by
  simp only [od,lI]
  cases nm l with
  |true=>simp only [cT,Bool.true_or];rw [show(0:Int)=((0:Nat):Int) from rfl,qK];simp
  |false=>simp only [cF,jz];exact Gu ls (i+1)
theorem akH {sp:FuncId→Option (List ai→Option ai)} (h114:sp 114=none) (h181:sp 181=none) (h238:sp 238=some u5) {vs:List ai} {ls:List (List ax)} (hR:Rows vs ls) (hsmall:vs.length<1000) (s:St):br (QS sp) 114 [.list 1 vs .full] s (.bool (!lI ls)) s:=by
 have hsp:u5 [.list 1 vs .full,.func (.func 182) [] []]=some (.int .i64 (od ls 0)):=by
  have q1:bP vs.length 1000=true:=ew hsmall
  simp only [u5,(xN hR).1,ak,q1,cT]
 have hany:=Gu ls 0
 have r181:br (QS sp) 181 [.list 1 vs .full,.func (.func 182) [] []] s (.bool (lI ls)) s:=by
  refine br.of2 acn acm acp aco h181 ?_
  unfold Kl
  refine W.sreg ?_
  unfold Km
  simp only [dg,cM,az,aA,aB,aJ,aI,bJ,aw,cT,aK,aQ,tA,aM,ar,bt,bR,bQ,dT]
  refine W.sreg ?_
  unfold Kn
  simp only [az,aA,aB,ah,aE,aJ,aW,dc,db,aj,aI,aC,be,bh,bo,aw,mh,ak,aZ,i8,nc,cT,cF,aP,dt,bS,tA,ae,ar,h238,hsp,hany]
  exact W.ret ⟨rfl,.inr rfl,cp (by simp only [ah,ae,cT,cF, *]) rfl⟩
 refine br.of2 aaW aaV aaY aaX h114 ?_
 unfold Iu
 refine W.sreg ?_
 unfold Iv
 simp only [dg,cM,az,aA,aB,aJ,aI,bJ,aw,cT,aK,aQ,tA,aM,ar,bR,bQ,dT]
 refine W.seq (W.region (fD 1 ?_))
 unfold Iw
 simp only [az,aA,aB,ah,aE,aj,aw,cT,cF,bA,aR,bS,tA,ae,ar]
 refine fQ (g:=181) (args:=[.list 1 vs .full,.func (.func 182) [] []]) ?_ r181 (by decide) ?_
 ·simp only [callee,ah,aj,eH,aC,be,bh,ak,i8,nc,cT,cF,bT,List.cons_append,bS,ae]
 refine fP ?_
 simp only [az,aA,aB,ah,aJ,eW,aj,aC,aw,eZ,ak,ei,cT,cF,bS,tA,ae,ar,aN]
 exact W.ret ⟨rfl,.inr rfl,cp (by simp only [ah,ae,cT,cF, *]) rfl⟩
def vW:Sp
 | [.list 1 vs .full]=>(j3 uA vs).bind fun ls=>bif bP vs.length 1000 then some (.bool (!lI ls)) else none
 |_=>none
def Bi:eE:=[(238,u5)]
theorem Ud:fV Bi:=.cons aau .nil
theorem akG:eD Tryz.prog 114 vW:=by
 intro args x hv G h w xs wr hx
 unfold vW at hv
 split at hv
 ·rename_i vs
  simp only [aF] at hv
  obtain⟨ls,h1,hv⟩:=hv
  obtain⟨hs,hv⟩:=bW hv
  injection hv with hv;subst hv
  have hR:=Fh h1
  have hp:pures [.list 1 vs .full]=true:=by
   show((pures vs&&true)&&true)=true
   rw [(xN hR).2];rfl
  exact gJ (Q:=QT Bi) (gD Ud) (fun _=>gL 1) (args:=[.list 1 vs .full]) (v:=.bool (!lI ls)) (s':=s0) (kB hp) (by rw [iw hp];exact akH (sp:=fun f=>eY f Bi) rfl rfl rfl hR (io hs) s0) rfl ⟨1,rfl⟩ G h w xs wr hx
 ·cases hv
theorem sq {Q:ck} {fr:Fr} {s:St} {t u:Tmp} {v w:ai} (h:aq fr.env t=v) (hv:v.clean=true) (hu:aq fr.env u=w) (hw:w.clean=true): ∃vs,gh Q [] fr s [.tmp t,.tmp u]=some vs∧jw vs= .tup [v,w]:=by
 refine⟨[v,w],?_,rfl⟩
 simp only [gh,vQ,evc,ev,h,hu,ak,hv,hw,cT]
def o8 (_vb vo vt:ai) (b o t:List ax):ai:=bif o==b then .tup [vt,.bool true] else bif t==b||t==o then .tup [vo,.bool true] else .tup [.nils,.bool false]
theorem aii {sp:FuncId→Option (List ai→Option ai)} (h116:sp 116=none) (h37:sp 37=some oT) {vb vo vt:ai} {b o t:List ax} (hb:bu 1 bp vb b) (ho:bu 1 bp vo o) (ht:bu 1 bp vt t) (pb:bM vb=true) (po:bM vo=true) (pt:bM vt=true) (so:o.length<small) (st:t.length<small) (s:St):
 br (QS sp) 116 [vb,vo,vt] s (o8 vb vo vt b o t) s:=by
 have cb:=hb.clean
 have co:=ho.clean
 have ct:=ht.clean
 have e1:=yG ho hb po pb so
 have e2:=yG ht hb pt pb st
 have e3:=yG ht ho pt po st
 refine br.of2 aa8 aa7 aba aa9 h116 ?_
 unfold IU
 refine W.sreg ?_
 unfold IV
 simp only [dg,cM,az,aA,aB,aJ,aI,aw,cT,aK,aQ,tA,aM,ar,bt,bR,bQ,dT,ofValue,fk]
 refine W.seq (W.block (W.sreg ?_))
 unfold IW
 simp only [az,aA,aB,ah,aE,aJ,dc,db,aj,aC,be,bh,aw,ak,cT,cF,dt,bS,tA,ae,ar,co,cb,h37,e1]
 cases h1:o==b with
 |true=>
  have hm:o8 vb vo vt b o t= .tup [vt,.bool true]:=by simp only [o8,h1,cT]
  rw [hm]
  refine W.cond (t:=true) (by simp only [aj,ah,ae,cT,cF]) (W.sreg ?_)
  unfold IX
  simp only [az,aA,aB,ah,aE,aJ,aj,aI,bJ,aw,cT,cF,bS,tA,ae,ar]
  exact W.ret ⟨rfl,.inr rfl,sq (by simp only [ah,ae,cT,cF, *]) ct (by simp only [ah,ae,cT,cF, *]) rfl⟩
 |false=>
  refine W.cond (t:=false) (by simp only [aj,ah,ae,cT,cF]) (W.seq (W.seq (W.reg ?_)))
  unfold IY
  simp only [az,aA,aB,ah,aE,aJ,dc,db,aj,aC,be,bh,aw,ak,cT,cF,dt,bS,tA,ae,ar,ct,cb,h37,e2,aN]
  cases h2:t==b with
  |true=>
   have hm:o8 vb vo vt b o t= .tup [vo,.bool true]:=by simp only [o8,h1,h2,Bool.true_or,cT,cF]
   rw [hm]
   refine W.cond (t:=true) (by simp only [aj,ah,ae,cT,cF]) (W.skip ?_)
   simp only [aN]
   refine W.cond (t:=true) (by simp only [aj,ah,ae,cT,cF]) (W.sreg ?_)
   unfold C3
   simp only [az,aA,aB,ah,aE,aJ,aj,aI,bJ,aw,cT,cF,bS,tA,ae,ar]
   exact W.ret ⟨rfl,.inr rfl,sq (by simp only [ah,ae,cT,cF, *]) co (by simp only [ah,ae,cT,cF, *]) rfl⟩
  |false=>
   refine W.cond (t:=false) (by simp only [aj,ah,ae,cT,cF]) (W.reg ?_)
   unfold IZ
   simp only [az,aA,aB,ah,aE,aJ,dc,db,aj,aC,be,bh,aw,ak,cT,cF,dt,bS,tA,ae,ar,ct,co,h37,e3,aN]
   cases h3:t==o with
   |true=>
    have hm:o8 vb vo vt b o t= .tup [vo,.bool true]:=by simp only [o8,h1,h2,h3,jz,cT,cF]
    rw [hm]
    refine W.cond (t:=true) (by simp only [aj,ah,ae,cT,cF]) (W.sreg ?_)
    unfold C3
    simp only [az,aA,aB,ah,aE,aJ,aj,aI,bJ,aw,cT,cF,bS,tA,ae,ar]
    exact W.ret ⟨rfl,.inr rfl,sq (by simp only [ah,ae,cT,cF, *]) co (by simp only [ah,ae,cT,cF, *]) rfl⟩
   |false=>
    have hm:o8 vb vo vt b o t= .tup [.nils,.bool false]:=by simp only [o8,h1,h2,h3,Bool.or_self,cF]
    rw [hm]
    refine W.cond (t:=false) (by simp only [aj,ah,ae,cT,cF]) (W.skip ?_)
    simp only [dS,aN]
    refine W.sreg ?_
    unfold I0
    simp only [az,aA,aB,aJ,aI,aw,tA,ar,ofValue,fk]
    exact W.ret ⟨rfl,.inr rfl,sq (by simp only [ah,ae,cT,cF, *]) rfl (by simp only [ah,ae,cT,cF, *]) rfl⟩
section
variable {Q:ck} {f:FuncId}
def WD (Q:ck) (f:FuncId) (bs:List Nat) (rs:List dQ) (i:Nat) (l:List au) (fr:Fr) (s:St) (K:Fr→St→Prop):Prop:= ∃fr' s',jj Q f bs rs i l fr s fr' s'∧K fr' s'
def qv (i:Nat) (rs:List dQ):Prop:= ∀r∈rs,r.i<i∧r.loud=false
theorem qv.cons {i c0 c1:Nat} {ft:fM} {lo:Bool} {rs:List dQ} (h:qv i rs) (hl:lo=false):qv (i+1) (⟨i,c0,c1,ft,lo⟩::rs):=by
 intro r hr
 rcases List.mem_cons.1 hr with rfl|hr
 ·exact⟨ic _,hl⟩
 ·exact⟨mS (h r hr).1,(h r hr).2⟩
theorem EZ {s s1:St} {o:au} (hst:isStore o.op=false) (hmw:s.next≤s1.minw):(bP s1.minw s.next||isStore o.op)=false:=by
 rw [hst,oH,cP]
 exact decide_eq_false (by omega)
theorem WD.nil {bs:List Nat} {rs:List dQ} {i:Nat} {fr:Fr} {s:St} {K:Fr→St→Prop} (h:K fr s):WD Q f bs rs i [] fr s K:=⟨fr,s,.nil,h⟩
theorem WD.hush {b i:Nat} {bs:List Nat} {rs:List dQ} {o:au} {l:List au} {fr fr1:Fr} {s s1:St} {v:ai} {lc:Ag.Loc} {K:Fr→St→Prop} (hr:qv i rs) (hst:isStore o.op=false) (hmw:s.next≤s1.minw) (hw:ik fr.env o.g=true)
 (hpl: ∀mk,dN Q f o mk fr s.top=some (v,lc,s1)) (hci:s1.ci=s.ci) (hp:d7 fr o.dst v lc=some fr1) (hk: ∀rs',qv (i+1) rs'→WD Q f bs rs' (i+1) l fr1 (s.least s1) K):WD Q f (b::bs) rs i (o::l) fr s K:=by
 have hl:=EZ hst hmw
 obtain⟨fr',s',h1,h2⟩:=hk (⟨i,s.next,s1.next,dr (Q.hint f) o.dst fr.env o.op,bP s1.minw s.next||isStore o.op⟩::rs) (hr.cons hl)
 exact⟨fr',s',.step hw (hpl _) (by rw [hl];exact HG fun r h=>(hr r h).2) hci hp h1,h2⟩
theorem WD.full {b i:Nat} {bs:List Nat} {rs:List dQ} {o:au} {l:List au} {fr fr1:Fr} {s s1:St} {v:ai} {lc:Ag.Loc} {K:Fr→St→Prop} (hr:qv i rs) (hb: ∀j,j<i→b.testBit j=true) (hst:isStore o.op=false) (hmw:s.next≤s1.minw) (hw:ik fr.env o.g=true)
 (hpl:dN Q f o [] fr s.top=some (v,lc,s1)) (hci:s1.ci=s.ci) (hp:d7 fr o.dst v lc=some fr1) (hk: ∀rs',qv (i+1) rs'→WD Q f bs rs' (i+1) l fr1 (s.least s1) K):WD Q f (b::bs) rs i (o::l) fr s K:=by
 have hl:=EZ hst hmw
 obtain⟨fr',s',h1,h2⟩:=hk (⟨i,s.next,s1.next,dr (Q.hint f) o.dst fr.env o.op,bP s1.minw s.next||isStore o.op⟩::rs) (hr.cons hl)
 refine⟨fr',s',.step hw ?_ (wT fun r h=>hb _ (hr r h).1) hci hp h1,h2⟩
 show dN Q f o (iU b rs []) fr s.top=_
 rw [xw fun r h=>.inl (hb _ (hr r h).1)]
 exact hpl
theorem WD.fullL {b i:Nat} {bs:List Nat} {rs:List dQ} {o:au} {l:List au} {fr fr1:Fr} {s s1:St} {v:ai} {lc:Ag.Loc} {K:Fr→St→Prop} (hr: ∀r∈rs,r.i<i) (hb: ∀j,j<i→b.testBit j=true) (hw:ik fr.env o.g=true)
 (hpl:dN Q f o [] fr s.top=some (v,lc,s1)) (hci:s1.ci=s.ci) (hp:d7 fr o.dst v lc=some fr1) (hk: ∀rs',(∀r∈rs',r.i<i+1)→WD Q f bs rs' (i+1) l fr1 (s.least s1) K):WD Q f (b::bs) rs i (o::l) fr s K:=by
 obtain⟨fr',s',h1,h2⟩:=hk (⟨i,s.next,s1.next,dr (Q.hint f) o.dst fr.env o.op,bP s1.minw s.next||isStore o.op⟩::rs) (fun r hr'=>by
  rcases List.mem_cons.1 hr' with rfl|hr'
  ·exact ic _
  ·exact mS (hr r hr'))
 refine⟨fr',s',.step hw ?_ (wT fun r h=>hb _ (hr r h)) hci hp h1,h2⟩
 show dN Q f o (iU b rs []) fr s.top=_
 rw [xw fun r h=>.inl (hb _ (hr r h))]
 exact hpl
theorem WD.call {b i:Nat} {bs:List Nat} {rs:List dQ} {o:au} {c:Call} {l:List au} {fr fr1:Fr} {s s1:St} {g:FuncId} {args:List ai} {v:ai} {K:Fr→St→Prop} (hr:qv i rs) (hb: ∀j,j<i→b.testBit j=true) (ho:o.op= .call c) (hmw:s.next≤s1.minw) (hw:ik fr.env o.g=true)
 (hn: ∀b,c.callee≠ .builtin b) (hc:callee fr.env c=some (g,args)) (hrun:br Q g args s.top v s1) (hci:s1.ci=s.ci) (hp:d7 fr o.dst v fr.loc=some fr1) (hk: ∀rs',qv (i+1) rs'→WD Q f bs rs' (i+1) l fr1 (s.least s1) K):WD Q f (b::bs) rs i (o::l) fr s K:=by
 have hst:isStore o.op=false:=by rw [ho];rfl
 have hl:=EZ hst hmw
 obtain⟨fr',s',h1,h2⟩:=hk (⟨i,s.next,s1.next,dr (Q.hint f) o.dst fr.env o.op,bP s1.minw s.next||isStore o.op⟩::rs) (hr.cons hl)
 refine⟨fr',s',.call hw ho hn hc ?_ (wT fun r h=>hb _ (hr r h).1) hci hp h1,h2⟩
 show yo Q g args (iU b rs []) s.top v s1
 rw [xw fun r h=>.inl (hb _ (hr r h).1)]
 exact hrun
theorem W.drawD {ops:List au} {bs:List Nat} {fr:Fr} {s:St} {K:Ex→Fr→St→Prop} (h:WD Q f bs [] 0 ops fr s fun fr s=>K .normal fr s):W Q f (.draw ops bs) fr s K:=let⟨_,_,h1,h2⟩:=h;W.drawR h1 h2
theorem Es {s s1:St} (h:s.minw≤s.next) (h1:s.next≤s1.minw):(s.least s1).minw=s.minw:=by
 show(bif cr s.minw s1.minw then s.minw else s1.minw)=s.minw
 rw [ew (Nat.le_trans h h1)];rfl
theorem WD.calmOps {s:St} (hm:s.minw≤s.next) {l1 l2:List au} {bs:List Nat} {rs:List dQ} {i:Nat} {fr:Fr} {K:Fr→St→Prop} (hc:calm rs) (hi: ∀r∈rs,r.i<i)
 (h:WQ Q f s.top l1 fr fun fr1=> ∀rs1,calm rs1→(∀r∈rs1,r.i<i+l1.length)→WD Q f (bs.drop l1.length) rs1 (i+l1.length) l2 fr1 s K):WD Q f bs rs i (l1++l2) fr s K:=
 WQ.thenD (N:=K) hm hc hi h
theorem WD.calmCall {s:St} (hm:s.minw≤s.next) {b i:Nat} {bs:List Nat} {rs:List dQ} {d:Tmp} {x:Operand} {av:Array Operand} {ts:Array TypeId} {l:List au} {e:bc} {sz:Nat} {lc:Ag.Loc} {g:FuncId} {args:List ai} {v:ai} {K:Fr→St→Prop} (hc:calm rs) (hi: ∀r∈rs,r.i<i)
 (hcal:callee e ⟨.value x,av,ts⟩=some (g,args)) (hrun:br Q g args s.top v s.top) (hd:d<sz)
 (hk: ∀rs1,calm rs1→(∀r∈rs1,r.i<i+1)→WD Q f bs rs1 (i+1) l ⟨e.set d (some v),sz,lc⟩ s K):WD Q f (b::bs) rs i (⟨some d,.call ⟨.value x,av,ts⟩,.aw⟩::l) ⟨e,sz,lc⟩ s K:=by
 have hl:(bP s.top.minw s.next||isStore (.call ⟨.value x,av,ts⟩))=false:=by
  rw [cP]
  have: ¬s.top.minw<s.next:=by show¬s.next<s.next;omega
  rw [decide_eq_false this];rfl
 obtain⟨fr',s',h1,h2⟩:=hk (⟨i,s.next,s.next,dr (Q.hint f) (some d) e (.call ⟨.value x,av,ts⟩),false⟩::rs) (fun r hr=>by
  rcases List.mem_cons.1 hr with rfl|hr
  ·exact⟨rfl,rfl⟩
  ·exact hc r hr) (fun r hr=>by
  rcases List.mem_cons.1 hr with rfl|hr
  ·exact ic _
  ·exact mS (hi r hr))
 refine⟨fr',s',.call (v:=v) (s1:=s.top) rfl rfl (fun b=>by simp) hcal ?_ ?_ rfl (ij.2 ⟨hd,rfl⟩) ?_,h2⟩
 ·show yo Q g args (iU b rs []) s.top v s.top
  rw [EC hc]
  exact hrun
 ·rw [hl];exact Cj hc _ _
 ·rw [hl,lU hm];exact h1
def sY (i:Nat) (rs:List dQ):Prop:= ∀r∈rs,r.i<i∧r.c0=r.c1∧(r.loud=true→r.foot= .all)
def uY:fM→Bool
 | .none=>true
 | .loc _=>true
 |_=>false
theorem Rm {rs:List dQ} (h: ∀r∈rs,r.c0=r.c1) (b:Nat):iU b rs []=[]:=xw fun r hr=>.inr (h r hr)
theorem Xo {i b:Nat} {rs:List dQ} {ft:fM} (h:sY i rs) (hf:uY ft=true):fits b ft false rs=true:=by
 simp only [fits,List.all_eq_true]
 intro r hr
 obtain⟨_,_,h3⟩:=h r hr
 cases hl:r.loud with
 |false=>simp
 |true=>
  rw [h3 hl]
  cases ft<;>first|(cases hf;done)|simp [fM.meets]
theorem Vn {i:Nat} {rs:List dQ} (h:calm rs) (hi: ∀r∈rs,r.i<i):sY i rs:=fun r hr=>⟨hi r hr,(h r hr).1,fun hl=>by rw [(h r hr).2] at hl;cases hl⟩
def WX (Q:ck) (f:FuncId) (s:St):List au→Fr→(Fr→Prop)→Prop
 | [],fr,N=>N fr
 |o::l,fr,N=> ∃v fr',ik fr.env o.g=true∧dN Q f o [] fr s=some (v,fr.loc,s)∧isStore o.op=false∧uY (dr (Q.hint f) o.dst fr.env o.op)=true∧d7 fr o.dst v fr.loc=some fr'∧WX Q f s l fr' N
def FC (Q:ck) (f:FuncId) (s:St) (d:Tmp) (st:Bool) (fo:fM) (e:bc) (sz:Nat) (lc:Ag.Loc) (l:List au) (N:Fr→Prop) (x:Option (ai×Ag.Loc×St)):Prop:= ∃v,x=some (v,lc,s)∧st=false∧uY fo=true∧d<sz∧WX Q f s l ⟨e.set d (some v),sz,lc⟩ N
theorem yu {s:St} {fr:Fr} {N:Fr→Prop}:WX Q f s [] fr N=N fr:=rfl
theorem AI {s:St} {d:Tmp} {st:Bool} {fo:fM} {e:bc} {sz:Nat} {lc:Ag.Loc} {l:List au} {N:Fr→Prop} {v:ai}:FC Q f s d st fo e sz lc l N (some (v,lc,s))=(st=false∧uY fo=true∧d<sz∧WX Q f s l ⟨e.set d (some v),sz,lc⟩ N):=by
 unfold FC
 apply propext
 constructor
 ·rintro⟨u,h,r⟩
  simp only [a7,Prod.mk.injEq,and_true] at h
  subst h;exact r
 ·intro r
  exact⟨v,rfl,r⟩
theorem yq {s:St} {d:Tmp} {op:Op} {l:List au} {e:bc} {sz:Nat} {lc:Ag.Loc} {N:Fr→Prop}:
 WX Q f s (⟨some d,op,.aw⟩::l) ⟨e,sz,lc⟩ N=FC Q f s d (isStore op) (dr (Q.hint f) (some d) e op) e sz lc l N (dN Q f ⟨some d,op,.aw⟩ [] ⟨e,sz,lc⟩ s):=by
 apply propext
 constructor
 ·rintro⟨v,fr',_,h2,h3,h4,h5,h6⟩
  obtain⟨hd,rfl⟩:=ij.1 h5
  exact⟨v,h2,h3,h4,hd,h6⟩
 ·rintro⟨v,h2,h3,h4,hd,h6⟩
  exact⟨v,_,rfl,h2,h3,h4,ij.2 ⟨hd,rfl⟩,h6⟩
theorem WD.loudOps {s:St} (hm:s.minw≤s.next) {l2:List au} {K:Fr→St→Prop}: ∀ {l1:List au} {bs:List Nat} {rs:List dQ} {i:Nat} {fr:Fr},sY i rs→
 WX Q f s.top l1 fr (fun fr1=> ∀rs1,sY (i+l1.length) rs1→WD Q f (bs.drop l1.length) rs1 (i+l1.length) l2 fr1 s K)→WD Q f bs rs i (l1++l2) fr s K
 | [],bs,rs,i,fr,hc,h=>h rs hc
 |o::l,bs,rs,i,fr,hc,h=>by
  have hdrop: ∀(bs:List Nat) (n:Nat),bs.tail.drop n=bs.drop (n+1):=fun bs n=>by cases bs<;>simp
  obtain⟨v,fr',hw,h1,h2,h3,h4,h5⟩:=h
  have hl:(bP s.top.minw s.next||isStore o.op)=false:=by
   rw [h2,oH,cP]
   exact decide_eq_false (by show¬s.next<s.next;omega)
  have hc2:sY (i+1) (⟨i,s.next,s.next,dr (Q.hint f) o.dst fr.env o.op,false⟩::rs):=fun r hr=>by
   rcases List.mem_cons.1 hr with rfl|hr
   ·exact⟨ic _,rfl,fun hl=>by cases hl⟩
   ·obtain⟨a,b,c⟩:=hc r hr
    exact⟨mS a,b,c⟩
  obtain⟨fr2,s2,q1,q2⟩:=WD.loudOps (l2:=l2) (K:=K) hm (l1:=l) (bs:=bs.tail) (i:=i+1) (fr:=fr') hc2 (by
   rw [hdrop]
   have e:i+1+l.length=i+(o::l).length:=by simp only [aK];omega
   rw [e];exact h5)
  refine⟨fr2,s2,.step hw (v:=v) (lc:=fr.loc) (s1:=s.top) ?_ ?_ rfl h4 ?_,q2⟩
  ·rw [Rm fun r hr=>(hc r hr).2.1];exact h1
  ·rw [hl];exact Xo hc h3
  ·rw [hl,lU hm];exact q1
theorem WD.loudCall {s s1:St} {b i:Nat} {bs:List Nat} {rs:List dQ} {d:Tmp} {x:Operand} {av:Array Operand} {ts:Array TypeId} {l:List au} {e:bc} {sz:Nat} {lc:Ag.Loc} {g:FuncId} {args:List ai} {v:ai} {K:Fr→St→Prop} (hc:sY i rs) (hb: ∀j,j<i→b.testBit j=true)
 (hcal:callee e ⟨.value x,av,ts⟩=some (g,args)) (hrun:br Q g args s.top v s1) (hn:s1.next=s.next) (hci:s1.ci=s.ci) (hd:d<sz)
 (hk: ∀rs1,sY (i+1) rs1→WD Q f bs rs1 (i+1) l ⟨e.set d (some v),sz,lc⟩ (s.least s1) K):WD Q f (b::bs) rs i (⟨some d,.call ⟨.value x,av,ts⟩,.aw⟩::l) ⟨e,sz,lc⟩ s K:=by
 obtain⟨fr',s',h1,h2⟩:=hk (⟨i,s.next,s1.next,dr (Q.hint f) (some d) e (.call ⟨.value x,av,ts⟩),bP s1.minw s.next||isStore (.call ⟨.value x,av,ts⟩)⟩::rs) (fun r hr=>by
  rcases List.mem_cons.1 hr with rfl|hr
  ·exact⟨ic _,hn.symm,fun _=>rfl⟩
  ·obtain⟨p,q,t⟩:=hc r hr
   exact⟨mS p,q,t⟩)
 refine⟨fr',s',.call (v:=v) (s1:=s1) rfl rfl (fun b=>by simp) hcal ?_ (wT fun r hr=>hb _ (hc r hr).1) hci (ij.2 ⟨hd,rfl⟩) h1,h2⟩
 show yo Q g args (iU b rs []) s.top v s1
 rw [Rm fun r hr=>(hc r hr).2.1]
 exact hrun
theorem Co (h:Tmp→Nat) (d:Option Tmp) (e:bc) (t:TypeId) (a:Operand):dr h d e (.load t a)=rN e a:=rfl
theorem Cn (h:Tmp→Nat) (d:Option Tmp) (e:bc) (t:TypeId) (a:Operand) (i:Nat):dr h d e (.fieldAddr t a i)=oW e a:=rfl
theorem yM (h:Tmp→Nat) (d:Option Tmp) (e:bc) (a:Operand):dr h d e (.move a)= .none:=rfl
theorem Xu (h:Tmp→Nat) (d:Option Tmp) (e:bc) (a:Operand):dr h d e (.assign a)= .none:=rfl
theorem Cm (h:Tmp→Nat) (d:Option Tmp) (e:bc) (o:BinOp) (t u:TypeId) (x y:Operand):dr h d e (.binOp o t x y u)= .none:=rfl
theorem Xv (h:Tmp→Nat) (d:Option Tmp) (e:bc) (a:Operand) (i:Nat):dr h d e (.extract a i)= .none:=rfl
def HL:ai→fM
 | .lref t _ _=>.loc t
 | .ptr n _=>.obj n
 | .ro _=>.none
 |_=>.all
def HM:ai→fM
 | .lref t _ _=>.loc t
 |_=>.none
theorem Cq (e:bc) (t:Tmp):rN e (.tmp t)=HL (aq e t):=by
 show(match ev e (.tmp t) with|some (.lref t _ _)=>fM.loc t|some (.ptr n _)=>.obj n|some (.ro _)=>.none|_=>.all)=_
 rw [aj]
 cases aq e t<;>rfl
theorem Cw (e:bc) (t:Tmp):oW e (.tmp t)=HM (aq e t):=by
 show(match ev e (.tmp t) with|some (.lref t _ _)=>fM.loc t|_=>.none)=_
 rw [aj]
 cases aq e t<;>rfl
theorem Cp (t g o:Nat):HL (.lref t g o)= .loc t:=rfl
theorem Cv (t g o:Nat):HM (.lref t g o)= .loc t:=rfl
theorem Cu (t:Nat):uY (.loc t)=true:=rfl
theorem yN:uY .none=true:=rfl
end
def gi (sz lo:Nat) (s:St) (ov:ai) (xs:List ai):Prop:=(ov= .nils∧xs=[])∨(xs≠ []∧ ∃k,ov= .list sz xs (.own k)∧s.get [] k=some .tok∧lo≤k∧k<s.next)
theorem gi.clean {sz lo:Nat} {s:St} {ov:ai} {xs:List ai} (h:gi sz lo s ov xs):ov.clean=true:=by
 rcases h with⟨rfl,_⟩|⟨_,k,rfl,_⟩<;>rfl
theorem gi.keep {sz lo:Nat} {s s':St} {ov:ai} {xs:List ai} (h:gi sz lo s ov xs) (hg: ∀n,lo≤n→s'.get [] n=s.get [] n) (hn:s.next≤s'.next):gi sz lo s' ov xs:=by
 rcases h with h|⟨h1,k,h2,h3,h4,h5⟩
 ·exact .inl h
 ·exact .inr ⟨h1,k,h2,(hg k h4).trans h3,h4,by omega⟩
theorem ju (s:St) (n:Nat) (o:Option bE) (h:s.minw≤s.next):(s.put n o).minw≤(s.put n o).next:=by
 show(bif cr s.minw n then s.minw else n)≤s.next
 cases hb:cr s.minw n with
 |true=>exact h
 |false=>
  have: ¬s.minw≤n:=fun hc=>by rw [ew hc] at hb;cases hb
  simp only [cF];omega
theorem wC {t:TypeId} {E:EI} {sz lo:Nat} (hE:jc Tryz.prog t=some E) (hn:E.n=sz) (hb:E.b≤88) {s:St} {ov y:ai} {xs ys:List ai} (h:gi sz lo s ov xs) (hy:jO [] E.g E.n y s=some ys) (hlen:xs.length+ys.length≤1000000) (hlo:lo≤s.next) (hm:s.minw≤s.next):
 ∃ov' s',jD Tryz.prog [] t ov y false s=some (ov',s')∧gi sz lo s' ov' (xs++ys)∧s'.ci=s.ci∧s.next≤s'.next∧s'.minw≤s'.next∧(∀n,n<lo→s'.get [] n=s.get [] n)∧ov'.cells=[ov']:=by
 subst hn
 have hov:w7 ov=true∧ov.cells=[ov]:=by rcases h with⟨rfl,_⟩|⟨_,k,rfl,_⟩<;>exact⟨rfl,rfl⟩
 cases ys with
 |nil=>
  refine⟨ov,s,?_,by rw [im];exact h,rfl,bv _,hm,fun _ _=>rfl,hov.2⟩
  simp only [jD,hE,ak,hy,hov.1,cT]
 |cons y0 ys=>
  rcases h with⟨rfl,rfl⟩|⟨hne,k,rfl,hk,h5,h6⟩
  ·have hr:kP (y0::ys).length E.b=true:=tW (by simpa using hlen) hb
   refine⟨.list E.n (y0::ys) (.own s.next),s.new .tok,?_,.inr ⟨by simp,s.next,rfl,by rw [cW,bS];rfl,hlo,ic _⟩,rfl,Nat.le_succ _,j8 hm,fun n hn'=>?_,rfl⟩
   ·simp only [jD,hE,ak,hy,kY,j2,hr,cT,cF]
   ·rw [cW,beq_eq_false_iff_ne.2 (by omega)];rfl
  ·have hr:kP (xs.length+(y0::ys).length) E.b=true:=tW hlen hb
   refine⟨.list E.n (xs++(y0::ys)) (.own s.next),(s.put k none).new .tok,?_,.inr ⟨by simp,s.next,rfl,by rw [cW,o9,bS];rfl,hlo,ic _⟩,rfl,Nat.le_succ _,j8 (ju s k none hm),fun n hn'=>?_,rfl⟩
   ·simp only [jD,hE,ak,hy,kY,hk,hr,aU,bS,gK,cT]
   ·rw [cW,o9,beq_eq_false_iff_ne.2 (by omega),cF,cD,beq_eq_false_iff_ne.2 (by omega)];rfl
theorem Fb: ∀l:List ax,pures (l.map bp)=true
 | []=>rfl
 |a::l=>by
  show(bM (bp a)&&pures (l.map bp))=true
  rw [Fb l];rfl
def Sa:fC→Bool
 | .own _=>false
 |_=>true
theorem E9 (l:List ax) (r:fC):bM (.list 1 (l.map bp) r)=Sa r:=by
 show(pures (l.map bp)&&_)=_
 rw [Fb]
 cases r<;>rfl
theorem xY:Tryz.prog.underlying 37=some (.slice 9):=by kernel_rfl
theorem AK:eX Tryz.prog 9=some 1:=by kernel_rfl
theorem akM {env:bc} {s:St} {V:ai} {l:List ax} (hV:bu 1 bp V l) (pV:bM V=true) {n:Nat} {x y:Operand} (hx:ev env x=some (.int .i64 n)) (hy:ev env y=some (.int .i64 n)) (hn:n≤l.length):
 ∃V',jH Tryz.prog [] 37 V none (some x) (some y) env s=some V'∧bu 1 bp V' (l.take n)∧bM V'=true:=by
 rcases hV with⟨rfl,rfl⟩|⟨r,rfl⟩
 ·have h0:n=0:=by simpa using hn
  subst h0
  refine⟨.nils,?_,.inl ⟨rfl,rfl⟩,rfl⟩
  simp only [jH,xY,ak,AK,jv,hx,hy]
  rfl
 ·refine⟨.list 1 ((l.map bp).take n) .full,?_,.inr ⟨.full,by rw [List.map_take]⟩,by rw [←List.map_take,E9];rfl⟩
  have h1:cr n (l.map bp).length=true:=ew (by rw [ep];exact hn)
  have hna:fF (.int .i64 ((n:Nat):Int))=some n:=rfl
  simp only [jH,xY,ak,AK,jv,hx,hy,hna,h1,aU,bS,cT,Option.isSome_some,List.drop_zero,dB]
  rfl
theorem akN {V:ai} {l:List ax} (hV:bu 1 bp V l) (pV:bM V=true) {n:Nat} (hn:n≤l.length):
 ∃V',(∀(env:bc) (s:St) (x:Operand),ev env x=some (.int .i64 n)→jH Tryz.prog [] 37 V (some x) none none env s=some V')∧bu 1 bp V' (l.drop n)∧bM V'=true∧V'.cells=[V']:=by
 rcases hV with⟨rfl,rfl⟩|⟨r,rfl⟩
 ·have h0:n=0:=by simpa using hn
  subst h0
  refine⟨.nils,fun env s x hx=>?_,.inl ⟨rfl,rfl⟩,rfl,rfl⟩
  simp only [jH,xY,ak,AK,jv,hx]
  rfl
 ·obtain⟨r',hr'⟩: ∃r',r'=bif aY (l.map bp).length (l.map bp).length&&(bP n (l.map bp).length||aY n 0) then r else fC.no:=⟨_,rfl⟩
  have hp:Sa r'=true:=by
   rw [hr']
   cases aY (l.map bp).length (l.map bp).length&&(bP n (l.map bp).length||aY n 0) with
   |true=>rw [E9] at pV;exact pV
   |false=>rfl
  refine⟨.list 1 (((l.map bp).take (l.map bp).length).drop n) r',fun env s x hx=>?_,.inr ⟨r',by rw [List.take_length,List.map_drop]⟩,by rw [List.take_length,←List.map_drop,E9];exact hp,rfl⟩
  have h1:cr n (l.map bp).length=true:=ew (by rw [ep];exact hn)
  have h2:cr (l.map bp).length (l.map bp).length=true:=ew (bv _)
  have hna:fF (.int .i64 ((n:Nat):Int))=some n:=rfl
  rw [hr']
  simp only [jH,xY,ak,AK,jv,hx,hna,h1,h2,aU,bS,gK,cT]
theorem UX (P:Program) (mk:bj) (ts:List TypeId) (mu:Bool) (a b:Int) (s:St):ld P mk .min ts mu [.int .i64 a,.int .i64 b] s=some (.int .i64 (bif du b a then b else a),s):=by
 have:(IntKind.i64==IntKind.i64)=true:=rfl
 simp only [ld,qS,this,cT,cF,ak]
theorem V6 {sp:FuncId→Option (List ai→Option ai)} {e:bc} {lc:Ag.Loc} {s:St} {x:Nat} {V V':ai} {rs1:List dQ} {K:Fr→St→Prop} (hi: ∀r∈rs1,r.i<14) (hx:s.get [] x=some (.cells [V])) (hcl2:V'.clean=true) (hv4:V'.cells=[V']) (hm:s.minw≤s.next) (h13:aq e 13= .ptr x 0) (h26:aq e 26=V')
 (hk: ∀s',(∀k,s'.get [] k=(s.put x (some (.cells [V']))).get [] k)→s'.next=s.next→s'.ci=s.ci→s'.minw≤s'.next→K ⟨(e.set 27 (some (.ptr x 0))).set 28 (some (.ptr x 0)),30,lc⟩ s'):
 WD (QS sp) 117 [16383,32767,65535] rs1 14 (tD.drop 14) ⟨e,30,lc⟩ s K:=by
 have hxt:s.top.get [] x=some (.cells [V]):=hx
 unfold tD
 refine WD.fullL (v:=.ptr x 0) (lc:=lc) (s1:=s.top) (fr1:=⟨e.set 27 (some (.ptr x 0)),30,lc⟩) hi (by decide) rfl ?_ rfl (ij.2 ⟨by decide,rfl⟩) (fun rs3 k3=>?_)
 ·simp only [fI,aj,aw,ak,h13,fG]
 rw [lU hm]
 refine WD.fullL (v:=.ptr x 0) (lc:=lc) (s1:=s.top) (fr1:=⟨(e.set 27 (some (.ptr x 0))).set 28 (some (.ptr x 0)),30,lc⟩) k3 (by decide) rfl ?_ rfl (ij.2 ⟨by decide,rfl⟩) (fun rs4 k4=>?_)
 ·simp only [ah,b7,aj,aw,ak,cT,aP,bS,cY,B6]
 rw [lU hm]
 refine WD.fullL (v:=gX) (lc:=lc) (s1:=s.top.put x (some (.cells [V']))) (fr1:=⟨(e.set 27 (some (.ptr x 0))).set 28 (some (.ptr x 0)),30,lc⟩) k4 (by decide) rfl ?_ rfl rfl (fun rs5 k5=>?_)
 ·simp only [ah,dJ,aj,aC,ak,cT,cF,aP,aK,aQ,cI,bA,aR,List.drop_succ_cons,bT,im,bS,aM,ae,ar,bR,dB,aU,cP,bQ,dT,xX,j7,hxt,j6,hv4,hcl2,h26]
 refine WD.nil (hk _ (fun k=>rfl) rfl rfl ?_)
 show(bif cr s.minw (s.top.put x (some (.cells [V']))).minw then s.minw else(s.top.put x (some (.cells [V']))).minw)≤s.next
 cases cr s.minw (s.top.put x (some (.cells [V']))).minw with
 |true=>exact hm
 |false=>exact ju s.top x _ (bv _)
theorem BP {sp:FuncId→Option (List ai→Option ai)} (h117:sp 117=none) {s:St} {x n:Nat} {V:ai} {l:List ax} (hx:s.get [] x=some (.cells [V])) (hV:bu 1 bp V l) (pV:bM V=true) (hn:n≤l.length) (hsmall:l.length<1000000) (hm:s.minw≤s.next):
 ∃v s',br (QS sp) 117 [.ptr x 0,.int .i64 n] s v s'∧bu 1 bp v (l.take n)∧bM v=true∧(∃V',bu 1 bp V' (l.drop (n+1))∧bM V'=true∧ ∀k,s'.get [] k=(s.put x (some (.cells [V']))).get [] k)∧s'.next=s.next∧s'.ci=s.ci∧s'.minw≤s'.next:=by
 have hcl:=hV.clean
 have hcc:V.cells=[V]:=by rcases hV with⟨rfl,_⟩|⟨r,rfl⟩<;>rfl
 have hlen:=fun mk s=>hV.len iT jl mk s
 have hxt:s.top.get [] x=some (.cells [V]):=hx
 have hdl:l.drop (min (n+1) l.length)=l.drop (n+1):=by
  rcases Nat.le_total (n+1) l.length with h|h
  ·rw [wu h]
  ·rw [Nat.min_eq_right h,List.drop_length,List.drop_eq_nil_of_le h]
 have hwr:IntKind.i64.wrap ((n:Int)+1)=((n+1:Nat):Int):=by rw [eC (by omega) (by omega)];omega
 refine br.ofEx abd abc abf abe h117 ?_
 unfold I1
 refine W.sreg ?_
 unfold I2
 simp only [dg,cM,az,aA,aB,aJ,aI,aw,cT,aK,aQ,tA,aM,ar,bt,bR,bQ,dT,ofValue,fk]
 refine W.seq (W.region (fD 6 ?_))
 unfold I3
 simp only [az,aA,aB,ah,aE,bf,b7,fI,aj,aw,ak,cT,cF,aP,bA,aR,bN,bS,tA,cY,ae,ar,iE,B6,fG,dl,hx,dj]
 obtain⟨v,hv1,hv2,hv3⟩:=akM (env:=((((((((cM 0 [.ptr x 0,.int .i64 (n:Int)]).set 4 (some .nils)).set 6 (some (.ptr x 0))).set 7 (some (.ptr x 0))).set 8 (some (.ptr x 0))).set 9 (some V)).set 10 (some (.int .i64 (n:Int)))).set 11 (some (.int .i64 (n:Int))))) (s:=s) hV pV (x:=.tmp 10) (y:=.tmp 11) (by simp only [aj,ah,ae,cT,cF]) (by simp only [aj,ah,ae,cT,cF]) hn
 have hvc:=hv2.clean
 refine fP ?_
 simp only [cM] at hv1
 simp only [az,aA,aB,ah,aJ,RX,aj,aC,aw,ak,cT,cF,aP,bS,tA,ae,ar,hcl,hv1,aN]
 obtain⟨V',hs1,q1,q2,hv4⟩:=akN hV pV (n:=min (n+1) l.length) (Nat.min_le_right _ _)
 rw [hdl] at q1
 have hcl2:=q1.clean
 have hmin:(bif decide (l.length<n+1) then(l.length:Int) else((n+1:Nat):Int))=((min (n+1) l.length:Nat):Int):=by
  by_cases h:l.length<n+1
  ·rw [decide_eq_true h,Nat.min_eq_right (by omega)];rfl
  ·rw [decide_eq_false h,wu (by omega)];rfl
 have hs2: ∀(env:bc) (s:St),aq env 25= .int .i64 (bif decide (l.length<n+1) then(l.length:Int) else((n+1:Nat):Int))→jH Tryz.prog [] 37 V (some (.tmp 25)) none none env s=some V':=fun env s h=>hs1 env s _ (by rw [aj,h,hmin])
 rw [show tD=tD.take 14++tD.drop 14 from(List.take_append_drop 14 _).symm]
 refine W.seq (W.drawD (WD.calmOps hm (fun _ h=>by cases h) (fun _ h=>by cases h) ?_))
 unfold tD
 simp only [fh,fg,fu,isStore,ah,aE,bf,aW,b7,RX,fI,cL,aj,aI,aC,be,bh,bo,aw,cd,d8,da,bH,ak,aZ,cT,cF,aP,bX,aK,aQ,bA,aR,bN,cZ,bS,tA,aM,cY,ae,ar,bt,aU,iE,B6,X9,Ya,fG,dl,hxt,dj,hcl,hlen,hwr,UX,hs2]
 intro rs1 hc1 hi1
 refine V6 hi1 hx hcl2 hv4 hm (by simp only [ah,ae,cT,cF, *]) (by simp only [ah,ae,cT,cF, *]) ?_
 intro s' q3 q4 q5 q6
 simp only [aN]
 refine W.sreg ?_
 unfold I4
 simp only [az,aA,aB,ah,aE,aJ,aj,aw,cT,cF,bS,tA,ae,ar]
 exact W.ret ⟨.inr rfl,v,cp (by simp only [ah,ae,cT,cF, *]) hvc,hv2,hv3,⟨V',q1,q2,q3⟩,q4,q5,q6⟩
end Go.Proofs.YtbfmdojdemckbaaGreat
