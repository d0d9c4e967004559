/- sequence.Merge. -/
import Derived.Test.YtbfmdojdemckbaaGreatS1
open Go.Ag.aj renaming cells→j9,clean→nk
open Bool renaming and_eq_true→cZ,and_self→gf,and_true→dY,false_or→jU,not_false→gU,not_true→dS,or_false→pX,true_and→i9
open List renaming append_nil→iA,cons_append→cH,drop_succ_cons→gr,drop→a7,getElem?_cons_succ→mJ,getElem?_cons_zero→gg,getElem?_eq_getElem→js,head?_cons→bO,length_append→dp,length_cons→aP,length_drop→tj,length_map→eH,length_nil→aW,length_singleton→o9,length_take→pZ,map_append→kB,nil_append→cq,replicate→wC,take_append_drop→nr,take_succ_cons→eR,take→bN
open Nat renaming add_mul→mL,add_zero→dc,beq→be,ble_eq_true_of_le→eL,ble→cy,blt→bT,eq_of_beq_eq_true→ik,le_of_ble_eq_true→iL,le_refl→bB,le_succ_of_le→kC,lt_irrefl→eU,lt_succ_of_lt→ns,lt_succ_self→io,min_eq_left→wF,mul_le_mul_right→uF,reduceAdd→bE,reduceBEq→ah,reduceLT→au,reduceLeDiff→cm,reduceMul→jt,zero_add→aQ,zero_le→iB,zero_lt_succ→gV,zero_mul→kD
open Option renaming bind_eq_some_iff→aG,bind_some→aq
open Option.some renaming injEq→bg
open Go.Ag.bz renaming of2→ey
open Go.Ag.W renaming block→cO,cond→bc,exit→eD,loop1→cR,mono→ja,region→gh,reg→b7,ret→cd,seq→aR,skip→ck,sreg→aF
namespace Go.Proofs.YtbfmdojdemckbaaGreat
open Go.Ag
theorem Se {xs:List aj} {i:Nat} {v:aj} (h:xs[i]? =some v):iJ xs i=v:=by
 induction xs generalizing i with
 |nil=>simp at h
 |cons a xs ih=>
  cases i with
  |zero=>simp at h;subst h;rfl
  |succ i=>exact ih (by simpa using h)
def lL (l:List ar):Bool:=decide (2000<l.length)
theorem aic {sp:FuncId->Option (List aj->Option aj)} (h0:sp 182=none) {v:aj} {l:List ar} (hl:bC 1 bu v l) (s:St):bz (QS sp) 182 [v] s (.bool (lL l)) s:=by
 have hlen:=fun mk s=>hl.len iI iW mk s
 have hcl:=hl.clean
 have hg:dz 2000 ((l.length:Nat):Int)=lL l:=da 2000 _
 refine ey acL acK acN acM h0 ?_
 unfold KZ
 refine aF ?_
 unfold K0
 simp only[dt,cY,az,aA,aB,aN,aK,bW,aw,cT,aP,aW,tA,aQ,au,cm,cj,dT]
 refine aF ?_
 unfold K1
 simp only[az,aA,aB,ai,aH,aN,aX,cJ,ak,aK,aD,bk,bm,bt,aw,bU,nL,cU,bJ,aq,bf,cT,cF,aV,cg,bS,tA,ah,au,aZ,Zs,hcl,hlen,hg]
 exact cd ⟨rfl,.inr rfl,cE (by simp only[ai,ah,cT,cF, *]) rfl⟩
def tX:Sp
 | [a]=>bif pures [a] then(gj 1 lC a).bind fun l=>some (.bool (lL l)) else none
 |_=>none
theorem aia {v:aj} {l:List ar} (hl:bC 1 bu v l) (hv:bP v=true):tX [v]=some (.bool (lL l)):=by
 simp only[tX,pures,hv,gf,cT,jI oG hl,aq]
theorem aib:eN Tryz.prog 182 tX:=by
 intro args x hv G h w xs wr hx
 unfold tX at hv
 split at hv
 ·rename_i a
  obtain⟨hp,hv⟩:=bX hv
  simp only[aG,bg] at hv
  obtain⟨l,h1,rfl⟩:=hv
  have hl:=jb (fun v a=>oE) h1
  exact gS (Q:=QT []) (gK .nil) (fun _=>gV 1) (args:=[a]) (v:=.bool (lL l)) (s':=s0) (kA hp) (by rw[iz hp];exact aic (sp:=fun f=>fv f []) rfl hl s0) rfl ⟨1,rfl⟩ G h w xs wr hx
 ·cases hv
inductive Rows:List aj->List (List ar)->Prop
 |nil:Rows [] []
 |cons {v:aj} {l:List ar} {vs:List aj} {ls:List (List ar)}:bC 1 bu v l->bP v=true->Rows vs ls->Rows (v::vs) (l::ls)
def oP:List (List ar)->Nat->Int
 | [],_=> -1
 |l::ls,i=>bif lL l then(i:Int) else oP ls (i+1)
theorem Wd {e:bj} {x:Operand} {av:Array Operand} {ts:Array TypeId} (h:ev e x=some (.func (.func 182) [] [])):callee e ⟨.value x,av,ts⟩=(evcs e av.toList).bind fun args=>some (182,args):=by
 simp only[callee,h,aq,cq,iA]
theorem aba {sp:FuncId->Option (List aj->Option aj)} (h182:sp 182=some tX) {vs:List aj} {r:fD} (hsmall:vs.length<1000) {s:St} {lc:Ag.Loc}: ∀(rest pre:List aj) (ls:List (List ar)) (e:bj),vs=pre++rest->Rows rest ls->
 ax e 0= .list 1 vs r->ax e 1= .func (.func 182) [] []->ax e 7= .int .i64 (vs.length:Nat)->ax e 8= .int .i64 (pre.length:Nat)->
 W (QS sp) 238 (.loop zx) ⟨e,19,lc⟩ s fun x fr s'=>s'=s/\fr.size=19/\((x= .exit 0/\oP ls pre.length= -1)\/(x= .ret/\ax fr.env 4= .int .i64 (oP ls pre.length))):=by
 intro rest
 induction rest with
 |nil=>
  intro pre ls e hpre hR h0 h1 h7 h8
  cases hR
  have hl':vs.length=pre.length:=by rw[hpre];simp
  refine cR ?_
  unfold zx
  refine aF ?_
  unfold DL
  simp only[az,aA,aB,aX,ak,aD,aw,cQ,aq,bf,cT,aV,da,tA,au,decide_false,h7,h8,hl',eU]
  refine aR (bc (t:=false) (by simp only[ak,ai,ah,cT, *]) ?_)
  exact eD ⟨rfl,rfl,.inl ⟨rfl,rfl⟩⟩
 |cons v rest ih=>
  intro pre ls e hpre hR h0 h1 h7 h8
  cases hR with
  |cons hl hp hR=>
  rename_i l ls
  have hlt:pre.length<vs.length:=by rw[hpre];simp
  have hat:iJ vs pre.length=v:=Se (by rw[hpre];simp)
  have hsc:=hl.scal
  have hcl:=hl.clean
  have hsp:=aia hl hp
  have hwr:IntKind.i64.wrap ((pre.length:Int)+1)=((pre.length+1:Nat):Int):=by rw[ew (by omega) (by omega)];omega
  refine cR ?_
  unfold zx
  refine aF ?_
  unfold DL
  simp only[az,aA,aB,aX,ak,aD,aw,cQ,aq,bf,cT,aV,da,tA,au,dT,h7,h8,hlt]
  refine aR (bc (t:=true) (by simp only[ak,ai,ah,cT, *]) (ck ?_))
  simp only[aU]
  refine aR (cO (aF ?_))
  unfold Me
  simp only[az,aA,aB,ai,aH,aN,ak,aw,cT,cF,bS,tA,ah,au,h8]
  refine aF ?_
  unfold Mf
  simp only[az,aA,aB,ai,aH,bo,ek,dK,ak,aD,bk,bm,fQ,sF,aw,aq,cT,cF,aV,ei,a7,bO,bS,tA,ah,au,i9,aZ,dl,dT,ic,aa2,h0,h1,hlt,hat,hsc,hcl,Wd,h182,hsp]
  cases hz:lL l with
  |true=>
   refine bc (t:=true) (by simp only[ak,ai,ah,cT,cF]) (aF ?_)
   unfold Mh
   simp only[az,aA,aB,ai,aH,aN,ak,aw,cT,cF,bS,tA,ah,au]
   exact cd ⟨rfl,rfl,.inr ⟨rfl,by simp only[ai,ah,cT,cF,oP,hz]⟩⟩
  |false=>
   refine bc (t:=false) (by simp only[ak,ai,ah,cT,cF]) (ck ?_)
   simp only[dP,aU]
   refine b7 ?_
   unfold Mi
   simp only[az,aA,aB,ai,aH,aX,ak,aK,aD,bt,aw,dZ,aq,bf,cT,cF,aV,bS,tA,ah,au,h8,hwr,aU]
   refine(ih (pre++[v]) ls _ (by rw[hpre];simp) hR (by simp only[ai,ah,cF, *]) (by simp only[ai,ah,cF, *]) (by simp only[ai,ah,cF, *]) (by simp only[ai,ah,cT,cF,dp,aP,aW])).mono ?_
   simp only[oP,hz,cF,dp,aP,aW]
   exact fun _ _ _ h=>h
theorem abb {sp:FuncId->Option (List aj->Option aj)} (h238:sp 238=none) (h182:sp 182=some tX) {vs:List aj} {ls:List (List ar)} {r:fD} (hR:Rows vs ls) (hsmall:vs.length<1000) (s:St):bz (QS sp) 238 [.list 1 vs r,.func (.func 182) [] []] s (.int .i64 (oP ls 0)) s:=by
 refine ey adr adq adt ads h238 ?_
 unfold Mb
 refine aF ?_
 unfold Mc
 simp only[dt,cY,az,aA,aB,aN,aK,bt,aw,cT,aP,aW,tA,aQ,au,bE,cm,cj,dT]
 refine aR (aF ?_)
 unfold Md
 simp only[az,aA,aB,ai,aH,cJ,ak,aK,aD,bk,bm,bt,aw,bU,cU,bJ,aq,jm,cT,cF,aV,cg,bS,tA,ah,au,aZ,ahH,Zy]
 refine cO ?_
 refine(aba h182 (r:=r) hsmall vs [] ls _ rfl hR (by simp only[ai,ah,cT,cF, *]) (by simp only[ai,ah,cT,cF, *]) (by simp only[ai,ah,cT,cF, *]) (by simp only[ai,ah,cT,cF];rfl)).mono ?_
 rintro x ⟨e,sz,lc⟩ s' ⟨rfl,hs,⟨rfl,hok⟩|⟨rfl,h2⟩⟩
 ·have hs:sz=19:=hs
  subst hs
  have hok:oP ls 0= -1:=hok
  show W (QS sp) 238 _ _ _ _
  refine aF ?_
  unfold Mj
  simp only[az,aA,aB,aN,aK,bt,aw,tA,au]
  exact cd ⟨rfl,.inr rfl,cE (by simp only[ai,ah,cT,hok]) rfl⟩
 ·exact⟨rfl,.inr rfl,cE h2 rfl⟩
def uQ (a:aj):Option (List ar):=bif bP a then gj 1 lC a else none
theorem FQ: ∀ {vs:List aj} {ls:List (List ar)},ku uQ vs=some ls->Rows vs ls
 | [],ls,h=>by
   simp only[ku,bg] at h
   subst h;exact .nil
 |v::vs,ls,h=>by
  simp only[ku,aG,bg] at h
  obtain⟨l,h1,r,h2,rfl⟩:=h
  unfold uQ at h1
  obtain⟨hp,h1⟩:=bX h1
  exact .cons (jb (fun v a=>oE) h1) hp (FQ h2)
theorem x9: ∀ {vs:List aj} {ls:List (List ar)},Rows vs ls->ku uQ vs=some ls/\pures vs=true
 | [],_,.nil=>⟨rfl,rfl⟩
 |v::vs,_,.cons h1 h2 h3=>by
  obtain⟨a,b⟩:=x9 h3
  have h4:=jI oG h1
  simp only[ku,uQ,h2,cT,h4,aq,a,pures,b,gf,and_self]
def vn:Sp
 | [.list 1 vs .full,.func (.func 182) [] []]=>(ku uQ vs).bind fun ls=>bif bT vs.length 1000 then some (.int .i64 (oP ls 0)) else none
 |_=>none
def BM:eV:=[(182,tX)]
theorem U9:fT BM:=.cons aib .nil
theorem aa9:eN Tryz.prog 238 vn:=by
 intro args x hv G h w xs wr hx
 unfold vn at hv
 split at hv
 ·rename_i vs
  simp only[aG] at hv
  obtain⟨ls,h1,hv⟩:=hv
  obtain⟨hs,hv⟩:=bX hv
  injection hv with hv;subst hv
  have hR:=FQ h1
  have hp:pures [.list 1 vs .full,.func (.func 182) [] []]=true:=by
   show(bP (.list 1 vs .full)&&(bP (.func (.func 182) [] [])&&true))=true
   show((pures vs&&true)&&_)=true
   rw[(x9 hR).2];rfl
  exact gS (Q:=QT BM) (gK U9) (fun _=>gV 1) (args:=[.list 1 vs .full,.func (.func 182) [] []]) (v:=.int .i64 (oP ls 0)) (s':=s0) (kA hp) (by rw[iz hp];exact abb (sp:=fun f=>fv f BM) rfl rfl hR (iL hs) s0) rfl ⟨1,rfl⟩ G h w xs wr hx
 ·cases hv
def kI:List (List ar)->Bool
 | []=>false
 |l::ls=>lL l||kI ls
theorem G8: ∀(ls:List (List ar)) (i:Nat),iG 0 (oP ls i)=kI ls
 | [],_=>rfl
 |l::ls,i=>by
  simp only[oP,kI]
  cases lL l with
  |true=>simp only[cT,Bool.true_or];rw[show(0:Int)=((0:Nat):Int) from rfl,sj];simp
  |false=>simp only[cF,jU];exact G8 ls (i+1)
theorem ala {sp:FuncId->Option (List aj->Option aj)} (h114:sp 114=none) (h181:sp 181=none) (h238:sp 238=some vn) {vs:List aj} {ls:List (List ar)} (hR:Rows vs ls) (hsmall:vs.length<1000) (s:St):bz (QS sp) 114 [.list 1 vs .full] s (.bool (!kI ls)) s:=by
 have hsp:vn [.list 1 vs .full,.func (.func 182) [] []]=some (.int .i64 (oP ls 0)):=by
  have q1:bT vs.length 1000=true:=eL hsmall
  simp only[vn,(x9 hR).1,aq,q1,cT]
 have hany:=G8 ls 0
 have r181:bz (QS sp) 181 [.list 1 vs .full,.func (.func 182) [] []] s (.bool (kI ls)) s:=by
  refine ey acH acG acJ acI h181 ?_
  unfold KV
  refine aF ?_
  unfold KW
  simp only[dt,cY,az,aA,aB,aN,aK,bW,aw,cT,aP,aW,tA,aQ,au,bE,cm,cj,dT]
  refine aF ?_
  unfold KX
  simp only[az,aA,aB,ai,aH,aN,aX,dK,dI,ak,aK,aD,bk,bm,bt,aw,nK,aq,bf,jm,oM,cT,cF,aV,ei,bS,tA,ah,au,h238,hsp,hany]
  exact cd ⟨rfl,.inr rfl,cE (by simp only[ai,ah,cT,cF, *]) rfl⟩
 refine ey abx abw abz aby h114 ?_
 unfold Ji
 refine aF ?_
 unfold Jj
 simp only[dt,cY,az,aA,aB,aN,aK,bW,aw,cT,aP,aW,tA,aQ,au,cm,cj,dT]
 refine aR (gh (fU 1 ?_))
 unfold Jk
 simp only[az,aA,aB,ai,aH,ak,aw,cT,cF,bN,a7,bS,tA,ah,au]
 refine fY (g:=181) (args:=[.list 1 vs .full,.func (.func 182) [] []]) ?_ r181 (by decide) ?_
 ·simp only[callee,ai,ak,ff,aD,bk,bm,aq,jm,oM,cT,cF,cq,cH,bS,ah]
 refine fX ?_
 simp only[az,aA,aB,ai,aN,hG,ak,aD,aw,hJ,aq,gI,cT,cF,bS,tA,ah,au,aU]
 exact cd ⟨rfl,.inr rfl,cE (by simp only[ai,ah,cT,cF, *]) rfl⟩
def wc:Sp
 | [.list 1 vs .full]=>(ku uQ vs).bind fun ls=>bif bT vs.length 1000 then some (.bool (!kI ls)) else none
 |_=>none
def BF:eV:=[(238,vn)]
theorem UZ:fT BF:=.cons aa9 .nil
theorem ak9:eN Tryz.prog 114 wc:=by
 intro args x hv G h w xs wr hx
 unfold wc at hv
 split at hv
 ·rename_i vs
  simp only[aG] at hv
  obtain⟨ls,h1,hv⟩:=hv
  obtain⟨hs,hv⟩:=bX hv
  injection hv with hv;subst hv
  have hR:=FQ h1
  have hp:pures [.list 1 vs .full]=true:=by
   show((pures vs&&true)&&true)=true
   rw[(x9 hR).2];rfl
  exact gS (Q:=QT BF) (gK UZ) (fun _=>gV 1) (args:=[.list 1 vs .full]) (v:=.bool (!kI ls)) (s':=s0) (kA hp) (by rw[iz hp];exact ala (sp:=fun f=>fv f BF) rfl rfl rfl hR (iL hs) s0) rfl ⟨1,rfl⟩ G h w xs wr hx
 ·cases hv
theorem sR {Q:cw} {fr:Fr} {s:St} {t u:Tmp} {v w:aj} (h:ax fr.env t=v) (hv:v.clean=true) (hu:ax fr.env u=w) (hw:w.clean=true): ∃vs,gQ Q [] fr s [.tmp t,.tmp u]=some vs/\jQ vs= .tup [v,w]:=by
 refine⟨[v,w],?_,rfl⟩
 simp only[gQ,x8,evc,ev,h,hu,aq,hv,hw,cT]
def pG (_vb vo vt:aj) (b o t:List ar):aj:=bif o==b then .tup [vt,.bool true] else bif t==b||t==o then .tup [vo,.bool true] else .tup [.nils,.bool false]
theorem aiw {sp:FuncId->Option (List aj->Option aj)} (h116:sp 116=none) (h37:sp 37=some pn) {vb vo vt:aj} {b o t:List ar} (hb:bC 1 bu vb b) (ho:bC 1 bu vo o) (ht:bC 1 bu vt t) (pb:bP vb=true) (po:bP vo=true) (pt:bP vt=true) (so:o.length<small) (st:t.length<small) (s:St):
 bz (QS sp) 116 [vb,vo,vt] s (pG vb vo vt b o t) s:=by
 have cb:=hb.clean
 have co:=ho.clean
 have ct:=ht.clean
 have e1:=yW ho hb po pb so
 have e2:=yW ht hb pt pb st
 have e3:=yW ht ho pt po st
 refine ey abJ abI abL abK h116 ?_
 unfold JD
 refine aF ?_
 unfold JE
 simp only[dt,cY,az,aA,aB,aN,aK,aw,cT,aP,aW,tA,aQ,au,bE,cm,cj,dT,ofValue,fH]
 refine aR (cO (aF ?_))
 unfold JF
 simp only[az,aA,aB,ai,aH,aN,dK,dI,ak,aD,bk,bm,aw,aq,cT,cF,ei,bS,tA,ah,au,co,cb,h37,e1]
 cases h1:o==b with
 |true=>
  have hm:pG vb vo vt b o t= .tup [vt,.bool true]:=by simp only[pG,h1,cT]
  rw[hm]
  refine bc (t:=true) (by simp only[ak,ai,ah,cT,cF]) (aF ?_)
  unfold JG
  simp only[az,aA,aB,ai,aH,aN,ak,aK,bW,aw,cT,cF,bS,tA,ah,au]
  exact cd ⟨rfl,.inr rfl,sR (by simp only[ai,ah,cT,cF, *]) ct (by simp only[ai,ah,cT,cF, *]) rfl⟩
 |false=>
  refine bc (t:=false) (by simp only[ak,ai,ah,cT,cF]) (aR (aR (b7 ?_)))
  unfold JH
  simp only[az,aA,aB,ai,aH,aN,dK,dI,ak,aD,bk,bm,aw,aq,cT,cF,ei,bS,tA,ah,au,ct,cb,h37,e2,aU]
  cases h2:t==b with
  |true=>
   have hm:pG vb vo vt b o t= .tup [vo,.bool true]:=by simp only[pG,h1,h2,Bool.true_or,cT,cF]
   rw[hm]
   refine bc (t:=true) (by simp only[ak,ai,ah,cT,cF]) (ck ?_)
   simp only[aU]
   refine bc (t:=true) (by simp only[ak,ai,ah,cT,cF]) (aF ?_)
   unfold Dx
   simp only[az,aA,aB,ai,aH,aN,ak,aK,bW,aw,cT,cF,bS,tA,ah,au]
   exact cd ⟨rfl,.inr rfl,sR (by simp only[ai,ah,cT,cF, *]) co (by simp only[ai,ah,cT,cF, *]) rfl⟩
  |false=>
   refine bc (t:=false) (by simp only[ak,ai,ah,cT,cF]) (b7 ?_)
   unfold JI
   simp only[az,aA,aB,ai,aH,aN,dK,dI,ak,aD,bk,bm,aw,aq,cT,cF,ei,bS,tA,ah,au,ct,co,h37,e3,aU]
   cases h3:t==o with
   |true=>
    have hm:pG vb vo vt b o t= .tup [vo,.bool true]:=by simp only[pG,h1,h2,h3,jU,cT,cF]
    rw[hm]
    refine bc (t:=true) (by simp only[ak,ai,ah,cT,cF]) (aF ?_)
    unfold Dx
    simp only[az,aA,aB,ai,aH,aN,ak,aK,bW,aw,cT,cF,bS,tA,ah,au]
    exact cd ⟨rfl,.inr rfl,sR (by simp only[ai,ah,cT,cF, *]) co (by simp only[ai,ah,cT,cF, *]) rfl⟩
   |false=>
    have hm:pG vb vo vt b o t= .tup [.nils,.bool false]:=by simp only[pG,h1,h2,h3,Bool.or_self,cF]
    rw[hm]
    refine bc (t:=false) (by simp only[ak,ai,ah,cT,cF]) (ck ?_)
    simp only[dP,aU]
    refine aF ?_
    unfold JJ
    simp only[az,aA,aB,aN,aK,aw,tA,au,ofValue,fH]
    exact cd ⟨rfl,.inr rfl,sR (by simp only[ai,ah,cT,cF, *]) rfl (by simp only[ai,ah,cT,cF, *]) rfl⟩
section
variable {Q:cw} {f:FuncId}
def WD (Q:cw) (f:FuncId) (bs:List Nat) (rs:List dU) (i:Nat) (l:List cD) (fr:Fr) (s:St) (K:Fr->St->Prop):Prop:= ∃fr' s',jv Q f bs rs i l fr s fr' s'/\K fr' s'
def qT (i:Nat) (rs:List dU):Prop:= ∀r∈rs,r.i<i/\r.loud=false
theorem qT.cons {i c0 c1:Nat} {ft:fN} {lo:Bool} {rs:List dU} (h:qT i rs) (hl:lo=false):qT (i+1) (⟨i,c0,c1,ft,lo⟩::rs):=by
 intro r hr
 rcases List.mem_cons.1 hr with rfl|hr
 ·exact⟨io _,hl⟩
 ·exact⟨ns (h r hr).1,(h r hr).2⟩
theorem Fx {s s1:St} {o:cD} (hst:isStore o.op=false) (hmw:s.next<=s1.minw):(bT s1.minw s.next||isStore o.op)=false:=by
 rw[hst,pX,dl]
 exact decide_eq_false (by omega)
theorem WD.nil {bs:List Nat} {rs:List dU} {i:Nat} {fr:Fr} {s:St} {K:Fr->St->Prop} (h:K fr s):WD Q f bs rs i [] fr s K:=⟨fr,s,.nil,h⟩
theorem WD.hush {b i:Nat} {bs:List Nat} {rs:List dU} {o:cD} {l:List cD} {fr fr1:Fr} {s s1:St} {v:aj} {lc:Ag.Loc} {K:Fr->St->Prop} (hr:qT i rs) (hst:isStore o.op=false) (hmw:s.next<=s1.minw) (hw:iy fr.env o.g=true)
 (hpl: ∀mk,dR Q f o mk fr s.top=some (v,lc,s1)) (hci:s1.ci=s.ci) (hp:ee fr o.dst v lc=some fr1) (hk: ∀rs',qT (i+1) rs'->WD Q f bs rs' (i+1) l fr1 (s.least s1) K):WD Q f (b::bs) rs i (o::l) fr s K:=by
 have hl:=Fx hst hmw
 obtain⟨fr',s',h1,h2⟩:=hk (⟨i,s.next,s1.next,dy (Q.hint f) o.dst fr.env o.op,bT s1.minw s.next||isStore o.op⟩::rs) (hr.cons hl)
 exact⟨fr',s',.step hw (hpl _) (by rw[hl];exact Ik fun r h=>(hr r h).2) hci hp h1,h2⟩
theorem WD.full {b i:Nat} {bs:List Nat} {rs:List dU} {o:cD} {l:List cD} {fr fr1:Fr} {s s1:St} {v:aj} {lc:Ag.Loc} {K:Fr->St->Prop} (hr:qT i rs) (hb: ∀j,j<i->b.testBit j=true) (hst:isStore o.op=false) (hmw:s.next<=s1.minw) (hw:iy fr.env o.g=true)
 (hpl:dR Q f o [] fr s.top=some (v,lc,s1)) (hci:s1.ci=s.ci) (hp:ee fr o.dst v lc=some fr1) (hk: ∀rs',qT (i+1) rs'->WD Q f bs rs' (i+1) l fr1 (s.least s1) K):WD Q f (b::bs) rs i (o::l) fr s K:=by
 have hl:=Fx hst hmw
 obtain⟨fr',s',h1,h2⟩:=hk (⟨i,s.next,s1.next,dy (Q.hint f) o.dst fr.env o.op,bT s1.minw s.next||isStore o.op⟩::rs) (hr.cons hl)
 refine⟨fr',s',.step hw ?_ (xd fun r h=>hb _ (hr r h).1) hci hp h1,h2⟩
 show dR Q f o (je b rs []) fr s.top=_
 rw[xM fun r h=>.inl (hb _ (hr r h).1)]
 exact hpl
theorem WD.fullL {b i:Nat} {bs:List Nat} {rs:List dU} {o:cD} {l:List cD} {fr fr1:Fr} {s s1:St} {v:aj} {lc:Ag.Loc} {K:Fr->St->Prop} (hr: ∀r∈rs,r.i<i) (hb: ∀j,j<i->b.testBit j=true) (hw:iy fr.env o.g=true)
 (hpl:dR Q f o [] fr s.top=some (v,lc,s1)) (hci:s1.ci=s.ci) (hp:ee fr o.dst v lc=some fr1) (hk: ∀rs',(∀r∈rs',r.i<i+1)->WD Q f bs rs' (i+1) l fr1 (s.least s1) K):WD Q f (b::bs) rs i (o::l) fr s K:=by
 obtain⟨fr',s',h1,h2⟩:=hk (⟨i,s.next,s1.next,dy (Q.hint f) o.dst fr.env o.op,bT s1.minw s.next||isStore o.op⟩::rs) (fun r hr'=>by
  rcases List.mem_cons.1 hr' with rfl|hr'
  ·exact io _
  ·exact ns (hr r hr'))
 refine⟨fr',s',.step hw ?_ (xd fun r h=>hb _ (hr r h)) hci hp h1,h2⟩
 show dR Q f o (je b rs []) fr s.top=_
 rw[xM fun r h=>.inl (hb _ (hr r h))]
 exact hpl
theorem WD.call {b i:Nat} {bs:List Nat} {rs:List dU} {o:cD} {c:Call} {l:List cD} {fr fr1:Fr} {s s1:St} {g:FuncId} {args:List aj} {v:aj} {K:Fr->St->Prop} (hr:qT i rs) (hb: ∀j,j<i->b.testBit j=true) (ho:o.op= .call c) (hmw:s.next<=s1.minw) (hw:iy fr.env o.g=true)
 (hn: ∀b,c.callee≠ .builtin b) (hc:callee fr.env c=some (g,args)) (hrun:bz Q g args s.top v s1) (hci:s1.ci=s.ci) (hp:ee fr o.dst v fr.loc=some fr1) (hk: ∀rs',qT (i+1) rs'->WD Q f bs rs' (i+1) l fr1 (s.least s1) K):WD Q f (b::bs) rs i (o::l) fr s K:=by
 have hst:isStore o.op=false:=by rw[ho];rfl
 have hl:=Fx hst hmw
 obtain⟨fr',s',h1,h2⟩:=hk (⟨i,s.next,s1.next,dy (Q.hint f) o.dst fr.env o.op,bT s1.minw s.next||isStore o.op⟩::rs) (hr.cons hl)
 refine⟨fr',s',.call hw ho hn hc ?_ (xd fun r h=>hb _ (hr r h).1) hci hp h1,h2⟩
 show yH Q g args (je b rs []) s.top v s1
 rw[xM fun r h=>.inl (hb _ (hr r h).1)]
 exact hrun
theorem W.drawD {ops:List cD} {bs:List Nat} {fr:Fr} {s:St} {K:Ex->Fr->St->Prop} (h:WD Q f bs [] 0 ops fr s fun fr s=>K .normal fr s):W Q f (.draw ops bs) fr s K:=let⟨_,_,h1,h2⟩:=h;W.drawR h1 h2
theorem EZ {s s1:St} (h:s.minw<=s.next) (h1:s.next<=s1.minw):(s.least s1).minw=s.minw:=by
 show(bif cy s.minw s1.minw then s.minw else s1.minw)=s.minw
 rw[eL (Nat.le_trans h h1)];rfl
theorem WD.calmOps {s:St} (hm:s.minw<=s.next) {l1 l2:List cD} {bs:List Nat} {rs:List dU} {i:Nat} {fr:Fr} {K:Fr->St->Prop} (hc:calm rs) (hi: ∀r∈rs,r.i<i)
 (h:WQ Q f s.top l1 fr fun fr1=> ∀rs1,calm rs1->(∀r∈rs1,r.i<i+l1.length)->WD Q f (bs.drop l1.length) rs1 (i+l1.length) l2 fr1 s K):WD Q f bs rs i (l1++l2) fr s K:=
 WQ.thenD (N:=K) hm hc hi h
theorem WD.calmCall {s:St} (hm:s.minw<=s.next) {b i:Nat} {bs:List Nat} {rs:List dU} {d:Tmp} {x:Operand} {av:Array Operand} {ts:Array TypeId} {l:List cD} {e:bj} {sz:Nat} {lc:Ag.Loc} {g:FuncId} {args:List aj} {v:aj} {K:Fr->St->Prop} (hc:calm rs) (hi: ∀r∈rs,r.i<i)
 (hcal:callee e ⟨.value x,av,ts⟩=some (g,args)) (hrun:bz Q g args s.top v s.top) (hd:d<sz)
 (hk: ∀rs1,calm rs1->(∀r∈rs1,r.i<i+1)->WD Q f bs rs1 (i+1) l ⟨e.set d (some v),sz,lc⟩ s K):WD Q f (b::bs) rs i (⟨some d,.call ⟨.value x,av,ts⟩,.aw⟩::l) ⟨e,sz,lc⟩ s K:=by
 have hl:(bT s.top.minw s.next||isStore (.call ⟨.value x,av,ts⟩))=false:=by
  rw[dl]
  have: ¬s.top.minw<s.next:=by show¬s.next<s.next;omega
  rw[decide_eq_false this];rfl
 obtain⟨fr',s',h1,h2⟩:=hk (⟨i,s.next,s.next,dy (Q.hint f) (some d) e (.call ⟨.value x,av,ts⟩),false⟩::rs) (fun r hr=>by
  rcases List.mem_cons.1 hr with rfl|hr
  ·exact⟨rfl,rfl⟩
  ·exact hc r hr) (fun r hr=>by
  rcases List.mem_cons.1 hr with rfl|hr
  ·exact io _
  ·exact ns (hi r hr))
 refine⟨fr',s',.call (v:=v) (s1:=s.top) rfl rfl (fun b=>by simp) hcal ?_ ?_ rfl (iw.2 ⟨hd,rfl⟩) ?_,h2⟩
 ·show yH Q g args (je b rs []) s.top v s.top
  rw[E9 hc]
  exact hrun
 ·rw[hl];exact CK hc _ _
 ·rw[hl,ml hm];exact h1
def tt (i:Nat) (rs:List dU):Prop:= ∀r∈rs,r.i<i/\r.c0=r.c1/\(r.loud=true->r.foot= .all)
def vk:fN->Bool
 | .none=>true
 | .loc _=>true
 |_=>false
theorem R0 {rs:List dU} (h: ∀r∈rs,r.c0=r.c1) (b:Nat):je b rs []=[]:=xM fun r hr=>.inr (h r hr)
theorem Yi {i b:Nat} {rs:List dU} {ft:fN} (h:tt i rs) (hf:vk ft=true):fits b ft false rs=true:=by
 simp only[fits,List.all_eq_true]
 intro r hr
 obtain⟨_,_,h3⟩:=h r hr
 cases hl:r.loud with
 |false=>simp
 |true=>
  rw[h3 hl]
  cases ft<;>first|(cases hf;done)|simp[fN.meets]
theorem Wf {i:Nat} {rs:List dU} (h:calm rs) (hi: ∀r∈rs,r.i<i):tt i rs:=fun r hr=>⟨hi r hr,(h r hr).1,fun hl=>by rw[(h r hr).2] at hl;cases hl⟩
def WX (Q:cw) (f:FuncId) (s:St):List cD->Fr->(Fr->Prop)->Prop
 | [],fr,N=>N fr
 |o::l,fr,N=> ∃v fr',iy fr.env o.g=true/\dR Q f o [] fr s=some (v,fr.loc,s)/\isStore o.op=false/\vk (dy (Q.hint f) o.dst fr.env o.op)=true/\ee fr o.dst v fr.loc=some fr'/\WX Q f s l fr' N
def Gf (Q:cw) (f:FuncId) (s:St) (d:Tmp) (st:Bool) (fo:fN) (e:bj) (sz:Nat) (lc:Ag.Loc) (l:List cD) (N:Fr->Prop) (x:Option (aj×Ag.Loc×St)):Prop:= ∃v,x=some (v,lc,s)/\st=false/\vk fo=true/\d<sz/\WX Q f s l ⟨e.set d (some v),sz,lc⟩ N
theorem yL {s:St} {fr:Fr} {N:Fr->Prop}:WX Q f s [] fr N=N fr:=rfl
theorem A4 {s:St} {d:Tmp} {st:Bool} {fo:fN} {e:bj} {sz:Nat} {lc:Ag.Loc} {l:List cD} {N:Fr->Prop} {v:aj}:Gf Q f s d st fo e sz lc l N (some (v,lc,s))=(st=false/\vk fo=true/\d<sz/\WX Q f s l ⟨e.set d (some v),sz,lc⟩ N):=by
 unfold Gf
 apply propext
 constructor
 ·rintro⟨u,h,r⟩
  simp only[bg,Prod.mk.injEq,and_true] at h
  subst h;exact r
 ·intro r
  exact⟨v,rfl,r⟩
theorem yK {s:St} {d:Tmp} {op:Op} {l:List cD} {e:bj} {sz:Nat} {lc:Ag.Loc} {N:Fr->Prop}:
 WX Q f s (⟨some d,op,.aw⟩::l) ⟨e,sz,lc⟩ N=Gf Q f s d (isStore op) (dy (Q.hint f) (some d) e op) e sz lc l N (dR Q f ⟨some d,op,.aw⟩ [] ⟨e,sz,lc⟩ s):=by
 apply propext
 constructor
 ·rintro⟨v,fr',_,h2,h3,h4,h5,h6⟩
  obtain⟨hd,rfl⟩:=iw.1 h5
  exact⟨v,h2,h3,h4,hd,h6⟩
 ·rintro⟨v,h2,h3,h4,hd,h6⟩
  exact⟨v,_,rfl,h2,h3,h4,iw.2 ⟨hd,rfl⟩,h6⟩
theorem WD.loudOps {s:St} (hm:s.minw<=s.next) {l2:List cD} {K:Fr->St->Prop}: ∀ {l1:List cD} {bs:List Nat} {rs:List dU} {i:Nat} {fr:Fr},tt i rs->
 WX Q f s.top l1 fr (fun fr1=> ∀rs1,tt (i+l1.length) rs1->WD Q f (bs.drop l1.length) rs1 (i+l1.length) l2 fr1 s K)->WD Q f bs rs i (l1++l2) fr s K
 | [],bs,rs,i,fr,hc,h=>h rs hc
 |o::l,bs,rs,i,fr,hc,h=>by
  have hdrop: ∀(bs:List Nat) (n:Nat),bs.tail.drop n=bs.drop (n+1):=fun bs n=>by cases bs<;>simp
  obtain⟨v,fr',hw,h1,h2,h3,h4,h5⟩:=h
  have hl:(bT s.top.minw s.next||isStore o.op)=false:=by
   rw[h2,pX,dl]
   exact decide_eq_false (by show¬s.next<s.next;omega)
  have hc2:tt (i+1) (⟨i,s.next,s.next,dy (Q.hint f) o.dst fr.env o.op,false⟩::rs):=fun r hr=>by
   rcases List.mem_cons.1 hr with rfl|hr
   ·exact⟨io _,rfl,fun hl=>by cases hl⟩
   ·obtain⟨a,b,c⟩:=hc r hr
    exact⟨ns a,b,c⟩
  obtain⟨fr2,s2,q1,q2⟩:=WD.loudOps (l2:=l2) (K:=K) hm (l1:=l) (bs:=bs.tail) (i:=i+1) (fr:=fr') hc2 (by
   rw[hdrop]
   have e:i+1+l.length=i+(o::l).length:=by simp only[aP];omega
   rw[e];exact h5)
  refine⟨fr2,s2,.step hw (v:=v) (lc:=fr.loc) (s1:=s.top) ?_ ?_ rfl h4 ?_,q2⟩
  ·rw[R0 fun r hr=>(hc r hr).2.1];exact h1
  ·rw[hl];exact Yi hc h3
  ·rw[hl,ml hm];exact q1
theorem WD.loudCall {s s1:St} {b i:Nat} {bs:List Nat} {rs:List dU} {d:Tmp} {x:Operand} {av:Array Operand} {ts:Array TypeId} {l:List cD} {e:bj} {sz:Nat} {lc:Ag.Loc} {g:FuncId} {args:List aj} {v:aj} {K:Fr->St->Prop} (hc:tt i rs) (hb: ∀j,j<i->b.testBit j=true)
 (hcal:callee e ⟨.value x,av,ts⟩=some (g,args)) (hrun:bz Q g args s.top v s1) (hn:s1.next=s.next) (hci:s1.ci=s.ci) (hd:d<sz)
 (hk: ∀rs1,tt (i+1) rs1->WD Q f bs rs1 (i+1) l ⟨e.set d (some v),sz,lc⟩ (s.least s1) K):WD Q f (b::bs) rs i (⟨some d,.call ⟨.value x,av,ts⟩,.aw⟩::l) ⟨e,sz,lc⟩ s K:=by
 obtain⟨fr',s',h1,h2⟩:=hk (⟨i,s.next,s1.next,dy (Q.hint f) (some d) e (.call ⟨.value x,av,ts⟩),bT s1.minw s.next||isStore (.call ⟨.value x,av,ts⟩)⟩::rs) (fun r hr=>by
  rcases List.mem_cons.1 hr with rfl|hr
  ·exact⟨io _,hn.symm,fun _=>rfl⟩
  ·obtain⟨p,q,t⟩:=hc r hr
   exact⟨ns p,q,t⟩)
 refine⟨fr',s',.call (v:=v) (s1:=s1) rfl rfl (fun b=>by simp) hcal ?_ (xd fun r hr=>hb _ (hc r hr).1) hci (iw.2 ⟨hd,rfl⟩) h1,h2⟩
 show yH Q g args (je b rs []) s.top v s1
 rw[R0 fun r hr=>(hc r hr).2.1]
 exact hrun
theorem CP (h:Tmp->Nat) (d:Option Tmp) (e:bj) (t:TypeId) (a:Operand):dy h d e (.load t a)=sg e a:=rfl
theorem CO (h:Tmp->Nat) (d:Option Tmp) (e:bj) (t:TypeId) (a:Operand) (i:Nat):dy h d e (.fieldAddr t a i)=pw e a:=rfl
theorem y6 (h:Tmp->Nat) (d:Option Tmp) (e:bj) (a:Operand):dy h d e (.move a)= .none:=rfl
theorem Yo (h:Tmp->Nat) (d:Option Tmp) (e:bj) (a:Operand):dy h d e (.assign a)= .none:=rfl
theorem CN (h:Tmp->Nat) (d:Option Tmp) (e:bj) (o:BinOp) (t u:TypeId) (x y:Operand):dy h d e (.binOp o t x y u)= .none:=rfl
theorem Yp (h:Tmp->Nat) (d:Option Tmp) (e:bj) (a:Operand) (i:Nat):dy h d e (.extract a i)= .none:=rfl
def Iq:aj->fN
 | .lref t _ _=>.loc t
 | .ptr n _=>.obj n
 | .ro _=>.none
 |_=>.all
def Ir:aj->fN
 | .lref t _ _=>.loc t
 |_=>.none
theorem CR (e:bj) (t:Tmp):sg e (.tmp t)=Iq (ax e t):=by
 show(match ev e (.tmp t) with|some (.lref t _ _)=>fN.loc t|some (.ptr n _)=>.obj n|some (.ro _)=>.none|_=>.all)=_
 rw[ak]
 cases ax e t<;>rfl
theorem CZ (e:bj) (t:Tmp):pw e (.tmp t)=Ir (ax e t):=by
 show(match ev e (.tmp t) with|some (.lref t _ _)=>fN.loc t|_=>.none)=_
 rw[ak]
 cases ax e t<;>rfl
theorem CQ (t g o:Nat):Iq (.lref t g o)= .loc t:=rfl
theorem CW (t g o:Nat):Ir (.lref t g o)= .loc t:=rfl
theorem CV (t:Nat):vk (.loc t)=true:=rfl
theorem y7:vk .none=true:=rfl
end
def gi (sz lo:Nat) (s:St) (ov:aj) (xs:List aj):Prop:=(ov= .nils/\xs=[])\/(xs≠ []/\ ∃k,ov= .list sz xs (.own k)/\s.get [] k=some .tok/\lo<=k/\k<s.next)
theorem gi.clean {sz lo:Nat} {s:St} {ov:aj} {xs:List aj} (h:gi sz lo s ov xs):ov.clean=true:=by
 rcases h with⟨rfl,_⟩|⟨_,k,rfl,_⟩<;>rfl
theorem gi.keep {sz lo:Nat} {s s':St} {ov:aj} {xs:List aj} (h:gi sz lo s ov xs) (hg: ∀n,lo<=n->s'.get [] n=s.get [] n) (hn:s.next<=s'.next):gi sz lo s' ov xs:=by
 rcases h with h|⟨h1,k,h2,h3,h4,h5⟩
 ·exact .inl h
 ·exact .inr ⟨h1,k,h2,(hg k h4).trans h3,h4,by omega⟩
theorem jJ (s:St) (n:Nat) (o:Option bH) (h:s.minw<=s.next):(s.put n o).minw<=(s.put n o).next:=by
 show(bif cy s.minw n then s.minw else n)<=s.next
 cases hb:cy s.minw n with
 |true=>exact h
 |false=>
  have: ¬s.minw<=n:=fun hc=>by rw[eL hc] at hb;cases hb
  simp only[cF];omega
theorem wO {t:TypeId} {E:EI} {sz lo:Nat} (hE:jp Tryz.prog t=some E) (hn:E.n=sz) (hb:E.b<=88) {s:St} {ov y:aj} {xs ys:List aj} (h:gi sz lo s ov xs) (hy:j2 [] E.g E.n y s=some ys) (hlen:xs.length+ys.length<=1000000) (hlo:lo<=s.next) (hm:s.minw<=s.next):
 ∃ov' s',jN Tryz.prog [] t ov y false s=some (ov',s')/\gi sz lo s' ov' (xs++ys)/\s'.ci=s.ci/\s.next<=s'.next/\s'.minw<=s'.next/\(∀n,n<lo->s'.get [] n=s.get [] n)/\ov'.cells=[ov']:=by
 subst hn
 have hov:xn ov=true/\ov.cells=[ov]:=by rcases h with⟨rfl,_⟩|⟨_,k,rfl,_⟩<;>exact⟨rfl,rfl⟩
 cases ys with
 |nil=>
  refine⟨ov,s,?_,by rw[iA];exact h,rfl,bB _,hm,fun _ _=>rfl,hov.2⟩
  simp only[jN,hE,aq,hy,hov.1,cT]
 |cons y0 ys=>
  rcases h with⟨rfl,rfl⟩|⟨hne,k,rfl,hk,h5,h6⟩
  ·have hr:lk (y0::ys).length E.b=true:=uj (by simpa using hlen) hb
   refine⟨.list E.n (y0::ys) (.own s.next),s.new .tok,?_,.inr ⟨by simp,s.next,rfl,by rw[df,bS];rfl,hlo,io _⟩,rfl,Nat.le_succ _,kC hm,fun n hn'=>?_,rfl⟩
   ·simp only[jN,hE,aq,hy,lA,kr,hr,cT,cF]
   ·rw[df,beq_eq_false_iff_ne.2 (by omega)];rfl
  ·have hr:lk (xs.length+(y0::ys).length) E.b=true:=uj hlen hb
   refine⟨.list E.n (xs++(y0::ys)) (.own s.next),(s.put k none).new .tok,?_,.inr ⟨by simp,s.next,rfl,by rw[df,pH,bS];rfl,hlo,io _⟩,rfl,Nat.le_succ _,kC (jJ s k none hm),fun n hn'=>?_,rfl⟩
   ·simp only[jN,hE,aq,hy,lA,hk,hr,aZ,bS,gf,cT]
   ·rw[df,pH,beq_eq_false_iff_ne.2 (by omega),cF,cI,beq_eq_false_iff_ne.2 (by omega)];rfl
theorem FJ: ∀l:List ar,pures (l.map bu)=true
 | []=>rfl
 |a::l=>by
  show(bP (bu a)&&pures (l.map bu))=true
  rw[FJ l];rfl
def SU:fD->Bool
 | .own _=>false
 |_=>true
theorem FH (l:List ar) (r:fD):bP (.list 1 (l.map bu) r)=SU r:=by
 show(pures (l.map bu)&&_)=_
 rw[FJ]
 cases r<;>rfl
theorem ym:Tryz.prog.underlying 37=some (.slice 9):=by kernel_rfl
theorem A7:fu Tryz.prog 9=some 1:=by kernel_rfl
theorem ale {env:bj} {s:St} {V:aj} {l:List ar} (hV:bC 1 bu V l) (pV:bP V=true) {n:Nat} {x y:Operand} (hx:ev env x=some (.int .i64 n)) (hy:ev env y=some (.int .i64 n)) (hn:n<=l.length):
 ∃V',jS Tryz.prog [] 37 V none (some x) (some y) env s=some V'/\bC 1 bu V' (l.take n)/\bP V'=true:=by
 rcases hV with⟨rfl,rfl⟩|⟨r,rfl⟩
 ·have h0:n=0:=by simpa using hn
  subst h0
  refine⟨.nils,?_,.inl ⟨rfl,rfl⟩,rfl⟩
  simp only[jS,ym,aq,A7,jK,hx,hy]
  rfl
 ·refine⟨.list 1 ((l.map bu).take n) .full,?_,.inr ⟨.full,by rw[List.map_take]⟩,by rw[<-List.map_take,FH];rfl⟩
  have h1:cy n (l.map bu).length=true:=eL (by rw[eH];exact hn)
  have hna:fF (.int .i64 ((n:Nat):Int))=some n:=rfl
  simp only[jS,ym,aq,A7,jK,hx,hy,hna,h1,aZ,bS,cT,Option.isSome_some,List.drop_zero,dY]
  rfl
theorem alf {V:aj} {l:List ar} (hV:bC 1 bu V l) (pV:bP V=true) {n:Nat} (hn:n<=l.length):
 ∃V',(∀(env:bj) (s:St) (x:Operand),ev env x=some (.int .i64 n)->jS Tryz.prog [] 37 V (some x) none none env s=some V')/\bC 1 bu V' (l.drop n)/\bP V'=true/\V'.cells=[V']:=by
 rcases hV with⟨rfl,rfl⟩|⟨r,rfl⟩
 ·have h0:n=0:=by simpa using hn
  subst h0
  refine⟨.nils,fun env s x hx=>?_,.inl ⟨rfl,rfl⟩,rfl,rfl⟩
  simp only[jS,ym,aq,A7,jK,hx]
  rfl
 ·obtain⟨r',hr'⟩: ∃r',r'=bif be (l.map bu).length (l.map bu).length&&(bT n (l.map bu).length||be n 0) then r else fD.no:=⟨_,rfl⟩
  have hp:SU r'=true:=by
   rw[hr']
   cases be (l.map bu).length (l.map bu).length&&(bT n (l.map bu).length||be n 0) with
   |true=>rw[FH] at pV;exact pV
   |false=>rfl
  refine⟨.list 1 (((l.map bu).take (l.map bu).length).drop n) r',fun env s x hx=>?_,.inr ⟨r',by rw[List.take_length,List.map_drop]⟩,by rw[List.take_length,<-List.map_drop,FH];exact hp,rfl⟩
  have h1:cy n (l.map bu).length=true:=eL (by rw[eH];exact hn)
  have h2:cy (l.map bu).length (l.map bu).length=true:=eL (bB _)
  have hna:fF (.int .i64 ((n:Nat):Int))=some n:=rfl
  rw[hr']
  simp only[jS,ym,aq,A7,jK,hx,hna,h1,h2,aZ,bS,gf,cT]
theorem VP (P:Program) (mk:bn) (ts:List TypeId) (mu:Bool) (a b:Int) (s:St):lD P mk .min ts mu [.int .i64 a,.int .i64 b] s=some (.int .i64 (bif dz b a then b else a),s):=by
 have:(IntKind.i64==IntKind.i64)=true:=rfl
 simp only[lD,rh,this,cT,cF,aq]
theorem Xa {sp:FuncId->Option (List aj->Option aj)} {e:bj} {lc:Ag.Loc} {s:St} {x:Nat} {V V':aj} {rs1:List dU} {K:Fr->St->Prop} (hi: ∀r∈rs1,r.i<14) (hx:s.get [] x=some (.cells [V])) (hcl2:V'.clean=true) (hv4:V'.cells=[V']) (hm:s.minw<=s.next) (h13:ax e 13= .ptr x 0) (h26:ax e 26=V')
 (hk: ∀s',(∀k,s'.get [] k=(s.put x (some (.cells [V']))).get [] k)->s'.next=s.next->s'.ci=s.ci->s'.minw<=s'.next->K ⟨(e.set 27 (some (.ptr x 0))).set 28 (some (.ptr x 0)),30,lc⟩ s'):
 WD (QS sp) 117 [16383,32767,65535] rs1 14 (tR.drop 14) ⟨e,30,lc⟩ s K:=by
 have hxt:s.top.get [] x=some (.cells [V]):=hx
 unfold tR
 refine WD.fullL (v:=.ptr x 0) (lc:=lc) (s1:=s.top) (fr1:=⟨e.set 27 (some (.ptr x 0)),30,lc⟩) hi (by decide) rfl ?_ rfl (iw.2 ⟨by decide,rfl⟩) (fun rs3 k3=>?_)
 ·simp only[fI,ak,aw,aq,h13,fG]
 rw[ml hm]
 refine WD.fullL (v:=.ptr x 0) (lc:=lc) (s1:=s.top) (fr1:=⟨(e.set 27 (some (.ptr x 0))).set 28 (some (.ptr x 0)),30,lc⟩) k3 (by decide) rfl ?_ rfl (iw.2 ⟨by decide,rfl⟩) (fun rs4 k4=>?_)
 ·simp only[ai,bZ,ak,aw,aq,cT,aV,bS,dc,Cy]
 rw[ml hm]
 refine WD.fullL (v:=ii) (lc:=lc) (s1:=s.top.put x (some (.cells [V']))) (fr1:=⟨(e.set 27 (some (.ptr x 0))).set 28 (some (.ptr x 0)),30,lc⟩) k4 (by decide) rfl ?_ rfl rfl (fun rs5 k5=>?_)
 ·simp only[ai,ez,ak,aD,aq,cT,cF,aV,aP,aW,cV,bN,a7,gr,cq,iA,bS,aQ,ah,au,cm,dY,aZ,dl,cj,dT,yk,kz,hxt,ky,hv4,hcl2,h26]
 refine WD.nil (hk _ (fun k=>rfl) rfl rfl ?_)
 show(bif cy s.minw (s.top.put x (some (.cells [V']))).minw then s.minw else(s.top.put x (some (.cells [V']))).minw)<=s.next
 cases cy s.minw (s.top.put x (some (.cells [V']))).minw with
 |true=>exact hm
 |false=>exact jJ s.top x _ (bB _)
theorem Ck {sp:FuncId->Option (List aj->Option aj)} (h117:sp 117=none) {s:St} {x n:Nat} {V:aj} {l:List ar} (hx:s.get [] x=some (.cells [V])) (hV:bC 1 bu V l) (pV:bP V=true) (hn:n<=l.length) (hsmall:l.length<1000000) (hm:s.minw<=s.next):
 ∃v s',bz (QS sp) 117 [.ptr x 0,.int .i64 n] s v s'/\bC 1 bu v (l.take n)/\bP v=true/\(∃V',bC 1 bu V' (l.drop (n+1))/\bP V'=true/\ ∀k,s'.get [] k=(s.put x (some (.cells [V']))).get [] k)/\s'.next=s.next/\s'.ci=s.ci/\s'.minw<=s'.next:=by
 have hcl:=hV.clean
 have hcc:V.cells=[V]:=by rcases hV with⟨rfl,_⟩|⟨r,rfl⟩<;>rfl
 have hlen:=fun mk s=>hV.len iI iW mk s
 have hxt:s.top.get [] x=some (.cells [V]):=hx
 have hdl:l.drop (min (n+1) l.length)=l.drop (n+1):=by
  rcases Nat.le_total (n+1) l.length with h|h
  ·rw[wF h]
  ·rw[Nat.min_eq_right h,List.drop_length,List.drop_eq_nil_of_le h]
 have hwr:IntKind.i64.wrap ((n:Int)+1)=((n+1:Nat):Int):=by rw[ew (by omega) (by omega)];omega
 refine bz.ofEx abO abN abQ abP h117 ?_
 unfold JK
 refine aF ?_
 unfold JL
 simp only[dt,cY,az,aA,aB,aN,aK,aw,cT,aP,aW,tA,aQ,au,bE,cm,cj,dT,ofValue,fH]
 refine aR (gh (fU 6 ?_))
 unfold JM
 simp only[az,aA,aB,ai,aH,bo,bZ,fI,ak,aw,aq,cT,cF,aV,bN,a7,bO,bS,tA,dc,ah,au,ic,Cy,fG,dv,hx,du]
 obtain⟨v,hv1,hv2,hv3⟩:=ale (env:=((((((((cY 0 [.ptr x 0,.int .i64 (n:Int)]).set 4 (some .nils)).set 6 (some (.ptr x 0))).set 7 (some (.ptr x 0))).set 8 (some (.ptr x 0))).set 9 (some V)).set 10 (some (.int .i64 (n:Int)))).set 11 (some (.int .i64 (n:Int))))) (s:=s) hV pV (x:=.tmp 10) (y:=.tmp 11) (by simp only[ak,ai,ah,cT,cF]) (by simp only[ak,ai,ah,cT,cF]) hn
 have hvc:=hv2.clean
 refine fX ?_
 simp only[cY] at hv1
 simp only[az,aA,aB,ai,aN,SA,ak,aD,aw,aq,cT,cF,aV,bS,tA,ah,au,hcl,hv1,aU]
 obtain⟨V',hs1,q1,q2,hv4⟩:=alf hV pV (n:=min (n+1) l.length) (Nat.min_le_right _ _)
 rw[hdl] at q1
 have hcl2:=q1.clean
 have hmin:(bif decide (l.length<n+1) then(l.length:Int) else((n+1:Nat):Int))=((min (n+1) l.length:Nat):Int):=by
  by_cases h:l.length<n+1
  ·rw[decide_eq_true h,Nat.min_eq_right (by omega)];rfl
  ·rw[decide_eq_false h,wF (by omega)];rfl
 have hs2: ∀(env:bj) (s:St),ax env 25= .int .i64 (bif decide (l.length<n+1) then(l.length:Int) else((n+1:Nat):Int))->jS Tryz.prog [] 37 V (some (.tmp 25)) none none env s=some V':=fun env s h=>hs1 env s _ (by rw[ak,h,hmin])
 rw[show tR=tR.take 14++tR.drop 14 from(nr 14 _).symm]
 refine aR (W.drawD (WD.calmOps hm (fun _ h=>by cases h) (fun _ h=>by cases h) ?_))
 unfold tR
 simp only[eJ,eI,eK,isStore,ai,aH,bo,aX,bZ,SA,fI,cJ,ak,aK,aD,bk,bm,bt,aw,bU,dZ,cU,bJ,aq,bf,cT,cF,aV,cg,aP,aW,bN,a7,bO,da,bS,tA,aQ,dc,ah,au,bE,aZ,ic,Cy,Y6,Y7,fG,dv,hxt,du,hcl,hlen,hwr,VP,hs2]
 intro rs1 hc1 hi1
 refine Xa hi1 hx hcl2 hv4 hm (by simp only[ai,ah,cT,cF, *]) (by simp only[ai,ah,cT,cF, *]) ?_
 intro s' q3 q4 q5 q6
 simp only[aU]
 refine aF ?_
 unfold JN
 simp only[az,aA,aB,ai,aH,aN,ak,aw,cT,cF,bS,tA,ah,au]
 exact cd ⟨.inr rfl,v,cE (by simp only[ai,ah,cT,cF, *]) hvc,hv2,hv3,⟨V',q1,q2,q3⟩,q4,q5,q6⟩
theorem Hl (P:Program) (t:TypeId) (a b:Int):fy P .mul t (.int .i64 a) (.int .i64 b)=some (.int .i64 (IntKind.i64.wrap (a*b))):=rfl
theorem Vw (P:Program) (t:TypeId) (a b:Int):fy P .add t (.int .i32 a) (.int .i32 b)=some (.int .i32 (IntKind.i32.wrap (a+b))):=rfl
theorem VA (P:Program) (t:TypeId) (a b:Int):fy P .eql t (.int .i32 a) (.int .i32 b)=some (.bool (bD a b)):=rfl
theorem VO (P:Program) (mk:bn) (ts:List TypeId) (mu:Bool) (a b:Int) (s:St):lD P mk .max ts mu [.int .i32 a,.int .i32 b] s=some (.int .i32 (bif dz a b then b else a),s):=by
 have:(IntKind.i32==IntKind.i32)=true:=rfl
 simp only[lD,rh,this,cT,aq]
def kL (z:Int):aj:=.int .i32 z
def up (T:List Int) (o:Nat):Int:=(T[o]?).getD 0
def un (a b:List ar) (w i k:Nat) (T:List Int):List Int:=
 T.set (i*w+k) (bif(a[i]?).getD []==(b[k]?).getD [] then IntKind.i32.wrap (up T ((i+1)*w+(k+1))+1) else bif dz (up T ((i+1)*w+k)) (up T (i*w+(k+1))) then up T (i*w+(k+1)) else up T ((i+1)*w+k))
def uk (a b:List ar) (w i:Nat):Nat->List Int->List Int
 |0,T=>T
 |k+1,T=>uk a b w i k (un a b w i k T)
def uN (a b:List ar) (w:Nat):Nat->List Int->List Int
 |0,T=>T
 |i+1,T=>uN a b w i (uk a b w i b.length T)
theorem TL (a b:List ar) (w i k:Nat) (T:List Int):(un a b w i k T).length=T.length:=by simp[un]
theorem FP (a b:List ar) (w i:Nat): ∀(k:Nat) (T:List Int),(uk a b w i k T).length=T.length
 |0,_=>rfl
 |k+1,T=>by rw[uk,FP a b w i k,TL]
theorem yn {T:List Int} {o:Nat} (h:o<T.length):((T.map kL).drop o).head?=some (kL (up T o)):=by
 rw[List.head?_drop,List.getElem?_map,up,js h];rfl
theorem Us {T:List Int} {o:Nat} (h:o<T.length) (z:Int):cV (T.map kL) o [kL z]=some ((T.set o z).map kL):=by
 have h1:cy (o+1) (T.map kL).length=true:=eL (by rw[eH];omega)
 simp only[cV,aP,aW,aQ,h1,cT]
 rw[List.map_set,List.set_eq_take_append_cons_drop,if_pos (by rw[eH];exact h)]
 rfl
structure lZ (s:St) (bw ba row w:Nat) (T:List Int):Prop where
 hw:s.get [] bw=some (.cells [.int .i64 w])
 ha:s.get [] ba=some (.cells [.arr 1 row 0 T.length T.length])
 hr:s.get [] row=some (.cells (T.map kL))
 ne:row≠bw/\row≠ba
 minw:s.minw<=s.next
theorem lZ.top {s:St} {bw ba row w:Nat} {T:List Int} (t:lZ s bw ba row w T):lZ s.top bw ba row w T:=⟨t.hw,t.ha,t.hr,t.ne,bB _⟩
theorem tE {sp:FuncId->Option (List aj->Option aj)} (h183:sp 183=none) {s:St} {bw ba row w:Nat} {T:List Int} (t:lZ s bw ba row w T) {i k:Nat} (hik:i*w+k<T.length) (hT:T.length<100000000):bz (QS sp) 183 [.int .i64 i,.int .i64 k,.ptr ba 0,.ptr bw 0] s (.ptr row (i*w+k)) s:=by
 have hw:=t.hw
 have ha:=t.ha
 have w1:IntKind.i64.wrap ((i:Int)*(w:Int))=((i*w:Nat):Int):=by
  have h2:((i*w:Nat):Int)<100000000:=by omega
  rw[show((i:Int)*(w:Int))=((i*w:Nat):Int) by simp,ew (by omega) (by omega)]
 have w2:IntKind.i64.wrap (((i*w:Nat):Int)+(k:Int))=((i*w+k:Nat):Int):=by rw[ew (by omega) (by omega)];omega
 have hnat:fF (.int .i64 ((i*w+k:Nat):Int))=some (i*w+k):=rfl
 refine ey acP acO acR acQ h183 ?_
 unfold K4
 refine aF ?_
 unfold K6
 simp only[dt,cY,az,aA,aB,aN,aK,aw,cT,aP,aW,tA,aQ,au,bE,cm,cj,dT,iP]
 refine aF ?_
 unfold K7
 simp only[az,aA,aB,ai,aH,aN,bo,aX,ek,ak,aD,sF,aw,dZ,aq,bf,cT,cF,aV,a7,bO,bS,tA,aQ,ah,au,i9,aZ,dl,dT,fJ,akg,aa3,dv,hw,ha,du,Hl,w1,w2,hik,Nat.mul_one]
 exact cd ⟨rfl,.inr rfl,cE (by simp only[ai,ah,cT,cF, *]) rfl⟩
theorem tF {e:bj} {x:Operand} {av:Array Operand} {ts:Array TypeId} {ba bw:Nat} (h:ev e x=some (.func (.func 183) [] [.ptr ba 0,.ptr bw 0])):callee e ⟨.value x,av,ts⟩=(evcs e av.toList).bind fun args=>some (183,args++[.ptr ba 0,.ptr bw 0]):=by
 simp only[callee,h,aq,cq]
structure wJ (e e':bj):Prop where
 h0:ax e' 0=ax e 0
 h1:ax e' 1=ax e 1
 h7:ax e' 7=ax e 7
section
variable {sp:FuncId->Option (List aj->Option aj)} (h183:sp 183=none) {va vb:aj} {a b:List ar} (ha:bC 1 bu va a) (hb:bC 1 bu vb b) (sa:a.length<=2000) (sb:b.length<=2000) {bw ba row:Nat}
include h183 ha hb sa sb
theorem akC {i:Nat} (hi:i<a.length): ∀(k:Nat) (e:bj) (lc:Ag.Loc) (s:St) (T:List Int),k<=b.length->lZ s bw ba row (b.length+1) T->T.length=(a.length+1)*(b.length+1)->
 ax e 0=va->ax e 1=vb->ax e 7= .func (.func 183) [] [.ptr ba 0,.ptr bw 0]->ax e 8= .int .i64 i->ax e 9= .int .i64 ((k:Int)-1)->
 W (QS sp) 115 (.loop xo) ⟨e,130,lc⟩ s fun x fr s'=>x= .exit 2/\fr.size=130/\wJ e fr.env/\ax fr.env 8= .int .i64 i/\lZ s' bw ba row (b.length+1) (uk a b (b.length+1) i k T)/\s'.next=s.next/\s'.ci=s.ci:=by
 have ca:=ha.clean
 have cb:=hb.clean
 intro k
 induction k with
 |zero=>
  intro e lc s T hk t hT h0 h1 h7 h8 h9
  have hge:iG 0 ((0:Nat)-1:Int)=false:=rfl
  refine cR ?_
  unfold xo
  refine aR (aR (b7 ?_))
  unfold Dv
  simp only[az,aA,aB,ai,aH,aX,ak,aK,aD,bt,aw,nK,aq,bf,cT,aV,bS,tA,au,h9,hge,aU]
  refine bc (t:=false) (by simp only[ak,ai,ah,cT,cF, *]) (eD ?_)
  exact⟨rfl,rfl,⟨by simp only[ai,ah,cF, *],by simp only[ai,ah,cF, *],by simp only[ai,ah,cF, *]⟩,by simp only[ai,ah,cF, *],t,rfl,rfl⟩
 |succ k ih=>
  intro e lc s T hk t hT h0 h1 h7 h8 h9
  have hkb:k<b.length:=hk
  have hge:iG 0 (((k+1:Nat):Int)-1)=true:=by rw[show(((k+1:Nat):Int)-1)=((k:Nat):Int) by omega,show(0:Int)=((0:Nat):Int) from rfl,sj];simp
  have e9:ax e 9= .int .i64 (k:Nat):=by rw[h9];congr 1;omega
  have hu:a[i]? =some a[i]:=js hi
  have hv:b[k]? =some b[k]:=js hkb
  have hia:=fun lc=>ha.at lJ hu lc .i64
  have hib:=fun lc=>hb.at lJ hv lc .i64
  have wi:IntKind.i64.wrap ((i:Int)+1)=((i+1:Nat):Int):=by rw[ew (by omega) (by omega)];omega
  have wk:IntKind.i64.wrap ((k:Int)+1)=((k+1:Nat):Int):=by rw[ew (by omega) (by omega)];omega
  have wk2:IntKind.i64.wrap ((k:Int)-1)=(k:Int)-1:=ew (by omega) (by omega)
  have hN:(a.length+1)*(b.length+1)<=2001*2001:=Nat.mul_le_mul (by omega) (by omega)
  have hT2:T.length<100000000:=by omega
  have q0:(i+1)*(b.length+1)+(b.length+1)<=(a.length+1)*(b.length+1):=by
   have:=uF (b.length+1) (show i+1+1<=a.length+1 by omega)
   rw[mL,Nat.one_mul] at this;exact this
  have q00:(i+1)*(b.length+1)=i*(b.length+1)+(b.length+1):=by rw[mL,Nat.one_mul]
  have p0:i*(b.length+1)+k<T.length:=by omega
  have p1:(i+1)*(b.length+1)+(k+1)<T.length:=by omega
  have p2:(i+1)*(b.length+1)+k<T.length:=by omega
  have p3:i*(b.length+1)+(k+1)<T.length:=by omega
  have hrow:=t.hr
  have hsc1:(bu a[i]).cells=[bu a[i]]:=rfl
  have hsc2:(bu b[k]).cells=[bu b[k]]:=rfl
  have step: ∀z,z=(bif(a[i]?).getD []==(b[k]?).getD [] then IntKind.i32.wrap (up T ((i+1)*(b.length+1)+(k+1))+1) else bif dz (up T ((i+1)*(b.length+1)+k)) (up T (i*(b.length+1)+(k+1))) then up T (i*(b.length+1)+(k+1)) else up T ((i+1)*(b.length+1)+k))->
   ∀s',(∀n,s'.get [] n=(s.put row (some (.cells ((T.set (i*(b.length+1)+k) z).map kL)))).get [] n)->s'.minw<=s'.next->lZ s' bw ba row (b.length+1) (un a b (b.length+1) i k T):=fun z hz s' hg hm=>by
   have hst:un a b (b.length+1) i k T=T.set (i*(b.length+1)+k) z:=by rw[un,hz]
   rw[hst]
   refine⟨?_,?_,?_,t.ne,hm⟩
   ·rw[hg,cI,beq_eq_false_iff_ne.2 (fun h=>t.ne.1 h.symm)];exact t.hw
   ·rw[hg,cI,beq_eq_false_iff_ne.2 (fun h=>t.ne.2 h.symm),List.length_set];exact t.ha
   ·rw[hg,cI,bS];rfl
  have fin: ∀(e':bj) (s':St),wJ e e'->ax e' 8= .int .i64 i->ax e' 9= .int .i64 (k:Nat)->lZ s' bw ba row (b.length+1) (un a b (b.length+1) i k T)->s'.next=s.next->s'.ci=s.ci->
   W (QS sp) 115 (.region Dw) ⟨e',130,lc⟩ s' (Ex.next (fun x fr s'=>x= .exit 2/\fr.size=130/\wJ e fr.env/\ax fr.env 8= .int .i64 i/\lZ s' bw ba row (b.length+1) (uk a b (b.length+1) i (k+1) T)/\s'.next=s.next/\s'.ci=s.ci) fun fr s'=>W (QS sp) 115 (.loop xo) fr s' fun x fr s'=>x= .exit 2/\fr.size=130/\wJ e fr.env/\ax fr.env 8= .int .i64 i/\lZ s' bw ba row (b.length+1) (uk a b (b.length+1) i (k+1) T)/\s'.next=s.next/\s'.ci=s.ci):=by
   intro e' s' kp e8 e9' t' hn hc
   have e9'':=e9'
   refine b7 ?_
   unfold Dw
   simp only[az,aA,aB,ai,aH,aN,aX,ak,aK,aD,bt,aw,qW,aq,bf,cT,cF,aV,bS,tA,ah,au,e9'',wk2,aU]
   refine ja (ih _ lc s' _ (by omega) t' (by rw[TL];exact hT) ?_ ?_ ?_ ?_ ?_) ?_
   ·simp only[ai,ah,cF,kp.h0,h0]
   ·simp only[ai,ah,cF,kp.h1,h1]
   ·simp only[ai,ah,cF,kp.h7,h7]
   ·simp only[ai,ah,cF,e8]
   ·simp only[ai,ah,cT]
   rintro x fr s2 ⟨rfl,g1,g2,g3,g4,g5,g6⟩
   refine⟨rfl,g1,⟨g2.h0.trans ?_,g2.h1.trans ?_,g2.h7.trans ?_⟩,g3,g4,g5.trans hn,g6.trans hc⟩
   ·simp only[ai,ah,cF,kp.h0]
   ·simp only[ai,ah,cF,kp.h1]
   ·simp only[ai,ah,cF,kp.h7]
  refine cR ?_
  unfold xo
  refine aR (aR (b7 ?_))
  unfold Dv
  simp only[az,aA,aB,ai,aH,aX,ak,aK,aD,bt,aw,nK,aq,bf,cT,aV,bS,tA,au,h9,hge,aU]
  refine bc (t:=true) (by simp only[ak,ai,ah,cT,cF, *]) (ck ?_)
  simp only[aU]
  refine aR (cO (W.sdrawQ t.minw ?_))
  unfold Jo
  simp only[eJ,eI,eK,isStore,ai,aH,bo,aX,ek,ak,aD,fQ,aw,jd,kV,aq,cS,cT,cF,aV,a7,bO,bS,tA,ah,au,dH,h0,h1,e9,h8,hia,hib,bu]
  cases hz:a[i]==b[k] with
  |true=>
   have hz0:((a[i]?).getD []==(b[k]?).getD [])=true:=by rw[hu,hv];exact hz
   refine bc (t:=true) (by simp only[ak,ai,ah,cT,cF]) (gh (fU 3 ?_))
   unfold Jp
   simp only[az,aA,aB,ai,aH,ak,aw,cF,bN,a7,tA,ah,au,h7,h8,e9]
   refine fY (g:=183) (args:=[.int .i64 (i:Nat),.int .i64 (k:Nat),.ptr ba 0,.ptr bw 0]) ?_ (tE h183 t p0 hT2) (by decide) ?_
   ·rw[tF (ba:=ba) (bw:=bw) (by simp only[ak,ai,ah,cT,cF])]
    simp only[ai,ak,aD,bk,bm,aq,bf,cT,cF,cq,cH,bS,ah]
   refine fU 5 ?_
   simp only[az,aA,aB,ai,aH,aX,ak,aK,aD,bt,aw,dZ,aq,bf,cT,cF,aV,bN,a7,bS,tA,ah,au,h7,h8,e9,wi,wk]
   refine fY (g:=183) (args:=[.int .i64 ((i+1:Nat):Int),.int .i64 ((k+1:Nat):Int),.ptr ba 0,.ptr bw 0]) ?_ (tE h183 t p1 hT2) (by decide) ?_
   ·rw[tF (ba:=ba) (bw:=bw) (by simp only[ak,ai,ah,cT,cF])]
    simp only[ai,ak,aD,bk,bm,aq,bf,cT,cF,cq,cH,bS,ah]
   refine fX ?_
   have hup:=yn p1
   have hwr:=Us p0 (IntKind.i32.wrap (up T ((i+1)*(b.length+1)+(k+1))+1))
   simp only[kL] at hup hwr hrow
   simp only[az,aA,ej,aB,ep,ai,bo,ez,aX,fI,ak,aK,aD,bt,aw,wS,aq,bf,cT,cF,aV,aP,aW,bS,tA,aQ,ah,au,dY,aZ,dl,dT,x6,TS,fG,dv,hrow,du,hup,Vw,kz,ky,hwr,dP,aU]
   refine fin _ _ ?_ ?_ ?_ ?_ ?_ ?_
   ·exact⟨by simp only[ai,ah,cF, *],by simp only[ai,ah,cF, *],by simp only[ai,ah,cF, *]⟩
   ·simp only[ai,ah,cF, *]
   ·simp only[ai,ah,cF];exact e9
   ·exact step _ (by rw[hz0];rfl) _ (fun n=>rfl) (jJ s row _ t.minw)
   ·rfl
   ·rfl
  |false=>
   have hz0:((a[i]?).getD []==(b[k]?).getD [])=false:=by rw[hu,hv];exact hz
   refine bc (t:=false) (by simp only[ak,ai,ah,cT,cF]) (W.drawD ?_)
   rw[show mZ=mZ.take 3++(mZ.drop 3) from(nr 3 _).symm]
   refine WD.calmOps t.minw (fun _ h=>by cases h) (fun _ h=>by cases h) ?_
   unfold mZ
   simp only[eJ,eI,eK,isStore,ai,aH,ak,aw,cF,aP,aW,bN,a7,cq,cH,tA,aQ,ah,au,bE,h7,h8,e9]
   intro rs1 c1 i1
   refine WD.calmCall t.minw (g:=183) (args:=[.int .i64 (i:Nat),.int .i64 (k:Nat),.ptr ba 0,.ptr bw 0]) c1 i1 ?_ (tE h183 t.top p0 hT2) (by decide) (fun rs2 c2 i2=>?_)
   ·rw[tF (ba:=ba) (bw:=bw) (by simp only[ak,ai,ah,cT,cF])]
    simp only[ai,ak,aD,bk,bm,aq,bf,cT,cF,cq,cH,bS,ah]
   refine WD.calmOps (l1:=mZ.drop 4|>.take 4) (l2:=mZ.drop 8) t.minw c2 i2 ?_
   unfold mZ
   simp only[eJ,eI,eK,isStore,ai,aH,aX,ak,aK,aD,bt,aw,dZ,aq,bf,cT,cF,aV,aP,aW,bN,a7,gr,eR,bS,tA,aQ,ah,au,bE,h7,h8,e9,wi]
   intro rs3 c3 i3
   refine WD.calmCall t.minw (g:=183) (args:=[.int .i64 ((i+1:Nat):Int),.int .i64 (k:Nat),.ptr ba 0,.ptr bw 0]) c3 i3 ?_ (tE h183 t.top p2 hT2) (by decide) (fun rs4 c4 i4=>?_)
   ·rw[tF (ba:=ba) (bw:=bw) (by simp only[ak,ai,ah,cT,cF])]
    simp only[ai,ak,aD,bk,bm,aq,bf,cT,cF,cq,cH,bS,ah]
   have hup2:=yn p2
   have hup3:=yn p3
   have hrt:s.top.get [] row=some (.cells (T.map kL)):=hrow
   simp only[kL] at hup2 hup3 hrt
   refine WD.calmOps (l1:=mZ.drop 9|>.take 6) (l2:=mZ.drop 15) t.minw c4 i4 ?_
   unfold mZ
   simp only[eJ,eI,eK,isStore,ai,aH,bo,aX,fI,ak,aK,aD,bt,aw,dZ,aq,bf,cT,cF,aV,aP,aW,bN,a7,gr,eR,bS,tA,aQ,ah,au,bE,x6,h7,h8,e9,wk,fG,dv,hrt,du,hup2,bN,a7]
   intro rs5 c5 i5
   refine WD.calmCall t.minw (g:=183) (args:=[.int .i64 (i:Nat),.int .i64 ((k+1:Nat):Int),.ptr ba 0,.ptr bw 0]) c5 i5 ?_ (tE h183 t.top p3 hT2) (by decide) (fun rs6 c6 i6=>?_)
   ·rw[tF (ba:=ba) (bw:=bw) (by simp only[ak,ai,ah,cT,cF])]
    simp only[ai,ak,aD,bk,bm,aq,bf,cT,cF,cq,cH,bS,ah]
   refine WD.calmOps (l1:=mZ.drop 16|>.take 4) (l2:=mZ.drop 20) t.minw c6 i6 ?_
   unfold mZ
   simp only[eJ,eI,eK,isStore,ai,bo,fI,cJ,ak,aD,bk,bm,aw,bU,bJ,aq,bf,cT,cF,aV,cg,aP,aW,bN,a7,gr,eR,bS,tA,aQ,ah,au,bE,aZ,x6,fG,dv,hrt,du,hup3,VO,bN,a7]
   intro rs7 c7 i7
   have hwr:=Us p0 (bif dz (up T ((i+1)*(b.length+1)+k)) (up T (i*(b.length+1)+(k+1))) then up T (i*(b.length+1)+(k+1)) else up T ((i+1)*(b.length+1)+k))
   simp only[kL] at hwr
   refine WD.fullL (v:=ii) (lc:=lc) (s1:=s.top.put row (some (.cells ((T.set (i*(b.length+1)+k) (bif dz (up T ((i+1)*(b.length+1)+k)) (up T (i*(b.length+1)+(k+1))) then up T (i*(b.length+1)+(k+1)) else up T ((i+1)*(b.length+1)+k))).map kL)))) i7 (by decide) rfl ?_ rfl rfl (fun rs8 k8=>?_)
   ·simp only[ai,ez,ak,aD,wS,aq,bf,cT,cF,aV,aP,aW,bS,aQ,ah,au,dY,aZ,dl,dT,TS,kz,hrt,ky,hwr]
   refine WD.nil ?_
   simp only[dP,aU]
   refine fin _ _ ?_ ?_ ?_ ?_ ?_ ?_
   ·exact⟨by simp only[ai,ah,cF, *],by simp only[ai,ah,cF, *],by simp only[ai,ah,cF, *]⟩
   ·simp only[ai,ah,cF, *]
   ·simp only[ai,ah,cF];exact e9
   ·refine step _ (by rw[hz0];rfl) _ (fun n=>rfl) ?_
    show(bif cy s.minw _ then s.minw else _)<=s.next
    cases cy s.minw _ with
    |true=>exact t.minw
    |false=>exact jJ s.top row _ (bB _)
   ·rfl
   ·rfl
end
theorem ajR {Q:cw} {f:FuncId} {e:bj} {sz:Nat} {lc:Ag.Loc} {s:St} {d:Option Tmp} {g:SG} {mk:bn} (t:TypeId) (l c:Operand):dR Q f ⟨d,.makeSlice t l c,g⟩ mk ⟨e,sz,lc⟩ s=(ev e l).bind fun l=>(ev e c).bind fun c=>gX (sD Q.P t l c (be (mY (Q.hint f) d) 2) s) lc:=rfl
theorem S3 (z:aj): ∀n,gd [z] n=wC n z
 |0=>rfl
 |n+1=>by
  show [z]++gd [z] n=_
  rw[S3 z n];rfl
theorem aiH {N:Nat} (h0:0<N) (hN:N<100000000) (s:St):sD Tryz.prog 289 (.int .i64 N) (.int .i64 N) false s=some (.arr 1 s.next 0 N N,s.new (.cells ((wC N 0).map kL))):=by
 have hna:fF (.int .i64 ((N:Nat):Int))=some N:=rfl
 have h1:cy N N=true:=eL (bB _)
 have h2:cy (N*4) 1099511627776=true:=eL (by omega)
 have h3:cy N 1099511627776=true:=eL (by omega)
 have h4:be N 0=false:=by rw[aZ];exact beq_eq_false_iff_ne.2 (by omega)
 have h5:jp Tryz.prog 289=some ⟨1,4,false,(.int .i32 0)⟩:=Xh
 simp only[sD,h5,aq,hna,h1,h2,h3,h4,gf,cT,Bool.false_and,cF]
 rw[show(aj.int IntKind.i32 0).cells=[kL 0] from rfl,S3,List.map_replicate]
def oV (p:Nat×Nat):aj:=.agg [.int .i64 p.1,.int .i64 p.2]
def mF (T:List Int) (a b:List ar) (w:Nat):Nat->Nat->Nat->List (Nat×Nat)
 |0,_,_=>[]
 |n+1,i,k=>if i<a.length/\k<b.length then
   bif(a[i]?).getD []==(b[k]?).getD [] then(i,k)::mF T a b w n (i+1) (k+1)
   else bif bD (up T ((i+1)*w+k)) (up T (i*w+k)) then mF T a b w n (i+1) k else mF T a b w n i (k+1)
  else []
inductive jY (la lb:Nat):Nat->Nat->List (Nat×Nat)->Prop
 |nil {i k:Nat}:jY la lb i k []
 |cons {i k p q:Nat} {l:List (Nat×Nat)}:i<=p->k<=q->p<la->q<lb->jY la lb (p+1) (q+1) l->jY la lb i k ((p,q)::l)
theorem jY.weak {la lb i k i' k':Nat} {l:List (Nat×Nat)} (h:jY la lb i k l) (hi:i'<=i) (hk:k'<=k):jY la lb i' k' l:=by
 cases h with
 |nil=>exact .nil
 |cons a b c d e=>exact .cons (by omega) (by omega) c d e
theorem Bc (T:List Int) (a b:List ar) (w:Nat): ∀n i k,jY a.length b.length i k (mF T a b w n i k)
 |0,_,_=>.nil
 |n+1,i,k=>by
  simp only[mF]
  by_cases h:i<a.length/\k<b.length
  ·rw[if_pos h]
   cases (a[i]?).getD []==(b[k]?).getD [] with
   |true=>exact .cons (bB _) (bB _) h.1 h.2 (Bc T a b w n _ _)
   |false=>
    cases bD (up T ((i+1)*w+k)) (up T (i*w+k)) with
    |true=>exact(Bc T a b w n _ _).weak (by omega) (bB _)
    |false=>exact(Bc T a b w n _ _).weak (bB _) (by omega)
  ·rw[if_neg h];exact .nil
theorem jY.length {la lb i k:Nat} {l:List (Nat×Nat)} (h:jY la lb i k l) (hi:i<=la):l.length+i<=la:=by
 induction h with
 |nil=>simpa using hi
 |cons a b c d e ih=>
  have:=ih (by omega)
  simp only[aP];omega
def m8 (a b:List ar):List (Nat×Nat):=mF (uN a b (b.length+1) a.length (wC ((a.length+1)*(b.length+1)) 0)) a b (b.length+1) (a.length+b.length) 0 0
theorem rg (a b:List ar):jY a.length b.length 0 0 (m8 a b):=Bc _ _ _ _ _ _ _
theorem G7 (a b:List ar) (w:Nat): ∀(i:Nat) (T:List Int),(uN a b w i T).length=T.length
 |0,_=>rfl
 |i+1,T=>by rw[uN,G7 a b w i,FP]
theorem VS {e:bj} {x:Operand} {a b:aj} (h:ev e x=some (.agg [a,b])) (s:St):dV Tryz.prog 180 1 [(0,x)] false e s=some (.list 2 [.agg [a,b]] .full,s):=by
 simp only[dV,HQ,aq,dQ,evc,h,nk,cT,gd,j9,aP,aW,cV,kD,aQ,bE,jt,ip,cut]
 rfl
section
variable {sp:FuncId->Option (List aj->Option aj)} (h183:sp 183=none) {va vb:aj} {a b:List ar} (ha:bC 1 bu va a) (hb:bC 1 bu vb b) (sa:a.length<=2000) (sb:b.length<=2000) {bw ba row:Nat}
include h183 ha hb sa sb
theorem Vl: ∀(i:Nat) (e:bj) (lc:Ag.Loc) (s:St) (T:List Int),i<=a.length->lZ s bw ba row (b.length+1) T->T.length=(a.length+1)*(b.length+1)->
 ax e 0=va->ax e 1=vb->ax e 7= .func (.func 183) [] [.ptr ba 0,.ptr bw 0]->ax e 8= .int .i64 ((i:Int)-1)->
 W (QS sp) 115 (.loop zi) ⟨e,130,lc⟩ s fun x fr s'=>x= .exit 0/\fr.size=130/\wJ e fr.env/\lZ s' bw ba row (b.length+1) (uN a b (b.length+1) i T)/\s'.next=s.next/\s'.ci=s.ci:=by
 have cb:=hb.clean
 have hlen:=fun mk s=>hb.len iI iW mk s
 intro i
 induction i with
 |zero=>
  intro e lc s T hi t hT h0 h1 h7 h8
  have hge:iG 0 ((0:Nat)-1:Int)=false:=rfl
  refine cR ?_
  unfold zi
  refine aR (aR (b7 ?_))
  unfold Du
  simp only[az,aA,aB,ai,aH,aX,ak,aK,aD,bt,aw,nK,aq,bf,cT,aV,bS,tA,au,h8,hge,aU]
  refine bc (t:=false) (by simp only[ak,ai,ah,cT,cF, *]) (eD ?_)
  exact⟨rfl,rfl,⟨by simp only[ai,ah,cF, *],by simp only[ai,ah,cF, *],by simp only[ai,ah,cF, *]⟩,t,rfl,rfl⟩
 |succ i ih=>
  intro e lc s T hi t hT h0 h1 h7 h8
  have hge:iG 0 (((i+1:Nat):Int)-1)=true:=by rw[show(((i+1:Nat):Int)-1)=((i:Nat):Int) by omega,show(0:Int)=((0:Nat):Int) from rfl,sj];simp
  have e8:ax e 8= .int .i64 (i:Nat):=by rw[h8];congr 1;omega
  have w1:IntKind.i64.wrap ((b.length:Int)-1)=(b.length:Int)-1:=ew (by omega) (by omega)
  have w2:IntKind.i64.wrap ((i:Int)-1)=(i:Int)-1:=ew (by omega) (by omega)
  refine cR ?_
  unfold zi
  refine aR (aR (b7 ?_))
  unfold Du
  simp only[az,aA,aB,ai,aH,aX,ak,aK,aD,bt,aw,nK,aq,bf,cT,aV,bS,tA,au,h8,hge,aU]
  refine bc (t:=true) (by simp only[ak,ai,ah,cT,cF, *]) (ck ?_)
  simp only[aU]
  refine aR (cO (aF ?_))
  unfold JC
  simp only[az,aA,aB,ai,aH,aN,aX,cJ,ak,aK,aD,bk,bm,bt,aw,bU,qW,cU,bJ,aq,bf,cT,cF,aV,cg,bS,tA,ah,au,aZ,Y3,h1,cb,hlen,w1]
  refine cO ?_
  refine ja (akC h183 ha hb sa sb (i:=i) (by omega) b.length _ lc s T (bB _) t hT ?_ ?_ ?_ ?_ ?_) ?_
  ·simp only[ai,ah,cF, *]
  ·simp only[ai,ah,cF, *]
  ·simp only[ai,ah,cF, *]
  ·simp only[ai,ah,cF];exact e8
  ·simp only[ai,ah,cT]
  rintro x ⟨e',sz',lc'⟩ s' ⟨rfl,hs,kp,g8,t',hn,hc⟩
  have hs:sz'=130:=hs
  subst hs
  have g8:ax e' 8= .int .i64 i:=g8
  have k0:ax e' 0=va:=kp.h0.trans (by simp only[ai,ah,cF, *])
  have k1:ax e' 1=vb:=kp.h1.trans (by simp only[ai,ah,cF, *])
  have k7:ax e' 7= .func (.func 183) [] [.ptr ba 0,.ptr bw 0]:=kp.h7.trans (by simp only[ai,ah,cF, *])
  show W (QS sp) 115 _ _ _ _
  refine b7 ?_
  unfold JB
  simp only[az,aA,aB,ai,aH,aN,aX,ak,aK,aD,bt,aw,qW,aq,bf,cT,cF,aV,bS,tA,ah,au,g8,w2,aU]
  refine ja (ih _ lc' s' _ (by omega) t' (by rw[FP];exact hT) ?_ ?_ ?_ ?_) ?_
  ·simp only[ai,ah,cF, *]
  ·simp only[ai,ah,cF, *]
  ·simp only[ai,ah,cF, *]
  ·simp only[ai,ah,cT]
  rintro x ⟨e2,sz2,lc2⟩ s2 ⟨rfl,hs,kp2,t2,hn2,hc2⟩
  refine⟨rfl,hs,⟨kp2.h0.trans ?_,kp2.h1.trans ?_,kp2.h7.trans ?_⟩,t2,hn2.trans hn,hc2.trans hc⟩
  ·simp only[ai,ah,cF,k0,h0]
  ·simp only[ai,ah,cF,k1,h1]
  ·simp only[ai,ah,cF,k7,h7]
theorem amh {T:List Int} (hT:T.length=(a.length+1)*(b.length+1)) {lo:Nat} (hlo:bw<lo/\ba<lo/\row<lo): ∀(n i k:Nat) (e:bj) (lc:Ag.Loc) (s:St) (ov:aj) (acc:List (Nat×Nat)),a.length+b.length<=n+(i+k)->acc.length<=i->lZ s bw ba row (b.length+1) T->lo<=s.next->gi 2 lo s ov (acc.map oV)->
 ax e 0=va->ax e 1=vb->ax e 7= .func (.func 183) [] [.ptr ba 0,.ptr bw 0]->ax e 10=ov->ax e 11= .int .i64 i->ax e 12= .int .i64 k->i<=a.length->k<=b.length->
 W (QS sp) 115 (.loop xp) ⟨e,130,lc⟩ s fun x fr s'=>x= .exit 4/\fr.size=130/\ ∃ov',ax fr.env 10=ov'/\gi 2 lo s' ov' ((acc++mF T a b (b.length+1) n i k).map oV)/\s'.ci=s.ci:=by
 have ca:=ha.clean
 have cb:=hb.clean
 have hla:=fun mk s=>ha.len iI iW mk s
 have hlb:=fun mk s=>hb.len iI iW mk s
 have stop: ∀(n i k:Nat) (e:bj) (lc:Ag.Loc) (s:St) (ov:aj) (acc:List (Nat×Nat)), ¬(i<a.length/\k<b.length)->gi 2 lo s ov (acc.map oV)->ax e 0=va->ax e 1=vb->ax e 10=ov->ax e 11= .int .i64 i->ax e 12= .int .i64 k->
  W (QS sp) 115 (.loop xp) ⟨e,130,lc⟩ s fun x fr s'=>x= .exit 4/\fr.size=130/\ ∃ov',ax fr.env 10=ov'/\gi 2 lo s' ov' (acc.map oV)/\s'.ci=s.ci:=by
  intro n i k e lc s ov acc hik hO h0 h1 h10 h11 h12
  refine cR ?_
  unfold xp
  refine aR (aR (b7 ?_))
  unfold Dt
  by_cases hi:i<a.length
  ·have hk: ¬k<b.length:=fun h=>hik ⟨hi,h⟩
   simp only[az,aA,dB,aB,eP,hQ,ai,aH,di,aX,cJ,ak,aK,aD,bk,bm,bW,dj,eA,aw,bU,cQ,cU,bJ,aq,bf,cT,cF,aV,cg,da,bS,tA,ah,au,aZ,dT,decide_false,Dc,II,h0,h1,h11,h12,ca,cb,hla,hlb,hi,hk,aU]
   refine bc (t:=false) (by simp only[ak,ai,ah,cT,cF, *]) (eD ⟨rfl,rfl,ov,?_,hO,rfl⟩)
   simp only[ai,ah,cF,h10]
  ·simp only[az,aA,dB,aB,gp,jr,ai,aH,di,aX,cJ,ak,aK,aD,bk,bm,bW,dj,d7,aw,bU,cQ,cU,bJ,aq,bf,cT,cF,aV,cg,da,bS,tA,ah,au,aZ,decide_false,Dc,h0,h11,ca,hla,hi,aU]
   refine bc (t:=false) (by simp only[ak,ai,ah,cT,cF, *]) (eD ⟨rfl,rfl,ov,?_,hO,rfl⟩)
   simp only[ai,ah,cF,h10]
 intro n
 induction n with
 |zero=>
  intro i k e lc s ov acc hn hac t hls hO h0 h1 h7 h10 h11 h12 hia hkb
  have:=stop 0 i k e lc s ov acc (by omega) hO h0 h1 h10 h11 h12
  simpa[mF] using this
 |succ n ih=>
  intro i k e lc s ov acc hn hac t hls hO h0 h1 h7 h10 h11 h12 hia hkb
  by_cases hik:i<a.length/\k<b.length
  ·obtain⟨hi,hk⟩:=hik
   have hu:a[i]? =some a[i]:=js hi
   have hv:b[k]? =some b[k]:=js hk
   have hja:=fun lc=>ha.at lJ hu lc .i64
   have hjb:=fun lc=>hb.at lJ hv lc .i64
   have wi:IntKind.i64.wrap ((i:Int)+1)=((i+1:Nat):Int):=by rw[ew (by omega) (by omega)];omega
   have wk:IntKind.i64.wrap ((k:Int)+1)=((k+1:Nat):Int):=by rw[ew (by omega) (by omega)];omega
   have hN:(a.length+1)*(b.length+1)<=2001*2001:=Nat.mul_le_mul (by omega) (by omega)
   have hT2:T.length<100000000:=by omega
   have q0:(i+1)*(b.length+1)+(b.length+1)<=(a.length+1)*(b.length+1):=by
    have:=uF (b.length+1) (show i+1+1<=a.length+1 by omega)
    rw[mL,Nat.one_mul] at this;exact this
   have q00:(i+1)*(b.length+1)=i*(b.length+1)+(b.length+1):=by rw[mL,Nat.one_mul]
   have p0:i*(b.length+1)+k<T.length:=by omega
   have p2:(i+1)*(b.length+1)+k<T.length:=by omega
   have hrow:=t.hr
   have hwalk:mF T a b (b.length+1) (n+1) i k=bif(a[i]?).getD []==(b[k]?).getD [] then(i,k)::mF T a b (b.length+1) n (i+1) (k+1) else bif bD (up T ((i+1)*(b.length+1)+k)) (up T (i*(b.length+1)+k)) then mF T a b (b.length+1) n (i+1) k else mF T a b (b.length+1) n i (k+1):=by
    simp only[mF];rw[if_pos ⟨hi,hk⟩]
   refine cR ?_
   unfold xp
   refine aR (aR (b7 ?_))
   unfold Dt
   simp only[az,aA,dB,aB,eP,hQ,ai,aH,di,aX,cJ,ak,aK,aD,bk,bm,bW,dj,eA,aw,bU,cQ,cU,bJ,aq,bf,cT,cF,aV,cg,da,bS,tA,ah,au,aZ,dT,Dc,II,h0,h1,h11,h12,ca,cb,hla,hlb,hi,hk,aU]
   refine bc (t:=true) (by simp only[ak,ai,ah,cT,cF, *]) (ck ?_)
   simp only[aU]
   refine cO (cO (aR (W.drawQ t.minw ?_)))
   unfold Jt
   simp only[eJ,eI,eK,isStore,ai,aH,aN,bo,aX,ek,ak,aD,fQ,aw,jd,kV,aq,cS,cT,cF,aV,a7,bO,bS,tA,ah,au,dH,h0,h1,h11,h12,hja,hjb,bu,aU]
   cases hz:a[i]==b[k] with
   |true=>
    have hz0:((a[i]?).getD []==(b[k]?).getD [])=true:=by rw[hu,hv];exact hz
    rw[hz0,cT] at hwalk
    have hbs: ∀e s,ax e 105= .agg [.int .i64 (i:Nat),.int .i64 (k:Nat)]->dV Tryz.prog 180 1 [(0,.tmp 105)] false e s=some (.list 2 [.agg [.int .i64 (i:Nat),.int .i64 (k:Nat)]] .full,s):=fun e s h=>VS (by rw[ak,h]) s
    have hbd: ∀e,ax e 103= .int .i64 (i:Nat)->ax e 104= .int .i64 (k:Nat)->gm Tryz.prog 183 [(0,.tmp 103),(1,.tmp 104)] e=some (.agg [.int .i64 (i:Nat),.int .i64 (k:Nat)]):=fun e p q=>by
     rw[VE]
     simp only[GB,aq,dQ,evc,ev,p,q,bf,cT]
     rfl
    obtain⟨ov',s',happ,hO',hc',hn',hm',hold,hcell⟩:=wO HQ rfl (by decide) (y:=.list 2 [.agg [.int .i64 (i:Nat),.int .i64 (k:Nat)]] .full) (ys:=[oV (i,k)]) hO rfl (by rw[eH,o9];omega) hls t.minw
    have hoc:=hO.clean
    have hoc':=hO'.clean
    have t':lZ s' bw ba row (b.length+1) T:=⟨(hold _ hlo.1).trans t.hw,(hold _ hlo.2.1).trans t.ha,(hold _ hlo.2.2).trans t.hr,t.ne,hm'⟩
    refine bc (t:=true) (by simp only[ak,ai,ah,cT,cF]) (aR (b7 ?_))
    unfold Ju
    simp only[az,aA,aB,ai,aH,aN,lf,lg,cJ,ak,aD,bk,bm,aw,bU,oI,bJ,aq,jm,cT,cF,aV,cg,bS,tA,ah,au,aZ,abi,YX,YY,h10,h11,h12,hoc,hbd,hbs,happ,aU]
    refine b7 ?_
    unfold Jv
    simp only[az,aA,aB,ai,aH,aN,aX,ak,aK,aD,bt,aw,dZ,aq,bf,cT,cF,aV,bS,tA,ah,au,h11,h12,wi,wk,dP,aU]
    refine ja (ih (i+1) (k+1) _ lc s' ov' (acc++[(i,k)]) (by omega) (by rw[dp,o9];omega) t' (by omega) (by rw[kB];exact hO') ?_ ?_ ?_ ?_ ?_ ?_ (by omega) (by omega)) ?_
    ·simp only[ai,ah,cF, *]
    ·simp only[ai,ah,cF, *]
    ·simp only[ai,ah,cF, *]
    ·simp only[ai,ah,cT,cF]
    ·simp only[ai,ah,cT,cF]
    ·simp only[ai,ah,cT,cF]
    rintro x fr s2 ⟨rfl,g1,ov2,g2,g3,g4⟩
    refine⟨rfl,g1,ov2,g2,?_,g4.trans hc'⟩
    rw[hwalk]
    rw[List.append_assoc] at g3
    exact g3
   |false=>
    have hz0:((a[i]?).getD []==(b[k]?).getD [])=false:=by rw[hu,hv];exact hz
    rw[hz0,cF] at hwalk
    have hup2:=yn p2
    have hup0:=yn p0
    have hrt:s.top.get [] row=some (.cells (T.map kL)):=hrow
    simp only[kL] at hup2 hup0 hrt
    refine bc (t:=false) (by simp only[ak,ai,ah,cT,cF]) ?_
    refine aR (W.drawD ?_)
    rw[show qp=qp.take 4++(qp.drop 4) from(nr 4 _).symm]
    refine WD.calmOps t.minw (fun _ h=>by cases h) (fun _ h=>by cases h) ?_
    unfold qp
    simp only[eJ,eI,eK,isStore,ai,aH,aX,ak,aK,aD,bt,aw,dZ,aq,bf,cT,cF,aV,aP,aW,bN,a7,cq,cH,bS,tA,aQ,ah,au,bE,h7,h11,h12,wi]
    intro rs1 c1 i1
    refine WD.calmCall t.minw (g:=183) (args:=[.int .i64 ((i+1:Nat):Int),.int .i64 (k:Nat),.ptr ba 0,.ptr bw 0]) c1 i1 ?_ (tE h183 t.top p2 hT2) (by decide) (fun rs2 c2 i2=>?_)
    ·rw[tF (ba:=ba) (bw:=bw) (by simp only[ak,ai,ah,cT,cF])]
     simp only[ai,ak,aD,bk,bm,aq,bf,cT,cF,cq,cH,bS,ah]
    refine WD.calmOps (l1:=qp.drop 5|>.take 5) (l2:=qp.drop 10) t.minw c2 i2 ?_
    unfold qp
    simp only[eJ,eI,eK,isStore,ai,aH,bo,fI,ak,aw,aq,cT,cF,aV,aP,aW,bN,a7,gr,eR,bS,tA,aQ,ah,au,bE,x6,h7,h11,h12,fG,dv,hrt,du,hup2,bN,a7]
    intro rs3 c3 i3
    refine WD.calmCall t.minw (g:=183) (args:=[.int .i64 (i:Nat),.int .i64 (k:Nat),.ptr ba 0,.ptr bw 0]) c3 i3 ?_ (tE h183 t.top p0 hT2) (by decide) (fun rs4 c4 i4=>?_)
    ·rw[tF (ba:=ba) (bw:=bw) (by simp only[ak,ai,ah,cT,cF])]
     simp only[ai,ak,aD,bk,bm,aq,bf,cT,cF,cq,cH,bS,ah]
    refine WD.calmOps (l1:=qp.drop 11) (l2:=[]) t.minw c4 i4 ?_
    unfold qp
    simp only[eJ,eI,eK,isStore,ai,aN,bo,aX,fI,ak,aD,aw,aq,bf,cT,cF,aV,aP,aW,a7,gr,bS,tA,aQ,ah,au,bE,x6,fG,dv,hrt,du,hup0,VA,a7]
    intro rs5 c5 i5
    refine WD.nil ?_
    simp only[aU]
    cases hy:bD (up T ((i+1)*(b.length+1)+k)) (up T (i*(b.length+1)+k)) with
    |true=>
     rw[hy,cT] at hwalk
     refine bc (t:=true) (by simp only[ak,ai,ah,cT,cF]) (b7 ?_)
     unfold Jx
     simp only[az,aA,aB,ai,aH,aN,aX,ak,aK,aD,bt,aw,dZ,aq,bf,cT,cF,aV,bS,tA,ah,au,h11,wi,dP,aU]
     refine ja (ih (i+1) k _ lc s ov acc (by omega) (by omega) t hls hO ?_ ?_ ?_ ?_ ?_ ?_ (by omega) (by omega)) ?_
     ·simp only[ai,ah,cF, *]
     ·simp only[ai,ah,cF, *]
     ·simp only[ai,ah,cF, *]
     ·simp only[ai,ah,cF, *]
     ·simp only[ai,ah,cT,cF]
     ·simp only[ai,ah,cF, *]
     rintro x fr s2 ⟨rfl,g1,ov2,g2,g3,g4⟩
     exact⟨rfl,g1,ov2,g2,by rw[hwalk];exact g3,g4⟩
    |false=>
     rw[hy,cF] at hwalk
     refine bc (t:=false) (by simp only[ak,ai,ah,cT,cF]) (b7 ?_)
     unfold Js
     simp only[az,aA,aB,ai,aH,aN,aX,ak,aK,aD,bt,aw,dZ,aq,bf,cT,cF,aV,bS,tA,ah,au,h12,wk,dP,aU]
     refine ja (ih i (k+1) _ lc s ov acc (by omega) (by omega) t hls hO ?_ ?_ ?_ ?_ ?_ ?_ (by omega) (by omega)) ?_
     ·simp only[ai,ah,cF, *]
     ·simp only[ai,ah,cF, *]
     ·simp only[ai,ah,cF, *]
     ·simp only[ai,ah,cF, *]
     ·simp only[ai,ah,cF, *]
     ·simp only[ai,ah,cT,cF]
     rintro x fr s2 ⟨rfl,g1,ov2,g2,g3,g4⟩
     exact⟨rfl,g1,ov2,g2,by rw[hwalk];exact g3,g4⟩
  ·have hw:mF T a b (b.length+1) (n+1) i k=[]:=by
    simp only[mF];rw[if_neg hik]
   rw[hw,iA]
   exact stop 0 i k e lc s ov acc hik hO h0 h1 h10 h11 h12
end
theorem aik {sp:FuncId->Option (List aj->Option aj)} (h115:sp 115=none) (h183:sp 183=none) {va vb:aj} {a b:List ar} (ha:bC 1 bu va a) (hb:bC 1 bu vb b) (sa:a.length<=2000) (sb:b.length<=2000) {s:St} (hm:s.minw<=s.next):
 ∃ov s',bz (QS sp) 115 [va,vb] s ov s'/\gi 2 (s.next+3) s' ov ((m8 a b).map oV)/\s'.ci=s.ci:=by
 have ca:=ha.clean
 have cb:=hb.clean
 have hla:=fun mk s=>ha.len iI iW mk s
 have hlb:=fun mk s=>hb.len iI iW mk s
 have wa:IntKind.i64.wrap ((a.length:Int)+1)=((a.length+1:Nat):Int):=by rw[ew (by omega) (by omega)];omega
 have wb:IntKind.i64.wrap ((b.length:Int)+1)=((b.length+1:Nat):Int):=by rw[ew (by omega) (by omega)];omega
 have wa1:IntKind.i64.wrap ((a.length:Int)-1)=(a.length:Int)-1:=ew (by omega) (by omega)
 have hN:(a.length+1)*(b.length+1)<=2001*2001:=Nat.mul_le_mul (by omega) (by omega)
 have hN0:0<(a.length+1)*(b.length+1):=Nat.mul_pos (by omega) (by omega)
 have wm:IntKind.i64.wrap (((a.length+1:Nat):Int)*((b.length+1:Nat):Int))=(((a.length+1)*(b.length+1):Nat):Int):=by
  rw[<-Int.natCast_mul,ew (by omega) (by omega)]
 have hmk:=fun s=>aiH hN0 (by omega) s
 refine bz.ofEx abF abE abH abG h115 ?_
 unfold Jl
 refine aF ?_
 unfold Jm
 simp only[dt,cY,az,aA,aB,aN,aK,aw,cT,aP,aW,tA,aQ,au,bE,cm,cj,dT,ofValue,fH]
 refine aF ?_
 unfold Jn
 have hself:(s.new (.cells [.int .i64 0])).get [] s.next=some (.cells [.int .i64 0]):=by rw[df,bS];rfl
 simp only[az,aA,ej,aB,ep,ai,aH,gZ,ez,aX,cJ,ak,aK,aD,bk,bm,bt,jc,aw,bU,dZ,cU,bJ,wS,aq,bf,cT,cF,aV,cg,aP,aW,cV,bN,a7,gr,cq,iA,bS,tA,aQ,ah,au,cm,dY,aZ,dl,cj,dT,alF,amE,Y4,YZ,cb,hlb,wb,jc,kz,hself,ky]
 obtain⟨s1,hs1⟩: ∃x,x=(s.new (.cells [.int .i64 0])).put s.next (some (.cells [.int .i64 ((b.length+1:Nat):Int)])):=⟨_,rfl⟩
 rw[<-hs1]
 have hw1:s1.get [] s.next=some (.cells [.int .i64 ((b.length+1:Nat):Int)]):=by rw[hs1,cI,bS];rfl
 have n1:s1.next=s.next+1:=by rw[hs1];rfl
 have m1:s1.minw<=s1.next:=by rw[hs1];exact jJ _ _ _ (kC hm)
 have c1:s1.ci=s.ci:=by rw[hs1];rfl
 refine aF ?_
 unfold Jw
 have hself2: ∀o,((s1.new o).new (.cells [.nils])).get [] (s1.next+1)=some (.cells [.nils]):=fun o=>by rw[df,jo,bS];rfl
 simp only[az,aA,ej,aB,ep,ai,aH,gZ,bo,ez,aX,cJ,ak,aK,aD,bk,bm,bt,jc,aw,bU,dZ,cU,bJ,aq,bf,cT,cF,aV,cg,aP,aW,cV,bN,a7,bO,gr,cq,iA,bS,tA,aQ,ah,au,cm,dY,aZ,dl,cj,dT,fJ,alE,amD,Y5,Y0,Y1,ca,hla,wa,dv,hw1,du,Hl,wm,ajR,hmk,B8,B6,jc,wT,jo,kz,hself2,ky]
 obtain⟨s3,hs3⟩: ∃x,x=((s1.new (.cells ((wC ((a.length+1)*(b.length+1)) 0).map kL))).new (.cells [.nils])).put (s1.next+1) (some (.cells [.arr 1 s1.next 0 ((a.length+1)*(b.length+1)) ((a.length+1)*(b.length+1))])):=⟨_,rfl⟩
 rw[<-hs3]
 have n3:s3.next=s1.next+2:=by rw[hs3];rfl
 have c3:s3.ci=s.ci:=by rw[hs3];exact c1
 have t3:lZ s3 s.next (s1.next+1) s1.next (b.length+1) (wC ((a.length+1)*(b.length+1)) 0):=by
  have hg: ∀n,n<s1.next->s3.get [] n=s1.get [] n:=fun n h=>by
   rw[hs3,cI,beq_eq_false_iff_ne.2 (by omega:n≠s1.next+1),cF,df,jo,beq_eq_false_iff_ne.2 (by omega:n≠s1.next+1),cF,df,beq_eq_false_iff_ne.2 (by omega:n≠s1.next)];rfl
  refine⟨(hg _ (by omega)).trans hw1,?_,?_,⟨by omega,by omega⟩,?_⟩
  ·rw[hs3,cI,bS,List.length_replicate];rfl
  ·rw[hs3,cI,beq_eq_false_iff_ne.2 (by omega:s1.next≠s1.next+1),cF,df,jo,beq_eq_false_iff_ne.2 (by omega:s1.next≠s1.next+1),cF,df,bS];rfl
  ·rw[hs3];exact jJ _ _ _ (by show s1.minw<=s1.next+1+1;omega)
 refine aF ?_
 unfold Jz
 simp only[az,aA,aB,ai,aN,xY,ak,aD,bk,bm,aw,aq,dW,cT,cF,bS,tA,ah,au,pF]
 refine aR (aF ?_)
 unfold JA
 simp only[az,aA,aB,ai,aH,aN,aX,cJ,ak,aK,aD,bk,bm,bt,aw,bU,qW,cU,bJ,aq,bf,cT,cF,aV,cg,bS,tA,ah,au,aZ,Y2,ca,hla,wa1]
 refine cO ?_
 refine ja (Vl h183 ha hb sa sb a.length _ _ s3 _ (bB _) t3 (List.length_replicate ..) ?_ ?_ ?_ ?_) ?_
 ·simp only[ai,ah,cT,cF, *]
 ·simp only[ai,ah,cT,cF, *]
 ·simp only[ai,ah,cT,cF, *]
 ·simp only[ai,ah,cT,cF, *]
 rintro x ⟨e,sz,lc⟩ s4 ⟨rfl,hs,kp,t4,n4,c4⟩
 have hs:sz=130:=hs
 subst hs
 have k0:ax e 0=va:=kp.h0.trans (by simp only[ai,ah,cT,cF, *])
 have k1:ax e 1=vb:=kp.h1.trans (by simp only[ai,ah,cT,cF, *])
 have k7:ax e 7= .func (.func 183) [] [.ptr (s1.next+1) 0,.ptr s.next 0]:=kp.h7.trans (by simp only[ai,ah,cT,cF, *])
 show W (QS sp) 115 _ _ _ _
 refine aF ?_
 unfold Jq
 simp only[az,aA,aB,aN,aK,aw,tA,au,ofValue,fH]
 refine aR (aF ?_)
 unfold Jr
 simp only[az,aA,aB,aN,aK,bt,aw,tA,au]
 refine cO ?_
 refine ja (amh h183 ha hb sa sb (T:=uN a b (b.length+1) a.length (wC ((a.length+1)*(b.length+1)) 0)) (by rw[G7,List.length_replicate]) (lo:=s.next+3) ⟨by omega,by omega,by omega⟩ (a.length+b.length) 0 0 _ _ s4 .nils [] (by omega) (bB _) t4 (by omega) (.inl ⟨rfl,rfl⟩) ?_ ?_ ?_ ?_ ?_ ?_ (iB _) (iB _)) ?_
 ·simp only[ai,ah,cF, *]
 ·simp only[ai,ah,cF, *]
 ·simp only[ai,ah,cF, *]
 ·simp only[ai,ah,cT,cF, *]
 ·simp only[ai,ah,cT,cF];rfl
 ·simp only[ai,ah,cT,cF];rfl
 rintro x ⟨e2,sz2,lc2⟩ s5 ⟨rfl,hs,ov,h10,hO,c5⟩
 have hs:sz2=130:=hs
 subst hs
 have h10:ax e2 10=ov:=h10
 have hoc:=hO.clean
 show W (QS sp) 115 _ _ _ _
 refine aF ?_
 unfold Jy
 simp only[az,aA,aB,ai,aH,aN,ak,aw,cT,bS,tA,au,h10]
 exact cd ⟨.inr rfl,ov,cE (by simp only[ai,ah,cT,cF, *]) hoc,hO,c5.trans (c4.trans c3)⟩
def E5 (l:List (Nat×Nat)):aj:=match l with
 | []=>.nils
 |l=>.list 2 (l.map oV) .no
theorem RA (l:List (Nat×Nat)):bC 2 oV (E5 l) l:=by
 cases l with
 |nil=>exact .inl ⟨rfl,rfl⟩
 |cons a l=>exact .inr ⟨.no,rfl⟩
theorem uf {l:List aj} (h: ∀v∈l,bP v=true):pures l=true:=by
 induction l with
 |nil=>rfl
 |cons a l ih=>
  show(bP a&&pures l)=true
  rw[h a (by simp),ih fun v hv=>h v (by simp[hv])];rfl
def fR (sz:Nat):List aj->aj
 | []=>.nils
 |x::l=>.list sz (x::l) .no
theorem xh {h:bv bH} {sz lo:Nat} {s:St} {ov:aj} {xs:List aj} (hO:gi sz lo s ov xs) {k:Nat} (hx: ∀v∈xs,dh h k v=some v):dh h (k+1) ov=some (fR sz xs):=by
 rcases hO with⟨rfl,rfl⟩|⟨hne,n,rfl,_⟩
 ·rfl
 ·show(eE (dh h k) xs).bind (fun ys=>some (aj.list sz ys .no))=_
  rw[vl hx]
  cases xs with
  |nil=>exact absurd rfl hne
  |cons a l=>rfl
def vD:Sp
 | [u,v]=>bif pures [u,v] then(gj 1 lC u).bind fun a=>(gj 1 lC v).bind fun b=>bif cy a.length 2000&&cy b.length 2000 then some (E5 (m8 a b)) else none else none
 |_=>none
theorem R1 {va vb:aj} {a b:List ar} (ha:bC 1 bu va a) (hb:bC 1 bu vb b) (pa:bP va=true) (pb:bP vb=true) (sa:a.length<=2000) (sb:b.length<=2000):vD [va,vb]=some (E5 (m8 a b)):=by
 have h1:cy a.length 2000=true:=eL sa
 have h2:cy b.length 2000=true:=eL sb
 simp only[vD,pures,pa,pb,gf,cT,jI oG ha,jI oG hb,aq,h1,h2]
theorem aij:eN Tryz.prog 115 vD:=by
 intro args x hv G h w xs wr hx
 unfold vD at hv
 split at hv
 ·rename_i u v
  obtain⟨hp,hv⟩:=bX hv
  simp only[aG] at hv
  obtain⟨a,h1,b,h2,hv⟩:=hv
  obtain⟨hs,hv⟩:=bX hv
  injection hv with hv;subst hv
  simp only[cZ] at hs
  have ha:=jb (fun v a=>oE) h1
  have hb:=jb (fun v a=>oE) h2
  obtain⟨ov,s',r1,r2,r3⟩:=aik (sp:=fun f=>fv f []) rfl rfl ha hb (iL hs.1) (iL hs.2) (s:=s0) (bB _)
  refine gS (Q:=QT []) (gK .nil) (fun _=>gV 1) (args:=[u,v]) (v:=ov) (s':=s') (kA hp) (by rw[iz hp];exact r1) r3 ⟨3,?_⟩ G h w xs wr hx
  rw[xh r2 (k:=2) fun v hv=>?_]
  ·cases m8 a b<;>rfl
  ·obtain⟨p,_,rfl⟩:=List.mem_map.1 hv
   rfl
 ·cases hv
def iu (k:Nat):List (Nat×Nat)->Option Nat
 | []=>none
 |(a,b)::l=>bif be k a then some b else iu k l
def l8 (n:Nat):List (Nat×Nat)->List db
 | []=>[]
 |(a,b)::l=>⟨.int .i64 a,.int .i64 b,n⟩::l8 (n+1) l
theorem Rl (n:Int):nW Tryz.prog 178 (.int .i64 n)=some (3,3):=by kernel_rfl
theorem Xt (a b:Int):ki Tryz.prog 8 3 (.int .i64 a) (.int .i64 b)=some (bD a b):=by kernel_rfl
theorem abc (a b:Nat):bD (a:Int) (b:Int)=be a b:=by
 rw[ra,aZ]
theorem CH (k:Nat): ∀(l:List (Nat×Nat)) (n i:Nat),(iu k l=none->kn Tryz.prog 3 (.int .i64 k) (l8 n l) i=some none)/\ ∀v,iu k l=some v-> ∃j e,kn Tryz.prog 3 (.int .i64 k) (l8 n l) i=some (some (j,e))/\e.val= .int .i64 v
 | [],n,i=>⟨fun _=>rfl,fun v h=>by cases h⟩
 |(a,b)::l,n,i=>by
  obtain⟨h1,h2⟩:=CH k l (n+1) (i+1)
  simp only[iu,l8,kn,Xt,abc,aq]
  cases be k a with
  |true=>exact⟨fun h=>(by cases h),fun v h=>⟨i,_,rfl,(by injection h with h;subst h;rfl)⟩⟩
  |false=>exact⟨h1,h2⟩
theorem H0: ∀(l r:List (Nat×Nat)) (n:Nat),l8 n (l++r)=l8 n l++l8 (n+l.length) r
 | [],r,n=>rfl
 |(a,b)::l,r,n=>by simp only[cH,l8,H0 l r (n+1),aP];congr 3;omega
theorem ama {s:St} {m:Nat} {l:List (Nat×Nat)} (hs:s.get [] m=some (.map (l8 0 l) l.length)) {k v:Nat} (hk:iu k l=none):
 lS Tryz.prog [] 178 (.map m) (.int .i64 k) (.int .i64 v) s=some (s.put m (some (.map (l8 0 (l++[(k,v)])) (l++[(k,v)]).length))):=by
 simp only[lS,Rl,aq,hs,(CH k l 0 0).1 hk,H0,l8,aQ,dp,aP,aW]
theorem amF:eY Tryz.prog 3=some (.int .i64 0):=by kernel_rfl
def Af (o:Option Nat):aj:=match o with
 |some v=>.tup [.int .i64 v,.bool true]
 |none=>.tup [.int .i64 0,.bool false]
theorem aie {s:St} {m:Nat} {l:List (Nat×Nat)} {c:Nat} (hs:s.get [] m=some (.map (l8 0 l) c)) (k:Nat):lM Tryz.prog [] 178 (.map m) (.int .i64 k) true s=some (Af (iu k l)):=by
 obtain⟨h1,h2⟩:=CH k l 0 0
 simp only[lM,Rl,aq,amF,xL,hs]
 cases h:iu k l with
 |none=>rw[h1 h];rfl
 |some v=>
  obtain⟨j,e,h3,h4⟩:=h2 v h
  rw[h3]
  simp only[aq,cT,h4,Af]
def ig (W:List (Nat×Nat)):List (Nat×Nat)->List (Nat×Nat×Nat)
 | []=>[]
 |(a,b)::l=>match iu a W with
  |some k=>(a,b,k)::ig W l
  |none=>ig W l
inductive oA (la lb lc:Nat):Nat->Nat->Nat->List (Nat×Nat×Nat)->Prop
 |nil {i j k:Nat}:oA la lb lc i j k []
 |cons {i j k p q r:Nat} {l:List (Nat×Nat×Nat)}:i<=p->j<=q->k<=r->p<=la->q<=lb->r<=lc->oA la lb lc (p+1) (q+1) (r+1) l->oA la lb lc i j k ((p,q,r)::l)
theorem oA.weak {la lb lc i j k i' j' k':Nat} {l:List (Nat×Nat×Nat)} (h:oA la lb lc i j k l) (hi:i'<=i) (hj:j'<=j) (hk:k'<=k):oA la lb lc i' j' k' l:=by
 cases h with
 |nil=>exact .nil
 |cons a b c d e f g=>exact .cons (by omega) (by omega) (by omega) d e f g
theorem xJ {la lc:Nat}: ∀ {W:List (Nat×Nat)} {i k:Nat},jY la lc i k W-> ∀ {p r:Nat},iu p W=some r->i<=p/\k<=r/\r<lc
 | [],i,k,_,p,r,h=>by cases h
 |(a,b)::W,i,k,hr,p,r,h=>by
  cases hr with
  |cons h1 h2 h3 h4 h5=>
   simp only[iu] at h
   cases hb:be p a with
   |true=>
    rw[hb] at h
    have:=ik hb
    injection h with h
    subst this;subst h
    exact⟨h1,h2,h4⟩
   |false=>
    rw[hb] at h
    have:=xJ h5 h
    omega
theorem RN {la lc:Nat}: ∀ {W:List (Nat×Nat)} {i k:Nat},jY la lc i k W-> ∀ {p p' r r':Nat},iu p W=some r->iu p' W=some r'->p<p'->r<r'
 | [],i,k,_,p,p',r,r',h,_,_=>by cases h
 |(a,b)::W,i,k,hr,p,p',r,r',h,h',hp=>by
  cases hr with
  |cons h1 h2 h3 h4 h5=>
   simp only[iu] at h h'
   cases hb':be p' a with
   |true=>
    have:=ik hb'
    cases hb:be p a with
    |true=>have:=ik hb;omega
    |false=>rw[hb] at h;have:=xJ h5 h;omega
   |false=>
    rw[hb'] at h'
    cases hb:be p a with
    |true=>
     rw[hb] at h
     injection h with h
     have:=xJ h5 h'
     omega
    |false=>rw[hb] at h;exact RN h5 h h' hp
theorem Gd {la lb lc:Nat} {W:List (Nat×Nat)} {i0 k0:Nat} (hW:jY la lc i0 k0 W): ∀ {M:List (Nat×Nat)} {i j k:Nat},jY la lb i j M->(∀p r,i<=p->iu p W=some r->k<=r)->oA la lb lc i j k (ig W M)
 | [],i,j,k,_,_=>.nil
 |(a,b)::M,i,j,k,hM,hk=>by
  cases hM with
  |cons h1 h2 h3 h4 h5=>
   simp only[ig]
   cases h:iu a W with
   |none=>exact(Gd hW h5 fun p r hp hr=>hk p r (by omega) hr).weak (by omega) (by omega) (bB _)
   |some r=>
    refine .cons h1 h2 (hk a r h1 h) (by omega) (by omega) (by have:=(xJ hW h).2.2;omega) (Gd hW h5 fun p r' hp hr=>?_)
    exact RN hW h hr (by omega)
theorem S5 {la lb lc:Nat}: ∀ {l:List (Nat×Nat×Nat)} {i j k:Nat},oA la lb lc i j k l->(∀p q r,(p,q,r)∈l->p<la/\q<lb/\r<lc)->i<=la->j<=lb->k<=lc->oA la lb lc i j k (l++[(la,lb,lc)])
 | [],i,j,k,_,_,hi,hj,hk=>.cons hi hj hk (bB _) (bB _) (bB _) .nil
 |(p,q,r)::l,i,j,k,h,hl,hi,hj,hk=>by
  cases h with
  |cons a b c d e f g=>
   obtain⟨x1,x2,x3⟩:=hl p q r (by simp)
   exact .cons a b c d e f (S5 g (fun p q r h=>hl p q r (by simp[h])) (by omega) (by omega) (by omega))
theorem S6 {la lb:Nat}: ∀ {M:List (Nat×Nat)} {i j:Nat},jY la lb i j M-> ∀p q,(p,q)∈M->p<la/\q<lb
 | [],i,j,_,p,q,h=>by cases h
 |(a,b)::M,i,j,hM,p,q,h=>by
  cases hM with
  |cons h1 h2 h3 h4 h5=>
   rcases List.mem_cons.1 h with h|h
   ·cases h;exact⟨h3,h4⟩
   ·exact S6 h5 p q h
theorem Gc {W:List (Nat×Nat)}: ∀ {M:List (Nat×Nat)} {p q r:Nat},(p,q,r)∈ig W M->(p,q)∈M/\iu p W=some r
 | [],p,q,r,h=>by cases h
 |(a,b)::M,p,q,r,h=>by
  simp only[ig] at h
  cases hl:iu a W with
  |none=>
   rw[hl] at h
   have:=Gc h
   exact⟨by simp[this.1],this.2⟩
  |some k=>
   rw[hl] at h
   rcases List.mem_cons.1 h with h|h
   ·cases h;exact⟨by simp,hl⟩
   ·have:=Gc h
    exact⟨by simp[this.1],this.2⟩
def oD (b o t:List ar):List (Nat×Nat×Nat):=ig (m8 b t) (m8 b o)++[(b.length,o.length,t.length)]
theorem G6 (b o t:List ar):oA b.length o.length t.length 0 0 0 (oD b o t):=by
 refine S5 (Gd (rg b t) (rg b o) fun _ _ _ _=>iB _) (fun p q r h=>?_) (iB _) (iB _) (iB _)
 obtain⟨h1,h2⟩:=Gc h
 have h3:=S6 (rg b o) p q h1
 exact⟨h3.1,h3.2,(xJ (rg b t) h2).2.2⟩
theorem RP {la lc:Nat}: ∀ {pre:List (Nat×Nat)} {i k p r:Nat} {rest:List (Nat×Nat)},jY la lc i k (pre++(p,r)::rest)->iu p pre=none
 | [],_,_,_,_,_,_=>rfl
 |(a,b)::pre,i,k,p,r,rest,h=>by
  cases h with
  |cons h1 h2 h3 h4 h5=>
   have ih:=RP h5
   have:a<p:=by
    have: ∀ {l:List (Nat×Nat)} {i k:Nat},jY la lc i k l-> ∀x∈l,i<=x.1:=by
     intro l
     induction l with
     |nil=>intro i k _ x hx;cases hx
     |cons y l ihl=>
      intro i k hr x hx
      cases hr with
      |cons a1 a2 a3 a4 a5=>
       rcases List.mem_cons.1 hx with rfl|hx
       ·exact a1
       ·have:=ihl a5 x hx;omega
    have:=this h5 (p,r) (by simp)
    exact this
   have hb:be p a=false:=by rw[aZ];exact beq_eq_false_iff_ne.2 (by omega)
   simp only[iu,hb,cF,ih]
def sZ (p:Nat×Nat×Nat):aj:=.agg [.int .i64 p.1,.int .i64 p.2.1,.int .i64 p.2.2]
theorem Hm {e:bj} {x:Operand} {a b c:aj} (h:ev e x=some (.agg [a,b,c])) (s:St):dV Tryz.prog 184 1 [(0,x)] false e s=some (.list 3 [.agg [a,b,c]] .full,s):=by
 simp only[dV,Co,aq,dQ,evc,h,nk,cT,gd,j9,aP,aW,cV,kD,aQ,bE,jt,ip,cut]
 rfl
section
variable {sp:FuncId->Option (List aj->Option aj)} {va:aj}
theorem amm {la lc0:Nat} {v:aj} {Wl:List (Nat×Nat)} (hv:bC 2 oV v Wl) (hr:jY la lc0 0 0 Wl) (hW:Wl.length<=2000) {mW:Nat}: ∀(rest pre:List (Nat×Nat)) (e:bj) (lc:Ag.Loc) (s:St),Wl=pre++rest->s.minw<=s.next->mW<s.next->s.get [] mW=some (.map (l8 0 pre) pre.length)->
 ax e 8= .map mW->ax e 34=v->ax e 35= .int .i64 (Wl.length:Nat)->ax e 36= .int .i64 (pre.length:Nat)->
 W (QS sp) 74 (.loop zR) ⟨e,147,lc⟩ s fun x fr s'=>x= .exit 0/\ ∃e' lc',fr=⟨e',147,lc'⟩/\lc'.gen 19=lc.gen 19/\(ax e' 0=ax e 0/\ax e' 1=ax e 1/\ax e' 2=ax e 2/\ax e' 8=ax e 8)/\s'.get [] mW=some (.map (l8 0 Wl) Wl.length)/\s'.next=s.next/\s'.minw<=s'.next/\s'.ci=s.ci:=by
 intro rest
 have hcl:=hv.clean
 induction rest with
 |nil=>
  intro pre e lc s hpre hm hlt hs h8 h34 h35 h36
  have hl:Wl.length=pre.length:=by rw[hpre];simp
  have hpp:pre=Wl:=by rw[hpre];simp
  rw[hpp] at hs
  refine cR ?_
  unfold zR
  refine aF ?_
  unfold Ep
  simp only[az,aA,aB,aX,ak,aD,aw,cQ,aq,bf,cT,aV,da,tA,au,decide_false,h35,h36,hl,eU]
  refine aR (bc (t:=false) (by simp only[ak,ai,ah,cT, *]) ?_)
  rw[hl] at hs
  exact eD ⟨rfl,_,_,rfl,rfl,⟨by simp only[ai,ah,cF, *],by simp only[ai,ah,cF, *],by simp only[ai,ah,cF, *],by simp only[ai,ah,cF, *]⟩,hs,rfl,hm,rfl⟩
 |cons q rest ih=>
  intro pre e lc s hpre hm hlt hs h8 h34 h35 h36
  obtain⟨p,r⟩:=q
  have hltp:pre.length<Wl.length:=by rw[hpre];simp
  have hat:Wl[pre.length]? =some (p,r):=by rw[hpre];simp
  have hia:=fun lc=>hv.at IX hat lc .i64
  have hnone:iu p pre=none:=RP (by rw[hpre] at hr;exact hr)
  have hup:=ama hs (v:=r) hnone
  have hwr:IntKind.i64.wrap ((pre.length:Int)+1)=((pre.length+1:Nat):Int):=by rw[ew (by omega) (by omega)];omega
  refine cR ?_
  unfold zR
  refine aF ?_
  unfold Ep
  simp only[az,aA,aB,aX,ak,aD,aw,cQ,aq,bf,cT,aV,da,tA,au,dT,h35,h36,hltp]
  refine aR (bc (t:=true) (by simp only[ak,ai,ah,cT, *]) (ck ?_))
  simp only[aU]
  refine aR (cO (aF ?_))
  unfold PO
  simp only[az,aA,ej,aB,ep,ai,bR,jz,gZ,bo,ez,ek,ak,aD,gl,fQ,aw,bJ,dC,ix,aq,cK,cT,cF,aV,cg,aP,aW,cut,cV,bN,a7,eR,cq,cH,bS,tA,aQ,ah,au,bE,cm,dY,aZ,dl,cj,dT,SX,TR,GB,Z7,h34,h36,hia,oV]
  refine b7 ?_
  unfold PP
  simp only[az,aA,ej,aB,ep,ai,cM,bR,aH,bo,bZ,ua,ak,aD,cx,aw,ui,aq,bf,fZ,cT,cF,aV,a7,bO,bS,tA,aQ,dc,ah,au,aZ,fJ,yX,H6,h8,hup,dP,aU]
  refine b7 ?_
  unfold PQ
  simp only[az,aA,aB,ai,aH,aX,ak,aK,aD,bt,aw,dZ,aq,bf,cT,cF,aV,bS,tA,ah,au,h36,hwr,aU]
  refine ja (ih (pre++[(p,r)]) _ _ _ (by rw[hpre];simp) ?_ hlt ?_ ?_ ?_ ?_ ?_) ?_
  ·exact jJ s mW _ hm
  ·rw[cI,bS];rfl
  ·simp only[ai,ah,cF, *]
  ·simp only[ai,ah,cF, *]
  ·simp only[ai,ah,cF, *]
  ·simp only[ai,ah,cT,cF,dp,aP,aW]
  rintro x fr s' ⟨rfl,e',lc',rfl,g19,⟨g0,g1,g2,g8⟩,q1,q2,q3,q4⟩
  exact⟨rfl,e',lc',rfl,g19.trans (by simp only[cM,ah,cF]),⟨g0.trans (by simp only[ai,ah,cF, *]),g1.trans (by simp only[ai,ah,cF, *]),g2.trans (by simp only[ai,ah,cF, *]),g8.trans (by simp only[ai,ah,cF, *])⟩,q1,q2,q3,q4⟩
theorem alp {_la _lb0:Nat} {v:aj} {M Wt:List (Nat×Nat)} (hv:bC 2 oV v M) (hM:M.length<=2000) {mW lo:Nat} (hmW:mW<lo): ∀(rest pre:List (Nat×Nat)) (e:bj) (lc:Ag.Loc) (s:St) (ov:aj),M=pre++rest->s.minw<=s.next->lo<=s.next->s.get [] mW=some (.map (l8 0 Wt) Wt.length)->gi 3 lo s ov ((ig Wt pre).map sZ)->(ig Wt pre).length<=pre.length->
 ax e 8= .map mW->ax e 11=ov->ax e 48=v->ax e 49= .int .i64 (M.length:Nat)->ax e 50= .int .i64 (pre.length:Nat)->
 W (QS sp) 74 (.loop zS) ⟨e,147,lc⟩ s fun x fr s'=>x= .exit 2/\ ∃e' lc' ov',fr=⟨e',147,lc'⟩/\lc'.gen 19=lc.gen 19/\(ax e' 0=ax e 0/\ax e' 1=ax e 1/\ax e' 2=ax e 2/\ax e' 11=ov')/\gi 3 lo s' ov' ((ig Wt M).map sZ)/\(ig Wt M).length<=M.length/\s.next<=s'.next/\s'.minw<=s'.next/\s'.ci=s.ci:=by
 have stab_app: ∀(l r:List (Nat×Nat)),ig Wt (l++r)=ig Wt l++ig Wt r:=by
  intro l
  induction l with
  |nil=>intro r;rfl
  |cons a l ih=>
   intro r
   obtain⟨x,y⟩:=a
   simp only[cH,ig,ih]
   cases iu x Wt<;>rfl
 intro rest
 have hcl:=hv.clean
 induction rest with
 |nil=>
  intro pre e lc s ov hpre hm hlo hs hO hlen h8 h11 h48 h49 h50
  have hl:M.length=pre.length:=by rw[hpre];simp
  have hpp:pre=M:=by rw[hpre];simp
  refine cR ?_
  unfold zS
  refine aF ?_
  unfold Ei
  simp only[az,aA,aB,aX,ak,aD,aw,cQ,aq,bf,cT,aV,da,tA,au,decide_false,h49,h50,hl,eU]
  refine aR (bc (t:=false) (by simp only[ak,ai,ah,cT, *]) ?_)
  rw[hpp] at hO hlen
  exact eD ⟨rfl,_,_,ov,rfl,rfl,⟨by simp only[ai,ah,cF, *],by simp only[ai,ah,cF, *],by simp only[ai,ah,cF, *],by simp only[ai,ah,cF, *]⟩,hO,by first|exact hlen|(rw[<-hl];exact hlen)|(rw[hl];exact hlen),bB _,hm,rfl⟩
 |cons q rest ih=>
  intro pre e lc s ov hpre hm hlo hs hO hlen h8 h11 h48 h49 h50
  obtain⟨p,r⟩:=q
  have hltp:pre.length<M.length:=by rw[hpre];simp
  have hat:M[pre.length]? =some (p,r):=by rw[hpre];simp
  have hia:=fun lc=>hv.at IX hat lc .i64
  have hlk:=aie hs p
  have hoc:=hO.clean
  have hwr:IntKind.i64.wrap ((pre.length:Int)+1)=((pre.length+1:Nat):Int):=by rw[ew (by omega) (by omega)];omega
  refine cR ?_
  unfold zS
  refine aF ?_
  unfold Ei
  simp only[az,aA,aB,aX,ak,aD,aw,cQ,aq,bf,cT,aV,da,tA,au,dT,h49,h50,hltp]
  refine aR (bc (t:=true) (by simp only[ak,ai,ah,cT, *]) (ck ?_))
  simp only[aU]
  refine aR (cO (aF ?_))
  unfold Pw
  simp only[az,aA,ej,aB,ep,ai,bR,jz,gZ,bo,ez,ek,ak,aD,gl,fQ,aw,bJ,dC,ix,aq,cK,cT,cF,aV,cg,aP,aW,cut,cV,bN,a7,eR,cq,cH,bS,tA,aQ,ah,au,bE,cm,dY,aZ,dl,cj,dT,SX,TR,GB,Z8,h48,h50,hia,oV]
  refine aF ?_
  unfold Px
  cases hz:iu p Wt with
  |none=>
   have hst:ig Wt (pre++[(p,r)])=ig Wt pre:=by
    rw[stab_app]
    simp only[ig,hz,iA]
   rw[hz] at hlk
   simp only[Af] at hlk
   simp only[az,aA,aB,ai,cM,bR,aH,aN,bo,bZ,lQ,jD,ak,aD,cx,aw,aq,bf,fZ,cT,cF,aV,a7,bO,bS,tA,dc,ah,au,aZ,fJ,yX,h8,hlk,iE,gg,mJ]
   refine aF ?_
   unfold Ej
   simp only[az,aA,aB,ai,aH,ak,aw,cT,cF,bS,tA,ah,au]
   refine bc (t:=false) (by simp only[ak,ai,ah,cT,cF, *]) (ck ?_)
   simp only[dP,aU]
   refine b7 ?_
   unfold Ek
   simp only[az,aA,aB,ai,aH,aX,ak,aK,aD,bt,aw,dZ,aq,bf,cT,cF,aV,bS,tA,ah,au,h50,hwr,aU]
   refine ja (ih (pre++[(p,r)]) _ _ s ov (by rw[hpre];simp) hm hlo hs (by rw[hst];exact hO) (by rw[hst,dp];omega) ?_ ?_ ?_ ?_ ?_) ?_
   ·simp only[ai,ah,cF, *]
   ·simp only[ai,ah,cF, *]
   ·simp only[ai,ah,cF, *]
   ·simp only[ai,ah,cF, *]
   ·simp only[ai,ah,cT,cF,dp,aP,aW]
   rintro x fr s' ⟨rfl,e',lc',ov',rfl,g19,⟨g0,g1,g2,g8⟩,q1,q2,q3,q4,q5⟩
   exact⟨rfl,e',lc',ov',rfl,g19.trans (by simp only[cM,ah,cF]),⟨g0.trans (by simp only[ai,ah,cF, *]),g1.trans (by simp only[ai,ah,cF, *]),g2.trans (by simp only[ai,ah,cF, *]),g8⟩,q1,q2,q3,q4,q5⟩
  |some k=>
   have hst:ig Wt (pre++[(p,r)])=ig Wt pre++[(p,r,k)]:=by
    rw[stab_app]
    simp only[ig,hz]
   have hbd: ∀e,ax e 64= .int .i64 (p:Nat)->ax e 66= .int .i64 (r:Nat)->ax e 67= .int .i64 (k:Nat)->gm Tryz.prog 186 [(0,.tmp 64),(1,.tmp 66),(2,.tmp 67)] e=some (.agg [.int .i64 (p:Nat),.int .i64 (r:Nat),.int .i64 (k:Nat)]):=fun e p q r=>by
    rw[BU]
    simp only[yx,aq,dQ,evc,ev,p,q,r,bf,cT]
    rfl
   have hbs: ∀e s,ax e 68= .agg [.int .i64 (p:Nat),.int .i64 (r:Nat),.int .i64 (k:Nat)]->dV Tryz.prog 184 1 [(0,.tmp 68)] false e s=some (.list 3 [.agg [.int .i64 (p:Nat),.int .i64 (r:Nat),.int .i64 (k:Nat)]] .full,s):=fun e s h=>Hm (by rw[ak,h]) s
   obtain⟨ov',s',happ,hO',hc',hn',hm',hold,hcell⟩:=wO Co rfl (by decide) (y:=.list 3 [.agg [.int .i64 (p:Nat),.int .i64 (r:Nat),.int .i64 (k:Nat)]] .full) (ys:=[sZ (p,r,k)]) hO rfl (by rw[eH,o9];omega) hlo hm
   have hoc':=hO'.clean
   rw[hz] at hlk
   simp only[Af] at hlk
   simp only[az,aA,aB,ai,cM,bR,aH,aN,bo,bZ,lQ,jD,ak,aD,cx,aw,aq,bf,fZ,cT,cF,aV,a7,bO,bS,tA,dc,ah,au,aZ,fJ,yX,h8,hlk,iE,gg,mJ]
   refine aF ?_
   unfold Ej
   simp only[az,aA,aB,ai,aH,ak,aw,cT,cF,bS,tA,ah,au]
   refine bc (t:=true) (by simp only[ak,ai,ah,cT,cF, *]) (b7 ?_)
   unfold Py
   simp only[az,aA,aB,ai,cM,bR,aH,aN,lf,lg,bo,bZ,cJ,ak,aD,bk,bm,cx,aw,bU,oI,bJ,aq,jm,cT,cF,aV,cg,a7,bO,bS,tA,aQ,dc,ah,au,aZ,fJ,yX,H6,Ja,aai,aaj,h11,hoc,hbd,hbs,happ,dP,aU]
   refine b7 ?_
   unfold Ek
   simp only[az,aA,aB,ai,aH,aX,ak,aK,aD,bt,aw,dZ,aq,bf,cT,cF,aV,bS,tA,ah,au,h50,hwr,aU]
   refine ja (ih (pre++[(p,r)]) _ _ s' ov' (by rw[hpre];simp) hm' (by omega) ((hold _ hmW).trans hs) (by rw[hst,kB];exact hO') (by rw[hst,dp,dp,o9,o9];omega) ?_ ?_ ?_ ?_ ?_) ?_
   ·simp only[ai,ah,cF, *]
   ·simp only[ai,ah,cT,cF]
   ·simp only[ai,ah,cF, *]
   ·simp only[ai,ah,cF, *]
   ·simp only[ai,ah,cT,cF,dp,aP,aW]
   rintro x fr s2 ⟨rfl,e',lc',ov2,rfl,g19,⟨g0,g1,g2,g8⟩,q1,q2,q3,q4,q5⟩
   exact⟨rfl,e',lc',ov2,rfl,g19.trans (by simp only[cM,ah,cF]),⟨g0.trans (by simp only[ai,ah,cF, *]),g1.trans (by simp only[ai,ah,cF, *]),g2.trans (by simp only[ai,ah,cF, *]),g8⟩,q1,q2,by omega,q4,q5.trans hc'⟩
end
def oL (b o t:List ar):Option (List ar):=bif o==b then some t else bif t==b||t==o then some o else none
def kY (b:List ar) (p:Nat):List ar:=match b[p]? with
 |some x=>[x]
 |none=>[]
def j5 (b o t:List ar):List (Nat×Nat×Nat)->Nat->Nat->Nat->List ar->Option (List ar)
 | [],_,_,_,out=>some out
 |(p,q,r)::l,i,j,k,out=>match oL ((b.drop i).take (p-i)) ((o.drop j).take (q-j)) ((t.drop k).take (r-k)) with
  |none=>none
  |some part=>j5 b o t l (p+1) (q+1) (r+1) (out++part++kY b p)
def oB (s:St) (x:Nat) (l:List ar):Prop:= ∃V,s.get [] x=some (.cells [V])/\bC 1 bu V l/\bP V=true
theorem oB.keep {s s':St} {x:Nat} {l:List ar} (h:oB s x l) (hg:s'.get [] x=s.get [] x):oB s' x l:=by
 obtain⟨V,h1,h2,h3⟩:=h
 exact⟨V,hg.trans h1,h2,h3⟩
theorem E3 {s s1:St} (hm:s.minw<=s.next) (hn:s1.next=s.next) (h1:s1.minw<=s1.next):(s.least s1).minw<=(s.least s1).next:=by
 show(bif cy s.minw s1.minw then s.minw else s1.minw)<=s1.next
 cases cy s.minw s1.minw with
 |true=>rw[hn];exact hm
 |false=>exact h1
theorem WC {vb vo vt:aj} {b o t:List ar} (ho:bC 1 bu vo o) (ht:bC 1 bu vt t) (po:bP vo=true) (pt:bP vt=true):
 ∃pv bb,pG vb vo vt b o t= .tup [pv,.bool bb]/\pv.clean=true/\((bb=true/\ ∃part,oL b o t=some part/\bC 1 bu pv part/\bP pv=true/\(part=t\/part=o))\/(bb=false/\oL b o t=none)):=by
 unfold pG oL
 cases o==b with
 |true=>exact⟨vt,true,rfl,ht.clean,.inl ⟨rfl,t,rfl,ht,pt,.inl rfl⟩⟩
 |false=>
  cases t==b||t==o with
  |true=>exact⟨vo,true,rfl,ho.clean,.inl ⟨rfl,o,rfl,ho,po,.inr rfl⟩⟩
  |false=>exact⟨.nils,false,rfl,rfl,.inr ⟨rfl,rfl⟩⟩
theorem abf {sz:Nat} {α:Type} {enc:α->aj} {v:aj} {l:List α} (h:bC sz enc v l) (g:Bool) (s:St):j2 [] g sz v s=some (l.map enc):=by
 rcases h with⟨rfl,rfl⟩|⟨r,rfl⟩
 ·rfl
 ·simp only[j2,aZ,bS,cT]
structure Fk (e:bj) (lc:Ag.Loc) (x y z g:Nat) (p q r:Int) (i j k:Int):Prop where
 h16:ax e 16= .ptr x 0
 h17:ax e 17= .ptr y 0
 h18:ax e 18= .ptr z 0
 h22:ax e 22= .lref 22 g 0
 g22:lc.gen 22=g
 b22:lc.get 22 g=some [.int .i64 p,.int .i64 q,.int .i64 r]
 h19:ax e 19= .lref 19 1 0
 g19:lc.gen 19=1
 b19:lc.get 19 1=some [.int .i64 i,.int .i64 j,.int .i64 k]
section
variable {sp:FuncId->Option (List aj->Option aj)} (h116:sp 116=none) (h117:sp 117=none) (h37:sp 37=some pn)
include h116 h117 h37
theorem Xb {e:bj} {lc:Ag.Loc} {s:St} {x y z g:Nat} {p q r i j k:Nat} {lx ly lz:List ar} (F:Fk e lc x y z g p q r ((i:Int)-1) ((j:Int)-1) ((k:Int)-1)) (hi:i<=p) (hj:j<=q) (hk:k<=r) (hp:p<=10000) (hq:q<=10000) (hr:r<=10000)
 (hx:oB s x lx) (hy:oB s y ly) (hz:oB s z lz) (hxy:x≠y) (hxz:x≠z) (hyz:y≠z) (nx:p-i<=lx.length) (ny:q-j<=ly.length) (nz:r-k<=lz.length) (sx:lx.length<=10000) (sy:ly.length<=10000) (sz:lz.length<=10000) (hm:s.minw<=s.next) {K:Fr->St->Prop}
 (hK: ∀(e':bj) (s':St) (pv:aj) (bb:Bool),ax e' 23=pv->ax e' 24= .bool bb->(∀u,u<23->ax e' u=ax e u)->ax e' 92=ax e 92->ax e' 93=ax e 93->ax e' 94=ax e 94->pv.clean=true->
  ((bb=true/\ ∃part,oL (lx.take (p-i)) (ly.take (q-j)) (lz.take (r-k))=some part/\bC 1 bu pv part/\bP pv=true/\(part=lz.take (r-k)\/part=ly.take (q-j)))\/(bb=false/\oL (lx.take (p-i)) (ly.take (q-j)) (lz.take (r-k))=none))->
  oB s' x (lx.drop (p-i+1))->oB s' y (ly.drop (q-j+1))->oB s' z (lz.drop (r-k+1))->(∀n,n≠x->n≠y->n≠z->s'.get [] n=s.get [] n)->s'.next=s.next->s'.minw<=s'.next->s'.ci=s.ci->K ⟨e',147,lc⟩ s'):
 WD (QS sp) 74 Eh [] 0 m7 ⟨e,147,lc⟩ s K:=by
 obtain⟨h16,h17,h18,h22,g22,b22,h19,g19,b19⟩:=F
 obtain⟨Vx,x1,x2,x3⟩:=hx
 obtain⟨Vy,y1,y2,y3⟩:=hy
 obtain⟨Vz,z1,z2,z3⟩:=hz
 have sub1: ∀(p i:Nat),i<=p->p<=10000->IntKind.i64.wrap ((p:Int)-((i:Int)-1))=(p:Int)-i+1:=fun p i a b=>by rw[ew (by omega) (by omega)];omega
 have sub2: ∀(p i:Nat),i<=p->p<=10000->IntKind.i64.wrap ((p:Int)-i+1-1)=((p-i:Nat):Int):=fun p i a b=>by rw[ew (by omega) (by omega)];omega
 have ep1:=sub1 p i hi hp
 have ep2:=sub2 p i hi hp
 have eq1:=sub1 q j hj hq
 have eq2:=sub2 q j hj hq
 have er1:=sub1 r k hk hr
 have er2:=sub2 r k hk hr
 obtain⟨v1,s1,r1,u1,w1,⟨Vx',a1,a2,a3⟩,n1,c1,m1⟩:=Ck h117 (s:=s.top) x1 x2 x3 nx (by omega) (bB _)
 obtain⟨sA,hsA⟩: ∃a,a=s.least s1:=⟨_,rfl⟩
 have nA:sA.next=s.next:=by rw[hsA];exact n1
 have mA:sA.minw<=sA.next:=by rw[hsA];exact E3 hm n1 m1
 have gA: ∀n,sA.get [] n=(s.put x (some (.cells [Vx']))).get [] n:=fun n=>by rw[hsA];exact a3 n
 have cA:sA.ci=s.ci:=by rw[hsA];exact c1
 have y1':sA.top.get [] y=some (.cells [Vy]):=by
  show sA.get [] y=_
  rw[gA,cI,beq_eq_false_iff_ne.2 hxy.symm];exact y1
 obtain⟨v2,s2,r2,u2,w2,⟨Vy',b1,b2,b3⟩,n2,c2,m2⟩:=Ck h117 (s:=sA.top) y1' y2 y3 ny (by omega) (bB _)
 obtain⟨sB,hsB⟩: ∃a,a=sA.least s2:=⟨_,rfl⟩
 have nB:sB.next=s.next:=by rw[hsB];exact n2.trans nA
 have mB:sB.minw<=sB.next:=by rw[hsB];exact E3 mA n2 m2
 have gB: ∀n,sB.get [] n=(sA.put y (some (.cells [Vy']))).get [] n:=fun n=>by rw[hsB];exact b3 n
 have cB:sB.ci=s.ci:=by rw[hsB];exact c2.trans cA
 have z1':sB.top.get [] z=some (.cells [Vz]):=by
  show sB.get [] z=_
  rw[gB,cI,beq_eq_false_iff_ne.2 hyz.symm,cF,gA,cI,beq_eq_false_iff_ne.2 hxz.symm];exact z1
 obtain⟨v3,s3,r3,u3,w3,⟨Vz',d1,d2,d3⟩,n3,c3,m3⟩:=Ck h117 (s:=sB.top) z1' z2 z3 nz (by omega) (bB _)
 obtain⟨sC,hsC⟩: ∃a,a=sB.least s3:=⟨_,rfl⟩
 have nC:sC.next=s.next:=by rw[hsC];exact n3.trans nB
 have mC:sC.minw<=sC.next:=by rw[hsC];exact E3 mB n3 m3
 have gC: ∀n,sC.get [] n=(sB.put z (some (.cells [Vz']))).get [] n:=fun n=>by rw[hsC];exact d3 n
 have cC:sC.ci=s.ci:=by rw[hsC];exact c3.trans cB
 have hsmall:small=9223372036854775808:=rfl
 have r4:=aiw (sp:=sp) h116 h37 u1 u2 u3 w1 w2 w3 (by rw[pZ];omega) (by rw[pZ];omega) sC.top
 obtain⟨pv,bb,hpv,hpc,hcase⟩:=WC (vb:=v1) (b:=lx.take (p-i)) u2 u3 w2 w3
 rw[hpv] at r4
 rw[show m7=m7.take 7++m7.drop 7 from(nr 7 _).symm]
 refine WD.loudOps hm (fun _ h=>by cases h) ?_
 unfold m7 Eh
 simp only[yL,yK,A4,CP,CO,y6,CN,CR,CZ,CQ,CW,CV,y7,isStore,ai,aH,bo,aX,bZ,ak,aK,aD,bt,cx,aw,qW,aq,bf,cT,cF,aV,cg,aP,aW,bN,a7,bO,gr,bS,tA,aQ,dc,ah,au,bE,aZ,fJ,Cx,h16,h22,g22,b22,h19,g19,b19,ep1,ep2]
 intro rs1 k1
 refine WD.loudCall (g:=117) (args:=[.ptr x 0,.int .i64 ((p-i:Nat):Int)]) k1 (by decide) ?_ r1 n1 c1 (by decide) (fun rs2 k2=>?_)
 ·simp only[callee,ai,ak,ff,aD,bk,bm,aq,bf,dW,cT,cF,cq,cH,bS,ah]
 rw[<-hsA]
 refine WD.loudOps (l1:=m7.drop 8|>.take 7) (l2:=m7.drop 15) mA k2 ?_
 unfold m7
 simp only[yL,yK,A4,CP,CO,y6,CN,CR,CZ,CQ,CW,CV,y7,isStore,ai,aH,bo,aX,bZ,ak,aK,aD,bt,cx,aw,qW,aq,bf,cT,cF,aV,cg,aP,aW,bN,a7,bO,gr,eR,bS,tA,aQ,ah,au,bE,aZ,fJ,XJ,h17,h22,g22,b22,h19,g19,b19,eq1,eq2]
 intro rs3 k3
 refine WD.loudCall (g:=117) (args:=[.ptr y 0,.int .i64 ((q-j:Nat):Int)]) k3 (by decide) ?_ r2 n2 c2 (by decide) (fun rs4 k4=>?_)
 ·simp only[callee,ai,ak,ff,aD,bk,bm,aq,bf,dW,cT,cF,cq,cH,bS,ah]
 rw[<-hsB]
 refine WD.loudOps (l1:=m7.drop 16|>.take 7) (l2:=m7.drop 23) mB k4 ?_
 unfold m7
 simp only[yL,yK,A4,CP,CO,y6,CN,CR,CZ,CQ,CW,CV,y7,isStore,ai,aH,bo,aX,bZ,ak,aK,aD,bt,cx,aw,qW,aq,bf,cT,cF,aV,cg,aP,aW,bN,a7,bO,gr,eR,bS,tA,aQ,ah,au,bE,aZ,fJ,XK,h18,h22,g22,b22,h19,g19,b19,er1,er2]
 intro rs5 k5
 refine WD.loudCall (g:=117) (args:=[.ptr z 0,.int .i64 ((r-k:Nat):Int)]) k5 (by decide) ?_ r3 n3 c3 (by decide) (fun rs6 k6=>?_)
 ·simp only[callee,ai,ak,ff,aD,bk,bm,aq,bf,dW,cT,cF,cq,cH,bS,ah]
 rw[<-hsC]
 have e1:=u1.clean
 have e2:=u2.clean
 have e3:=u3.clean
 refine WD.loudCall (g:=116) (args:=[v1,v2,v3]) k6 (by decide) ?_ r4 rfl rfl (by decide) (fun rs7 k7=>?_)
 ·simp only[callee,ai,ak,ff,aD,bk,bm,aq,cT,cF,cq,cH,bS,ah,e1,e2,e3]
 rw[ml mC]
 refine WD.loudOps (l1:=m7.drop 25) (l2:=[]) mC k7 ?_
 unfold m7
 simp only[yL,yK,A4,y6,Yo,Yp,y7,isStore,ai,aH,aN,jD,ak,aw,aq,cT,cF,cg,aP,aW,a7,gr,bS,tA,aQ,ah,au,bE,iE,gg,mJ]
 intro rs8 k8
 refine WD.nil (hK _ sC pv bb ?_ ?_ ?_ ?_ ?_ ?_ hpc hcase ?_ ?_ ?_ ?_ nC mC cC)
 ·simp only[ai,ah,cT,cF, *]
 ·simp only[ai,ah,cT,cF, *]
 ·intro u hu
  have hne: ∀m,23<=m->(u==m)=false:=fun m h=>beq_eq_false_iff_ne.2 (by omega)
  simp only[ai,hne _ (by decide:23<=99),hne _ (by decide:23<=100),hne _ (by decide:23<=101),hne _ (by decide:23<=102),hne _ (by decide:23<=103),hne _ (by decide:23<=104),hne _ (by decide:23<=105),hne _ (by decide:23<=106),hne _ (by decide:23<=107),hne _ (by decide:23<=108),hne _ (by decide:23<=109),hne _ (by decide:23<=110),hne _ (by decide:23<=111),hne _ (by decide:23<=112),hne _ (by decide:23<=113),hne _ (by decide:23<=114),hne _ (by decide:23<=115),hne _ (by decide:23<=116),hne _ (by decide:23<=117),hne _ (by decide:23<=118),hne _ (by decide:23<=119),hne _ (by decide:23<=120),hne _ (by decide:23<=121),hne _ (by decide:23<=122),hne _ (by decide:23<=123),hne _ (by decide:23<=98),hne _ (by decide:23<=124),hne _ (by decide:23<=125),hne _ (by decide:23<=23),hne _ (by decide:23<=24),cF]
 ·simp only[ai,ah,cF, *]
 ·simp only[ai,ah,cF, *]
 ·simp only[ai,ah,cF, *]
 ·refine⟨Vx',?_,a1,a2⟩
  rw[gC,cI,beq_eq_false_iff_ne.2 hxz,cF,gB,cI,beq_eq_false_iff_ne.2 hxy,cF,gA,cI,bS];rfl
 ·refine⟨Vy',?_,b1,b2⟩
  rw[gC,cI,beq_eq_false_iff_ne.2 hyz,cF,gB,cI,bS];rfl
 ·refine⟨Vz',?_,d1,d2⟩
  rw[gC,cI,bS];rfl
 ·intro n hn1 hn2 hn3
  rw[gC,cI,beq_eq_false_iff_ne.2 hn3,cF,gB,cI,beq_eq_false_iff_ne.2 hn2,cF,gA,cI,beq_eq_false_iff_ne.2 hn1];rfl
end
def ul (b o t:List ar):Option (List ar):=j5 b o t (oD b o t) 0 0 0 []
theorem Rm (b:List ar) (p:Nat):(kY b p).length<=1:=by
 unfold kY
 cases b[p]? <;>simp
section
variable {sp:FuncId->Option (List aj->Option aj)} (h116:sp 116=none) (h117:sp 117=none) (h37:sp 37=some pn)
include h116 h117 h37
theorem WE {vb:aj} {b o t:List ar} (hb:bC 1 bu vb b) (sb:b.length<=2000) (so:o.length<=2000) (st:t.length<=2000) {all:List (Nat×Nat×Nat)} {va:aj} (hva:bC 3 sZ va all) (hal:all.length<=10000) {x y z lo:Nat} (hxy:x≠y) (hxz:x≠z) (hyz:y≠z) (hlo:x<lo/\y<lo/\z<lo):
 ∀(rest pre:List (Nat×Nat×Nat)) (i j k:Nat) (e:bj) (lc:Ag.Loc) (s:St) (ov:aj) (out:List ar),all=pre++rest->oA b.length o.length t.length i j k rest->s.minw<=s.next->lo<=s.next->gi 1 lo s ov (out.map bu)->out.length<=i+j+k->i<=2001->j<=2001->k<=2001->
 oB s x (b.drop i)->oB s y (o.drop j)->oB s z (t.drop k)->ax e 0=vb->ax e 20=ov->ax e 92=va->ax e 93= .int .i64 (all.length:Nat)->ax e 94= .int .i64 (pre.length:Nat)->
 ax e 16= .ptr x 0->ax e 17= .ptr y 0->ax e 18= .ptr z 0->ax e 19= .lref 19 1 0->lc.gen 19=1->lc.get 19 1=some [.int .i64 ((i:Int)-1),.int .i64 ((j:Int)-1),.int .i64 ((k:Int)-1)]->
 W (QS sp) 74 (.loop xw) ⟨e,147,lc⟩ s fun w fr s'=>fr.size=147/\s'.ci=s.ci/\((w= .exit 4/\ ∃out' ov',j5 b o t rest i j k out=some out'/\ax fr.env 20=ov'/\gi 1 lo s' ov' (out'.map bu))\/(w= .ret/\j5 b o t rest i j k out=none/\ax fr.env 6= .nils/\ax fr.env 7= .bool false)):=by
 have cb:=hb.clean
 have ca:=hva.clean
 have hlb:=fun mk s=>hb.len iI iW mk s
 intro rest
 induction rest with
 |nil=>
  intro pre i j k e lc s ov out hpre hR hm hls hO hol hi hj hk hx hy hz h0 h20 h92 h93 h94 h16 h17 h18 h19 g19 b19
  have hl:all.length=pre.length:=by rw[hpre];simp
  refine cR ?_
  unfold xw
  refine aF ?_
  unfold El
  simp only[az,aA,aB,aX,ak,aD,aw,cQ,aq,bf,cT,aV,da,tA,au,decide_false,h93,h94,hl,eU]
  refine aR (bc (t:=false) (by simp only[ak,ai,ah,cT, *]) ?_)
  exact eD ⟨rfl,rfl,.inl ⟨rfl,out,ov,rfl,by simp only[ai,ah,cF, *],hO⟩⟩
 |cons tr rest ih=>
  intro pre i j k e lc s ov out hpre hR hm hls hO hol hi hj hk hx hy hz h0 h20 h92 h93 h94 h16 h17 h18 h19 g19 b19
  obtain⟨p,q,r⟩:=tr
  cases hR with
  |cons r1 r2 r3 r4 r5 r6 r7=>
  have hlt:pre.length<all.length:=by rw[hpre];simp
  have hat:all[pre.length]? =some (p,q,r):=by rw[hpre];simp
  have hia:=fun lc=>hva.at aa0 hat lc .i64
  have hwr:IntKind.i64.wrap ((pre.length:Int)+1)=((pre.length+1:Nat):Int):=by rw[ew (by omega) (by omega)];omega
  have hoc:=hO.clean
  refine cR ?_
  unfold xw
  refine aF ?_
  unfold El
  simp only[az,aA,aB,aX,ak,aD,aw,cQ,aq,bf,cT,aV,da,tA,au,dT,h93,h94,hlt]
  refine aR (bc (t:=true) (by simp only[ak,ai,ah,cT, *]) (ck ?_))
  simp only[aU]
  refine aR (cO (aF ?_))
  unfold PF
  simp only[az,aA,ej,aB,ep,ai,bR,jz,gZ,bo,ez,ek,ak,aD,gl,fQ,aw,bJ,dC,ix,aq,cK,cT,cF,aV,cg,aP,aW,cut,cV,bN,a7,eR,cq,cH,bS,tA,aQ,ah,au,bE,cm,dY,aZ,dl,cj,dT,SY,Gj,yx,aae,h92,h94,hia,sZ]
  refine aR (W.drawD (Xb h116 h117 h37 (g:=lc.gen 22+1) (x:=x) (y:=y) (z:=z) (p:=p) (q:=q) (r:=r) (i:=i) (j:=j) (k:=k) (lx:=b.drop i) (ly:=o.drop j) (lz:=t.drop k) ⟨?_,?_,?_,?_,?_,?_,?_,?_,?_⟩ r1 r2 r3 (by omega) (by omega) (by omega) hx hy hz hxy hxz hyz (by rw[tj];omega) (by rw[tj];omega) (by rw[tj];omega) (by rw[tj];omega) (by rw[tj];omega) (by rw[tj];omega) hm ?_))
  ·simp only[ai,ah,cF, *]
  ·simp only[ai,ah,cF, *]
  ·simp only[ai,ah,cF, *]
  ·simp only[ai,ah,cT,cF, *]
  ·simp only[cM,ah,cT]
  ·simp only[bR,cT,bS]
  ·simp only[ai,ah,cF, *]
  ·simp only[cM,ah,cF,g19]
  ·simp only[bR,ah,cF,b19]
  intro e' s' pv bb q23 q24 qlow q92 q93 q94 hpc hcase hx' hy' hz' hold hn' hm' hc'
  have p0:ax e' 0=vb:=(qlow 0 (by decide)).trans (by simp only[ai,ah,cF, *])
  have p16:ax e' 16= .ptr x 0:=(qlow 16 (by decide)).trans (by simp only[ai,ah,cF, *])
  have p17:ax e' 17= .ptr y 0:=(qlow 17 (by decide)).trans (by simp only[ai,ah,cF, *])
  have p18:ax e' 18= .ptr z 0:=(qlow 18 (by decide)).trans (by simp only[ai,ah,cF, *])
  have p19:ax e' 19= .lref 19 1 0:=(qlow 19 (by decide)).trans (by simp only[ai,ah,cF, *])
  have p20:ax e' 20=ov:=(qlow 20 (by decide)).trans (by simp only[ai,ah,cF, *])
  have p22:ax e' 22= .lref 22 (lc.gen 22+1) 0:=(qlow 22 (by decide)).trans (by simp only[ai,ah,cT,cF, *])
  have p92:ax e' 92=va:=q92.trans (by simp only[ai,ah,cF, *])
  have p93:ax e' 93= .int .i64 (all.length:Nat):=q93.trans (by simp only[ai,ah,cF, *])
  have p94:ax e' 94= .int .i64 (pre.length:Nat):=q94.trans (by simp only[ai,ah,cF, *])
  simp only[aU]
  rcases hcase with⟨rfl,part,hch,hpl,hpp,hpe⟩|⟨rfl,hch⟩
  ·have hpl2:part.length<=(q-j)+(r-k):=by
    rcases hpe with rfl|rfl
    ·rw[pZ];omega
    ·rw[pZ];omega
   have hseq:j5 b o t ((p,q,r)::rest) i j k out=j5 b o t rest (p+1) (q+1) (r+1) (out++part++kY b p):=by
    simp only[j5,hch]
   rw[hseq]
   have hO1:gi 1 lo s' ov (out.map bu):=hO.keep (fun n hn=>hold n (by omega) (by omega) (by omega)) (by omega)
   obtain⟨ov1,s1,happ,hO2,hc1,hn1,hm1,hold1,hcell1⟩:=wO qj rfl (by decide) (y:=pv) (ys:=part.map bu) hO1 (abf hpl _ _) (by rw[eH,eH];omega) (by omega) hm'
   have hoc1:=hO2.clean
   have fin: ∀(e2:bj) (lc2:Ag.Loc) (s2:St) (ov2:aj),ax e2 0=vb->ax e2 16= .ptr x 0->ax e2 17= .ptr y 0->ax e2 18= .ptr z 0->ax e2 19= .lref 19 1 0->ax e2 20=ov2->ax e2 22= .lref 22 (lc.gen 22+1) 0->ax e2 92=va->ax e2 93= .int .i64 (all.length:Nat)->ax e2 94= .int .i64 (pre.length:Nat)->
    lc2.gen 22=lc.gen 22+1->lc2.get 22 (lc.gen 22+1)=some [.int .i64 (p:Nat),.int .i64 (q:Nat),.int .i64 (r:Nat)]->lc2.gen 19=1->lc2.get 19 1=some [.int .i64 ((i:Int)-1),.int .i64 ((j:Int)-1),.int .i64 ((k:Int)-1)]->
    gi 1 lo s2 ov2 ((out++part++kY b p).map bu)->s2.minw<=s2.next->s1.next<=s2.next->(∀n,n<lo->s2.get [] n=s1.get [] n)->s2.ci=s.ci->
    W (QS sp) 74 (.region En) ⟨e2,147,lc2⟩ s2 (fun w fr s3=>w= .normal/\ ∃e3 lc3,fr=⟨e3,147,lc3⟩/\s3=s2/\ax e3 0=vb/\ax e3 16= .ptr x 0/\ax e3 17= .ptr y 0/\ax e3 18= .ptr z 0/\ax e3 19= .lref 19 1 0/\ax e3 20=ov2/\ax e3 92=va/\ax e3 93= .int .i64 (all.length:Nat)/\ax e3 94= .int .i64 (pre.length:Nat)/\lc3.gen 19=1/\lc3.get 19 1=some [.int .i64 (p:Nat),.int .i64 (q:Nat),.int .i64 (r:Nat)]):=by
    intro e2 lc2 s2 ov2 a0 a16 a17 a18 a19 a20 a22 a92 a93 a94 l22 l22' l19 l19' aO am an ag ac
    refine b7 ?_
    unfold En
    simp only[az,aA,ej,aB,ep,ai,bo,ez,ak,aD,cx,aw,dC,ix,aq,cK,cT,cF,aV,aP,aW,cut,cV,bN,a7,cq,cH,bS,tA,aQ,ah,au,bE,cm,dY,aZ,dl,cj,dT,SY,Gj,a22,a19,l22',l19']
    refine⟨_,_,rfl,?_,?_,?_,?_,?_,?_,?_,?_,?_,?_,?_⟩
    ·simp only[ai,ah,cF, *]
    ·simp only[ai,ah,cF, *]
    ·simp only[ai,ah,cF, *]
    ·simp only[ai,ah,cF, *]
    ·simp only[ai,ah,cF, *]
    ·simp only[ai,ah,cF, *]
    ·simp only[ai,ah,cF, *]
    ·simp only[ai,ah,cF, *]
    ·simp only[ai,ah,cF, *]
    ·simp only[cM,ah,cT]
    ·simp only[bR,cT,bS]
   have go: ∀(e3:bj) (lc3:Ag.Loc) (s2:St) (ov2:aj),ax e3 0=vb->ax e3 16= .ptr x 0->ax e3 17= .ptr y 0->ax e3 18= .ptr z 0->ax e3 19= .lref 19 1 0->ax e3 20=ov2->ax e3 92=va->ax e3 93= .int .i64 (all.length:Nat)->ax e3 94= .int .i64 (pre.length:Nat)->lc3.gen 19=1->lc3.get 19 1=some [.int .i64 (p:Nat),.int .i64 (q:Nat),.int .i64 (r:Nat)]->
    gi 1 lo s2 ov2 ((out++part++kY b p).map bu)->s2.minw<=s2.next->s1.next<=s2.next->(∀n,n<lo->s2.get [] n=s1.get [] n)->s2.ci=s.ci->
    W (QS sp) 74 (.region Eo) ⟨e3,147,lc3⟩ s2 (Ex.next (fun w fr s'=>fr.size=147/\s'.ci=s.ci/\((w= .exit 4/\ ∃out' ov',j5 b o t rest (p+1) (q+1) (r+1) (out++part++kY b p)=some out'/\ax fr.env 20=ov'/\gi 1 lo s' ov' (out'.map bu))\/(w= .ret/\j5 b o t rest (p+1) (q+1) (r+1) (out++part++kY b p)=none/\ax fr.env 6= .nils/\ax fr.env 7= .bool false))) fun fr s'=>W (QS sp) 74 (.loop xw) fr s' fun w fr s'=>fr.size=147/\s'.ci=s.ci/\((w= .exit 4/\ ∃out' ov',j5 b o t rest (p+1) (q+1) (r+1) (out++part++kY b p)=some out'/\ax fr.env 20=ov'/\gi 1 lo s' ov' (out'.map bu))\/(w= .ret/\j5 b o t rest (p+1) (q+1) (r+1) (out++part++kY b p)=none/\ax fr.env 6= .nils/\ax fr.env 7= .bool false))):=by
    intro e3 lc3 s2 ov2 a0 a16 a17 a18 a19 a20 a92 a93 a94 l19 l19' aO am an ag ac
    have hls1:=Rm b p
    refine b7 ?_
    unfold Eo
    simp only[az,aA,aB,ai,aH,aX,ak,aK,aD,bt,aw,dZ,aq,bf,cT,aV,bS,tA,au,a94,hwr,aU]
    have hgg: ∀n,n<lo->s2.get [] n=s'.get [] n:=fun n hn=>(ag n hn).trans (hold1 n hn)
    have dd: ∀(l:List ar) (i p:Nat),i<=p->(l.drop i).drop (p-i+1)=l.drop (p+1):=fun l i p h=>by rw[List.drop_drop,show i+(p-i+1)=p+1 by omega]
    refine ja (ih (pre++[(p,q,r)]) (p+1) (q+1) (r+1) _ lc3 s2 ov2 (out++part++kY b p) (by rw[hpre];simp) r7 am (by omega) aO ?_ (by omega) (by omega) (by omega) ?_ ?_ ?_ ?_ ?_ ?_ ?_ ?_ ?_ ?_ ?_ ?_ l19 ?_) ?_
    ·rw[dp,dp];omega
    ·rw[<-dd b i p r1];exact hx'.keep (hgg x hlo.1)
    ·rw[<-dd o j q r2];exact hy'.keep (hgg y hlo.2.1)
    ·rw[<-dd t k r r3];exact hz'.keep (hgg z hlo.2.2)
    ·simp only[ai,ah,cF, *]
    ·simp only[ai,ah,cF, *]
    ·simp only[ai,ah,cF, *]
    ·simp only[ai,ah,cF, *]
    ·simp only[ai,ah,cT,cF,dp,aP,aW]
    ·simp only[ai,ah,cF, *]
    ·simp only[ai,ah,cF, *]
    ·simp only[ai,ah,cF, *]
    ·simp only[ai,ah,cF, *]
    ·rw[l19']
     have: ∀p:Nat,((p+1:Nat):Int)-1=(p:Int):=fun p=>by omega
     rw[this,this,this]
    rintro w fr s3 ⟨g1,g2,g3⟩
    exact⟨g1,g2.trans ac,g3⟩
   refine aR (aR (b7 ?_))
   unfold Em
   simp only[az,aA,aB,ai,aH,hG,ak,aD,aw,hJ,aq,gI,cT,dS,bS,tA,au,q24,aU]
   refine bc (t:=false) (by simp only[ak,ai,ah,cT,cF, *]) (ck ?_)
   simp only[aU]
   refine aR (b7 ?_)
   unfold PH
   simp only[az,aA,aB,ai,aH,aN,cJ,ak,aD,bk,bm,aw,bU,oI,bJ,aq,cT,cF,aV,cg,bS,tA,ah,au,aZ,vq,Z9,p20,q23,hoc,hpc,happ,aU]
   refine aR (aR (b7 ?_))
   unfold PJ
   simp only[az,aA,aB,ai,cM,bR,aH,bo,aX,bZ,cJ,ak,aD,bk,bm,cx,aw,bU,cQ,cU,bJ,aq,bf,cT,cF,aV,cg,a7,bO,da,bS,tA,dc,ah,au,aZ,fJ,Cx,aaa,p0,p22,cb,hlb,cM,bR,aU]
   by_cases hpb:p<b.length
   ·have hv:b[p]? =some b[p]:=js hpb
    have hib:=fun lc=>hb.at lJ hv lc .i64
    have hlm:kY b p=[b[p]]:=by simp only[kY,hv]
    have hbs: ∀e s,ax e 141= .str b[p]->dV Tryz.prog 37 1 [(0,.tmp 141)] false e s=some (.list 1 [.str b[p]] .full,s):=fun e s p=>by
     simp only[dV,qj,aq,dQ,evc,ev,p,nk,cT,gd,j9,aP,aW,cV,kD,aQ,jt,ip,cut]
     rfl
    obtain⟨ov2,s2,happ2,hO3,hc2,hn2,hm2,hold2,hcell2⟩:=wO qj rfl (by decide) (y:=.list 1 [.str b[p]] .full) (ys:=[bu b[p]]) hO2 rfl (by rw[dp,eH,eH,o9];omega) (by omega) hm1
    have hoc2:=hO3.clean
    refine bc (t:=true) (by simp only[ak,ai,ah,cT,cF,hpb,dT]) (b7 ?_)
    unfold PK
    simp only[az,aA,aB,ai,cM,bR,aH,aN,lg,bo,bZ,ek,cJ,ak,aD,bk,bm,cx,fQ,aw,bU,oI,bJ,kV,aq,jm,cT,cF,aV,cg,a7,bO,bS,tA,dc,ah,au,aZ,fJ,dH,Cx,vq,aab,aac,p0,p22,hib,bu,hoc1,hbs,happ2,cM,bR,aU]
    refine ja (fin _ _ s2 ov2 ?_ ?_ ?_ ?_ ?_ ?_ ?_ ?_ ?_ ?_ ?_ ?_ ?_ ?_ ?_ hm2 hn2 hold2 (hc2.trans (hc1.trans hc'))) ?_
    ·simp only[ai,ah,cF, *]
    ·simp only[ai,ah,cF, *]
    ·simp only[ai,ah,cF, *]
    ·simp only[ai,ah,cF, *]
    ·simp only[ai,ah,cF, *]
    ·simp only[ai,ah,cT,cF, *]
    ·simp only[ai,ah,cF, *]
    ·simp only[ai,ah,cF, *]
    ·simp only[ai,ah,cF, *]
    ·simp only[ai,ah,cF, *]
    ·simp only[cM,ah,cT]
    ·simp only[bR,cT,bS]
    ·simp only[cM,ah,cF,g19]
    ·simp only[bR,ah,cF,b19]
    ·rw[hlm,kB,kB];exact hO3
    rintro w fr s3 ⟨rfl,e3,lc3,rfl,rfl,j0,j16,j17,j18,j19,j20,j92,j93,j94,l19,l19'⟩
    simp only[dP,aU]
    exact go e3 lc3 s3 ov2 j0 j16 j17 j18 j19 j20 j92 j93 j94 l19 l19' (by rw[hlm,kB,kB];exact hO3) hm2 hn2 hold2 (hc2.trans (hc1.trans hc'))
   ·have hv:b[p]? =none:=List.getElem?_eq_none (by omega)
    have hlm:kY b p=[]:=by simp only[kY,hv]
    refine bc (t:=false) (by simp only[ak,ai,ah,cT,cF,hpb,decide_false]) (ck ?_)
    simp only[aU]
    refine ja (fin _ _ s1 ov1 ?_ ?_ ?_ ?_ ?_ ?_ ?_ ?_ ?_ ?_ ?_ ?_ ?_ ?_ ?_ hm1 (bB _) (fun _ _=>rfl) (hc1.trans hc')) ?_
    ·simp only[ai,ah,cF, *]
    ·simp only[ai,ah,cF, *]
    ·simp only[ai,ah,cF, *]
    ·simp only[ai,ah,cF, *]
    ·simp only[ai,ah,cF, *]
    ·simp only[ai,ah,cT,cF, *]
    ·simp only[ai,ah,cF, *]
    ·simp only[ai,ah,cF, *]
    ·simp only[ai,ah,cF, *]
    ·simp only[ai,ah,cF, *]
    ·simp only[cM,ah,cT]
    ·simp only[bR,cT,bS]
    ·simp only[cM,ah,cF,g19]
    ·simp only[bR,ah,cF,b19]
    ·rw[hlm,iA,kB];exact hO2
    rintro w fr s3 ⟨rfl,e3,lc3,rfl,rfl,j0,j16,j17,j18,j19,j20,j92,j93,j94,l19,l19'⟩
    simp only[dP,aU]
    exact go e3 lc3 s3 ov1 j0 j16 j17 j18 j19 j20 j92 j93 j94 l19 l19' (by rw[hlm,iA,kB];exact hO2) hm1 (bB _) (fun _ _=>rfl) (hc1.trans hc')
  ·refine aR (aR (b7 ?_))
   unfold Em
   simp only[az,aA,aB,ai,aH,hG,ak,aD,aw,hJ,aq,gI,cT,gU,bS,tA,au,q24,aU]
   refine bc (t:=true) (by simp only[ak,ai,ah,cT,cF, *]) (aF ?_)
   unfold PG
   simp only[az,aA,aB,aN,aK,aw,tA,au,ofValue,fH]
   exact cd ⟨rfl,hc',.inr ⟨rfl,by simp only[j5,hch],by simp only[ai,ah,cT,cF, *],by simp only[ai,ah,cT,cF, *]⟩⟩
end
def ll (b o t:List ar):Option (List ar):=bif kI [b,o,t] then none else ul b o t
def uh:Option (List ar)->aj
 |some l=>.tup [fR 1 (l.map bu),.bool true]
 |none=>.tup [.nils,.bool false]
theorem VV {e:bj} {x y z:Operand} {a b c:aj} (hx:ev e x=some a) (hy:ev e y=some b) (hz:ev e z=some c) (ca:a.clean=true) (cb:b.clean=true) (cc:c.clean=true) (la:a.cells=[a]) (lb:b.cells=[b]) (lc:c.cells=[c]) (s:St):dV Tryz.prog 286 3 [(0,x),(1,y),(2,z)] false e s=some (.list 1 [a,b,c] .full,s):=by
 have el:jp Tryz.prog 286=some ⟨1,24,false,.nils⟩:=Xg
 simp only[dV,el,aq,dQ,evc,hx,hy,hz,ca,cb,cc,la,lb,lc,cT,gd,wT,aP,aW,cV,kD,aQ,bE,jt,ip,cut]
 rfl
theorem YE {h:bv bH} {lo:Nat} {s:St} {ov:aj} {l:List ar} (hO:gi 1 lo s ov (l.map bu)):jW h (.tup [ov,.bool true]) (uh (some l)):=by
 refine⟨4,?_⟩
 have h1:dh h 3 ov=some (fR 1 (l.map bu)):=xh hO (k:=2) fun v hv=>by
  obtain⟨p,_,rfl⟩:=List.mem_map.1 hv
  rfl
 show((eE (dh h 3) [ov,.bool true])).bind (fun r=>some (aj.tup r))=_
 have h2:dh h 3 (.bool true)=some (.bool true):=rfl
 simp only[eE,h1,h2,aq,uh]
theorem TJ (W:List (Nat×Nat)): ∀M:List (Nat×Nat),(ig W M).length<=M.length
 | []=>bB _
 |(a,b)::M=>by
  simp only[ig]
  have:=TJ W M
  cases iu a W<;>simp only[aP]<;>omega
theorem ak6 {sp:FuncId->Option (List aj->Option aj)} (h74:sp 74=none) (h114:sp 114=some wc) (h115:sp 115=some vD) (h116:sp 116=none) (h117:sp 117=none) (h37:sp 37=some pn) {vb vo vt:aj} {b o t:List ar}
 (hb:bC 1 bu vb b) (ho:bC 1 bu vo o) (ht:bC 1 bu vt t) (pb:bP vb=true) (po:bP vo=true) (pt:bP vt=true) {s:St} (hm:s.minw<=s.next):
 ∃v s',bz (QS sp) 74 [vb,vo,vt] s v s'/\(jW s'.heap v (uh (ll b o t))/\s'.ci=s.ci):=by
 have cb:=hb.clean
 have co:=ho.clean
 have ct:=ht.clean
 have cell: ∀ {v:aj} {l:List ar},bC 1 bu v l->v.cells=[v]:=fun h=>by rcases h with⟨rfl,_⟩|⟨r,rfl⟩<;>rfl
 have lb:=cell hb
 have lo:=cell ho
 have lt:=cell ht
 have hlb:=fun mk s=>hb.len iI iW mk s
 have hlo:=fun mk s=>ho.len iI iW mk s
 have hlt:=fun mk s=>ht.len iI iW mk s
 have hR:Rows [vb,vo,vt] [b,o,t]:=.cons hb pb (.cons ho po (.cons ht pt .nil))
 have hsh:wc [.list 1 [vb,vo,vt] .full]=some (.bool (!kI [b,o,t])):=by
  have q1:bT [vb,vo,vt].length 1000=true:=rfl
  simp only[wc,(x9 hR).1,aq,q1,cT]
 have hbs: ∀e s,ax e 25=vb->ax e 26=vo->ax e 27=vt->dV Tryz.prog 286 3 [(0,.tmp 25),(1,.tmp 26),(2,.tmp 27)] false e s=some (.list 1 [vb,vo,vt] .full,s):=fun e s p q r=>VV (by rw[ak,p]) (by rw[ak,q]) (by rw[ak,r]) cb co ct lb lo lt s
 refine bz.ofEx agD agC agF agE h74 ?_
 unfold Ps
 refine aF ?_
 unfold Pt
 simp only[dt,cY,az,aA,aB,aN,aK,aw,cT,aP,aW,tA,aQ,au,bE,cm,cj,dT,ofValue,fH]
 refine aR (aR (b7 ?_))
 unfold Pu
 simp only[az,aA,aB,ai,aH,lg,hG,dK,dI,ak,aD,bk,bm,aw,bU,hJ,bJ,aq,gI,jm,cT,cF,aV,cg,ei,bS,tA,ah,au,Bool.not_not,aZ,aaf,hbs,h114,hsh,aU]
 cases hlong:kI [b,o,t] with
 |true=>
  have hres:ll b o t=none:=by simp only[ll,hlong,cT]
  refine bc (t:=true) (by simp only[ak,ai,ah,cT,cF,dS]) (aF ?_)
  unfold PC
  simp only[az,aA,aB,aN,aK,aw,dS,tA,au,ofValue,fH]
  refine cd ⟨.inr rfl,.tup [.nils,.bool false],sR (v:=.nils) (w:=.bool false) (by simp only[ai,ah,cT,cF, *]) rfl (by simp only[ai,ah,cT,cF, *]) rfl,?_,rfl⟩
  rw[hres]
  exact⟨3,rfl⟩
 |false=>
  have hres:ll b o t=ul b o t:=by simp only[ll,hlong,cF]
  have hl3:lL b=false/\lL o=false/\lL t=false:=by
   simp only[kI,pX,Bool.or_eq_false_iff] at hlong
   exact hlong
  have sb:b.length<=2000:=by have:=of_decide_eq_false hl3.1;omega
  have so:o.length<=2000:=by have:=of_decide_eq_false hl3.2.1;omega
  have st:t.length<=2000:=by have:=of_decide_eq_false hl3.2.2;omega
  have hmt:=R1 hb ht pb pt sb st
  have hmo:=R1 hb ho pb po sb so
  have lWt:=(rg b t).length (iB _)
  have lWo:=(rg b o).length (iB _)
  have iWt:=RA (m8 b t)
  have iWo:=RA (m8 b o)
  have hct:=iWt.clean
  have hco:=iWo.clean
  have hnt:=fun mk s=>iWt.len RD RC mk s
  have hno:=fun mk s=>iWo.len RD RC mk s
  rw[hres]
  refine bc (t:=false) (by simp only[ak,ai,ah,cT,cF,gU]) (ck ?_)
  simp only[aU]
  refine aF ?_
  unfold PL
  simp only[az,aA,aB,ai,aN,vO,ak,aw,bU,cT,cF,aV,gU,bS,tA,ah,au,Fi]
  refine aR (aF ?_)
  unfold PN
  simp only[az,aA,aB,ai,aH,cJ,dK,dI,ak,aK,aD,bk,bm,bt,aw,bU,cU,bJ,aq,cT,cF,aV,cg,ei,bS,tA,ah,au,aZ,aag,cb,ct,h115,hmt,hct,hnt]
  refine cO ?_
  refine ja (amm (mW:=s.next) iWt (rg b t) (by omega) (m8 b t) [] _ _ (s.new (.map [] 0)) rfl (kC hm) (io _) (by rw[df,bS];rfl) ?_ ?_ ?_ ?_) ?_
  ·simp only[ai,ah,cT,cF, *]
  ·simp only[ai,ah,cT,cF, *]
  ·simp only[ai,ah,cT,cF, *]
  ·simp only[ai,ah,cT,cF];rfl
  rintro x fr s1 ⟨rfl,e1,lc1,rfl,g1,⟨a0,a1,a2,a8⟩,hW1,n1,m1,c1⟩
  have n1:s1.next=s.next+1:=n1
  have c1:s1.ci=s.ci:=c1
  have b0:ax e1 0=vb:=a0.trans (by simp only[ai,ah,cT,cF, *])
  have b1:ax e1 1=vo:=a1.trans (by simp only[ai,ah,cT,cF, *])
  have b2:ax e1 2=vt:=a2.trans (by simp only[ai,ah,cT,cF, *])
  have b8:ax e1 8= .map s.next:=a8.trans (by simp only[ai,ah,cT,cF, *])
  show W (QS sp) 74 _ _ _ _
  refine aF ?_
  unfold PR
  simp only[az,aA,aB,aN,aK,aw,tA,au,ofValue,fH]
  refine aR (aF ?_)
  unfold Pv
  simp only[az,aA,aB,ai,aH,cJ,dK,dI,ak,aK,aD,bk,bm,bt,aw,bU,cU,bJ,aq,cT,cF,aV,cg,ei,bS,tA,ah,au,aZ,aah,b0,b1,cb,co,h115,hmo,hco,hno]
  refine cO ?_
  refine ja (alp (_la:=0) (_lb0:=0) (Wt:=m8 b t) iWo (by omega) (mW:=s.next) (lo:=s.next+1) (io _) (m8 b o) [] _ _ s1 .nils rfl m1 (by omega) hW1 (.inl ⟨rfl,rfl⟩) (bB _) ?_ ?_ ?_ ?_ ?_) ?_
  ·simp only[ai,ah,cT,cF, *]
  ·simp only[ai,ah,cT,cF, *]
  ·simp only[ai,ah,cT,cF, *]
  ·simp only[ai,ah,cT,cF, *]
  ·simp only[ai,ah,cT,cF];rfl
  rintro x fr s2 ⟨rfl,e2,lc2,ov2,rfl,g2,⟨d0,d1,d2,d11⟩,hO2,hl2,n2,m2,c2⟩
  have f0:ax e2 0=vb:=d0.trans (by simp only[ai,ah,cT,cF, *])
  have f1:ax e2 1=vo:=d1.trans (by simp only[ai,ah,cT,cF, *])
  have f2:ax e2 2=vt:=d2.trans (by simp only[ai,ah,cT,cF, *])
  have hoc2:=hO2.clean
  have hbd: ∀e,ax e 74= .int .i64 (b.length:Nat)->ax e 76= .int .i64 (o.length:Nat)->ax e 78= .int .i64 (t.length:Nat)->gm Tryz.prog 186 [(0,.tmp 74),(1,.tmp 76),(2,.tmp 78)] e=some (.agg [.int .i64 (b.length:Nat),.int .i64 (o.length:Nat),.int .i64 (t.length:Nat)]):=fun e p q r=>by
   rw[BU]
   simp only[yx,aq,dQ,evc,ev,p,q,r,bf,cT]
   rfl
  have hbs4: ∀e s,ax e 79= .agg [.int .i64 (b.length:Nat),.int .i64 (o.length:Nat),.int .i64 (t.length:Nat)]->dV Tryz.prog 184 1 [(0,.tmp 79)] false e s=some (.list 3 [.agg [.int .i64 (b.length:Nat),.int .i64 (o.length:Nat),.int .i64 (t.length:Nat)]] .full,s):=fun e s h=>Hm (by rw[ak,h]) s
  obtain⟨ov3,s3,happ,hO3,hc3,hn3,hm3,hold3,hcell3⟩:=wO Co rfl (by decide) (y:=.list 3 [.agg [.int .i64 (b.length:Nat),.int .i64 (o.length:Nat),.int .i64 (t.length:Nat)]] .full) (ys:=[sZ (b.length,o.length,t.length)]) hO2 rfl (by rw[eH,o9];omega) (by omega) m2
  have hall:gi 3 (s.next+1) s3 ov3 ((oD b o t).map sZ):=by rw[oD,kB];exact hO3
  have hoc3:=hO3.clean
  have hva:bC 3 sZ ov3 (oD b o t):=by
   rcases hall with⟨h1,h2⟩|⟨_,k,h1,_⟩
   ·exact .inl ⟨h1,List.map_eq_nil_iff.1 h2⟩
   ·exact .inr ⟨_,h1⟩
  have hln:=fun mk s=>hva.len ahG ahF mk s
  have hall_len:(oD b o t).length<=10000:=by rw[oD,dp,o9];have:=TJ (m8 b t) (m8 b o);omega
  show W (QS sp) 74 _ _ _ _
  refine aF ?_
  unfold Pz
  simp only[az,aA,aB,ai,aH,aN,lf,lg,cJ,ak,aD,bk,bm,aw,bU,cU,oI,bJ,aq,jm,cT,cF,aV,cg,bS,tA,ah,au,aZ,Ja,aak,aal,aam,aan,aao,f0,f1,f2,d11,cb,co,ct,hlb,hlo,hlt,hoc2,hbd,hbs4,happ]
  have hb82: ∀e,ax e 82=vb->gm Tryz.prog 189 [(0,.tmp 82)] e=some (.agg [vb]):=fun e p=>by
   rw[BV]
   simp only[GC,aq,dQ,evc,ev,p,cb,lb,cT]
   rfl
  have hb85: ∀e,ax e 85=vo->gm Tryz.prog 189 [(0,.tmp 85)] e=some (.agg [vo]):=fun e p=>by
   rw[BV]
   simp only[GC,aq,dQ,evc,ev,p,co,lo,cT]
   rfl
  have hb88: ∀e,ax e 88=vt->gm Tryz.prog 189 [(0,.tmp 88)] e=some (.agg [vt]):=fun e p=>by
   rw[BV]
   simp only[GC,aq,dQ,evc,ev,p,ct,lt,cT]
   rfl
  refine aF ?_
  unfold PA
  simp only[az,aA,aB,ai,aH,aN,jC,lf,ak,aD,jc,aw,bJ,dC,aq,cK,cT,cF,aV,cg,bS,tA,ah,au,aap,aaq,aar,f0,f1,f2,hb82,hb85,hb88,jc,jo]
  obtain⟨s4,hs4⟩: ∃a,a=((s3.new (.cells [vb])).new (.cells [vo])).new (.cells [vt]):=⟨_,rfl⟩
  rw[<-hs4]
  have n4:s4.next=s3.next+3:=by rw[hs4];rfl
  have m4:s4.minw<=s4.next:=by rw[n4];have:s4.minw=s3.minw:=by rw[hs4];rfl
                               omega
  have c4:s4.ci=s.ci:=by rw[hs4];exact hc3.trans (c2.trans c1)
  have gx:s4.get [] s3.next=some (.cells [vb]):=by rw[hs4,df,jo,jo,beq_eq_false_iff_ne.2 (by omega),cF,df,jo,beq_eq_false_iff_ne.2 (by omega),cF,df,bS];rfl
  have gy:s4.get [] (s3.next+1)=some (.cells [vo]):=by rw[hs4,df,jo,jo,beq_eq_false_iff_ne.2 (by omega),cF,df,jo,bS];rfl
  have gz:s4.get [] (s3.next+1+1)=some (.cells [vt]):=by rw[hs4,df,jo,jo,bS];rfl
  refine aF ?_
  unfold PB
  have hbd3: ∀e,gm Tryz.prog 186 [(0,.const (.int .i64 (-1))),(1,.const (.int .i64 (-1))),(2,.const (.int .i64 (-1)))] e=some (.agg [.int .i64 (-1),.int .i64 (-1),.int .i64 (-1)]):=fun e=>by
   rw[BU]
   simp only[yx,aq,dQ,evc,ev,ofValue,fH,bf,cT]
   rfl
  simp only[az,aA,ej,aB,ep,ai,bR,jz,gZ,lf,ez,ak,aD,gl,aw,bJ,dC,ix,aq,cK,cT,cF,aV,cg,aP,aW,cV,bN,a7,cq,cH,bS,tA,aQ,ah,au,bE,cm,dY,aZ,dl,cj,dT,yx,Gj,aad,hbd3]
  have gz19:lc2.gen 19=0:=g2.trans (g1.trans (by first|rfl|(simp only[cM,ah,cF,dA];try rfl)))
  refine aF ?_
  unfold PD
  simp only[az,aA,aB,aN,aK,aw,tA,au,ofValue,fH]
  refine aR (aF ?_)
  unfold PE
  simp only[az,aA,aB,ai,aH,cJ,ak,aK,aD,bk,bm,bt,aw,bU,cU,bJ,aq,cT,cF,aV,cg,bS,tA,ah,au,aZ,aas,hoc3,hln]
  refine cO ?_
  refine ja (WE h116 h117 h37 hb sb so st hva hall_len (x:=s3.next) (y:=s3.next+1) (z:=s3.next+1+1) (lo:=s3.next+3) (by omega) (by omega) (by omega) ⟨by omega,by omega,by omega⟩ (oD b o t) [] 0 0 0 _ _ s4 .nils [] rfl (G6 b o t) m4 (by omega) (.inl ⟨rfl,rfl⟩) (bB _) (by omega) (by omega) (by omega) ⟨vb,gx,hb,pb⟩ ⟨vo,gy,ho,po⟩ ⟨vt,gz,ht,pt⟩ ?_ ?_ ?_ ?_ ?_ ?_ ?_ ?_ ?_ ?_ ?_) ?_
  ·simp only[ai,dA,bE,ah,cT,cF, *]
  ·simp only[ai,dA,bE,ah,cT,cF, *]
  ·simp only[ai,dA,bE,ah,cT,cF, *]
  ·simp only[ai,dA,bE,ah,cT,cF, *]
  ·simp only[ai,ah,cT,cF];rfl
  ·simp only[ai,dA,bE,ah,cT,cF, *]
  ·simp only[ai,dA,bE,ah,cT,cF, *]
  ·simp only[ai,dA,bE,ah,cT,cF, *]
  ·simp only[ai,ah,cT,cF,gz19]
  ·simp only[cM,ah,cT,gz19]
  ·simp only[bR,ah,cT,gz19]
   rfl
  rintro w fr s5 ⟨hz,c5,hcase⟩
  have hci:s5.ci=s.ci:=c5.trans c4
  rcases hcase with⟨rfl,out',ov',hq,h20,hO5⟩|⟨rfl,hq,h6,h7⟩
  ·obtain⟨e5,z5,lc5⟩:=fr
   have hz:z5=147:=hz
   subst hz
   have h20:ax e5 20=ov':=h20
   have hoc5:=hO5.clean
   have hr:ul b o t=some out':=hq
   show W (QS sp) 74 _ _ _ _
   refine aF ?_
   unfold PM
   simp only[az,aA,aB,ai,aH,aN,ak,aK,aw,cT,bS,tA,au,ofValue,fH,h20]
   refine cd ⟨.inr rfl,.tup [ov',.bool true],sR (v:=ov') (w:=.bool true) (by simp only[ai,ah,cT,cF, *]) hoc5 (by simp only[ai,ah,cT,cF, *]) rfl,?_,hci⟩
   rw[hr]
   exact YE hO5
  ·refine⟨.inr rfl,.tup [.nils,.bool false],sR (v:=.nils) (w:=.bool false) h6 rfl h7 rfl,?_,hci⟩
   have hr:ul b o t=none:=hq
   rw[hr]
   exact⟨3,rfl⟩
def sV:Sp
 | [u,v,w]=>bif pures [u,v,w] then(gj 1 lC u).bind fun b=>(gj 1 lC v).bind fun o=>(gj 1 lC w).bind fun t=>some (uh (ll b o t)) else none
 |_=>none
theorem ak4 {vb vo vt:aj} {b o t:List ar} (hb:bC 1 bu vb b) (ho:bC 1 bu vo o) (ht:bC 1 bu vt t) (pb:bP vb=true) (po:bP vo=true) (pt:bP vt=true):sV [vb,vo,vt]=some (uh (ll b o t)):=by
 simp only[sV,pures,pb,po,pt,gf,cT,jI oG hb,jI oG ho,jI oG ht,aq]
def BC:eV:=[(37,pn),(114,wc),(115,vD)]
theorem UT:fT BC:=.cons H5 (.cons ak9 (.cons aij .nil))
theorem ak5:eN Tryz.prog 74 sV:=by
 intro args x hv G h w xs wr hx
 unfold sV at hv
 split at hv
 ·rename_i u v t
  obtain⟨hp,hv⟩:=bX hv
  simp only[aG] at hv
  obtain⟨a,h1,b,h2,c,h3,hv⟩:=hv
  injection hv with hv;subst hv
  have ha:=jb (fun v a=>oE) h1
  have hb:=jb (fun v a=>oE) h2
  have hc:=jb (fun v a=>oE) h3
  have hq:bP u=true/\bP v=true/\bP t=true:=by
   simp only[pures,dY,cZ] at hp
   exact hp
  obtain⟨ov,s',r1,r2,r3⟩:=ak6 (sp:=fun f=>fv f BC) rfl rfl rfl rfl rfl rfl ha hb hc hq.1 hq.2.1 hq.2.2 (s:=s0) (bB _)
  exact gS (Q:=QT BC) (gK UT) (fun _=>gV 1) (args:=[u,v,t]) (v:=ov) (s':=s') (kA hp) (by rw[iz hp];exact r1) r3 r2 G h w xs wr hx
 ·cases hv
theorem akr (r:Option (List ar)):(∃l,r=some l/\uh r= .tup [fR 1 (l.map bu),.bool true]/\bC 1 bu (fR 1 (l.map bu)) l)\/(r=none/\uh r= .tup [.nils,.bool false]):=by
 cases r with
 |none=>exact .inr ⟨rfl,rfl⟩
 |some l=>
  refine .inl ⟨l,rfl,rfl,?_⟩
  cases l with
  |nil=>exact .inl ⟨rfl,rfl⟩
  |cons a l=>exact .inr ⟨_,rfl⟩
end Go.Proofs.YtbfmdojdemckbaaGreat
