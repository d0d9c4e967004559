/- sequence.Merge. -/
import Derived.Test.YtbfmdojdemckbaaGreatS1
open Go.Ag.aj renaming cells→ld,clean→n7
open Bool renaming and_eq_true→df,and_self→fL,and_true→dX,false_or→jI,not_false→ej,not_true→dg,or_false→lf,true_and→iq
open List renaming append_nil→iQ,cons_append→cP,drop_succ_cons→gZ,drop→aZ,getElem?_cons_succ→lO,getElem?_cons_zero→gj,getElem?_eq_getElem→j2,head?_cons→bE,length_append→dw,length_cons→aR,length_drop→ua,length_map→fw,length_nil→aY,length_singleton→pT,length_take→qG,map_append→mm,nil_append→cy,replicate→xd,take_append_drop→oe,take_succ_cons→e7,take→bO
open Nat renaming add_mul→nI,add_zero→cQ,beq→bo,ble_eq_true_of_le→fe,ble→cK,blt→cg,eq_of_beq_eq_true→iI,le_of_ble_eq_true→iu,le_refl→bK,le_succ_of_le→lj,lt_irrefl→ff,lt_succ_of_lt→og,lt_succ_self→iC,min_eq_left→xg,mul_le_mul_right→vr,reduceAdd→bJ,reduceBEq→ah,reduceLT→ar,reduceLeDiff→ck,reduceMul→jJ,zero_add→aQ,zero_le→iK,zero_lt_succ→fG,zero_mul→lk
open Option renaming bind_eq_some_iff→aN,bind_some→aq
open Option.some renaming injEq→bp
open Go.Ag.bv renaming of2→dZ
open Go.Ag.W renaming block→cR,cond→bc,exit→eL,loop1→cY,mono→jy,region→gH,reg→cp,ret→bP,seq→aV,skip→b7,sreg→aF
namespace Go.Proofs.YtbfmdojdemckbaaGreat
open Go.Ag
theorem UO {xs:List aj} {i:Nat} {v:aj} (h:xs[i]? =some v):iX xs i=v:=by
 induction xs generalizing i with
 |nil=>simp at h
 |cons a xs ih=>
  cases i with
  |zero=>simp at h;subst h;rfl
  |succ i=>exact ih (by simpa using h)
def oP (l:List aB):Bool:=decide (2000<l.length)
theorem alJ {sp:FuncId->Option (List aj->Option aj)} (h0:sp 182=none) {v:aj} {l:List aB} (hl:bH 1 bB v l) (s:St):bv (QS sp) 182 [v] s (.bool (oP l)) s:=by
 have hlen:=fun mk s=>hl.len iV jl mk s
 have hcl:=hl.clean
 have hg:di 2000 ((l.length:Nat):Int)=oP l:=cN 2000 _
 refine dZ afC afB afE afD h0 ?_
 unfold Ma
 refine aF ?_
 unfold Mb
 simp only[dr,cZ,aw,az,aA,aM,aH,bF,au,cT,aR,aY,tA,aQ,ar,ck,cd,dT]
 refine aF ?_
 unfold Mc
 simp only[aw,az,aA,ai,aG,aM,aU,cG,ak,aH,aD,bh,bk,bm,au,bZ,iT,cW,bG,aq,a7,cT,cF,aP,bW,bS,tA,ah,ar,aX,abU,hcl,hlen,hg]
 exact bP ⟨rfl,.inr rfl,bV (by simp only[ai,ah,cT,cF, *]) rfl⟩
def uF:Sp
 | [a]=>bif pures [a] then(ic 1 mw a).bind fun l=>some (.bool (oP l)) else none
 |_=>none
theorem alH {v:aj} {l:List aB} (hl:bH 1 bB v l) (hv:cx v=true):uF [v]=some (.bool (oP l)):=by
 simp only[uF,pures,hv,fL,cT,ka pf hl,aq]
theorem alI:ek Tryz.prog 182 uF:=by
 intro args x hv G h w xs wr hx
 unfold uF at hv
 split at hv
 ·rename_i a
  obtain⟨hp,hv⟩:=cq hv
  simp only[aN,bp] at hv
  obtain⟨l,h1,rfl⟩:=hv
  have hl:=jA (fun v a=>pd) h1
  exact fD (Q:=QT []) (fB .nil) (fun _=>fG 1) (args:=[a]) (v:=.bool (oP l)) (s':=s0) (kZ hp) (by rw[iP hp];exact alJ (sp:=fun f=>eR f []) rfl hl s0) rfl ⟨1,rfl⟩ G h w xs wr hx
 ·cases hv
inductive Rows:List aj->List (List aB)->Prop
 |nil:Rows [] []
 |cons {v:aj} {l:List aB} {vs:List aj} {ls:List (List aB)}:bH 1 bB v l->cx v=true->Rows vs ls->Rows (v::vs) (l::ls)
def pu:List (List aB)->Nat->Int
 | [],_=> -1
 |l::ls,i=>bif oP l then(i:Int) else pu ls (i+1)
theorem YA {e:bq} {x:Operand} {av:Array Operand} {ts:Array TypeId} (h:ev e x=some (.func (.func 182) [] [])):callee e ⟨.value x,av,ts⟩=(evcs e av.toList).bind fun args=>some (182,args):=by
 simp only[callee,h,aq,cy,iQ]
theorem adV {sp:FuncId->Option (List aj->Option aj)} (h182:sp 182=some uF) {vs:List aj} {r:fZ} (hsmall:vs.length<1000) {s:St} {lc:Ag.Loc}: ∀(rest pre:List aj) (ls:List (List aB)) (e:bq),vs=pre++rest->Rows rest ls->
 ay e 0= .list 1 vs r->ay e 1= .func (.func 182) [] []->ay e 7= .int .i64 (vs.length:Nat)->ay e 8= .int .i64 (pre.length:Nat)->
 W (QS sp) 238 (.loop zW) ⟨e,19,lc⟩ s fun x fr s'=>s'=s/\fr.size=19/\((x= .exit 0/\pu ls pre.length= -1)\/(x= .ret/\ay fr.env 4= .int .i64 (pu ls pre.length))):=by
 intro rest
 induction rest with
 |nil=>
  intro pre ls e hpre hR h0 h1 h7 h8
  cases hR
  have hl':vs.length=pre.length:=by rw[hpre];simp
  refine cY ?_
  unfold zW
  refine aF ?_
  unfold En
  simp only[aw,az,aA,aU,ak,aD,au,cE,aq,a7,cT,aP,cN,tA,ar,decide_false,h7,h8,hl',ff]
  refine aV (bc (t:=false) (by simp only[ak,ai,ah,cT, *]) ?_)
  exact eL ⟨rfl,rfl,.inl ⟨rfl,rfl⟩⟩
 |cons v rest ih=>
  intro pre ls e hpre hR h0 h1 h7 h8
  cases hR with
  |cons hl hp hR=>
  rename_i l ls
  have hlt:pre.length<vs.length:=by rw[hpre];simp
  have hat:iX vs pre.length=v:=UO (by rw[hpre];simp)
  have hsc:=hl.scal
  have hcl:=hl.clean
  have hsp:=alH hl hp
  have hwr:IntKind.i64.wrap ((pre.length:Int)+1)=((pre.length+1:Nat):Int):=by rw[eh (by omega) (by omega)];omega
  refine cY ?_
  unfold zW
  refine aF ?_
  unfold En
  simp only[aw,az,aA,aU,ak,aD,au,cE,aq,a7,cT,aP,cN,tA,ar,dT,h7,h8,hlt]
  refine aV (bc (t:=true) (by simp only[ak,ai,ah,cT, *]) (b7 ?_))
  simp only[aW]
  refine aV (cR (aF ?_))
  unfold Np
  simp only[aw,az,aA,ai,aG,aM,ak,au,cT,cF,bS,tA,ah,ar,h8]
  refine aF ?_
  unfold Nq
  simp only[aw,az,aA,ai,aG,bn,dI,dc,ak,aD,bh,bk,dR,sn,au,aq,cT,cF,aP,dq,aZ,bE,bS,tA,ah,ar,iq,aX,dA,dT,fT,adM,h0,h1,hlt,hat,hsc,hcl,YA,h182,hsp]
  cases hz:oP l with
  |true=>
   refine bc (t:=true) (by simp only[ak,ai,ah,cT,cF]) (aF ?_)
   unfold Nr
   simp only[aw,az,aA,ai,aG,aM,ak,au,cT,cF,bS,tA,ah,ar]
   exact bP ⟨rfl,rfl,.inr ⟨rfl,by simp only[ai,ah,cT,cF,pu,hz]⟩⟩
  |false=>
   refine bc (t:=false) (by simp only[ak,ai,ah,cT,cF]) (b7 ?_)
   simp only[dM,aW]
   refine cp ?_
   unfold Ns
   simp only[aw,az,aA,ai,aG,aU,ak,aH,aD,bm,au,dW,aq,a7,cT,cF,aP,bS,tA,ah,ar,h8,hwr,aW]
   refine(ih (pre++[v]) ls _ (by rw[hpre];simp) hR (by simp only[ai,ah,cF, *]) (by simp only[ai,ah,cF, *]) (by simp only[ai,ah,cF, *]) (by simp only[ai,ah,cT,cF,dw,aR,aY])).mono ?_
   simp only[pu,hz,cF,dw,aR,aY]
   exact fun _ _ _ h=>h
theorem adW {sp:FuncId->Option (List aj->Option aj)} (h238:sp 238=none) (h182:sp 182=some uF) {vs:List aj} {ls:List (List aB)} {r:fZ} (hR:Rows vs ls) (hsmall:vs.length<1000) (s:St):bv (QS sp) 238 [.list 1 vs r,.func (.func 182) [] []] s (.int .i64 (pu ls 0)) s:=by
 refine dZ ago agn agq agp h238 ?_
 unfold Nl
 refine aF ?_
 unfold Nm
 simp only[dr,cZ,aw,az,aA,aM,aH,bm,au,cT,aR,aY,tA,aQ,ar,bJ,ck,cd,dT]
 refine aV (aF ?_)
 unfold Nn
 simp only[aw,az,aA,ai,aG,cG,ak,aH,aD,bh,bk,bm,au,bZ,cW,bG,aq,jD,cT,cF,aP,bW,bS,tA,ah,ar,aX,ald,ab2]
 refine cR ?_
 refine(adV h182 (r:=r) hsmall vs [] ls _ rfl hR (by simp only[ai,ah,cT,cF, *]) (by simp only[ai,ah,cT,cF, *]) (by simp only[ai,ah,cT,cF, *]) (by simp only[ai,ah,cT,cF];rfl)).mono ?_
 rintro x ⟨e,sz,lc⟩ s' ⟨rfl,hs,⟨rfl,hok⟩|⟨rfl,h2⟩⟩
 ·have hs:sz=19:=hs
  subst hs
  have hok:pu ls 0= -1:=hok
  show W (QS sp) 238 _ _ _ _
  refine aF ?_
  unfold Nt
  simp only[aw,az,aA,aM,aH,bm,au,tA,ar]
  exact bP ⟨rfl,.inr rfl,bV (by simp only[ai,ah,cT,hok]) rfl⟩
 ·exact⟨rfl,.inr rfl,bV h2 rfl⟩
def vD (a:aj):Option (List aB):=bif cx a then ic 1 mw a else none
theorem GK: ∀ {vs:List aj} {ls:List (List aB)},kQ vD vs=some ls->Rows vs ls
 | [],ls,h=>by
   simp only[kQ,bp] at h
   subst h;exact .nil
 |v::vs,ls,h=>by
  simp only[kQ,aN,bp] at h
  obtain⟨l,h1,r,h2,rfl⟩:=h
  unfold vD at h1
  obtain⟨hp,h1⟩:=cq h1
  exact .cons (jA (fun v a=>pd) h1) hp (GK h2)
theorem yE: ∀ {vs:List aj} {ls:List (List aB)},Rows vs ls->kQ vD vs=some ls/\pures vs=true
 | [],_,.nil=>⟨rfl,rfl⟩
 |v::vs,_,.cons h1 h2 h3=>by
  obtain⟨a,b⟩:=yE h3
  have h4:=ka pf h1
  simp only[kQ,vD,h2,cT,h4,aq,a,pures,b,fL,and_self]
def wg:Sp
 | [.list 1 vs .full,.func (.func 182) [] []]=>(kQ vD vs).bind fun ls=>bif cg vs.length 1000 then some (.int .i64 (pu ls 0)) else none
 |_=>none
def Cx:fh:=[(182,uF)]
theorem XI:fI Cx:=.cons alI .nil
theorem adU:ek Tryz.prog 238 wg:=by
 intro args x hv G h w xs wr hx
 unfold wg at hv
 split at hv
 ·rename_i vs
  simp only[aN] at hv
  obtain⟨ls,h1,hv⟩:=hv
  obtain⟨hs,hv⟩:=cq hv
  injection hv with hv;subst hv
  have hR:=GK h1
  have hp:pures [.list 1 vs .full,.func (.func 182) [] []]=true:=by
   show(cx (.list 1 vs .full)&&(cx (.func (.func 182) [] [])&&true))=true
   show((pures vs&&true)&&_)=true
   rw[(yE hR).2];rfl
  exact fD (Q:=QT Cx) (fB XI) (fun _=>fG 1) (args:=[.list 1 vs .full,.func (.func 182) [] []]) (v:=.int .i64 (pu ls 0)) (s':=s0) (kZ hp) (by rw[iP hp];exact adW (sp:=fun f=>eR f Cx) rfl rfl hR (iu hs) s0) rfl ⟨1,rfl⟩ G h w xs wr hx
 ·cases hv
def mZ:List (List aB)->Bool
 | []=>false
 |l::ls=>oP l||mZ ls
theorem HY: ∀(ls:List (List aB)) (i:Nat),gX 0 (pu ls i)=mZ ls
 | [],_=>rfl
 |l::ls,i=>by
  simp only[pu,mZ]
  cases oP l with
  |true=>simp only[cT,Bool.true_or];rw[show(0:Int)=((0:Nat):Int) from rfl,oN];simp
  |false=>simp only[cF,jI];exact HY ls (i+1)
theorem aoT {sp:FuncId->Option (List aj->Option aj)} (h114:sp 114=none) (h181:sp 181=none) (h238:sp 238=some wg) {vs:List aj} {ls:List (List aB)} (hR:Rows vs ls) (hsmall:vs.length<1000) (s:St):bv (QS sp) 114 [.list 1 vs .full] s (.bool (!mZ ls)) s:=by
 have hsp:wg [.list 1 vs .full,.func (.func 182) [] []]=some (.int .i64 (pu ls 0)):=by
  have q1:cg vs.length 1000=true:=fe hsmall
  simp only[wg,(yE hR).1,aq,q1,cT]
 have hany:=HY ls 0
 have r181:bv (QS sp) 181 [.list 1 vs .full,.func (.func 182) [] []] s (.bool (mZ ls)) s:=by
  refine dZ afy afx afA afz h181 ?_
  unfold L7
  refine aF ?_
  unfold L8
  simp only[dr,cZ,aw,az,aA,aM,aH,bF,au,cT,aR,aY,tA,aQ,ar,bJ,ck,cd,dT]
  refine aF ?_
  unfold L9
  simp only[aw,az,aA,ai,aG,aM,aU,dc,da,ak,aH,aD,bh,bk,bm,au,j7,aq,a7,jD,oG,cT,cF,aP,dq,bS,tA,ah,ar,h238,hsp,hany]
  exact bP ⟨rfl,.inr rfl,bV (by simp only[ai,ah,cT,cF, *]) rfl⟩
 refine dZ aek aej aem ael h114 ?_
 unfold J3
 refine aF ?_
 unfold J4
 simp only[dr,cZ,aw,az,aA,aM,aH,bF,au,cT,aR,aY,tA,aQ,ar,ck,cd,dT]
 refine aV (gH (gd 1 ?_))
 unfold J5
 simp only[aw,az,aA,ai,aG,ak,au,cT,cF,bO,aZ,bS,tA,ah,ar]
 refine gq (g:=181) (args:=[.list 1 vs .full,.func (.func 182) [] []]) ?_ r181 (by decide) ?_
 ·simp only[callee,ai,ak,fA,aD,bh,bk,aq,jD,oG,cT,cF,cy,cP,bS,ah]
 refine gp ?_
 simp only[aw,az,aA,ai,aM,fp,ak,aD,au,fq,aq,eJ,cT,cF,bS,tA,ah,ar,aW]
 exact bP ⟨rfl,.inr rfl,bV (by simp only[ai,ah,cT,cF, *]) rfl⟩
def wV:Sp
 | [.list 1 vs .full]=>(kQ vD vs).bind fun ls=>bif cg vs.length 1000 then some (.bool (!mZ ls)) else none
 |_=>none
def Cq:fh:=[(238,wg)]
theorem XB:fI Cq:=.cons adU .nil
theorem aoS:ek Tryz.prog 114 wV:=by
 intro args x hv G h w xs wr hx
 unfold wV at hv
 split at hv
 ·rename_i vs
  simp only[aN] at hv
  obtain⟨ls,h1,hv⟩:=hv
  obtain⟨hs,hv⟩:=cq hv
  injection hv with hv;subst hv
  have hR:=GK h1
  have hp:pures [.list 1 vs .full]=true:=by
   show((pures vs&&true)&&true)=true
   rw[(yE hR).2];rfl
  exact fD (Q:=QT Cq) (fB XB) (fun _=>fG 1) (args:=[.list 1 vs .full]) (v:=.bool (!mZ ls)) (s':=s0) (kZ hp) (by rw[iP hp];exact aoT (sp:=fun f=>eR f Cq) rfl rfl rfl hR (iu hs) s0) rfl ⟨1,rfl⟩ G h w xs wr hx
 ·cases hv
theorem tL {Q:cI} {fr:Fr} {s:St} {t u:Tmp} {v w:aj} (h:ay fr.env t=v) (hv:v.clean=true) (hu:ay fr.env u=w) (hw:w.clean=true): ∃vs,gL Q [] fr s [.tmp t,.tmp u]=some vs/\jO vs= .tup [v,w]:=by
 refine⟨[v,w],?_,rfl⟩
 simp only[gL,wP,evc,ev,h,hu,aq,hv,hw,cT]
def qq (_vb vo vt:aj) (b o t:List aB):aj:=bif o==b then .tup [vt,.bool true] else bif t==b||t==o then .tup [vo,.bool true] else .tup [.nils,.bool false]
theorem al9 {sp:FuncId->Option (List aj->Option aj)} (h116:sp 116=none) (h37:sp 37=some qc) {vb vo vt:aj} {b o t:List aB} (hb:bH 1 bB vb b) (ho:bH 1 bB vo o) (ht:bH 1 bB vt t) (pb:cx vb=true) (po:cx vo=true) (pt:cx vt=true) (so:o.length<small) (st:t.length<small) (s:St):
 bv (QS sp) 116 [vb,vo,vt] s (qq vb vo vt b o t) s:=by
 have cb:=hb.clean
 have co:=ho.clean
 have ct:=ht.clean
 have e1:=zr ho hb po pb so
 have e2:=zr ht hb pt pb st
 have e3:=zr ht ho pt po st
 refine dZ aew aev aey aex h116 ?_
 unfold Ko
 refine aF ?_
 unfold Kp
 simp only[dr,cZ,aw,az,aA,aM,aH,au,cT,aR,aY,tA,aQ,ar,bJ,ck,cd,dT,ofValue,gD]
 refine aV (cR (aF ?_))
 unfold Kq
 simp only[aw,az,aA,ai,aG,aM,dc,da,ak,aD,bh,bk,au,aq,cT,cF,dq,bS,tA,ah,ar,co,cb,h37,e1]
 cases h1:o==b with
 |true=>
  have hm:qq vb vo vt b o t= .tup [vt,.bool true]:=by simp only[qq,h1,cT]
  rw[hm]
  refine bc (t:=true) (by simp only[ak,ai,ah,cT,cF]) (aF ?_)
  unfold Kr
  simp only[aw,az,aA,ai,aG,aM,ak,aH,bF,au,cT,cF,bS,tA,ah,ar]
  exact bP ⟨rfl,.inr rfl,tL (by simp only[ai,ah,cT,cF, *]) ct (by simp only[ai,ah,cT,cF, *]) rfl⟩
 |false=>
  refine bc (t:=false) (by simp only[ak,ai,ah,cT,cF]) (aV (aV (cp ?_)))
  unfold Ks
  simp only[aw,az,aA,ai,aG,aM,dc,da,ak,aD,bh,bk,au,aq,cT,cF,dq,bS,tA,ah,ar,ct,cb,h37,e2,aW]
  cases h2:t==b with
  |true=>
   have hm:qq vb vo vt b o t= .tup [vo,.bool true]:=by simp only[qq,h1,h2,Bool.true_or,cT,cF]
   rw[hm]
   refine bc (t:=true) (by simp only[ak,ai,ah,cT,cF]) (b7 ?_)
   simp only[aW]
   refine bc (t:=true) (by simp only[ak,ai,ah,cT,cF]) (aF ?_)
   unfold D9
   simp only[aw,az,aA,ai,aG,aM,ak,aH,bF,au,cT,cF,bS,tA,ah,ar]
   exact bP ⟨rfl,.inr rfl,tL (by simp only[ai,ah,cT,cF, *]) co (by simp only[ai,ah,cT,cF, *]) rfl⟩
  |false=>
   refine bc (t:=false) (by simp only[ak,ai,ah,cT,cF]) (cp ?_)
   unfold Kt
   simp only[aw,az,aA,ai,aG,aM,dc,da,ak,aD,bh,bk,au,aq,cT,cF,dq,bS,tA,ah,ar,ct,co,h37,e3,aW]
   cases h3:t==o with
   |true=>
    have hm:qq vb vo vt b o t= .tup [vo,.bool true]:=by simp only[qq,h1,h2,h3,jI,cT,cF]
    rw[hm]
    refine bc (t:=true) (by simp only[ak,ai,ah,cT,cF]) (aF ?_)
    unfold D9
    simp only[aw,az,aA,ai,aG,aM,ak,aH,bF,au,cT,cF,bS,tA,ah,ar]
    exact bP ⟨rfl,.inr rfl,tL (by simp only[ai,ah,cT,cF, *]) co (by simp only[ai,ah,cT,cF, *]) rfl⟩
   |false=>
    have hm:qq vb vo vt b o t= .tup [.nils,.bool false]:=by simp only[qq,h1,h2,h3,Bool.or_self,cF]
    rw[hm]
    refine bc (t:=false) (by simp only[ak,ai,ah,cT,cF]) (b7 ?_)
    simp only[dM,aW]
    refine aF ?_
    unfold Ku
    simp only[aw,az,aA,aM,aH,au,tA,ar,ofValue,gD]
    exact bP ⟨rfl,.inr rfl,tL (by simp only[ai,ah,cT,cF, *]) rfl (by simp only[ai,ah,cT,cF, *]) rfl⟩
section
variable {Q:cI} {f:FuncId}
def WD (Q:cI) (f:FuncId) (bs:List Nat) (rs:List eY) (i:Nat) (l:List cV) (fr:Fr) (s:St) (K:Fr->St->Prop):Prop:= ∃fr' s',lP Q f bs rs i l fr s fr' s'/\K fr' s'
def rL (i:Nat) (rs:List eY):Prop:= ∀r∈rs,r.i<i/\r.loud=false
theorem rL.cons {i c0 c1:Nat} {ft:gl} {lo:Bool} {rs:List eY} (h:rL i rs) (hl:lo=false):rL (i+1) (⟨i,c0,c1,ft,lo⟩::rs):=by
 intro r hr
 rcases List.mem_cons.1 hr with rfl|hr
 ·exact⟨iC _,hl⟩
 ·exact⟨og (h r hr).1,(h r hr).2⟩
theorem Gu {s s1:St} {o:cV} (hst:isStore o.op=false) (hmw:s.next<=s1.minw):(cg s1.minw s.next||isStore o.op)=false:=by
 rw[hst,lf,dA]
 exact decide_eq_false (by omega)
theorem WD.nil {bs:List Nat} {rs:List eY} {i:Nat} {fr:Fr} {s:St} {K:Fr->St->Prop} (h:K fr s):WD Q f bs rs i [] fr s K:=⟨fr,s,.nil,h⟩
theorem WD.hush {b i:Nat} {bs:List Nat} {rs:List eY} {o:cV} {l:List cV} {fr fr1:Fr} {s s1:St} {v:aj} {lc:Ag.Loc} {K:Fr->St->Prop} (hr:rL i rs) (hst:isStore o.op=false) (hmw:s.next<=s1.minw) (hw:jc fr.env o.g=true)
 (hpl: ∀mk,eP Q f o mk fr s.top=some (v,lc,s1)) (hci:s1.ci=s.ci) (hp:eZ fr o.dst v lc=some fr1) (hk: ∀rs',rL (i+1) rs'->WD Q f bs rs' (i+1) l fr1 (s.least s1) K):WD Q f (b::bs) rs i (o::l) fr s K:=by
 have hl:=Gu hst hmw
 obtain⟨fr',s',h1,h2⟩:=hk (⟨i,s.next,s1.next,dL (Q.hint f) o.dst fr.env o.op,cg s1.minw s.next||isStore o.op⟩::rs) (hr.cons hl)
 exact⟨fr',s',.step hw (hpl _) (by rw[hl];exact aaF fun r h=>(hr r h).2) hci hp h1,h2⟩
theorem WD.full {b i:Nat} {bs:List Nat} {rs:List eY} {o:cV} {l:List cV} {fr fr1:Fr} {s s1:St} {v:aj} {lc:Ag.Loc} {K:Fr->St->Prop} (hr:rL i rs) (hb: ∀j,j<i->b.testBit j=true) (hst:isStore o.op=false) (hmw:s.next<=s1.minw) (hw:jc fr.env o.g=true)
 (hpl:eP Q f o [] fr s.top=some (v,lc,s1)) (hci:s1.ci=s.ci) (hp:eZ fr o.dst v lc=some fr1) (hk: ∀rs',rL (i+1) rs'->WD Q f bs rs' (i+1) l fr1 (s.least s1) K):WD Q f (b::bs) rs i (o::l) fr s K:=by
 have hl:=Gu hst hmw
 obtain⟨fr',s',h1,h2⟩:=hk (⟨i,s.next,s1.next,dL (Q.hint f) o.dst fr.env o.op,cg s1.minw s.next||isStore o.op⟩::rs) (hr.cons hl)
 refine⟨fr',s',.step hw ?_ (zx fun r h=>hb _ (hr r h).1) hci hp h1,h2⟩
 show eP Q f o (jE b rs []) fr s.top=_
 rw[AY fun r h=>.inl (hb _ (hr r h).1)]
 exact hpl
theorem WD.fullL {b i:Nat} {bs:List Nat} {rs:List eY} {o:cV} {l:List cV} {fr fr1:Fr} {s s1:St} {v:aj} {lc:Ag.Loc} {K:Fr->St->Prop} (hr: ∀r∈rs,r.i<i) (hb: ∀j,j<i->b.testBit j=true) (hw:jc fr.env o.g=true)
 (hpl:eP Q f o [] fr s.top=some (v,lc,s1)) (hci:s1.ci=s.ci) (hp:eZ fr o.dst v lc=some fr1) (hk: ∀rs',(∀r∈rs',r.i<i+1)->WD Q f bs rs' (i+1) l fr1 (s.least s1) K):WD Q f (b::bs) rs i (o::l) fr s K:=by
 obtain⟨fr',s',h1,h2⟩:=hk (⟨i,s.next,s1.next,dL (Q.hint f) o.dst fr.env o.op,cg s1.minw s.next||isStore o.op⟩::rs) (fun r hr'=>by
  rcases List.mem_cons.1 hr' with rfl|hr'
  ·exact iC _
  ·exact og (hr r hr'))
 refine⟨fr',s',.step hw ?_ (zx fun r h=>hb _ (hr r h)) hci hp h1,h2⟩
 show eP Q f o (jE b rs []) fr s.top=_
 rw[AY fun r h=>.inl (hb _ (hr r h))]
 exact hpl
theorem WD.call {b i:Nat} {bs:List Nat} {rs:List eY} {o:cV} {c:Call} {l:List cV} {fr fr1:Fr} {s s1:St} {g:FuncId} {args:List aj} {v:aj} {K:Fr->St->Prop} (hr:rL i rs) (hb: ∀j,j<i->b.testBit j=true) (ho:o.op= .call c) (hmw:s.next<=s1.minw) (hw:jc fr.env o.g=true)
 (hn: ∀b,c.callee≠ .builtin b) (hc:callee fr.env c=some (g,args)) (hrun:bv Q g args s.top v s1) (hci:s1.ci=s.ci) (hp:eZ fr o.dst v fr.loc=some fr1) (hk: ∀rs',rL (i+1) rs'->WD Q f bs rs' (i+1) l fr1 (s.least s1) K):WD Q f (b::bs) rs i (o::l) fr s K:=by
 have hst:isStore o.op=false:=by rw[ho];rfl
 have hl:=Gu hst hmw
 obtain⟨fr',s',h1,h2⟩:=hk (⟨i,s.next,s1.next,dL (Q.hint f) o.dst fr.env o.op,cg s1.minw s.next||isStore o.op⟩::rs) (hr.cons hl)
 refine⟨fr',s',.call hw ho hn hc ?_ (zx fun r h=>hb _ (hr r h).1) hci hp h1,h2⟩
 show zd Q g args (jE b rs []) s.top v s1
 rw[AY fun r h=>.inl (hb _ (hr r h).1)]
 exact hrun
theorem W.drawD {ops:List cV} {bs:List Nat} {fr:Fr} {s:St} {K:Ex->Fr->St->Prop} (h:WD Q f bs [] 0 ops fr s fun fr s=>K .normal fr s):W Q f (.draw ops bs) fr s K:=let⟨_,_,h1,h2⟩:=h;W.drawR h1 h2
theorem FY {s s1:St} (h:s.minw<=s.next) (h1:s.next<=s1.minw):(s.least s1).minw=s.minw:=by
 show(bif cK s.minw s1.minw then s.minw else s1.minw)=s.minw
 rw[fe (Nat.le_trans h h1)];rfl
theorem WD.calmOps {s:St} (hm:s.minw<=s.next) {l1 l2:List cV} {bs:List Nat} {rs:List eY} {i:Nat} {fr:Fr} {K:Fr->St->Prop} (hc:calm rs) (hi: ∀r∈rs,r.i<i)
 (h:WQ Q f s.top l1 fr fun fr1=> ∀rs1,calm rs1->(∀r∈rs1,r.i<i+l1.length)->WD Q f (bs.drop l1.length) rs1 (i+l1.length) l2 fr1 s K):WD Q f bs rs i (l1++l2) fr s K:=
 WQ.thenD (N:=K) hm hc hi h
theorem WD.calmCall {s:St} (hm:s.minw<=s.next) {b i:Nat} {bs:List Nat} {rs:List eY} {d:Tmp} {x:Operand} {av:Array Operand} {ts:Array TypeId} {l:List cV} {e:bq} {sz:Nat} {lc:Ag.Loc} {g:FuncId} {args:List aj} {v:aj} {K:Fr->St->Prop} (hc:calm rs) (hi: ∀r∈rs,r.i<i)
 (hcal:callee e ⟨.value x,av,ts⟩=some (g,args)) (hrun:bv Q g args s.top v s.top) (hd:d<sz)
 (hk: ∀rs1,calm rs1->(∀r∈rs1,r.i<i+1)->WD Q f bs rs1 (i+1) l ⟨e.set d (some v),sz,lc⟩ s K):WD Q f (b::bs) rs i (⟨some d,.call ⟨.value x,av,ts⟩,.aw⟩::l) ⟨e,sz,lc⟩ s K:=by
 have hl:(cg s.top.minw s.next||isStore (.call ⟨.value x,av,ts⟩))=false:=by
  rw[dA]
  have: ¬s.top.minw<s.next:=by show¬s.next<s.next;omega
  rw[decide_eq_false this];rfl
 obtain⟨fr',s',h1,h2⟩:=hk (⟨i,s.next,s.next,dL (Q.hint f) (some d) e (.call ⟨.value x,av,ts⟩),false⟩::rs) (fun r hr=>by
  rcases List.mem_cons.1 hr with rfl|hr
  ·exact⟨rfl,rfl⟩
  ·exact hc r hr) (fun r hr=>by
  rcases List.mem_cons.1 hr with rfl|hr
  ·exact iC _
  ·exact og (hi r hr))
 refine⟨fr',s',.call (v:=v) (s1:=s.top) rfl rfl (fun b=>by simp) hcal ?_ ?_ rfl (iO.2 ⟨hd,rfl⟩) ?_,h2⟩
 ·show zd Q g args (jE b rs []) s.top v s.top
  rw[F8 hc]
  exact hrun
 ·rw[hl];exact Ds hc _ _
 ·rw[hl,ni hm];exact h1
def ug (i:Nat) (rs:List eY):Prop:= ∀r∈rs,r.i<i/\r.c0=r.c1/\(r.loud=true->r.foot= .all)
def wd:gl->Bool
 | .none=>true
 | .loc _=>true
 |_=>false
theorem UA {rs:List eY} (h: ∀r∈rs,r.c0=r.c1) (b:Nat):jE b rs []=[]:=AY fun r hr=>.inr (h r hr)
theorem aaG {i b:Nat} {rs:List eY} {ft:gl} (h:ug i rs) (hf:wd ft=true):fits b ft false rs=true:=by
 simp only[fits,List.all_eq_true]
 intro r hr
 obtain⟨_,_,h3⟩:=h r hr
 cases hl:r.loud with
 |false=>simp
 |true=>
  rw[h3 hl]
  cases ft<;>first|(cases hf;done)|simp[gl.meets]
theorem YC {i:Nat} {rs:List eY} (h:calm rs) (hi: ∀r∈rs,r.i<i):ug i rs:=fun r hr=>⟨hi r hr,(h r hr).1,fun hl=>by rw[(h r hr).2] at hl;cases hl⟩
def WX (Q:cI) (f:FuncId) (s:St):List cV->Fr->(Fr->Prop)->Prop
 | [],fr,N=>N fr
 |o::l,fr,N=> ∃v fr',jc fr.env o.g=true/\eP Q f o [] fr s=some (v,fr.loc,s)/\isStore o.op=false/\wd (dL (Q.hint f) o.dst fr.env o.op)=true/\eZ fr o.dst v fr.loc=some fr'/\WX Q f s l fr' N
def G7 (Q:cI) (f:FuncId) (s:St) (d:Tmp) (st:Bool) (fo:gl) (e:bq) (sz:Nat) (lc:Ag.Loc) (l:List cV) (N:Fr->Prop) (x:Option (aj×Ag.Loc×St)):Prop:= ∃v,x=some (v,lc,s)/\st=false/\wd fo=true/\d<sz/\WX Q f s l ⟨e.set d (some v),sz,lc⟩ N
theorem zg {s:St} {fr:Fr} {N:Fr->Prop}:WX Q f s [] fr N=N fr:=rfl
theorem BM {s:St} {d:Tmp} {st:Bool} {fo:gl} {e:bq} {sz:Nat} {lc:Ag.Loc} {l:List cV} {N:Fr->Prop} {v:aj}:G7 Q f s d st fo e sz lc l N (some (v,lc,s))=(st=false/\wd fo=true/\d<sz/\WX Q f s l ⟨e.set d (some v),sz,lc⟩ N):=by
 unfold G7
 apply propext
 constructor
 ·rintro⟨u,h,r⟩
  simp only[bp,Prod.mk.injEq,and_true] at h
  subst h;exact r
 ·intro r
  exact⟨v,rfl,r⟩
theorem zf {s:St} {d:Tmp} {op:Op} {l:List cV} {e:bq} {sz:Nat} {lc:Ag.Loc} {N:Fr->Prop}:
 WX Q f s (⟨some d,op,.aw⟩::l) ⟨e,sz,lc⟩ N=G7 Q f s d (isStore op) (dL (Q.hint f) (some d) e op) e sz lc l N (eP Q f ⟨some d,op,.aw⟩ [] ⟨e,sz,lc⟩ s):=by
 apply propext
 constructor
 ·rintro⟨v,fr',_,h2,h3,h4,h5,h6⟩
  obtain⟨hd,rfl⟩:=iO.1 h5
  exact⟨v,h2,h3,h4,hd,h6⟩
 ·rintro⟨v,h2,h3,h4,hd,h6⟩
  exact⟨v,_,rfl,h2,h3,h4,iO.2 ⟨hd,rfl⟩,h6⟩
theorem WD.loudOps {s:St} (hm:s.minw<=s.next) {l2:List cV} {K:Fr->St->Prop}: ∀ {l1:List cV} {bs:List Nat} {rs:List eY} {i:Nat} {fr:Fr},ug i rs->
 WX Q f s.top l1 fr (fun fr1=> ∀rs1,ug (i+l1.length) rs1->WD Q f (bs.drop l1.length) rs1 (i+l1.length) l2 fr1 s K)->WD Q f bs rs i (l1++l2) fr s K
 | [],bs,rs,i,fr,hc,h=>h rs hc
 |o::l,bs,rs,i,fr,hc,h=>by
  have hdrop: ∀(bs:List Nat) (n:Nat),bs.tail.drop n=bs.drop (n+1):=fun bs n=>by cases bs<;>simp
  obtain⟨v,fr',hw,h1,h2,h3,h4,h5⟩:=h
  have hl:(cg s.top.minw s.next||isStore o.op)=false:=by
   rw[h2,lf,dA]
   exact decide_eq_false (by show¬s.next<s.next;omega)
  have hc2:ug (i+1) (⟨i,s.next,s.next,dL (Q.hint f) o.dst fr.env o.op,false⟩::rs):=fun r hr=>by
   rcases List.mem_cons.1 hr with rfl|hr
   ·exact⟨iC _,rfl,fun hl=>by cases hl⟩
   ·obtain⟨a,b,c⟩:=hc r hr
    exact⟨og a,b,c⟩
  obtain⟨fr2,s2,q1,q2⟩:=WD.loudOps (l2:=l2) (K:=K) hm (l1:=l) (bs:=bs.tail) (i:=i+1) (fr:=fr') hc2 (by
   rw[hdrop]
   have e:i+1+l.length=i+(o::l).length:=by simp only[aR];omega
   rw[e];exact h5)
  refine⟨fr2,s2,.step hw (v:=v) (lc:=fr.loc) (s1:=s.top) ?_ ?_ rfl h4 ?_,q2⟩
  ·rw[UA fun r hr=>(hc r hr).2.1];exact h1
  ·rw[hl];exact aaG hc h3
  ·rw[hl,ni hm];exact q1
theorem WD.loudCall {s s1:St} {b i:Nat} {bs:List Nat} {rs:List eY} {d:Tmp} {x:Operand} {av:Array Operand} {ts:Array TypeId} {l:List cV} {e:bq} {sz:Nat} {lc:Ag.Loc} {g:FuncId} {args:List aj} {v:aj} {K:Fr->St->Prop} (hc:ug i rs) (hb: ∀j,j<i->b.testBit j=true)
 (hcal:callee e ⟨.value x,av,ts⟩=some (g,args)) (hrun:bv Q g args s.top v s1) (hn:s1.next=s.next) (hci:s1.ci=s.ci) (hd:d<sz)
 (hk: ∀rs1,ug (i+1) rs1->WD Q f bs rs1 (i+1) l ⟨e.set d (some v),sz,lc⟩ (s.least s1) K):WD Q f (b::bs) rs i (⟨some d,.call ⟨.value x,av,ts⟩,.aw⟩::l) ⟨e,sz,lc⟩ s K:=by
 obtain⟨fr',s',h1,h2⟩:=hk (⟨i,s.next,s1.next,dL (Q.hint f) (some d) e (.call ⟨.value x,av,ts⟩),cg s1.minw s.next||isStore (.call ⟨.value x,av,ts⟩)⟩::rs) (fun r hr=>by
  rcases List.mem_cons.1 hr with rfl|hr
  ·exact⟨iC _,hn.symm,fun _=>rfl⟩
  ·obtain⟨p,q,t⟩:=hc r hr
   exact⟨og p,q,t⟩)
 refine⟨fr',s',.call (v:=v) (s1:=s1) rfl rfl (fun b=>by simp) hcal ?_ (zx fun r hr=>hb _ (hc r hr).1) hci (iO.2 ⟨hd,rfl⟩) h1,h2⟩
 show zd Q g args (jE b rs []) s.top v s1
 rw[UA fun r hr=>(hc r hr).2.1]
 exact hrun
theorem Dx (h:Tmp->Nat) (d:Option Tmp) (e:bq) (t:TypeId) (a:Operand):dL h d e (.load t a)=tl e a:=rfl
theorem Dw (h:Tmp->Nat) (d:Option Tmp) (e:bq) (t:TypeId) (a:Operand) (i:Nat):dL h d e (.fieldAddr t a i)=qe e a:=rfl
theorem zy (h:Tmp->Nat) (d:Option Tmp) (e:bq) (a:Operand):dL h d e (.move a)= .none:=rfl
theorem aaL (h:Tmp->Nat) (d:Option Tmp) (e:bq) (a:Operand):dL h d e (.assign a)= .none:=rfl
theorem Dv (h:Tmp->Nat) (d:Option Tmp) (e:bq) (o:BinOp) (t u:TypeId) (x y:Operand):dL h d e (.binOp o t x y u)= .none:=rfl
theorem aaM (h:Tmp->Nat) (d:Option Tmp) (e:bq) (a:Operand) (i:Nat):dL h d e (.extract a i)= .none:=rfl
def Jm:aj->gl
 | .lref t _ _=>.loc t
 | .ptr n _=>.obj n
 | .ro _=>.none
 |_=>.all
def Jn:aj->gl
 | .lref t _ _=>.loc t
 |_=>.none
theorem Dz (e:bq) (t:Tmp):tl e (.tmp t)=Jm (ay e t):=by
 show(match ev e (.tmp t) with|some (.lref t _ _)=>gl.loc t|some (.ptr n _)=>.obj n|some (.ro _)=>.none|_=>.all)=_
 rw[ak]
 cases ay e t<;>rfl
theorem DF (e:bq) (t:Tmp):qe e (.tmp t)=Jn (ay e t):=by
 show(match ev e (.tmp t) with|some (.lref t _ _)=>gl.loc t|_=>.none)=_
 rw[ak]
 cases ay e t<;>rfl
theorem Dy (t g o:Nat):Jm (.lref t g o)= .loc t:=rfl
theorem DE (t g o:Nat):Jn (.lref t g o)= .loc t:=rfl
theorem DD (t:Nat):wd (.loc t)=true:=rfl
theorem zz:wd .none=true:=rfl
end
def gW (sz lo:Nat) (s:St) (ov:aj) (xs:List aj):Prop:=(ov= .nils/\xs=[])\/(xs≠ []/\ ∃k,ov= .list sz xs (.own k)/\s.get [] k=some .tok/\lo<=k/\k<s.next)
theorem gW.clean {sz lo:Nat} {s:St} {ov:aj} {xs:List aj} (h:gW sz lo s ov xs):ov.clean=true:=by
 rcases h with⟨rfl,_⟩|⟨_,k,rfl,_⟩<;>rfl
theorem gW.keep {sz lo:Nat} {s s':St} {ov:aj} {xs:List aj} (h:gW sz lo s ov xs) (hg: ∀n,lo<=n->s'.get [] n=s.get [] n) (hn:s.next<=s'.next):gW sz lo s' ov xs:=by
 rcases h with h|⟨h1,k,h2,h3,h4,h5⟩
 ·exact .inl h
 ·exact .inr ⟨h1,k,h2,(hg k h4).trans h3,h4,by omega⟩
theorem jW (s:St) (n:Nat) (o:Option bR) (h:s.minw<=s.next):(s.put n o).minw<=(s.put n o).next:=by
 show(bif cK s.minw n then s.minw else n)<=s.next
 cases hb:cK s.minw n with
 |true=>exact h
 |false=>
  have: ¬s.minw<=n:=fun hc=>by rw[fe hc] at hb;cases hb
  simp only[cF];omega
theorem xo {t:TypeId} {E:EI} {sz lo:Nat} (hE:jG Tryz.prog t=some E) (hn:E.n=sz) (hb:E.b<=88) {s:St} {ov y:aj} {xs ys:List aj} (h:gW sz lo s ov xs) (hy:ku [] E.g E.n y s=some ys) (hlen:xs.length+ys.length<=1000000) (hlo:lo<=s.next) (hm:s.minw<=s.next):
 ∃ov' s',j6 Tryz.prog [] t ov y false s=some (ov',s')/\gW sz lo s' ov' (xs++ys)/\s'.ci=s.ci/\s.next<=s'.next/\s'.minw<=s'.next/\(∀n,n<lo->s'.get [] n=s.get [] n)/\ov'.cells=[ov']:=by
 subst hn
 have hov:xV ov=true/\ov.cells=[ov]:=by rcases h with⟨rfl,_⟩|⟨_,k,rfl,_⟩<;>exact⟨rfl,rfl⟩
 cases ys with
 |nil=>
  refine⟨ov,s,?_,by rw[iQ];exact h,rfl,bK _,hm,fun _ _=>rfl,hov.2⟩
  simp only[j6,hE,aq,hy,hov.1,cT]
 |cons y0 ys=>
  rcases h with⟨rfl,rfl⟩|⟨hne,k,rfl,hk,h5,h6⟩
  ·have hr:l7 (y0::ys).length E.b=true:=uV (by simpa using hlen) hb
   refine⟨.list E.n (y0::ys) (.own s.next),s.new .tok,?_,.inr ⟨by simp,s.next,rfl,by rw[dy,bS];rfl,hlo,iC _⟩,rfl,Nat.le_succ _,lj hm,fun n hn'=>?_,rfl⟩
   ·simp only[j6,hE,aq,hy,mp,kP,hr,cT,cF]
   ·rw[dy,beq_eq_false_iff_ne.2 (by omega)];rfl
  ·have hr:l7 (xs.length+(y0::ys).length) E.b=true:=uV hlen hb
   refine⟨.list E.n (xs++(y0::ys)) (.own s.next),(s.put k none).new .tok,?_,.inr ⟨by simp,s.next,rfl,by rw[dy,qs,bS];rfl,hlo,iC _⟩,rfl,Nat.le_succ _,lj (jW s k none hm),fun n hn'=>?_,rfl⟩
   ·simp only[j6,hE,aq,hy,mp,hk,hr,aX,bS,fL,cT]
   ·rw[dy,qs,beq_eq_false_iff_ne.2 (by omega),cF,cX,beq_eq_false_iff_ne.2 (by omega)];rfl
theorem GD: ∀l:List aB,pures (l.map bB)=true
 | []=>rfl
 |a::l=>by
  show(cx (bB a)&&pures (l.map bB))=true
  rw[GD l];rfl
def Vv:fZ->Bool
 | .own _=>false
 |_=>true
theorem GC (l:List aB) (r:fZ):cx (.list 1 (l.map bB) r)=Vv r:=by
 show(pures (l.map bB)&&_)=_
 rw[GD]
 cases r<;>rfl
theorem yP:Tryz.prog.underlying 37=some (.slice 9):=by kernel_rfl
theorem BN:fQ Tryz.prog 9=some 1:=by kernel_rfl
theorem aoY {env:bq} {s:St} {V:aj} {l:List aB} (hV:bH 1 bB V l) (pV:cx V=true) {n:Nat} {x y:Operand} (hx:ev env x=some (.int .i64 n)) (hy:ev env y=some (.int .i64 n)) (hn:n<=l.length):
 ∃V',kg Tryz.prog [] 37 V none (some x) (some y) env s=some V'/\bH 1 bB V' (l.take n)/\cx V'=true:=by
 rcases hV with⟨rfl,rfl⟩|⟨r,rfl⟩
 ·have h0:n=0:=by simpa using hn
  subst h0
  refine⟨.nils,?_,.inl ⟨rfl,rfl⟩,rfl⟩
  simp only[kg,yP,aq,BN,jX,hx,hy]
  rfl
 ·refine⟨.list 1 ((l.map bB).take n) .full,?_,.inr ⟨.full,by rw[List.map_take]⟩,by rw[<-List.map_take,GC];rfl⟩
  have h1:cK n (l.map bB).length=true:=fe (by rw[fw];exact hn)
  have hna:fV (.int .i64 ((n:Nat):Int))=some n:=rfl
  simp only[kg,yP,aq,BN,jX,hx,hy,hna,h1,aX,bS,cT,Option.isSome_some,List.drop_zero,dX]
  rfl
theorem aoZ {V:aj} {l:List aB} (hV:bH 1 bB V l) (pV:cx V=true) {n:Nat} (hn:n<=l.length):
 ∃V',(∀(env:bq) (s:St) (x:Operand),ev env x=some (.int .i64 n)->kg Tryz.prog [] 37 V (some x) none none env s=some V')/\bH 1 bB V' (l.drop n)/\cx V'=true/\V'.cells=[V']:=by
 rcases hV with⟨rfl,rfl⟩|⟨r,rfl⟩
 ·have h0:n=0:=by simpa using hn
  subst h0
  refine⟨.nils,fun env s x hx=>?_,.inl ⟨rfl,rfl⟩,rfl,rfl⟩
  simp only[kg,yP,aq,BN,jX,hx]
  rfl
 ·obtain⟨r',hr'⟩: ∃r',r'=bif bo (l.map bB).length (l.map bB).length&&(cg n (l.map bB).length||bo n 0) then r else fZ.no:=⟨_,rfl⟩
  have hp:Vv r'=true:=by
   rw[hr']
   cases bo (l.map bB).length (l.map bB).length&&(cg n (l.map bB).length||bo n 0) with
   |true=>rw[GC] at pV;exact pV
   |false=>rfl
  refine⟨.list 1 (((l.map bB).take (l.map bB).length).drop n) r',fun env s x hx=>?_,.inr ⟨r',by rw[List.take_length,List.map_drop]⟩,by rw[List.take_length,<-List.map_drop,GC];exact hp,rfl⟩
  have h1:cK n (l.map bB).length=true:=fe (by rw[fw];exact hn)
  have h2:cK (l.map bB).length (l.map bB).length=true:=fe (bK _)
  have hna:fV (.int .i64 ((n:Nat):Int))=some n:=rfl
  rw[hr']
  simp only[kg,yP,aq,BN,jX,hx,hna,h1,h2,aX,bS,fL,cT]
theorem Yf (P:Program) (mk:bt) (ts:List TypeId) (mu:Bool) (a b:Int) (s:St):my P mk .min ts mu [.int .i64 a,.int .i64 b] s=some (.int .i64 (bif di b a then b else a),s):=by
 have:(IntKind.i64==IntKind.i64)=true:=rfl
 simp only[my,sm,this,cT,cF,aq]
theorem Zh {sp:FuncId->Option (List aj->Option aj)} {e:bq} {lc:Ag.Loc} {s:St} {x:Nat} {V V':aj} {rs1:List eY} {K:Fr->St->Prop} (hi: ∀r∈rs1,r.i<14) (hx:s.get [] x=some (.cells [V])) (hcl2:V'.clean=true) (hv4:V'.cells=[V']) (hm:s.minw<=s.next) (h13:ay e 13= .ptr x 0) (h26:ay e 26=V')
 (hk: ∀s',(∀k,s'.get [] k=(s.put x (some (.cells [V']))).get [] k)->s'.next=s.next->s'.ci=s.ci->s'.minw<=s'.next->K ⟨(e.set 27 (some (.ptr x 0))).set 28 (some (.ptr x 0)),30,lc⟩ s'):
 WD (QS sp) 117 [16383,32767,65535] rs1 14 (uC.drop 14) ⟨e,30,lc⟩ s K:=by
 have hxt:s.top.get [] x=some (.cells [V]):=hx
 unfold uC
 refine WD.fullL (v:=.ptr x 0) (lc:=lc) (s1:=s.top) (fr1:=⟨e.set 27 (some (.ptr x 0)),30,lc⟩) hi (by decide) rfl ?_ rfl (iO.2 ⟨by decide,rfl⟩) (fun rs3 k3=>?_)
 ·simp only[gh,ak,au,aq,h13,gg]
 rw[ni hm]
 refine WD.fullL (v:=.ptr x 0) (lc:=lc) (s1:=s.top) (fr1:=⟨(e.set 27 (some (.ptr x 0))).set 28 (some (.ptr x 0)),30,lc⟩) k3 (by decide) rfl ?_ rfl (iO.2 ⟨by decide,rfl⟩) (fun rs4 k4=>?_)
 ·simp only[ai,bN,ak,au,aq,cT,aP,bS,cQ,Df]
 rw[ni hm]
 refine WD.fullL (v:=iB) (lc:=lc) (s1:=s.top.put x (some (.cells [V']))) (fr1:=⟨(e.set 27 (some (.ptr x 0))).set 28 (some (.ptr x 0)),30,lc⟩) k4 (by decide) rfl ?_ rfl rfl (fun rs5 k5=>?_)
 ·simp only[ai,eN,ak,aD,aq,cT,cF,aP,aR,aY,dl,bO,aZ,gZ,cy,iQ,bS,aQ,ah,ar,ck,dX,aX,dA,cd,dT,yO,kW,hxt,kV,hv4,hcl2,h26]
 refine WD.nil (hk _ (fun k=>rfl) rfl rfl ?_)
 show(bif cK s.minw (s.top.put x (some (.cells [V']))).minw then s.minw else(s.top.put x (some (.cells [V']))).minw)<=s.next
 cases cK s.minw (s.top.put x (some (.cells [V']))).minw with
 |true=>exact hm
 |false=>exact jW s.top x _ (bK _)
theorem CW {sp:FuncId->Option (List aj->Option aj)} (h117:sp 117=none) {s:St} {x n:Nat} {V:aj} {l:List aB} (hx:s.get [] x=some (.cells [V])) (hV:bH 1 bB V l) (pV:cx V=true) (hn:n<=l.length) (hsmall:l.length<1000000) (hm:s.minw<=s.next):
 ∃v s',bv (QS sp) 117 [.ptr x 0,.int .i64 n] s v s'/\bH 1 bB v (l.take n)/\cx v=true/\(∃V',bH 1 bB V' (l.drop (n+1))/\cx V'=true/\ ∀k,s'.get [] k=(s.put x (some (.cells [V']))).get [] k)/\s'.next=s.next/\s'.ci=s.ci/\s'.minw<=s'.next:=by
 have hcl:=hV.clean
 have hcc:V.cells=[V]:=by rcases hV with⟨rfl,_⟩|⟨r,rfl⟩<;>rfl
 have hlen:=fun mk s=>hV.len iV jl mk s
 have hxt:s.top.get [] x=some (.cells [V]):=hx
 have hdl:l.drop (min (n+1) l.length)=l.drop (n+1):=by
  rcases Nat.le_total (n+1) l.length with h|h
  ·rw[xg h]
  ·rw[Nat.min_eq_right h,List.drop_length,List.drop_eq_nil_of_le h]
 have hwr:IntKind.i64.wrap ((n:Int)+1)=((n+1:Nat):Int):=by rw[eh (by omega) (by omega)];omega
 refine bv.ofEx aeB aeA aeD aeC h117 ?_
 unfold Kv
 refine aF ?_
 unfold Kw
 simp only[dr,cZ,aw,az,aA,aM,aH,au,cT,aR,aY,tA,aQ,ar,bJ,ck,cd,dT,ofValue,gD]
 refine aV (gH (gd 6 ?_))
 unfold Kx
 simp only[aw,az,aA,ai,aG,bn,bN,gh,ak,au,aq,cT,cF,aP,bO,aZ,bE,bS,tA,cQ,ah,ar,fT,Df,gg,dH,hx,dG]
 obtain⟨v,hv1,hv2,hv3⟩:=aoY (env:=((((((((cZ 0 [.ptr x 0,.int .i64 (n:Int)]).set 4 (some .nils)).set 6 (some (.ptr x 0))).set 7 (some (.ptr x 0))).set 8 (some (.ptr x 0))).set 9 (some V)).set 10 (some (.int .i64 (n:Int)))).set 11 (some (.int .i64 (n:Int))))) (s:=s) hV pV (x:=.tmp 10) (y:=.tmp 11) (by simp only[ak,ai,ah,cT,cF]) (by simp only[ak,ai,ah,cT,cF]) hn
 have hvc:=hv2.clean
 refine gp ?_
 simp only[cZ] at hv1
 simp only[aw,az,aA,ai,aM,Vh,ak,aD,au,aq,cT,cF,aP,bS,tA,ah,ar,hcl,hv1,aW]
 obtain⟨V',hs1,q1,q2,hv4⟩:=aoZ hV pV (n:=min (n+1) l.length) (Nat.min_le_right _ _)
 rw[hdl] at q1
 have hcl2:=q1.clean
 have hmin:(bif decide (l.length<n+1) then(l.length:Int) else((n+1:Nat):Int))=((min (n+1) l.length:Nat):Int):=by
  by_cases h:l.length<n+1
  ·rw[decide_eq_true h,Nat.min_eq_right (by omega)];rfl
  ·rw[decide_eq_false h,xg (by omega)];rfl
 have hs2: ∀(env:bq) (s:St),ay env 25= .int .i64 (bif decide (l.length<n+1) then(l.length:Int) else((n+1:Nat):Int))->kg Tryz.prog [] 37 V (some (.tmp 25)) none none env s=some V':=fun env s h=>hs1 env s _ (by rw[ak,h,hmin])
 rw[show uC=uC.take 14++uC.drop 14 from(oe 14 _).symm]
 refine aV (W.drawD (WD.calmOps hm (fun _ h=>by cases h) (fun _ h=>by cases h) ?_))
 unfold uC
 simp only[d8,d7,ec,isStore,ai,aG,bn,aU,bN,Vh,gh,cG,ak,aH,aD,bh,bk,bm,au,bZ,dW,cW,bG,aq,a7,cT,cF,aP,bW,aR,aY,bO,aZ,bE,cN,bS,tA,aQ,cQ,ah,ar,bJ,aX,fT,Df,abq,abr,gg,dH,hxt,dG,hcl,hlen,hwr,Yf,hs2]
 intro rs1 hc1 hi1
 refine Zh hi1 hx hcl2 hv4 hm (by simp only[ai,ah,cT,cF, *]) (by simp only[ai,ah,cT,cF, *]) ?_
 intro s' q3 q4 q5 q6
 simp only[aW]
 refine aF ?_
 unfold Ky
 simp only[aw,az,aA,ai,aG,aM,ak,au,cT,cF,bS,tA,ah,ar]
 exact bP ⟨.inr rfl,v,bV (by simp only[ai,ah,cT,cF, *]) hvc,hv2,hv3,⟨V',q1,q2,q3⟩,q4,q5,q6⟩
theorem Ib (P:Program) (t:TypeId) (a b:Int):gf P .mul t (.int .i64 a) (.int .i64 b)=some (.int .i64 (IntKind.i64.wrap (a*b))):=rfl
theorem X1 (P:Program) (t:TypeId) (a b:Int):gf P .add t (.int .i32 a) (.int .i32 b)=some (.int .i32 (IntKind.i32.wrap (a+b))):=rfl
theorem X2 (P:Program) (t:TypeId) (a b:Int):gf P .eql t (.int .i32 a) (.int .i32 b)=some (.bool (bz a b)):=rfl
theorem Ye (P:Program) (mk:bt) (ts:List TypeId) (mu:Bool) (a b:Int) (s:St):my P mk .max ts mu [.int .i32 a,.int .i32 b] s=some (.int .i32 (bif di a b then b else a),s):=by
 have:(IntKind.i32==IntKind.i32)=true:=rfl
 simp only[my,sm,this,cT,aq]
def lD (z:Int):aj:=.int .i32 z
def up (T:List Int) (o:Nat):Int:=(T[o]?).getD 0
def u0 (a b:List aB) (w i k:Nat) (T:List Int):List Int:=
 T.set (i*w+k) (bif(a[i]?).getD []==(b[k]?).getD [] then IntKind.i32.wrap (up T ((i+1)*w+(k+1))+1) else bif di (up T ((i+1)*w+k)) (up T (i*w+(k+1))) then up T (i*w+(k+1)) else up T ((i+1)*w+k))
def uW (a b:List aB) (w i:Nat):Nat->List Int->List Int
 |0,T=>T
 |k+1,T=>uW a b w i k (u0 a b w i k T)
def vC (a b:List aB) (w:Nat):Nat->List Int->List Int
 |0,T=>T
 |i+1,T=>vC a b w i (uW a b w i b.length T)
theorem Wi (a b:List aB) (w i k:Nat) (T:List Int):(u0 a b w i k T).length=T.length:=by simp[u0]
theorem GJ (a b:List aB) (w i:Nat): ∀(k:Nat) (T:List Int),(uW a b w i k T).length=T.length
 |0,_=>rfl
 |k+1,T=>by rw[uW,GJ a b w i k,Wi]
theorem yQ {T:List Int} {o:Nat} (h:o<T.length):((T.map lD).drop o).head?=some (lD (up T o)):=by
 rw[List.head?_drop,List.getElem?_map,up,j2 h];rfl
theorem WW {T:List Int} {o:Nat} (h:o<T.length) (z:Int):dl (T.map lD) o [lD z]=some ((T.set o z).map lD):=by
 have h1:cK (o+1) (T.map lD).length=true:=fe (by rw[fw];omega)
 simp only[dl,aR,aY,aQ,h1,cT]
 rw[List.map_set,List.set_eq_take_append_cons_drop,if_pos (by rw[fw];exact h)]
 rfl
structure mX (s:St) (bw ba row w:Nat) (T:List Int):Prop where
 hw:s.get [] bw=some (.cells [.int .i64 w])
 ha:s.get [] ba=some (.cells [.arr 1 row 0 T.length T.length])
 hr:s.get [] row=some (.cells (T.map lD))
 ne:row≠bw/\row≠ba
 minw:s.minw<=s.next
theorem mX.top {s:St} {bw ba row w:Nat} {T:List Int} (t:mX s bw ba row w T):mX s.top bw ba row w T:=⟨t.hw,t.ha,t.hr,t.ne,bK _⟩
theorem uo {sp:FuncId->Option (List aj->Option aj)} (h183:sp 183=none) {s:St} {bw ba row w:Nat} {T:List Int} (t:mX s bw ba row w T) {i k:Nat} (hik:i*w+k<T.length) (hT:T.length<100000000):bv (QS sp) 183 [.int .i64 i,.int .i64 k,.ptr ba 0,.ptr bw 0] s (.ptr row (i*w+k)) s:=by
 have hw:=t.hw
 have ha:=t.ha
 have w1:IntKind.i64.wrap ((i:Int)*(w:Int))=((i*w:Nat):Int):=by
  have h2:((i*w:Nat):Int)<100000000:=by omega
  rw[show((i:Int)*(w:Int))=((i*w:Nat):Int) by simp,eh (by omega) (by omega)]
 have w2:IntKind.i64.wrap (((i*w:Nat):Int)+(k:Int))=((i*w+k:Nat):Int):=by rw[eh (by omega) (by omega)];omega
 have hnat:fV (.int .i64 ((i*w+k:Nat):Int))=some (i*w+k):=rfl
 refine dZ afG afF afI afH h183 ?_
 unfold Md
 refine aF ?_
 unfold Me
 simp only[dr,cZ,aw,az,aA,aM,aH,au,cT,aR,aY,tA,aQ,ar,bJ,ck,cd,dT,ja]
 refine aF ?_
 unfold Mf
 simp only[aw,az,aA,ai,aG,aM,bn,aU,dI,ak,aD,sn,au,dW,aq,a7,cT,cF,aP,aZ,bE,bS,tA,aQ,ah,ar,iq,aX,dA,dT,eC,an4,adN,dH,hw,ha,dG,Ib,w1,w2,hik,Nat.mul_one]
 exact bP ⟨rfl,.inr rfl,bV (by simp only[ai,ah,cT,cF, *]) rfl⟩
theorem uq {e:bq} {x:Operand} {av:Array Operand} {ts:Array TypeId} {ba bw:Nat} (h:ev e x=some (.func (.func 183) [] [.ptr ba 0,.ptr bw 0])):callee e ⟨.value x,av,ts⟩=(evcs e av.toList).bind fun args=>some (183,args++[.ptr ba 0,.ptr bw 0]):=by
 simp only[callee,h,aq,cy]
structure xj (e e':bq):Prop where
 h0:ay e' 0=ay e 0
 h1:ay e' 1=ay e 1
 h7:ay e' 7=ay e 7
section
variable {sp:FuncId->Option (List aj->Option aj)} (h183:sp 183=none) {va vb:aj} {a b:List aB} (ha:bH 1 bB va a) (hb:bH 1 bB vb b) (sa:a.length<=2000) (sb:b.length<=2000) {bw ba row:Nat}
include h183 ha hb sa sb
theorem aou {i:Nat} (hi:i<a.length): ∀(k:Nat) (e:bq) (lc:Ag.Loc) (s:St) (T:List Int),k<=b.length->mX s bw ba row (b.length+1) T->T.length=(a.length+1)*(b.length+1)->
 ay e 0=va->ay e 1=vb->ay e 7= .func (.func 183) [] [.ptr ba 0,.ptr bw 0]->ay e 8= .int .i64 i->ay e 9= .int .i64 ((k:Int)-1)->
 W (QS sp) 115 (.loop xW) ⟨e,130,lc⟩ s fun x fr s'=>x= .exit 2/\fr.size=130/\xj e fr.env/\ay fr.env 8= .int .i64 i/\mX s' bw ba row (b.length+1) (uW a b (b.length+1) i k T)/\s'.next=s.next/\s'.ci=s.ci:=by
 have ca:=ha.clean
 have cb:=hb.clean
 intro k
 induction k with
 |zero=>
  intro e lc s T hk t hT h0 h1 h7 h8 h9
  have hge:gX 0 ((0:Nat)-1:Int)=false:=rfl
  refine cY ?_
  unfold xW
  refine aV (aV (cp ?_))
  unfold D7
  simp only[aw,az,aA,ai,aG,aU,ak,aH,aD,bm,au,j7,aq,a7,cT,aP,bS,tA,ar,h9,hge,aW]
  refine bc (t:=false) (by simp only[ak,ai,ah,cT,cF, *]) (eL ?_)
  exact⟨rfl,rfl,⟨by simp only[ai,ah,cF, *],by simp only[ai,ah,cF, *],by simp only[ai,ah,cF, *]⟩,by simp only[ai,ah,cF, *],t,rfl,rfl⟩
 |succ k ih=>
  intro e lc s T hk t hT h0 h1 h7 h8 h9
  have hkb:k<b.length:=hk
  have hge:gX 0 (((k+1:Nat):Int)-1)=true:=by rw[show(((k+1:Nat):Int)-1)=((k:Nat):Int) by omega,show(0:Int)=((0:Nat):Int) from rfl,oN];simp
  have e9:ay e 9= .int .i64 (k:Nat):=by rw[h9];congr 1;omega
  have hu:a[i]? =some a[i]:=j2 hi
  have hv:b[k]? =some b[k]:=j2 hkb
  have hia:=fun lc=>ha.at lF hu lc .i64
  have hib:=fun lc=>hb.at lF hv lc .i64
  have wi:IntKind.i64.wrap ((i:Int)+1)=((i+1:Nat):Int):=by rw[eh (by omega) (by omega)];omega
  have wk:IntKind.i64.wrap ((k:Int)+1)=((k+1:Nat):Int):=by rw[eh (by omega) (by omega)];omega
  have wk2:IntKind.i64.wrap ((k:Int)-1)=(k:Int)-1:=eh (by omega) (by omega)
  have hN:(a.length+1)*(b.length+1)<=2001*2001:=Nat.mul_le_mul (by omega) (by omega)
  have hT2:T.length<100000000:=by omega
  have q0:(i+1)*(b.length+1)+(b.length+1)<=(a.length+1)*(b.length+1):=by
   have:=vr (b.length+1) (show i+1+1<=a.length+1 by omega)
   rw[nI,Nat.one_mul] at this;exact this
  have q00:(i+1)*(b.length+1)=i*(b.length+1)+(b.length+1):=by rw[nI,Nat.one_mul]
  have p0:i*(b.length+1)+k<T.length:=by omega
  have p1:(i+1)*(b.length+1)+(k+1)<T.length:=by omega
  have p2:(i+1)*(b.length+1)+k<T.length:=by omega
  have p3:i*(b.length+1)+(k+1)<T.length:=by omega
  have hrow:=t.hr
  have hsc1:(bB a[i]).cells=[bB a[i]]:=rfl
  have hsc2:(bB b[k]).cells=[bB b[k]]:=rfl
  have step: ∀z,z=(bif(a[i]?).getD []==(b[k]?).getD [] then IntKind.i32.wrap (up T ((i+1)*(b.length+1)+(k+1))+1) else bif di (up T ((i+1)*(b.length+1)+k)) (up T (i*(b.length+1)+(k+1))) then up T (i*(b.length+1)+(k+1)) else up T ((i+1)*(b.length+1)+k))->
   ∀s',(∀n,s'.get [] n=(s.put row (some (.cells ((T.set (i*(b.length+1)+k) z).map lD)))).get [] n)->s'.minw<=s'.next->mX s' bw ba row (b.length+1) (u0 a b (b.length+1) i k T):=fun z hz s' hg hm=>by
   have hst:u0 a b (b.length+1) i k T=T.set (i*(b.length+1)+k) z:=by rw[u0,hz]
   rw[hst]
   refine⟨?_,?_,?_,t.ne,hm⟩
   ·rw[hg,cX,beq_eq_false_iff_ne.2 (fun h=>t.ne.1 h.symm)];exact t.hw
   ·rw[hg,cX,beq_eq_false_iff_ne.2 (fun h=>t.ne.2 h.symm),List.length_set];exact t.ha
   ·rw[hg,cX,bS];rfl
  have fin: ∀(e':bq) (s':St),xj e e'->ay e' 8= .int .i64 i->ay e' 9= .int .i64 (k:Nat)->mX s' bw ba row (b.length+1) (u0 a b (b.length+1) i k T)->s'.next=s.next->s'.ci=s.ci->
   W (QS sp) 115 (.region D8) ⟨e',130,lc⟩ s' (Ex.next (fun x fr s'=>x= .exit 2/\fr.size=130/\xj e fr.env/\ay fr.env 8= .int .i64 i/\mX s' bw ba row (b.length+1) (uW a b (b.length+1) i (k+1) T)/\s'.next=s.next/\s'.ci=s.ci) fun fr s'=>W (QS sp) 115 (.loop xW) fr s' fun x fr s'=>x= .exit 2/\fr.size=130/\xj e fr.env/\ay fr.env 8= .int .i64 i/\mX s' bw ba row (b.length+1) (uW a b (b.length+1) i (k+1) T)/\s'.next=s.next/\s'.ci=s.ci):=by
   intro e' s' kp e8 e9' t' hn hc
   have e9'':=e9'
   refine cp ?_
   unfold D8
   simp only[aw,az,aA,ai,aG,aM,aU,ak,aH,aD,bm,au,pY,aq,a7,cT,cF,aP,bS,tA,ah,ar,e9'',wk2,aW]
   refine jy (ih _ lc s' _ (by omega) t' (by rw[Wi];exact hT) ?_ ?_ ?_ ?_ ?_) ?_
   ·simp only[ai,ah,cF,kp.h0,h0]
   ·simp only[ai,ah,cF,kp.h1,h1]
   ·simp only[ai,ah,cF,kp.h7,h7]
   ·simp only[ai,ah,cF,e8]
   ·simp only[ai,ah,cT]
   rintro x fr s2 ⟨rfl,g1,g2,g3,g4,g5,g6⟩
   refine⟨rfl,g1,⟨g2.h0.trans ?_,g2.h1.trans ?_,g2.h7.trans ?_⟩,g3,g4,g5.trans hn,g6.trans hc⟩
   ·simp only[ai,ah,cF,kp.h0]
   ·simp only[ai,ah,cF,kp.h1]
   ·simp only[ai,ah,cF,kp.h7]
  refine cY ?_
  unfold xW
  refine aV (aV (cp ?_))
  unfold D7
  simp only[aw,az,aA,ai,aG,aU,ak,aH,aD,bm,au,j7,aq,a7,cT,aP,bS,tA,ar,h9,hge,aW]
  refine bc (t:=true) (by simp only[ak,ai,ah,cT,cF, *]) (b7 ?_)
  simp only[aW]
  refine aV (cR (W.sdrawQ t.minw ?_))
  unfold J9
  simp only[d8,d7,ec,isStore,ai,aG,bn,aU,dI,ak,aD,dR,au,jr,ji,aq,cw,cT,cF,aP,aZ,bE,bS,tA,ah,ar,dv,h0,h1,e9,h8,hia,hib,bB]
  cases hz:a[i]==b[k] with
  |true=>
   have hz0:((a[i]?).getD []==(b[k]?).getD [])=true:=by rw[hu,hv];exact hz
   refine bc (t:=true) (by simp only[ak,ai,ah,cT,cF]) (gH (gd 3 ?_))
   unfold Ka
   simp only[aw,az,aA,ai,aG,ak,au,cF,bO,aZ,tA,ah,ar,h7,h8,e9]
   refine gq (g:=183) (args:=[.int .i64 (i:Nat),.int .i64 (k:Nat),.ptr ba 0,.ptr bw 0]) ?_ (uo h183 t p0 hT2) (by decide) ?_
   ·rw[uq (ba:=ba) (bw:=bw) (by simp only[ak,ai,ah,cT,cF])]
    simp only[ai,ak,aD,bh,bk,aq,a7,cT,cF,cy,cP,bS,ah]
   refine gd 5 ?_
   simp only[aw,az,aA,ai,aG,aU,ak,aH,aD,bm,au,dW,aq,a7,cT,cF,aP,bO,aZ,bS,tA,ah,ar,h7,h8,e9,wi,wk]
   refine gq (g:=183) (args:=[.int .i64 ((i+1:Nat):Int),.int .i64 ((k+1:Nat):Int),.ptr ba 0,.ptr bw 0]) ?_ (uo h183 t p1 hT2) (by decide) ?_
   ·rw[uq (ba:=ba) (bw:=bw) (by simp only[ak,ai,ah,cT,cF])]
    simp only[ai,ak,aD,bh,bk,aq,a7,cT,cF,cy,cP,bS,ah]
   refine gp ?_
   have hup:=yQ p1
   have hwr:=WW p0 (IntKind.i32.wrap (up T ((i+1)*(b.length+1)+(k+1))+1))
   simp only[lD] at hup hwr hrow
   simp only[aw,az,eD,aA,eE,ai,bn,eN,aU,gh,ak,aH,aD,bm,au,xu,aq,a7,cT,cF,aP,aR,aY,bS,tA,aQ,ah,ar,dX,aX,dA,dT,yD,Wp,gg,dH,hrow,dG,hup,X1,kW,kV,hwr,dM,aW]
   refine fin _ _ ?_ ?_ ?_ ?_ ?_ ?_
   ·exact⟨by simp only[ai,ah,cF, *],by simp only[ai,ah,cF, *],by simp only[ai,ah,cF, *]⟩
   ·simp only[ai,ah,cF, *]
   ·simp only[ai,ah,cF];exact e9
   ·exact step _ (by rw[hz0];rfl) _ (fun n=>rfl) (jW s row _ t.minw)
   ·rfl
   ·rfl
  |false=>
   have hz0:((a[i]?).getD []==(b[k]?).getD [])=false:=by rw[hu,hv];exact hz
   refine bc (t:=false) (by simp only[ak,ai,ah,cT,cF]) (W.drawD ?_)
   rw[show nS=nS.take 3++(nS.drop 3) from(oe 3 _).symm]
   refine WD.calmOps t.minw (fun _ h=>by cases h) (fun _ h=>by cases h) ?_
   unfold nS
   simp only[d8,d7,ec,isStore,ai,aG,ak,au,cF,aR,aY,bO,aZ,cy,cP,tA,aQ,ah,ar,bJ,h7,h8,e9]
   intro rs1 c1 i1
   refine WD.calmCall t.minw (g:=183) (args:=[.int .i64 (i:Nat),.int .i64 (k:Nat),.ptr ba 0,.ptr bw 0]) c1 i1 ?_ (uo h183 t.top p0 hT2) (by decide) (fun rs2 c2 i2=>?_)
   ·rw[uq (ba:=ba) (bw:=bw) (by simp only[ak,ai,ah,cT,cF])]
    simp only[ai,ak,aD,bh,bk,aq,a7,cT,cF,cy,cP,bS,ah]
   refine WD.calmOps (l1:=nS.drop 4|>.take 4) (l2:=nS.drop 8) t.minw c2 i2 ?_
   unfold nS
   simp only[d8,d7,ec,isStore,ai,aG,aU,ak,aH,aD,bm,au,dW,aq,a7,cT,cF,aP,aR,aY,bO,aZ,gZ,e7,bS,tA,aQ,ah,ar,bJ,h7,h8,e9,wi]
   intro rs3 c3 i3
   refine WD.calmCall t.minw (g:=183) (args:=[.int .i64 ((i+1:Nat):Int),.int .i64 (k:Nat),.ptr ba 0,.ptr bw 0]) c3 i3 ?_ (uo h183 t.top p2 hT2) (by decide) (fun rs4 c4 i4=>?_)
   ·rw[uq (ba:=ba) (bw:=bw) (by simp only[ak,ai,ah,cT,cF])]
    simp only[ai,ak,aD,bh,bk,aq,a7,cT,cF,cy,cP,bS,ah]
   have hup2:=yQ p2
   have hup3:=yQ p3
   have hrt:s.top.get [] row=some (.cells (T.map lD)):=hrow
   simp only[lD] at hup2 hup3 hrt
   refine WD.calmOps (l1:=nS.drop 9|>.take 6) (l2:=nS.drop 15) t.minw c4 i4 ?_
   unfold nS
   simp only[d8,d7,ec,isStore,ai,aG,bn,aU,gh,ak,aH,aD,bm,au,dW,aq,a7,cT,cF,aP,aR,aY,bO,aZ,gZ,e7,bS,tA,aQ,ah,ar,bJ,yD,h7,h8,e9,wk,gg,dH,hrt,dG,hup2,bO,aZ]
   intro rs5 c5 i5
   refine WD.calmCall t.minw (g:=183) (args:=[.int .i64 (i:Nat),.int .i64 ((k+1:Nat):Int),.ptr ba 0,.ptr bw 0]) c5 i5 ?_ (uo h183 t.top p3 hT2) (by decide) (fun rs6 c6 i6=>?_)
   ·rw[uq (ba:=ba) (bw:=bw) (by simp only[ak,ai,ah,cT,cF])]
    simp only[ai,ak,aD,bh,bk,aq,a7,cT,cF,cy,cP,bS,ah]
   refine WD.calmOps (l1:=nS.drop 16|>.take 4) (l2:=nS.drop 20) t.minw c6 i6 ?_
   unfold nS
   simp only[d8,d7,ec,isStore,ai,bn,gh,cG,ak,aD,bh,bk,au,bZ,bG,aq,a7,cT,cF,aP,bW,aR,aY,bO,aZ,gZ,e7,bS,tA,aQ,ah,ar,bJ,aX,yD,gg,dH,hrt,dG,hup3,Ye,bO,aZ]
   intro rs7 c7 i7
   have hwr:=WW p0 (bif di (up T ((i+1)*(b.length+1)+k)) (up T (i*(b.length+1)+(k+1))) then up T (i*(b.length+1)+(k+1)) else up T ((i+1)*(b.length+1)+k))
   simp only[lD] at hwr
   refine WD.fullL (v:=iB) (lc:=lc) (s1:=s.top.put row (some (.cells ((T.set (i*(b.length+1)+k) (bif di (up T ((i+1)*(b.length+1)+k)) (up T (i*(b.length+1)+(k+1))) then up T (i*(b.length+1)+(k+1)) else up T ((i+1)*(b.length+1)+k))).map lD)))) i7 (by decide) rfl ?_ rfl rfl (fun rs8 k8=>?_)
   ·simp only[ai,eN,ak,aD,xu,aq,a7,cT,cF,aP,aR,aY,bS,aQ,ah,ar,dX,aX,dA,dT,Wp,kW,hrt,kV,hwr]
   refine WD.nil ?_
   simp only[dM,aW]
   refine fin _ _ ?_ ?_ ?_ ?_ ?_ ?_
   ·exact⟨by simp only[ai,ah,cF, *],by simp only[ai,ah,cF, *],by simp only[ai,ah,cF, *]⟩
   ·simp only[ai,ah,cF, *]
   ·simp only[ai,ah,cF];exact e9
   ·refine step _ (by rw[hz0];rfl) _ (fun n=>rfl) ?_
    show(bif cK s.minw _ then s.minw else _)<=s.next
    cases cK s.minw _ with
    |true=>exact t.minw
    |false=>exact jW s.top row _ (bK _)
   ·rfl
   ·rfl
end
theorem anG {Q:cI} {f:FuncId} {e:bq} {sz:Nat} {lc:Ag.Loc} {s:St} {d:Option Tmp} {g:SG} {mk:bt} (t:TypeId) (l c:Operand):eP Q f ⟨d,.makeSlice t l c,g⟩ mk ⟨e,sz,lc⟩ s=(ev e l).bind fun l=>(ev e c).bind fun c=>ii (tD Q.P t l c (bo (nR (Q.hint f) d) 2) s) lc:=rfl
theorem VF (z:aj): ∀n,gU [z] n=xd n z
 |0=>rfl
 |n+1=>by
  show [z]++gU [z] n=_
  rw[VF z n];rfl
theorem amj {N:Nat} (h0:0<N) (hN:N<100000000) (s:St):tD Tryz.prog 289 (.int .i64 N) (.int .i64 N) false s=some (.arr 1 s.next 0 N N,s.new (.cells ((xd N 0).map lD))):=by
 have hna:fV (.int .i64 ((N:Nat):Int))=some N:=rfl
 have h1:cK N N=true:=fe (bK _)
 have h2:cK (N*4) 1099511627776=true:=fe (by omega)
 have h3:cK N 1099511627776=true:=fe (by omega)
 have h4:bo N 0=false:=by rw[aX];exact beq_eq_false_iff_ne.2 (by omega)
 have h5:jG Tryz.prog 289=some ⟨1,4,false,(.int .i32 0)⟩:=Zo
 simp only[tD,h5,aq,hna,h1,h2,h3,h4,fL,cT,Bool.false_and,cF]
 rw[show(aj.int IntKind.i32 0).cells=[lD 0] from rfl,VF,List.map_replicate]
def pG (p:Nat×Nat):aj:=.agg [.int .i64 p.1,.int .i64 p.2]
def nF (T:List Int) (a b:List aB) (w:Nat):Nat->Nat->Nat->List (Nat×Nat)
 |0,_,_=>[]
 |n+1,i,k=>if i<a.length/\k<b.length then
   bif(a[i]?).getD []==(b[k]?).getD [] then(i,k)::nF T a b w n (i+1) (k+1)
   else bif bz (up T ((i+1)*w+k)) (up T (i*w+k)) then nF T a b w n (i+1) k else nF T a b w n i (k+1)
  else []
inductive lu (la lb:Nat):Nat->Nat->List (Nat×Nat)->Prop
 |nil {i k:Nat}:lu la lb i k []
 |cons {i k p q:Nat} {l:List (Nat×Nat)}:i<=p->k<=q->p<la->q<lb->lu la lb (p+1) (q+1) l->lu la lb i k ((p,q)::l)
theorem lu.weak {la lb i k i' k':Nat} {l:List (Nat×Nat)} (h:lu la lb i k l) (hi:i'<=i) (hk:k'<=k):lu la lb i' k' l:=by
 cases h with
 |nil=>exact .nil
 |cons a b c d e=>exact .cons (by omega) (by omega) c d e
theorem BU (T:List Int) (a b:List aB) (w:Nat): ∀n i k,lu a.length b.length i k (nF T a b w n i k)
 |0,_,_=>.nil
 |n+1,i,k=>by
  simp only[nF]
  by_cases h:i<a.length/\k<b.length
  ·rw[if_pos h]
   cases (a[i]?).getD []==(b[k]?).getD [] with
   |true=>exact .cons (bK _) (bK _) h.1 h.2 (BU T a b w n _ _)
   |false=>
    cases bz (up T ((i+1)*w+k)) (up T (i*w+k)) with
    |true=>exact(BU T a b w n _ _).weak (by omega) (bK _)
    |false=>exact(BU T a b w n _ _).weak (bK _) (by omega)
  ·rw[if_neg h];exact .nil
theorem lu.length {la lb i k:Nat} {l:List (Nat×Nat)} (h:lu la lb i k l) (hi:i<=la):l.length+i<=la:=by
 induction h with
 |nil=>simpa using hi
 |cons a b c d e ih=>
  have:=ih (by omega)
  simp only[aR];omega
def nU (a b:List aB):List (Nat×Nat):=nF (vC a b (b.length+1) a.length (xd ((a.length+1)*(b.length+1)) 0)) a b (b.length+1) (a.length+b.length) 0 0
theorem uI (a b:List aB):lu a.length b.length 0 0 (nU a b):=BU _ _ _ _ _ _ _
theorem HX (a b:List aB) (w:Nat): ∀(i:Nat) (T:List Int),(vC a b w i T).length=T.length
 |0,_=>rfl
 |i+1,T=>by rw[vC,HX a b w i,GJ]
theorem Yg {e:bq} {x:Operand} {a b:aj} (h:ev e x=some (.agg [a,b])) (s:St):ey Tryz.prog 180 1 [(0,x)] false e s=some (.list 2 [.agg [a,b]] .full,s):=by
 simp only[ey,IL,aq,ee,evc,h,n7,cT,gU,ld,aR,aY,dl,lk,aQ,bJ,jJ,iL,cut]
 rfl
section
variable {sp:FuncId->Option (List aj->Option aj)} (h183:sp 183=none) {va vb:aj} {a b:List aB} (ha:bH 1 bB va a) (hb:bH 1 bB vb b) (sa:a.length<=2000) (sb:b.length<=2000) {bw ba row:Nat}
include h183 ha hb sa sb
theorem XR: ∀(i:Nat) (e:bq) (lc:Ag.Loc) (s:St) (T:List Int),i<=a.length->mX s bw ba row (b.length+1) T->T.length=(a.length+1)*(b.length+1)->
 ay e 0=va->ay e 1=vb->ay e 7= .func (.func 183) [] [.ptr ba 0,.ptr bw 0]->ay e 8= .int .i64 ((i:Int)-1)->
 W (QS sp) 115 (.loop zJ) ⟨e,130,lc⟩ s fun x fr s'=>x= .exit 0/\fr.size=130/\xj e fr.env/\mX s' bw ba row (b.length+1) (vC a b (b.length+1) i T)/\s'.next=s.next/\s'.ci=s.ci:=by
 have cb:=hb.clean
 have hlen:=fun mk s=>hb.len iV jl mk s
 intro i
 induction i with
 |zero=>
  intro e lc s T hi t hT h0 h1 h7 h8
  have hge:gX 0 ((0:Nat)-1:Int)=false:=rfl
  refine cY ?_
  unfold zJ
  refine aV (aV (cp ?_))
  unfold D6
  simp only[aw,az,aA,ai,aG,aU,ak,aH,aD,bm,au,j7,aq,a7,cT,aP,bS,tA,ar,h8,hge,aW]
  refine bc (t:=false) (by simp only[ak,ai,ah,cT,cF, *]) (eL ?_)
  exact⟨rfl,rfl,⟨by simp only[ai,ah,cF, *],by simp only[ai,ah,cF, *],by simp only[ai,ah,cF, *]⟩,t,rfl,rfl⟩
 |succ i ih=>
  intro e lc s T hi t hT h0 h1 h7 h8
  have hge:gX 0 (((i+1:Nat):Int)-1)=true:=by rw[show(((i+1:Nat):Int)-1)=((i:Nat):Int) by omega,show(0:Int)=((0:Nat):Int) from rfl,oN];simp
  have e8:ay e 8= .int .i64 (i:Nat):=by rw[h8];congr 1;omega
  have w1:IntKind.i64.wrap ((b.length:Int)-1)=(b.length:Int)-1:=eh (by omega) (by omega)
  have w2:IntKind.i64.wrap ((i:Int)-1)=(i:Int)-1:=eh (by omega) (by omega)
  refine cY ?_
  unfold zJ
  refine aV (aV (cp ?_))
  unfold D6
  simp only[aw,az,aA,ai,aG,aU,ak,aH,aD,bm,au,j7,aq,a7,cT,aP,bS,tA,ar,h8,hge,aW]
  refine bc (t:=true) (by simp only[ak,ai,ah,cT,cF, *]) (b7 ?_)
  simp only[aW]
  refine aV (cR (aF ?_))
  unfold Kn
  simp only[aw,az,aA,ai,aG,aM,aU,cG,ak,aH,aD,bh,bk,bm,au,bZ,pY,cW,bG,aq,a7,cT,cF,aP,bW,bS,tA,ah,ar,aX,abn,h1,cb,hlen,w1]
  refine cR ?_
  refine jy (aou h183 ha hb sa sb (i:=i) (by omega) b.length _ lc s T (bK _) t hT ?_ ?_ ?_ ?_ ?_) ?_
  ·simp only[ai,ah,cF, *]
  ·simp only[ai,ah,cF, *]
  ·simp only[ai,ah,cF, *]
  ·simp only[ai,ah,cF];exact e8
  ·simp only[ai,ah,cT]
  rintro x ⟨e',sz',lc'⟩ s' ⟨rfl,hs,kp,g8,t',hn,hc⟩
  have hs:sz'=130:=hs
  subst hs
  have g8:ay e' 8= .int .i64 i:=g8
  have k0:ay e' 0=va:=kp.h0.trans (by simp only[ai,ah,cF, *])
  have k1:ay e' 1=vb:=kp.h1.trans (by simp only[ai,ah,cF, *])
  have k7:ay e' 7= .func (.func 183) [] [.ptr ba 0,.ptr bw 0]:=kp.h7.trans (by simp only[ai,ah,cF, *])
  show W (QS sp) 115 _ _ _ _
  refine cp ?_
  unfold Km
  simp only[aw,az,aA,ai,aG,aM,aU,ak,aH,aD,bm,au,pY,aq,a7,cT,cF,aP,bS,tA,ah,ar,g8,w2,aW]
  refine jy (ih _ lc' s' _ (by omega) t' (by rw[GJ];exact hT) ?_ ?_ ?_ ?_) ?_
  ·simp only[ai,ah,cF, *]
  ·simp only[ai,ah,cF, *]
  ·simp only[ai,ah,cF, *]
  ·simp only[ai,ah,cT]
  rintro x ⟨e2,sz2,lc2⟩ s2 ⟨rfl,hs,kp2,t2,hn2,hc2⟩
  refine⟨rfl,hs,⟨kp2.h0.trans ?_,kp2.h1.trans ?_,kp2.h7.trans ?_⟩,t2,hn2.trans hn,hc2.trans hc⟩
  ·simp only[ai,ah,cF,k0,h0]
  ·simp only[ai,ah,cF,k1,h1]
  ·simp only[ai,ah,cF,k7,h7]
theorem aqa {T:List Int} (hT:T.length=(a.length+1)*(b.length+1)) {lo:Nat} (hlo:bw<lo/\ba<lo/\row<lo): ∀(n i k:Nat) (e:bq) (lc:Ag.Loc) (s:St) (ov:aj) (acc:List (Nat×Nat)),a.length+b.length<=n+(i+k)->acc.length<=i->mX s bw ba row (b.length+1) T->lo<=s.next->gW 2 lo s ov (acc.map pG)->
 ay e 0=va->ay e 1=vb->ay e 7= .func (.func 183) [] [.ptr ba 0,.ptr bw 0]->ay e 10=ov->ay e 11= .int .i64 i->ay e 12= .int .i64 k->i<=a.length->k<=b.length->
 W (QS sp) 115 (.loop xX) ⟨e,130,lc⟩ s fun x fr s'=>x= .exit 4/\fr.size=130/\ ∃ov',ay fr.env 10=ov'/\gW 2 lo s' ov' ((acc++nF T a b (b.length+1) n i k).map pG)/\s'.ci=s.ci:=by
 have ca:=ha.clean
 have cb:=hb.clean
 have hla:=fun mk s=>ha.len iV jl mk s
 have hlb:=fun mk s=>hb.len iV jl mk s
 have stop: ∀(n i k:Nat) (e:bq) (lc:Ag.Loc) (s:St) (ov:aj) (acc:List (Nat×Nat)), ¬(i<a.length/\k<b.length)->gW 2 lo s ov (acc.map pG)->ay e 0=va->ay e 1=vb->ay e 10=ov->ay e 11= .int .i64 i->ay e 12= .int .i64 k->
  W (QS sp) 115 (.loop xX) ⟨e,130,lc⟩ s fun x fr s'=>x= .exit 4/\fr.size=130/\ ∃ov',ay fr.env 10=ov'/\gW 2 lo s' ov' (acc.map pG)/\s'.ci=s.ci:=by
  intro n i k e lc s ov acc hik hO h0 h1 h10 h11 h12
  refine cY ?_
  unfold xX
  refine aV (aV (cp ?_))
  unfold D5
  by_cases hi:i<a.length
  ·have hk: ¬k<b.length:=fun h=>hik ⟨hi,h⟩
   simp only[aw,az,de,aA,dQ,eW,ai,aG,cz,aU,cG,ak,aH,aD,bh,bk,bF,cD,dB,au,bZ,cE,cW,bG,aq,a7,cT,cF,aP,bW,cN,bS,tA,ah,ar,aX,dT,decide_false,DQ,JC,h0,h1,h11,h12,ca,cb,hla,hlb,hi,hk,aW]
   refine bc (t:=false) (by simp only[ak,ai,ah,cT,cF, *]) (eL ⟨rfl,rfl,ov,?_,hO,rfl⟩)
   simp only[ai,ah,cF,h10]
  ·simp only[aw,az,de,aA,eH,fR,ai,aG,cz,aU,cG,ak,aH,aD,bh,bk,bF,cD,du,au,bZ,cE,cW,bG,aq,a7,cT,cF,aP,bW,cN,bS,tA,ah,ar,aX,decide_false,DQ,h0,h11,ca,hla,hi,aW]
   refine bc (t:=false) (by simp only[ak,ai,ah,cT,cF, *]) (eL ⟨rfl,rfl,ov,?_,hO,rfl⟩)
   simp only[ai,ah,cF,h10]
 intro n
 induction n with
 |zero=>
  intro i k e lc s ov acc hn hac t hls hO h0 h1 h7 h10 h11 h12 hia hkb
  have:=stop 0 i k e lc s ov acc (by omega) hO h0 h1 h10 h11 h12
  simpa[nF] using this
 |succ n ih=>
  intro i k e lc s ov acc hn hac t hls hO h0 h1 h7 h10 h11 h12 hia hkb
  by_cases hik:i<a.length/\k<b.length
  ·obtain⟨hi,hk⟩:=hik
   have hu:a[i]? =some a[i]:=j2 hi
   have hv:b[k]? =some b[k]:=j2 hk
   have hja:=fun lc=>ha.at lF hu lc .i64
   have hjb:=fun lc=>hb.at lF hv lc .i64
   have wi:IntKind.i64.wrap ((i:Int)+1)=((i+1:Nat):Int):=by rw[eh (by omega) (by omega)];omega
   have wk:IntKind.i64.wrap ((k:Int)+1)=((k+1:Nat):Int):=by rw[eh (by omega) (by omega)];omega
   have hN:(a.length+1)*(b.length+1)<=2001*2001:=Nat.mul_le_mul (by omega) (by omega)
   have hT2:T.length<100000000:=by omega
   have q0:(i+1)*(b.length+1)+(b.length+1)<=(a.length+1)*(b.length+1):=by
    have:=vr (b.length+1) (show i+1+1<=a.length+1 by omega)
    rw[nI,Nat.one_mul] at this;exact this
   have q00:(i+1)*(b.length+1)=i*(b.length+1)+(b.length+1):=by rw[nI,Nat.one_mul]
   have p0:i*(b.length+1)+k<T.length:=by omega
   have p2:(i+1)*(b.length+1)+k<T.length:=by omega
   have hrow:=t.hr
   have hwalk:nF T a b (b.length+1) (n+1) i k=bif(a[i]?).getD []==(b[k]?).getD [] then(i,k)::nF T a b (b.length+1) n (i+1) (k+1) else bif bz (up T ((i+1)*(b.length+1)+k)) (up T (i*(b.length+1)+k)) then nF T a b (b.length+1) n (i+1) k else nF T a b (b.length+1) n i (k+1):=by
    simp only[nF];rw[if_pos ⟨hi,hk⟩]
   refine cY ?_
   unfold xX
   refine aV (aV (cp ?_))
   unfold D5
   simp only[aw,az,de,aA,dQ,eW,ai,aG,cz,aU,cG,ak,aH,aD,bh,bk,bF,cD,dB,au,bZ,cE,cW,bG,aq,a7,cT,cF,aP,bW,cN,bS,tA,ah,ar,aX,dT,DQ,JC,h0,h1,h11,h12,ca,cb,hla,hlb,hi,hk,aW]
   refine bc (t:=true) (by simp only[ak,ai,ah,cT,cF, *]) (b7 ?_)
   simp only[aW]
   refine cR (cR (aV (W.drawQ t.minw ?_)))
   unfold Ke
   simp only[d8,d7,ec,isStore,ai,aG,aM,bn,aU,dI,ak,aD,dR,au,jr,ji,aq,cw,cT,cF,aP,aZ,bE,bS,tA,ah,ar,dv,h0,h1,h11,h12,hja,hjb,bB,aW]
   cases hz:a[i]==b[k] with
   |true=>
    have hz0:((a[i]?).getD []==(b[k]?).getD [])=true:=by rw[hu,hv];exact hz
    rw[hz0,cT] at hwalk
    have hbs: ∀e s,ay e 105= .agg [.int .i64 (i:Nat),.int .i64 (k:Nat)]->ey Tryz.prog 180 1 [(0,.tmp 105)] false e s=some (.list 2 [.agg [.int .i64 (i:Nat),.int .i64 (k:Nat)]] .full,s):=fun e s h=>Yg (by rw[ak,h]) s
    have hbd: ∀e,ay e 103= .int .i64 (i:Nat)->ay e 104= .int .i64 (k:Nat)->gQ Tryz.prog 183 [(0,.tmp 103),(1,.tmp 104)] e=some (.agg [.int .i64 (i:Nat),.int .i64 (k:Nat)]):=fun e p q=>by
     rw[X4]
     simp only[Hs,aq,ee,evc,ev,p,q,a7,cT]
     rfl
    obtain⟨ov',s',happ,hO',hc',hn',hm',hold,hcell⟩:=xo IL rfl (by decide) (y:=.list 2 [.agg [.int .i64 (i:Nat),.int .i64 (k:Nat)]] .full) (ys:=[pG (i,k)]) hO rfl (by rw[fw,pT];omega) hls t.minw
    have hoc:=hO.clean
    have hoc':=hO'.clean
    have t':mX s' bw ba row (b.length+1) T:=⟨(hold _ hlo.1).trans t.hw,(hold _ hlo.2.1).trans t.ha,(hold _ hlo.2.2).trans t.hr,t.ne,hm'⟩
    refine bc (t:=true) (by simp only[ak,ai,ah,cT,cF]) (aV (cp ?_))
    unfold Kf
    simp only[aw,az,aA,ai,aG,aM,lK,lL,cG,ak,aD,bh,bk,au,bZ,ph,bG,aq,jD,cT,cF,aP,bW,bS,tA,ah,ar,aX,ad3,abh,abi,h10,h11,h12,hoc,hbd,hbs,happ,aW]
    refine cp ?_
    unfold Kg
    simp only[aw,az,aA,ai,aG,aM,aU,ak,aH,aD,bm,au,dW,aq,a7,cT,cF,aP,bS,tA,ah,ar,h11,h12,wi,wk,dM,aW]
    refine jy (ih (i+1) (k+1) _ lc s' ov' (acc++[(i,k)]) (by omega) (by rw[dw,pT];omega) t' (by omega) (by rw[mm];exact hO') ?_ ?_ ?_ ?_ ?_ ?_ (by omega) (by omega)) ?_
    ·simp only[ai,ah,cF, *]
    ·simp only[ai,ah,cF, *]
    ·simp only[ai,ah,cF, *]
    ·simp only[ai,ah,cT,cF]
    ·simp only[ai,ah,cT,cF]
    ·simp only[ai,ah,cT,cF]
    rintro x fr s2 ⟨rfl,g1,ov2,g2,g3,g4⟩
    refine⟨rfl,g1,ov2,g2,?_,g4.trans hc'⟩
    rw[hwalk]
    rw[List.append_assoc] at g3
    exact g3
   |false=>
    have hz0:((a[i]?).getD []==(b[k]?).getD [])=false:=by rw[hu,hv];exact hz
    rw[hz0,cF] at hwalk
    have hup2:=yQ p2
    have hup0:=yQ p0
    have hrt:s.top.get [] row=some (.cells (T.map lD)):=hrow
    simp only[lD] at hup2 hup0 hrt
    refine bc (t:=false) (by simp only[ak,ai,ah,cT,cF]) ?_
    refine aV (W.drawD ?_)
    rw[show qU=qU.take 4++(qU.drop 4) from(oe 4 _).symm]
    refine WD.calmOps t.minw (fun _ h=>by cases h) (fun _ h=>by cases h) ?_
    unfold qU
    simp only[d8,d7,ec,isStore,ai,aG,aU,ak,aH,aD,bm,au,dW,aq,a7,cT,cF,aP,aR,aY,bO,aZ,cy,cP,bS,tA,aQ,ah,ar,bJ,h7,h11,h12,wi]
    intro rs1 c1 i1
    refine WD.calmCall t.minw (g:=183) (args:=[.int .i64 ((i+1:Nat):Int),.int .i64 (k:Nat),.ptr ba 0,.ptr bw 0]) c1 i1 ?_ (uo h183 t.top p2 hT2) (by decide) (fun rs2 c2 i2=>?_)
    ·rw[uq (ba:=ba) (bw:=bw) (by simp only[ak,ai,ah,cT,cF])]
     simp only[ai,ak,aD,bh,bk,aq,a7,cT,cF,cy,cP,bS,ah]
    refine WD.calmOps (l1:=qU.drop 5|>.take 5) (l2:=qU.drop 10) t.minw c2 i2 ?_
    unfold qU
    simp only[d8,d7,ec,isStore,ai,aG,bn,gh,ak,au,aq,cT,cF,aP,aR,aY,bO,aZ,gZ,e7,bS,tA,aQ,ah,ar,bJ,yD,h7,h11,h12,gg,dH,hrt,dG,hup2,bO,aZ]
    intro rs3 c3 i3
    refine WD.calmCall t.minw (g:=183) (args:=[.int .i64 (i:Nat),.int .i64 (k:Nat),.ptr ba 0,.ptr bw 0]) c3 i3 ?_ (uo h183 t.top p0 hT2) (by decide) (fun rs4 c4 i4=>?_)
    ·rw[uq (ba:=ba) (bw:=bw) (by simp only[ak,ai,ah,cT,cF])]
     simp only[ai,ak,aD,bh,bk,aq,a7,cT,cF,cy,cP,bS,ah]
    refine WD.calmOps (l1:=qU.drop 11) (l2:=[]) t.minw c4 i4 ?_
    unfold qU
    simp only[d8,d7,ec,isStore,ai,aM,bn,aU,gh,ak,aD,au,aq,a7,cT,cF,aP,aR,aY,aZ,gZ,bS,tA,aQ,ah,ar,bJ,yD,gg,dH,hrt,dG,hup0,X2,aZ]
    intro rs5 c5 i5
    refine WD.nil ?_
    simp only[aW]
    cases hy:bz (up T ((i+1)*(b.length+1)+k)) (up T (i*(b.length+1)+k)) with
    |true=>
     rw[hy,cT] at hwalk
     refine bc (t:=true) (by simp only[ak,ai,ah,cT,cF]) (cp ?_)
     unfold Ki
     simp only[aw,az,aA,ai,aG,aM,aU,ak,aH,aD,bm,au,dW,aq,a7,cT,cF,aP,bS,tA,ah,ar,h11,wi,dM,aW]
     refine jy (ih (i+1) k _ lc s ov acc (by omega) (by omega) t hls hO ?_ ?_ ?_ ?_ ?_ ?_ (by omega) (by omega)) ?_
     ·simp only[ai,ah,cF, *]
     ·simp only[ai,ah,cF, *]
     ·simp only[ai,ah,cF, *]
     ·simp only[ai,ah,cF, *]
     ·simp only[ai,ah,cT,cF]
     ·simp only[ai,ah,cF, *]
     rintro x fr s2 ⟨rfl,g1,ov2,g2,g3,g4⟩
     exact⟨rfl,g1,ov2,g2,by rw[hwalk];exact g3,g4⟩
    |false=>
     rw[hy,cF] at hwalk
     refine bc (t:=false) (by simp only[ak,ai,ah,cT,cF]) (cp ?_)
     unfold Kd
     simp only[aw,az,aA,ai,aG,aM,aU,ak,aH,aD,bm,au,dW,aq,a7,cT,cF,aP,bS,tA,ah,ar,h12,wk,dM,aW]
     refine jy (ih i (k+1) _ lc s ov acc (by omega) (by omega) t hls hO ?_ ?_ ?_ ?_ ?_ ?_ (by omega) (by omega)) ?_
     ·simp only[ai,ah,cF, *]
     ·simp only[ai,ah,cF, *]
     ·simp only[ai,ah,cF, *]
     ·simp only[ai,ah,cF, *]
     ·simp only[ai,ah,cF, *]
     ·simp only[ai,ah,cT,cF]
     rintro x fr s2 ⟨rfl,g1,ov2,g2,g3,g4⟩
     exact⟨rfl,g1,ov2,g2,by rw[hwalk];exact g3,g4⟩
  ·have hw:nF T a b (b.length+1) (n+1) i k=[]:=by
    simp only[nF];rw[if_neg hik]
   rw[hw,iQ]
   exact stop 0 i k e lc s ov acc hik hO h0 h1 h10 h11 h12
end
theorem alV {sp:FuncId->Option (List aj->Option aj)} (h115:sp 115=none) (h183:sp 183=none) {va vb:aj} {a b:List aB} (ha:bH 1 bB va a) (hb:bH 1 bB vb b) (sa:a.length<=2000) (sb:b.length<=2000) {s:St} (hm:s.minw<=s.next):
 ∃ov s',bv (QS sp) 115 [va,vb] s ov s'/\gW 2 (s.next+3) s' ov ((nU a b).map pG)/\s'.ci=s.ci:=by
 have ca:=ha.clean
 have cb:=hb.clean
 have hla:=fun mk s=>ha.len iV jl mk s
 have hlb:=fun mk s=>hb.len iV jl mk s
 have wa:IntKind.i64.wrap ((a.length:Int)+1)=((a.length+1:Nat):Int):=by rw[eh (by omega) (by omega)];omega
 have wb:IntKind.i64.wrap ((b.length:Int)+1)=((b.length+1:Nat):Int):=by rw[eh (by omega) (by omega)];omega
 have wa1:IntKind.i64.wrap ((a.length:Int)-1)=(a.length:Int)-1:=eh (by omega) (by omega)
 have hN:(a.length+1)*(b.length+1)<=2001*2001:=Nat.mul_le_mul (by omega) (by omega)
 have hN0:0<(a.length+1)*(b.length+1):=Nat.mul_pos (by omega) (by omega)
 have wm:IntKind.i64.wrap (((a.length+1:Nat):Int)*((b.length+1:Nat):Int))=(((a.length+1)*(b.length+1):Nat):Int):=by
  rw[<-Int.natCast_mul,eh (by omega) (by omega)]
 have hmk:=fun s=>amj hN0 (by omega) s
 refine bv.ofEx aes aer aeu aet h115 ?_
 unfold J6
 refine aF ?_
 unfold J7
 simp only[dr,cZ,aw,az,aA,aM,aH,au,cT,aR,aY,tA,aQ,ar,bJ,ck,cd,dT,ofValue,gD]
 refine aF ?_
 unfold J8
 have hself:(s.new (.cells [.int .i64 0])).get [] s.next=some (.cells [.int .i64 0]):=by rw[dy,bS];rfl
 simp only[aw,az,eD,aA,eE,ai,aG,gY,eN,aU,cG,ak,aH,aD,bh,bk,bm,i9,au,bZ,dW,cW,bG,xu,aq,a7,cT,cF,aP,bW,aR,aY,dl,bO,aZ,gZ,cy,iQ,bS,tA,aQ,ah,ar,ck,dX,aX,dA,cd,dT,apn,aqz,abo,abj,cb,hlb,wb,i9,kW,hself,kV]
 obtain⟨s1,hs1⟩: ∃x,x=(s.new (.cells [.int .i64 0])).put s.next (some (.cells [.int .i64 ((b.length+1:Nat):Int)])):=⟨_,rfl⟩
 rw[<-hs1]
 have hw1:s1.get [] s.next=some (.cells [.int .i64 ((b.length+1:Nat):Int)]):=by rw[hs1,cX,bS];rfl
 have n1:s1.next=s.next+1:=by rw[hs1];rfl
 have m1:s1.minw<=s1.next:=by rw[hs1];exact jW _ _ _ (lj hm)
 have c1:s1.ci=s.ci:=by rw[hs1];rfl
 refine aF ?_
 unfold Kh
 have hself2: ∀o,((s1.new o).new (.cells [.nils])).get [] (s1.next+1)=some (.cells [.nils]):=fun o=>by rw[dy,jF,bS];rfl
 simp only[aw,az,eD,aA,eE,ai,aG,gY,bn,eN,aU,cG,ak,aH,aD,bh,bk,bm,i9,au,bZ,dW,cW,bG,aq,a7,cT,cF,aP,bW,aR,aY,dl,bO,aZ,bE,gZ,cy,iQ,bS,tA,aQ,ah,ar,ck,dX,aX,dA,cd,dT,eC,apm,aqy,abp,abk,abl,ca,hla,wa,dH,hw1,dG,Ib,wm,anG,hmk,CO,CM,i9,xw,jF,kW,hself2,kV]
 obtain⟨s3,hs3⟩: ∃x,x=((s1.new (.cells ((xd ((a.length+1)*(b.length+1)) 0).map lD))).new (.cells [.nils])).put (s1.next+1) (some (.cells [.arr 1 s1.next 0 ((a.length+1)*(b.length+1)) ((a.length+1)*(b.length+1))])):=⟨_,rfl⟩
 rw[<-hs3]
 have n3:s3.next=s1.next+2:=by rw[hs3];rfl
 have c3:s3.ci=s.ci:=by rw[hs3];exact c1
 have t3:mX s3 s.next (s1.next+1) s1.next (b.length+1) (xd ((a.length+1)*(b.length+1)) 0):=by
  have hg: ∀n,n<s1.next->s3.get [] n=s1.get [] n:=fun n h=>by
   rw[hs3,cX,beq_eq_false_iff_ne.2 (by omega:n≠s1.next+1),cF,dy,jF,beq_eq_false_iff_ne.2 (by omega:n≠s1.next+1),cF,dy,beq_eq_false_iff_ne.2 (by omega:n≠s1.next)];rfl
  refine⟨(hg _ (by omega)).trans hw1,?_,?_,⟨by omega,by omega⟩,?_⟩
  ·rw[hs3,cX,bS,List.length_replicate];rfl
  ·rw[hs3,cX,beq_eq_false_iff_ne.2 (by omega:s1.next≠s1.next+1),cF,dy,jF,beq_eq_false_iff_ne.2 (by omega:s1.next≠s1.next+1),cF,dy,bS];rfl
  ·rw[hs3];exact jW _ _ _ (by show s1.minw<=s1.next+1+1;omega)
 refine aF ?_
 unfold Kk
 simp only[aw,az,aA,ai,aM,wJ,ak,aD,bh,bk,au,aq,ez,cT,cF,bS,tA,ah,ar,pz]
 refine aV (aF ?_)
 unfold Kl
 simp only[aw,az,aA,ai,aG,aM,aU,cG,ak,aH,aD,bh,bk,bm,au,bZ,pY,cW,bG,aq,a7,cT,cF,aP,bW,bS,tA,ah,ar,aX,abm,ca,hla,wa1]
 refine cR ?_
 refine jy (XR h183 ha hb sa sb a.length _ _ s3 _ (bK _) t3 (List.length_replicate ..) ?_ ?_ ?_ ?_) ?_
 ·simp only[ai,ah,cT,cF, *]
 ·simp only[ai,ah,cT,cF, *]
 ·simp only[ai,ah,cT,cF, *]
 ·simp only[ai,ah,cT,cF, *]
 rintro x ⟨e,sz,lc⟩ s4 ⟨rfl,hs,kp,t4,n4,c4⟩
 have hs:sz=130:=hs
 subst hs
 have k0:ay e 0=va:=kp.h0.trans (by simp only[ai,ah,cT,cF, *])
 have k1:ay e 1=vb:=kp.h1.trans (by simp only[ai,ah,cT,cF, *])
 have k7:ay e 7= .func (.func 183) [] [.ptr (s1.next+1) 0,.ptr s.next 0]:=kp.h7.trans (by simp only[ai,ah,cT,cF, *])
 show W (QS sp) 115 _ _ _ _
 refine aF ?_
 unfold Kb
 simp only[aw,az,aA,aM,aH,au,tA,ar,ofValue,gD]
 refine aV (aF ?_)
 unfold Kc
 simp only[aw,az,aA,aM,aH,bm,au,tA,ar]
 refine cR ?_
 refine jy (aqa h183 ha hb sa sb (T:=vC a b (b.length+1) a.length (xd ((a.length+1)*(b.length+1)) 0)) (by rw[HX,List.length_replicate]) (lo:=s.next+3) ⟨by omega,by omega,by omega⟩ (a.length+b.length) 0 0 _ _ s4 .nils [] (by omega) (bK _) t4 (by omega) (.inl ⟨rfl,rfl⟩) ?_ ?_ ?_ ?_ ?_ ?_ (iK _) (iK _)) ?_
 ·simp only[ai,ah,cF, *]
 ·simp only[ai,ah,cF, *]
 ·simp only[ai,ah,cF, *]
 ·simp only[ai,ah,cT,cF, *]
 ·simp only[ai,ah,cT,cF];rfl
 ·simp only[ai,ah,cT,cF];rfl
 rintro x ⟨e2,sz2,lc2⟩ s5 ⟨rfl,hs,ov,h10,hO,c5⟩
 have hs:sz2=130:=hs
 subst hs
 have h10:ay e2 10=ov:=h10
 have hoc:=hO.clean
 show W (QS sp) 115 _ _ _ _
 refine aF ?_
 unfold Kj
 simp only[aw,az,aA,ai,aG,aM,ak,au,cT,bS,tA,ar,h10]
 exact bP ⟨.inr rfl,ov,bV (by simp only[ai,ah,cT,cF, *]) hoc,hO,c5.trans (c4.trans c3)⟩
def F5 (l:List (Nat×Nat)):aj:=match l with
 | []=>.nils
 |l=>.list 2 (l.map pG) .no
theorem Ua (l:List (Nat×Nat)):bH 2 pG (F5 l) l:=by
 cases l with
 |nil=>exact .inl ⟨rfl,rfl⟩
 |cons a l=>exact .inr ⟨.no,rfl⟩
theorem uQ {l:List aj} (h: ∀v∈l,cx v=true):pures l=true:=by
 induction l with
 |nil=>rfl
 |cons a l ih=>
  show(cx a&&pures l)=true
  rw[h a (by simp),ih fun v hv=>h v (by simp[hv])];rfl
def gK (sz:Nat):List aj->aj
 | []=>.nils
 |x::l=>.list sz (x::l) .no
theorem xQ {h:bD bR} {sz lo:Nat} {s:St} {ov:aj} {xs:List aj} (hO:gW sz lo s ov xs) {k:Nat} (hx: ∀v∈xs,dt h k v=some v):dt h (k+1) ov=some (gK sz xs):=by
 rcases hO with⟨rfl,rfl⟩|⟨hne,n,rfl,_⟩
 ·rfl
 ·show(eU (dt h k) xs).bind (fun ys=>some (aj.list sz ys .no))=_
  rw[we hx]
  cases xs with
  |nil=>exact absurd rfl hne
  |cons a l=>rfl
def wv:Sp
 | [u,v]=>bif pures [u,v] then(ic 1 mw u).bind fun a=>(ic 1 mw v).bind fun b=>bif cK a.length 2000&&cK b.length 2000 then some (F5 (nU a b)) else none else none
 |_=>none
theorem UB {va vb:aj} {a b:List aB} (ha:bH 1 bB va a) (hb:bH 1 bB vb b) (pa:cx va=true) (pb:cx vb=true) (sa:a.length<=2000) (sb:b.length<=2000):wv [va,vb]=some (F5 (nU a b)):=by
 have h1:cK a.length 2000=true:=fe sa
 have h2:cK b.length 2000=true:=fe sb
 simp only[wv,pures,pa,pb,fL,cT,ka pf ha,ka pf hb,aq,h1,h2]
theorem alU:ek Tryz.prog 115 wv:=by
 intro args x hv G h w xs wr hx
 unfold wv at hv
 split at hv
 ·rename_i u v
  obtain⟨hp,hv⟩:=cq hv
  simp only[aN] at hv
  obtain⟨a,h1,b,h2,hv⟩:=hv
  obtain⟨hs,hv⟩:=cq hv
  injection hv with hv;subst hv
  simp only[df] at hs
  have ha:=jA (fun v a=>pd) h1
  have hb:=jA (fun v a=>pd) h2
  obtain⟨ov,s',r1,r2,r3⟩:=alV (sp:=fun f=>eR f []) rfl rfl ha hb (iu hs.1) (iu hs.2) (s:=s0) (bK _)
  refine fD (Q:=QT []) (fB .nil) (fun _=>fG 1) (args:=[u,v]) (v:=ov) (s':=s') (kZ hp) (by rw[iP hp];exact r1) r3 ⟨3,?_⟩ G h w xs wr hx
  rw[xQ r2 (k:=2) fun v hv=>?_]
  ·cases nU a b<;>rfl
  ·obtain⟨p,_,rfl⟩:=List.mem_map.1 hv
   rfl
 ·cases hv
def jL (k:Nat):List (Nat×Nat)->Option Nat
 | []=>none
 |(a,b)::l=>bif bo k a then some b else jL k l
def m9 (n:Nat):List (Nat×Nat)->List dx
 | []=>[]
 |(a,b)::l=>⟨.int .i64 a,.int .i64 b,n⟩::m9 (n+1) l
theorem TV (n:Int):oO Tryz.prog 178 (.int .i64 n)=some (3,3):=by kernel_rfl
theorem ZB (a b:Int):kL Tryz.prog 8 3 (.int .i64 a) (.int .i64 b)=some (bz a b):=by kernel_rfl
theorem adX (a b:Nat):bz (a:Int) (b:Int)=bo a b:=by
 rw[qh,aX]
theorem Dp (k:Nat): ∀(l:List (Nat×Nat)) (n i:Nat),(jL k l=none->kN Tryz.prog 3 (.int .i64 k) (m9 n l) i=some none)/\ ∀v,jL k l=some v-> ∃j e,kN Tryz.prog 3 (.int .i64 k) (m9 n l) i=some (some (j,e))/\e.val= .int .i64 v
 | [],n,i=>⟨fun _=>rfl,fun v h=>by cases h⟩
 |(a,b)::l,n,i=>by
  obtain⟨h1,h2⟩:=Dp k l (n+1) (i+1)
  simp only[jL,m9,kN,ZB,adX,aq]
  cases bo k a with
  |true=>exact⟨fun h=>(by cases h),fun v h=>⟨i,_,rfl,(by injection h with h;subst h;rfl)⟩⟩
  |false=>exact⟨h1,h2⟩
theorem IW: ∀(l r:List (Nat×Nat)) (n:Nat),m9 n (l++r)=m9 n l++m9 (n+l.length) r
 | [],r,n=>rfl
 |(a,b)::l,r,n=>by simp only[cP,m9,IW l r (n+1),aR];congr 3;omega
theorem apW {s:St} {m:Nat} {l:List (Nat×Nat)} (hs:s.get [] m=some (.map (m9 0 l) l.length)) {k v:Nat} (hk:jL k l=none):
 mR Tryz.prog [] 178 (.map m) (.int .i64 k) (.int .i64 v) s=some (s.put m (some (.map (m9 0 (l++[(k,v)])) (l++[(k,v)]).length))):=by
 simp only[mR,TV,aq,hs,(Dp k l 0 0).1 hk,IW,m9,aQ,dw,aR,aY]
theorem aqA:fF Tryz.prog 3=some (.int .i64 0):=by kernel_rfl
def AR (o:Option Nat):aj:=match o with
 |some v=>.tup [.int .i64 v,.bool true]
 |none=>.tup [.int .i64 0,.bool false]
theorem alK {s:St} {m:Nat} {l:List (Nat×Nat)} {c:Nat} (hs:s.get [] m=some (.map (m9 0 l) c)) (k:Nat):lZ Tryz.prog [] 178 (.map m) (.int .i64 k) true s=some (AR (jL k l)):=by
 obtain⟨h1,h2⟩:=Dp k l 0 0
 simp only[lZ,TV,aq,aqA,yj,hs]
 cases h:jL k l with
 |none=>rw[h1 h];rfl
 |some v=>
  obtain⟨j,e,h3,h4⟩:=h2 v h
  rw[h3]
  simp only[aq,cT,h4,AR]
def jP (W:List (Nat×Nat)):List (Nat×Nat)->List (Nat×Nat×Nat)
 | []=>[]
 |(a,b)::l=>match jL a W with
  |some k=>(a,b,k)::jP W l
  |none=>jP W l
inductive o8 (la lb lc:Nat):Nat->Nat->Nat->List (Nat×Nat×Nat)->Prop
 |nil {i j k:Nat}:o8 la lb lc i j k []
 |cons {i j k p q r:Nat} {l:List (Nat×Nat×Nat)}:i<=p->j<=q->k<=r->p<=la->q<=lb->r<=lc->o8 la lb lc (p+1) (q+1) (r+1) l->o8 la lb lc i j k ((p,q,r)::l)
theorem o8.weak {la lb lc i j k i' j' k':Nat} {l:List (Nat×Nat×Nat)} (h:o8 la lb lc i j k l) (hi:i'<=i) (hj:j'<=j) (hk:k'<=k):o8 la lb lc i' j' k' l:=by
 cases h with
 |nil=>exact .nil
 |cons a b c d e f g=>exact .cons (by omega) (by omega) (by omega) d e f g
theorem yh {la lc:Nat}: ∀ {W:List (Nat×Nat)} {i k:Nat},lu la lc i k W-> ∀ {p r:Nat},jL p W=some r->i<=p/\k<=r/\r<lc
 | [],i,k,_,p,r,h=>by cases h
 |(a,b)::W,i,k,hr,p,r,h=>by
  cases hr with
  |cons h1 h2 h3 h4 h5=>
   simp only[jL] at h
   cases hb:bo p a with
   |true=>
    rw[hb] at h
    have:=iI hb
    injection h with h
    subst this;subst h
    exact⟨h1,h2,h4⟩
   |false=>
    rw[hb] at h
    have:=yh h5 h
    omega
theorem Un {la lc:Nat}: ∀ {W:List (Nat×Nat)} {i k:Nat},lu la lc i k W-> ∀ {p p' r r':Nat},jL p W=some r->jL p' W=some r'->p<p'->r<r'
 | [],i,k,_,p,p',r,r',h,_,_=>by cases h
 |(a,b)::W,i,k,hr,p,p',r,r',h,h',hp=>by
  cases hr with
  |cons h1 h2 h3 h4 h5=>
   simp only[jL] at h h'
   cases hb':bo p' a with
   |true=>
    have:=iI hb'
    cases hb:bo p a with
    |true=>have:=iI hb;omega
    |false=>rw[hb] at h;have:=yh h5 h;omega
   |false=>
    rw[hb'] at h'
    cases hb:bo p a with
    |true=>
     rw[hb] at h
     injection h with h
     have:=yh h5 h'
     omega
    |false=>rw[hb] at h;exact Un h5 h h' hp
theorem G6 {la lb lc:Nat} {W:List (Nat×Nat)} {i0 k0:Nat} (hW:lu la lc i0 k0 W): ∀ {M:List (Nat×Nat)} {i j k:Nat},lu la lb i j M->(∀p r,i<=p->jL p W=some r->k<=r)->o8 la lb lc i j k (jP W M)
 | [],i,j,k,_,_=>.nil
 |(a,b)::M,i,j,k,hM,hk=>by
  cases hM with
  |cons h1 h2 h3 h4 h5=>
   simp only[jP]
   cases h:jL a W with
   |none=>exact(G6 hW h5 fun p r hp hr=>hk p r (by omega) hr).weak (by omega) (by omega) (bK _)
   |some r=>
    refine .cons h1 h2 (hk a r h1 h) (by omega) (by omega) (by have:=(yh hW h).2.2;omega) (G6 hW h5 fun p r' hp hr=>?_)
    exact Un hW h hr (by omega)
theorem VI {la lb lc:Nat}: ∀ {l:List (Nat×Nat×Nat)} {i j k:Nat},o8 la lb lc i j k l->(∀p q r,(p,q,r)∈l->p<la/\q<lb/\r<lc)->i<=la->j<=lb->k<=lc->o8 la lb lc i j k (l++[(la,lb,lc)])
 | [],i,j,k,_,_,hi,hj,hk=>.cons hi hj hk (bK _) (bK _) (bK _) .nil
 |(p,q,r)::l,i,j,k,h,hl,hi,hj,hk=>by
  cases h with
  |cons a b c d e f g=>
   obtain⟨x1,x2,x3⟩:=hl p q r (by simp)
   exact .cons a b c d e f (VI g (fun p q r h=>hl p q r (by simp[h])) (by omega) (by omega) (by omega))
theorem VJ {la lb:Nat}: ∀ {M:List (Nat×Nat)} {i j:Nat},lu la lb i j M-> ∀p q,(p,q)∈M->p<la/\q<lb
 | [],i,j,_,p,q,h=>by cases h
 |(a,b)::M,i,j,hM,p,q,h=>by
  cases hM with
  |cons h1 h2 h3 h4 h5=>
   rcases List.mem_cons.1 h with h|h
   ·cases h;exact⟨h3,h4⟩
   ·exact VJ h5 p q h
theorem G5 {W:List (Nat×Nat)}: ∀ {M:List (Nat×Nat)} {p q r:Nat},(p,q,r)∈jP W M->(p,q)∈M/\jL p W=some r
 | [],p,q,r,h=>by cases h
 |(a,b)::M,p,q,r,h=>by
  simp only[jP] at h
  cases hl:jL a W with
  |none=>
   rw[hl] at h
   have:=G5 h
   exact⟨by simp[this.1],this.2⟩
  |some k=>
   rw[hl] at h
   rcases List.mem_cons.1 h with h|h
   ·cases h;exact⟨by simp,hl⟩
   ·have:=G5 h
    exact⟨by simp[this.1],this.2⟩
def rN (b o t:List aB):List (Nat×Nat×Nat):=jP (nU b t) (nU b o)++[(b.length,o.length,t.length)]
theorem HW (b o t:List aB):o8 b.length o.length t.length 0 0 0 (rN b o t):=by
 refine VI (G6 (uI b t) (uI b o) fun _ _ _ _=>iK _) (fun p q r h=>?_) (iK _) (iK _) (iK _)
 obtain⟨h1,h2⟩:=G5 h
 have h3:=VJ (uI b o) p q h1
 exact⟨h3.1,h3.2,(yh (uI b t) h2).2.2⟩
theorem Uo {la lc:Nat}: ∀ {pre:List (Nat×Nat)} {i k p r:Nat} {rest:List (Nat×Nat)},lu la lc i k (pre++(p,r)::rest)->jL p pre=none
 | [],_,_,_,_,_,_=>rfl
 |(a,b)::pre,i,k,p,r,rest,h=>by
  cases h with
  |cons h1 h2 h3 h4 h5=>
   have ih:=Uo h5
   have:a<p:=by
    have: ∀ {l:List (Nat×Nat)} {i k:Nat},lu la lc i k l-> ∀x∈l,i<=x.1:=by
     intro l
     induction l with
     |nil=>intro i k _ x hx;cases hx
     |cons y l ihl=>
      intro i k hr x hx
      cases hr with
      |cons a1 a2 a3 a4 a5=>
       rcases List.mem_cons.1 hx with rfl|hx
       ·exact a1
       ·have:=ihl a5 x hx;omega
    have:=this h5 (p,r) (by simp)
    exact this
   have hb:bo p a=false:=by rw[aX];exact beq_eq_false_iff_ne.2 (by omega)
   simp only[jL,hb,cF,ih]
def tW (p:Nat×Nat×Nat):aj:=.agg [.int .i64 p.1,.int .i64 p.2.1,.int .i64 p.2.2]
theorem Ic {e:bq} {x:Operand} {a b c:aj} (h:ev e x=some (.agg [a,b,c])) (s:St):ey Tryz.prog 184 1 [(0,x)] false e s=some (.list 3 [.agg [a,b,c]] .full,s):=by
 simp only[ey,C5,aq,ee,evc,h,n7,cT,gU,ld,aR,aY,dl,lk,aQ,bJ,jJ,iL,cut]
 rfl
section
variable {sp:FuncId->Option (List aj->Option aj)} {va:aj}
theorem aqh {la lc0:Nat} {v:aj} {Wl:List (Nat×Nat)} (hv:bH 2 pG v Wl) (hr:lu la lc0 0 0 Wl) (hW:Wl.length<=2000) {mW:Nat}: ∀(rest pre:List (Nat×Nat)) (e:bq) (lc:Ag.Loc) (s:St),Wl=pre++rest->s.minw<=s.next->mW<s.next->s.get [] mW=some (.map (m9 0 pre) pre.length)->
 ay e 8= .map mW->ay e 34=v->ay e 35= .int .i64 (Wl.length:Nat)->ay e 36= .int .i64 (pre.length:Nat)->
 W (QS sp) 74 (.loop Ax) ⟨e,147,lc⟩ s fun x fr s'=>x= .exit 0/\ ∃e' lc',fr=⟨e',147,lc'⟩/\lc'.gen 19=lc.gen 19/\(ay e' 0=ay e 0/\ay e' 1=ay e 1/\ay e' 2=ay e 2/\ay e' 8=ay e 8)/\s'.get [] mW=some (.map (m9 0 Wl) Wl.length)/\s'.next=s.next/\s'.minw<=s'.next/\s'.ci=s.ci:=by
 intro rest
 have hcl:=hv.clean
 induction rest with
 |nil=>
  intro pre e lc s hpre hm hlt hs h8 h34 h35 h36
  have hl:Wl.length=pre.length:=by rw[hpre];simp
  have hpp:pre=Wl:=by rw[hpre];simp
  rw[hpp] at hs
  refine cY ?_
  unfold Ax
  refine aF ?_
  unfold Fj
  simp only[aw,az,aA,aU,ak,aD,au,cE,aq,a7,cT,aP,cN,tA,ar,decide_false,h35,h36,hl,ff]
  refine aV (bc (t:=false) (by simp only[ak,ai,ah,cT, *]) ?_)
  rw[hl] at hs
  exact eL ⟨rfl,_,_,rfl,rfl,⟨by simp only[ai,ah,cF, *],by simp only[ai,ah,cF, *],by simp only[ai,ah,cF, *],by simp only[ai,ah,cF, *]⟩,hs,rfl,hm,rfl⟩
 |cons q rest ih=>
  intro pre e lc s hpre hm hlt hs h8 h34 h35 h36
  obtain⟨p,r⟩:=q
  have hltp:pre.length<Wl.length:=by rw[hpre];simp
  have hat:Wl[pre.length]? =some (p,r):=by rw[hpre];simp
  have hia:=fun lc=>hv.at JM hat lc .i64
  have hnone:jL p pre=none:=Uo (by rw[hpre] at hr;exact hr)
  have hup:=apW hs (v:=r) hnone
  have hwr:IntKind.i64.wrap ((pre.length:Int)+1)=((pre.length+1:Nat):Int):=by rw[eh (by omega) (by omega)];omega
  refine cY ?_
  unfold Ax
  refine aF ?_
  unfold Fj
  simp only[aw,az,aA,aU,ak,aD,au,cE,aq,a7,cT,aP,cN,tA,ar,dT,h35,h36,hltp]
  refine aV (bc (t:=true) (by simp only[ak,ai,ah,cT, *]) (b7 ?_))
  simp only[aW]
  refine aV (cR (aF ?_))
  unfold RF
  simp only[aw,az,eD,aA,eE,ai,bU,iW,gY,bn,eN,dI,ak,aD,fv,dR,au,bG,dj,ik,aq,cu,cT,cF,aP,bW,aR,aY,cut,dl,bO,aZ,e7,cy,cP,bS,tA,aQ,ah,ar,bJ,ck,dX,aX,dA,cd,dT,Vw,Wo,Hs,acI,h34,h36,hia,pG]
  refine cp ?_
  unfold RG
  simp only[aw,az,eD,aA,eE,ai,cJ,bU,aG,bn,bN,tI,ak,aD,bT,au,tM,aq,a7,gr,cT,cF,aP,aZ,bE,bS,tA,aQ,cQ,ah,ar,aX,eC,zt,I2,h8,hup,dM,aW]
  refine cp ?_
  unfold RH
  simp only[aw,az,aA,ai,aG,aU,ak,aH,aD,bm,au,dW,aq,a7,cT,cF,aP,bS,tA,ah,ar,h36,hwr,aW]
  refine jy (ih (pre++[(p,r)]) _ _ _ (by rw[hpre];simp) ?_ hlt ?_ ?_ ?_ ?_ ?_) ?_
  ·exact jW s mW _ hm
  ·rw[cX,bS];rfl
  ·simp only[ai,ah,cF, *]
  ·simp only[ai,ah,cF, *]
  ·simp only[ai,ah,cF, *]
  ·simp only[ai,ah,cT,cF,dw,aR,aY]
  rintro x fr s' ⟨rfl,e',lc',rfl,g19,⟨g0,g1,g2,g8⟩,q1,q2,q3,q4⟩
  exact⟨rfl,e',lc',rfl,g19.trans (by simp only[cJ,ah,cF]),⟨g0.trans (by simp only[ai,ah,cF, *]),g1.trans (by simp only[ai,ah,cF, *]),g2.trans (by simp only[ai,ah,cF, *]),g8.trans (by simp only[ai,ah,cF, *])⟩,q1,q2,q3,q4⟩
theorem ao8 {_la _lb0:Nat} {v:aj} {M Wt:List (Nat×Nat)} (hv:bH 2 pG v M) (hM:M.length<=2000) {mW lo:Nat} (hmW:mW<lo): ∀(rest pre:List (Nat×Nat)) (e:bq) (lc:Ag.Loc) (s:St) (ov:aj),M=pre++rest->s.minw<=s.next->lo<=s.next->s.get [] mW=some (.map (m9 0 Wt) Wt.length)->gW 3 lo s ov ((jP Wt pre).map tW)->(jP Wt pre).length<=pre.length->
 ay e 8= .map mW->ay e 11=ov->ay e 48=v->ay e 49= .int .i64 (M.length:Nat)->ay e 50= .int .i64 (pre.length:Nat)->
 W (QS sp) 74 (.loop Ay) ⟨e,147,lc⟩ s fun x fr s'=>x= .exit 2/\ ∃e' lc' ov',fr=⟨e',147,lc'⟩/\lc'.gen 19=lc.gen 19/\(ay e' 0=ay e 0/\ay e' 1=ay e 1/\ay e' 2=ay e 2/\ay e' 11=ov')/\gW 3 lo s' ov' ((jP Wt M).map tW)/\(jP Wt M).length<=M.length/\s.next<=s'.next/\s'.minw<=s'.next/\s'.ci=s.ci:=by
 have stab_app: ∀(l r:List (Nat×Nat)),jP Wt (l++r)=jP Wt l++jP Wt r:=by
  intro l
  induction l with
  |nil=>intro r;rfl
  |cons a l ih=>
   intro r
   obtain⟨x,y⟩:=a
   simp only[cP,jP,ih]
   cases jL x Wt<;>rfl
 intro rest
 have hcl:=hv.clean
 induction rest with
 |nil=>
  intro pre e lc s ov hpre hm hlo hs hO hlen h8 h11 h48 h49 h50
  have hl:M.length=pre.length:=by rw[hpre];simp
  have hpp:pre=M:=by rw[hpre];simp
  refine cY ?_
  unfold Ay
  refine aF ?_
  unfold Fc
  simp only[aw,az,aA,aU,ak,aD,au,cE,aq,a7,cT,aP,cN,tA,ar,decide_false,h49,h50,hl,ff]
  refine aV (bc (t:=false) (by simp only[ak,ai,ah,cT, *]) ?_)
  rw[hpp] at hO hlen
  exact eL ⟨rfl,_,_,ov,rfl,rfl,⟨by simp only[ai,ah,cF, *],by simp only[ai,ah,cF, *],by simp only[ai,ah,cF, *],by simp only[ai,ah,cF, *]⟩,hO,by first|exact hlen|(rw[<-hl];exact hlen)|(rw[hl];exact hlen),bK _,hm,rfl⟩
 |cons q rest ih=>
  intro pre e lc s ov hpre hm hlo hs hO hlen h8 h11 h48 h49 h50
  obtain⟨p,r⟩:=q
  have hltp:pre.length<M.length:=by rw[hpre];simp
  have hat:M[pre.length]? =some (p,r):=by rw[hpre];simp
  have hia:=fun lc=>hv.at JM hat lc .i64
  have hlk:=alK hs p
  have hoc:=hO.clean
  have hwr:IntKind.i64.wrap ((pre.length:Int)+1)=((pre.length+1:Nat):Int):=by rw[eh (by omega) (by omega)];omega
  refine cY ?_
  unfold Ay
  refine aF ?_
  unfold Fc
  simp only[aw,az,aA,aU,ak,aD,au,cE,aq,a7,cT,aP,cN,tA,ar,dT,h49,h50,hltp]
  refine aV (bc (t:=true) (by simp only[ak,ai,ah,cT, *]) (b7 ?_))
  simp only[aW]
  refine aV (cR (aF ?_))
  unfold Rl
  simp only[aw,az,eD,aA,eE,ai,bU,iW,gY,bn,eN,dI,ak,aD,fv,dR,au,bG,dj,ik,aq,cu,cT,cF,aP,bW,aR,aY,cut,dl,bO,aZ,e7,cy,cP,bS,tA,aQ,ah,ar,bJ,ck,dX,aX,dA,cd,dT,Vw,Wo,Hs,acJ,h48,h50,hia,pG]
  refine aF ?_
  unfold Rm
  cases hz:jL p Wt with
  |none=>
   have hst:jP Wt (pre++[(p,r)])=jP Wt pre:=by
    rw[stab_app]
    simp only[jP,hz,iQ]
   rw[hz] at hlk
   simp only[AR] at hlk
   simp only[aw,az,aA,ai,cJ,bU,aG,aM,bn,bN,l5,jm,ak,aD,bT,au,aq,a7,gr,cT,cF,aP,aZ,bE,bS,tA,cQ,ah,ar,aX,eC,zt,h8,hlk,iy,gj,lO]
   refine aF ?_
   unfold Fd
   simp only[aw,az,aA,ai,aG,ak,au,cT,cF,bS,tA,ah,ar]
   refine bc (t:=false) (by simp only[ak,ai,ah,cT,cF, *]) (b7 ?_)
   simp only[dM,aW]
   refine cp ?_
   unfold Fe
   simp only[aw,az,aA,ai,aG,aU,ak,aH,aD,bm,au,dW,aq,a7,cT,cF,aP,bS,tA,ah,ar,h50,hwr,aW]
   refine jy (ih (pre++[(p,r)]) _ _ s ov (by rw[hpre];simp) hm hlo hs (by rw[hst];exact hO) (by rw[hst,dw];omega) ?_ ?_ ?_ ?_ ?_) ?_
   ·simp only[ai,ah,cF, *]
   ·simp only[ai,ah,cF, *]
   ·simp only[ai,ah,cF, *]
   ·simp only[ai,ah,cF, *]
   ·simp only[ai,ah,cT,cF,dw,aR,aY]
   rintro x fr s' ⟨rfl,e',lc',ov',rfl,g19,⟨g0,g1,g2,g8⟩,q1,q2,q3,q4,q5⟩
   exact⟨rfl,e',lc',ov',rfl,g19.trans (by simp only[cJ,ah,cF]),⟨g0.trans (by simp only[ai,ah,cF, *]),g1.trans (by simp only[ai,ah,cF, *]),g2.trans (by simp only[ai,ah,cF, *]),g8⟩,q1,q2,q3,q4,q5⟩
  |some k=>
   have hst:jP Wt (pre++[(p,r)])=jP Wt pre++[(p,r,k)]:=by
    rw[stab_app]
    simp only[jP,hz]
   have hbd: ∀e,ay e 64= .int .i64 (p:Nat)->ay e 66= .int .i64 (r:Nat)->ay e 67= .int .i64 (k:Nat)->gQ Tryz.prog 186 [(0,.tmp 64),(1,.tmp 66),(2,.tmp 67)] e=some (.agg [.int .i64 (p:Nat),.int .i64 (r:Nat),.int .i64 (k:Nat)]):=fun e p q r=>by
    rw[CE]
    simp only[yW,aq,ee,evc,ev,p,q,r,a7,cT]
    rfl
   have hbs: ∀e s,ay e 68= .agg [.int .i64 (p:Nat),.int .i64 (r:Nat),.int .i64 (k:Nat)]->ey Tryz.prog 184 1 [(0,.tmp 68)] false e s=some (.list 3 [.agg [.int .i64 (p:Nat),.int .i64 (r:Nat),.int .i64 (k:Nat)]] .full,s):=fun e s h=>Ic (by rw[ak,h]) s
   obtain⟨ov',s',happ,hO',hc',hn',hm',hold,hcell⟩:=xo C5 rfl (by decide) (y:=.list 3 [.agg [.int .i64 (p:Nat),.int .i64 (r:Nat),.int .i64 (k:Nat)]] .full) (ys:=[tW (p,r,k)]) hO rfl (by rw[fw,pT];omega) hlo hm
   have hoc':=hO'.clean
   rw[hz] at hlk
   simp only[AR] at hlk
   simp only[aw,az,aA,ai,cJ,bU,aG,aM,bn,bN,l5,jm,ak,aD,bT,au,aq,a7,gr,cT,cF,aP,aZ,bE,bS,tA,cQ,ah,ar,aX,eC,zt,h8,hlk,iy,gj,lO]
   refine aF ?_
   unfold Fd
   simp only[aw,az,aA,ai,aG,ak,au,cT,cF,bS,tA,ah,ar]
   refine bc (t:=true) (by simp only[ak,ai,ah,cT,cF, *]) (cp ?_)
   unfold Ro
   simp only[aw,az,aA,ai,cJ,bU,aG,aM,lK,lL,bn,bN,cG,ak,aD,bh,bk,bT,au,bZ,ph,bG,aq,jD,cT,cF,aP,bW,aZ,bE,bS,tA,aQ,cQ,ah,ar,aX,eC,zt,I2,J0,acT,acU,h11,hoc,hbd,hbs,happ,dM,aW]
   refine cp ?_
   unfold Fe
   simp only[aw,az,aA,ai,aG,aU,ak,aH,aD,bm,au,dW,aq,a7,cT,cF,aP,bS,tA,ah,ar,h50,hwr,aW]
   refine jy (ih (pre++[(p,r)]) _ _ s' ov' (by rw[hpre];simp) hm' (by omega) ((hold _ hmW).trans hs) (by rw[hst,mm];exact hO') (by rw[hst,dw,dw,pT,pT];omega) ?_ ?_ ?_ ?_ ?_) ?_
   ·simp only[ai,ah,cF, *]
   ·simp only[ai,ah,cT,cF]
   ·simp only[ai,ah,cF, *]
   ·simp only[ai,ah,cF, *]
   ·simp only[ai,ah,cT,cF,dw,aR,aY]
   rintro x fr s2 ⟨rfl,e',lc',ov2,rfl,g19,⟨g0,g1,g2,g8⟩,q1,q2,q3,q4,q5⟩
   exact⟨rfl,e',lc',ov2,rfl,g19.trans (by simp only[cJ,ah,cF]),⟨g0.trans (by simp only[ai,ah,cF, *]),g1.trans (by simp only[ai,ah,cF, *]),g2.trans (by simp only[ai,ah,cF, *]),g8⟩,q1,q2,by omega,q4,q5.trans hc'⟩
end
def sY (b o t:List aB):Option (List aB):=bif o==b then some t else bif t==b||t==o then some o else none
def lW (b:List aB) (p:Nat):List aB:=match b[p]? with
 |some x=>[x]
 |none=>[]
def l8 (b o t:List aB):List (Nat×Nat×Nat)->Nat->Nat->Nat->List aB->Option (List aB)
 | [],_,_,_,out=>some out
 |(p,q,r)::l,i,j,k,out=>match sY ((b.drop i).take (p-i)) ((o.drop j).take (q-j)) ((t.drop k).take (r-k)) with
  |none=>none
  |some part=>l8 b o t l (p+1) (q+1) (r+1) (out++part++lW b p)
def o9 (s:St) (x:Nat) (l:List aB):Prop:= ∃V,s.get [] x=some (.cells [V])/\bH 1 bB V l/\cx V=true
theorem o9.keep {s s':St} {x:Nat} {l:List aB} (h:o9 s x l) (hg:s'.get [] x=s.get [] x):o9 s' x l:=by
 obtain⟨V,h1,h2,h3⟩:=h
 exact⟨V,hg.trans h1,h2,h3⟩
theorem F3 {s s1:St} (hm:s.minw<=s.next) (hn:s1.next=s.next) (h1:s1.minw<=s1.next):(s.least s1).minw<=(s.least s1).next:=by
 show(bif cK s.minw s1.minw then s.minw else s1.minw)<=s1.next
 cases cK s.minw s1.minw with
 |true=>rw[hn];exact hm
 |false=>exact h1
theorem YS {vb vo vt:aj} {b o t:List aB} (ho:bH 1 bB vo o) (ht:bH 1 bB vt t) (po:cx vo=true) (pt:cx vt=true):
 ∃pv bb,qq vb vo vt b o t= .tup [pv,.bool bb]/\pv.clean=true/\((bb=true/\ ∃part,sY b o t=some part/\bH 1 bB pv part/\cx pv=true/\(part=t\/part=o))\/(bb=false/\sY b o t=none)):=by
 unfold qq sY
 cases o==b with
 |true=>exact⟨vt,true,rfl,ht.clean,.inl ⟨rfl,t,rfl,ht,pt,.inl rfl⟩⟩
 |false=>
  cases t==b||t==o with
  |true=>exact⟨vo,true,rfl,ho.clean,.inl ⟨rfl,o,rfl,ho,po,.inr rfl⟩⟩
  |false=>exact⟨.nils,false,rfl,rfl,.inr ⟨rfl,rfl⟩⟩
theorem ad1 {sz:Nat} {α:Type} {enc:α->aj} {v:aj} {l:List α} (h:bH sz enc v l) (g:Bool) (s:St):ku [] g sz v s=some (l.map enc):=by
 rcases h with⟨rfl,rfl⟩|⟨r,rfl⟩
 ·rfl
 ·simp only[ku,aX,bS,cT]
structure Fk (e:bq) (lc:Ag.Loc) (x y z g:Nat) (p q r:Int) (i j k:Int):Prop where
 h16:ay e 16= .ptr x 0
 h17:ay e 17= .ptr y 0
 h18:ay e 18= .ptr z 0
 h22:ay e 22= .lref 22 g 0
 g22:lc.gen 22=g
 b22:lc.get 22 g=some [.int .i64 p,.int .i64 q,.int .i64 r]
 h19:ay e 19= .lref 19 1 0
 g19:lc.gen 19=1
 b19:lc.get 19 1=some [.int .i64 i,.int .i64 j,.int .i64 k]
section
variable {sp:FuncId->Option (List aj->Option aj)} (h116:sp 116=none) (h117:sp 117=none) (h37:sp 37=some qc)
include h116 h117 h37
theorem Zi {e:bq} {lc:Ag.Loc} {s:St} {x y z g:Nat} {p q r i j k:Nat} {lx ly lz:List aB} (F:Fk e lc x y z g p q r ((i:Int)-1) ((j:Int)-1) ((k:Int)-1)) (hi:i<=p) (hj:j<=q) (hk:k<=r) (hp:p<=10000) (hq:q<=10000) (hr:r<=10000)
 (hx:o9 s x lx) (hy:o9 s y ly) (hz:o9 s z lz) (hxy:x≠y) (hxz:x≠z) (hyz:y≠z) (nx:p-i<=lx.length) (ny:q-j<=ly.length) (nz:r-k<=lz.length) (sx:lx.length<=10000) (sy:ly.length<=10000) (sz:lz.length<=10000) (hm:s.minw<=s.next) {K:Fr->St->Prop}
 (hK: ∀(e':bq) (s':St) (pv:aj) (bb:Bool),ay e' 23=pv->ay e' 24= .bool bb->(∀u,u<23->ay e' u=ay e u)->ay e' 92=ay e 92->ay e' 93=ay e 93->ay e' 94=ay e 94->pv.clean=true->
  ((bb=true/\ ∃part,sY (lx.take (p-i)) (ly.take (q-j)) (lz.take (r-k))=some part/\bH 1 bB pv part/\cx pv=true/\(part=lz.take (r-k)\/part=ly.take (q-j)))\/(bb=false/\sY (lx.take (p-i)) (ly.take (q-j)) (lz.take (r-k))=none))->
  o9 s' x (lx.drop (p-i+1))->o9 s' y (ly.drop (q-j+1))->o9 s' z (lz.drop (r-k+1))->(∀n,n≠x->n≠y->n≠z->s'.get [] n=s.get [] n)->s'.next=s.next->s'.minw<=s'.next->s'.ci=s.ci->K ⟨e',147,lc⟩ s'):
 WD (QS sp) 74 Fb [] 0 nT ⟨e,147,lc⟩ s K:=by
 obtain⟨h16,h17,h18,h22,g22,b22,h19,g19,b19⟩:=F
 obtain⟨Vx,x1,x2,x3⟩:=hx
 obtain⟨Vy,y1,y2,y3⟩:=hy
 obtain⟨Vz,z1,z2,z3⟩:=hz
 have sub1: ∀(p i:Nat),i<=p->p<=10000->IntKind.i64.wrap ((p:Int)-((i:Int)-1))=(p:Int)-i+1:=fun p i a b=>by rw[eh (by omega) (by omega)];omega
 have sub2: ∀(p i:Nat),i<=p->p<=10000->IntKind.i64.wrap ((p:Int)-i+1-1)=((p-i:Nat):Int):=fun p i a b=>by rw[eh (by omega) (by omega)];omega
 have ep1:=sub1 p i hi hp
 have ep2:=sub2 p i hi hp
 have eq1:=sub1 q j hj hq
 have eq2:=sub2 q j hj hq
 have er1:=sub1 r k hk hr
 have er2:=sub2 r k hk hr
 obtain⟨v1,s1,r1,u1,w1,⟨Vx',a1,a2,a3⟩,n1,c1,m1⟩:=CW h117 (s:=s.top) x1 x2 x3 nx (by omega) (bK _)
 obtain⟨sA,hsA⟩: ∃a,a=s.least s1:=⟨_,rfl⟩
 have nA:sA.next=s.next:=by rw[hsA];exact n1
 have mA:sA.minw<=sA.next:=by rw[hsA];exact F3 hm n1 m1
 have gA: ∀n,sA.get [] n=(s.put x (some (.cells [Vx']))).get [] n:=fun n=>by rw[hsA];exact a3 n
 have cA:sA.ci=s.ci:=by rw[hsA];exact c1
 have y1':sA.top.get [] y=some (.cells [Vy]):=by
  show sA.get [] y=_
  rw[gA,cX,beq_eq_false_iff_ne.2 hxy.symm];exact y1
 obtain⟨v2,s2,r2,u2,w2,⟨Vy',b1,b2,b3⟩,n2,c2,m2⟩:=CW h117 (s:=sA.top) y1' y2 y3 ny (by omega) (bK _)
 obtain⟨sB,hsB⟩: ∃a,a=sA.least s2:=⟨_,rfl⟩
 have nB:sB.next=s.next:=by rw[hsB];exact n2.trans nA
 have mB:sB.minw<=sB.next:=by rw[hsB];exact F3 mA n2 m2
 have gB: ∀n,sB.get [] n=(sA.put y (some (.cells [Vy']))).get [] n:=fun n=>by rw[hsB];exact b3 n
 have cB:sB.ci=s.ci:=by rw[hsB];exact c2.trans cA
 have z1':sB.top.get [] z=some (.cells [Vz]):=by
  show sB.get [] z=_
  rw[gB,cX,beq_eq_false_iff_ne.2 hyz.symm,cF,gA,cX,beq_eq_false_iff_ne.2 hxz.symm];exact z1
 obtain⟨v3,s3,r3,u3,w3,⟨Vz',d1,d2,d3⟩,n3,c3,m3⟩:=CW h117 (s:=sB.top) z1' z2 z3 nz (by omega) (bK _)
 obtain⟨sC,hsC⟩: ∃a,a=sB.least s3:=⟨_,rfl⟩
 have nC:sC.next=s.next:=by rw[hsC];exact n3.trans nB
 have mC:sC.minw<=sC.next:=by rw[hsC];exact F3 mB n3 m3
 have gC: ∀n,sC.get [] n=(sB.put z (some (.cells [Vz']))).get [] n:=fun n=>by rw[hsC];exact d3 n
 have cC:sC.ci=s.ci:=by rw[hsC];exact c3.trans cB
 have hsmall:small=9223372036854775808:=rfl
 have r4:=al9 (sp:=sp) h116 h37 u1 u2 u3 w1 w2 w3 (by rw[qG];omega) (by rw[qG];omega) sC.top
 obtain⟨pv,bb,hpv,hpc,hcase⟩:=YS (vb:=v1) (b:=lx.take (p-i)) u2 u3 w2 w3
 rw[hpv] at r4
 rw[show nT=nT.take 7++nT.drop 7 from(oe 7 _).symm]
 refine WD.loudOps hm (fun _ h=>by cases h) ?_
 unfold nT Fb
 simp only[zg,zf,BM,Dx,Dw,zy,Dv,Dz,DF,Dy,DE,DD,zz,isStore,ai,aG,bn,aU,bN,ak,aH,aD,bm,bT,au,pY,aq,a7,cT,cF,aP,bW,aR,aY,bO,aZ,bE,gZ,bS,tA,aQ,cQ,ah,ar,bJ,aX,eC,De,h16,h22,g22,b22,h19,g19,b19,ep1,ep2]
 intro rs1 k1
 refine WD.loudCall (g:=117) (args:=[.ptr x 0,.int .i64 ((p-i:Nat):Int)]) k1 (by decide) ?_ r1 n1 c1 (by decide) (fun rs2 k2=>?_)
 ·simp only[callee,ai,ak,fA,aD,bh,bk,aq,a7,ez,cT,cF,cy,cP,bS,ah]
 rw[<-hsA]
 refine WD.loudOps (l1:=nT.drop 8|>.take 7) (l2:=nT.drop 15) mA k2 ?_
 unfold nT
 simp only[zg,zf,BM,Dx,Dw,zy,Dv,Dz,DF,Dy,DE,DD,zz,isStore,ai,aG,bn,aU,bN,ak,aH,aD,bm,bT,au,pY,aq,a7,cT,cF,aP,bW,aR,aY,bO,aZ,bE,gZ,e7,bS,tA,aQ,ah,ar,bJ,aX,eC,Z2,h17,h22,g22,b22,h19,g19,b19,eq1,eq2]
 intro rs3 k3
 refine WD.loudCall (g:=117) (args:=[.ptr y 0,.int .i64 ((q-j:Nat):Int)]) k3 (by decide) ?_ r2 n2 c2 (by decide) (fun rs4 k4=>?_)
 ·simp only[callee,ai,ak,fA,aD,bh,bk,aq,a7,ez,cT,cF,cy,cP,bS,ah]
 rw[<-hsB]
 refine WD.loudOps (l1:=nT.drop 16|>.take 7) (l2:=nT.drop 23) mB k4 ?_
 unfold nT
 simp only[zg,zf,BM,Dx,Dw,zy,Dv,Dz,DF,Dy,DE,DD,zz,isStore,ai,aG,bn,aU,bN,ak,aH,aD,bm,bT,au,pY,aq,a7,cT,cF,aP,bW,aR,aY,bO,aZ,bE,gZ,e7,bS,tA,aQ,ah,ar,bJ,aX,eC,Z3,h18,h22,g22,b22,h19,g19,b19,er1,er2]
 intro rs5 k5
 refine WD.loudCall (g:=117) (args:=[.ptr z 0,.int .i64 ((r-k:Nat):Int)]) k5 (by decide) ?_ r3 n3 c3 (by decide) (fun rs6 k6=>?_)
 ·simp only[callee,ai,ak,fA,aD,bh,bk,aq,a7,ez,cT,cF,cy,cP,bS,ah]
 rw[<-hsC]
 have e1:=u1.clean
 have e2:=u2.clean
 have e3:=u3.clean
 refine WD.loudCall (g:=116) (args:=[v1,v2,v3]) k6 (by decide) ?_ r4 rfl rfl (by decide) (fun rs7 k7=>?_)
 ·simp only[callee,ai,ak,fA,aD,bh,bk,aq,cT,cF,cy,cP,bS,ah,e1,e2,e3]
 rw[ni mC]
 refine WD.loudOps (l1:=nT.drop 25) (l2:=[]) mC k7 ?_
 unfold nT
 simp only[zg,zf,BM,zy,aaL,aaM,zz,isStore,ai,aG,aM,jm,ak,au,aq,cT,cF,bW,aR,aY,aZ,gZ,bS,tA,aQ,ah,ar,bJ,iy,gj,lO]
 intro rs8 k8
 refine WD.nil (hK _ sC pv bb ?_ ?_ ?_ ?_ ?_ ?_ hpc hcase ?_ ?_ ?_ ?_ nC mC cC)
 ·simp only[ai,ah,cT,cF, *]
 ·simp only[ai,ah,cT,cF, *]
 ·intro u hu
  have hne: ∀m,23<=m->(u==m)=false:=fun m h=>beq_eq_false_iff_ne.2 (by omega)
  simp only[ai,hne _ (by decide:23<=99),hne _ (by decide:23<=100),hne _ (by decide:23<=101),hne _ (by decide:23<=102),hne _ (by decide:23<=103),hne _ (by decide:23<=104),hne _ (by decide:23<=105),hne _ (by decide:23<=106),hne _ (by decide:23<=107),hne _ (by decide:23<=108),hne _ (by decide:23<=109),hne _ (by decide:23<=110),hne _ (by decide:23<=111),hne _ (by decide:23<=112),hne _ (by decide:23<=113),hne _ (by decide:23<=114),hne _ (by decide:23<=115),hne _ (by decide:23<=116),hne _ (by decide:23<=117),hne _ (by decide:23<=118),hne _ (by decide:23<=119),hne _ (by decide:23<=120),hne _ (by decide:23<=121),hne _ (by decide:23<=122),hne _ (by decide:23<=123),hne _ (by decide:23<=98),hne _ (by decide:23<=124),hne _ (by decide:23<=125),hne _ (by decide:23<=23),hne _ (by decide:23<=24),cF]
 ·simp only[ai,ah,cF, *]
 ·simp only[ai,ah,cF, *]
 ·simp only[ai,ah,cF, *]
 ·refine⟨Vx',?_,a1,a2⟩
  rw[gC,cX,beq_eq_false_iff_ne.2 hxz,cF,gB,cX,beq_eq_false_iff_ne.2 hxy,cF,gA,cX,bS];rfl
 ·refine⟨Vy',?_,b1,b2⟩
  rw[gC,cX,beq_eq_false_iff_ne.2 hyz,cF,gB,cX,bS];rfl
 ·refine⟨Vz',?_,d1,d2⟩
  rw[gC,cX,bS];rfl
 ·intro n hn1 hn2 hn3
  rw[gC,cX,beq_eq_false_iff_ne.2 hn3,cF,gB,cX,beq_eq_false_iff_ne.2 hn2,cF,gA,cX,beq_eq_false_iff_ne.2 hn1];rfl
end
def BF (b o t:List aB):Option (List aB):=l8 b o t (rN b o t) 0 0 0 []
theorem TW (b:List aB) (p:Nat):(lW b p).length<=1:=by
 unfold lW
 cases b[p]? <;>simp
section
variable {sp:FuncId->Option (List aj->Option aj)} (h116:sp 116=none) (h117:sp 117=none) (h37:sp 37=some qc)
include h116 h117 h37
theorem YT {vb:aj} {b o t:List aB} (hb:bH 1 bB vb b) (sb:b.length<=2000) (so:o.length<=2000) (st:t.length<=2000) {all:List (Nat×Nat×Nat)} {va:aj} (hva:bH 3 tW va all) (hal:all.length<=10000) {x y z lo:Nat} (hxy:x≠y) (hxz:x≠z) (hyz:y≠z) (hlo:x<lo/\y<lo/\z<lo):
 ∀(rest pre:List (Nat×Nat×Nat)) (i j k:Nat) (e:bq) (lc:Ag.Loc) (s:St) (ov:aj) (out:List aB),all=pre++rest->o8 b.length o.length t.length i j k rest->s.minw<=s.next->lo<=s.next->gW 1 lo s ov (out.map bB)->out.length<=i+j+k->i<=2001->j<=2001->k<=2001->
 o9 s x (b.drop i)->o9 s y (o.drop j)->o9 s z (t.drop k)->ay e 0=vb->ay e 20=ov->ay e 92=va->ay e 93= .int .i64 (all.length:Nat)->ay e 94= .int .i64 (pre.length:Nat)->
 ay e 16= .ptr x 0->ay e 17= .ptr y 0->ay e 18= .ptr z 0->ay e 19= .lref 19 1 0->lc.gen 19=1->lc.get 19 1=some [.int .i64 ((i:Int)-1),.int .i64 ((j:Int)-1),.int .i64 ((k:Int)-1)]->
 W (QS sp) 74 (.loop x6) ⟨e,147,lc⟩ s fun w fr s'=>fr.size=147/\s'.ci=s.ci/\((w= .exit 4/\ ∃out' ov',l8 b o t rest i j k out=some out'/\ay fr.env 20=ov'/\gW 1 lo s' ov' (out'.map bB))\/(w= .ret/\l8 b o t rest i j k out=none/\ay fr.env 6= .nils/\ay fr.env 7= .bool false)):=by
 have cb:=hb.clean
 have ca:=hva.clean
 have hlb:=fun mk s=>hb.len iV jl mk s
 intro rest
 induction rest with
 |nil=>
  intro pre i j k e lc s ov out hpre hR hm hls hO hol hi hj hk hx hy hz h0 h20 h92 h93 h94 h16 h17 h18 h19 g19 b19
  have hl:all.length=pre.length:=by rw[hpre];simp
  refine cY ?_
  unfold x6
  refine aF ?_
  unfold Ff
  simp only[aw,az,aA,aU,ak,aD,au,cE,aq,a7,cT,aP,cN,tA,ar,decide_false,h93,h94,hl,ff]
  refine aV (bc (t:=false) (by simp only[ak,ai,ah,cT, *]) ?_)
  exact eL ⟨rfl,rfl,.inl ⟨rfl,out,ov,rfl,by simp only[ai,ah,cF, *],hO⟩⟩
 |cons tr rest ih=>
  intro pre i j k e lc s ov out hpre hR hm hls hO hol hi hj hk hx hy hz h0 h20 h92 h93 h94 h16 h17 h18 h19 g19 b19
  obtain⟨p,q,r⟩:=tr
  cases hR with
  |cons r1 r2 r3 r4 r5 r6 r7=>
  have hlt:pre.length<all.length:=by rw[hpre];simp
  have hat:all[pre.length]? =some (p,q,r):=by rw[hpre];simp
  have hia:=fun lc=>hva.at adK hat lc .i64
  have hwr:IntKind.i64.wrap ((pre.length:Int)+1)=((pre.length+1:Nat):Int):=by rw[eh (by omega) (by omega)];omega
  have hoc:=hO.clean
  refine cY ?_
  unfold x6
  refine aF ?_
  unfold Ff
  simp only[aw,az,aA,aU,ak,aD,au,cE,aq,a7,cT,aP,cN,tA,ar,dT,h93,h94,hlt]
  refine aV (bc (t:=true) (by simp only[ak,ai,ah,cT, *]) (b7 ?_))
  simp only[aW]
  refine aV (cR (aF ?_))
  unfold Rx
  simp only[aw,az,eD,aA,eE,ai,bU,iW,gY,bn,eN,dI,ak,aD,fv,dR,au,bG,dj,ik,aq,cu,cT,cF,aP,bW,aR,aY,cut,dl,bO,aZ,e7,cy,cP,bS,tA,aQ,ah,ar,bJ,ck,dX,aX,dA,cd,dT,VA,Ha,yW,acP,h92,h94,hia,tW]
  refine aV (W.drawD (Zi h116 h117 h37 (g:=lc.gen 22+1) (x:=x) (y:=y) (z:=z) (p:=p) (q:=q) (r:=r) (i:=i) (j:=j) (k:=k) (lx:=b.drop i) (ly:=o.drop j) (lz:=t.drop k) ⟨?_,?_,?_,?_,?_,?_,?_,?_,?_⟩ r1 r2 r3 (by omega) (by omega) (by omega) hx hy hz hxy hxz hyz (by rw[ua];omega) (by rw[ua];omega) (by rw[ua];omega) (by rw[ua];omega) (by rw[ua];omega) (by rw[ua];omega) hm ?_))
  ·simp only[ai,ah,cF, *]
  ·simp only[ai,ah,cF, *]
  ·simp only[ai,ah,cF, *]
  ·simp only[ai,ah,cT,cF, *]
  ·simp only[cJ,ah,cT]
  ·simp only[bU,cT,bS]
  ·simp only[ai,ah,cF, *]
  ·simp only[cJ,ah,cF,g19]
  ·simp only[bU,ah,cF,b19]
  intro e' s' pv bb q23 q24 qlow q92 q93 q94 hpc hcase hx' hy' hz' hold hn' hm' hc'
  have p0:ay e' 0=vb:=(qlow 0 (by decide)).trans (by simp only[ai,ah,cF, *])
  have p16:ay e' 16= .ptr x 0:=(qlow 16 (by decide)).trans (by simp only[ai,ah,cF, *])
  have p17:ay e' 17= .ptr y 0:=(qlow 17 (by decide)).trans (by simp only[ai,ah,cF, *])
  have p18:ay e' 18= .ptr z 0:=(qlow 18 (by decide)).trans (by simp only[ai,ah,cF, *])
  have p19:ay e' 19= .lref 19 1 0:=(qlow 19 (by decide)).trans (by simp only[ai,ah,cF, *])
  have p20:ay e' 20=ov:=(qlow 20 (by decide)).trans (by simp only[ai,ah,cF, *])
  have p22:ay e' 22= .lref 22 (lc.gen 22+1) 0:=(qlow 22 (by decide)).trans (by simp only[ai,ah,cT,cF, *])
  have p92:ay e' 92=va:=q92.trans (by simp only[ai,ah,cF, *])
  have p93:ay e' 93= .int .i64 (all.length:Nat):=q93.trans (by simp only[ai,ah,cF, *])
  have p94:ay e' 94= .int .i64 (pre.length:Nat):=q94.trans (by simp only[ai,ah,cF, *])
  simp only[aW]
  rcases hcase with⟨rfl,part,hch,hpl,hpp,hpe⟩|⟨rfl,hch⟩
  ·have hpl2:part.length<=(q-j)+(r-k):=by
    rcases hpe with rfl|rfl
    ·rw[qG];omega
    ·rw[qG];omega
   have hseq:l8 b o t ((p,q,r)::rest) i j k out=l8 b o t rest (p+1) (q+1) (r+1) (out++part++lW b p):=by
    simp only[l8,hch]
   rw[hseq]
   have hO1:gW 1 lo s' ov (out.map bB):=hO.keep (fun n hn=>hold n (by omega) (by omega) (by omega)) (by omega)
   obtain⟨ov1,s1,happ,hO2,hc1,hn1,hm1,hold1,hcell1⟩:=xo qQ rfl (by decide) (y:=pv) (ys:=part.map bB) hO1 (ad1 hpl _ _) (by rw[fw,fw];omega) (by omega) hm'
   have hoc1:=hO2.clean
   have fin: ∀(e2:bq) (lc2:Ag.Loc) (s2:St) (ov2:aj),ay e2 0=vb->ay e2 16= .ptr x 0->ay e2 17= .ptr y 0->ay e2 18= .ptr z 0->ay e2 19= .lref 19 1 0->ay e2 20=ov2->ay e2 22= .lref 22 (lc.gen 22+1) 0->ay e2 92=va->ay e2 93= .int .i64 (all.length:Nat)->ay e2 94= .int .i64 (pre.length:Nat)->
    lc2.gen 22=lc.gen 22+1->lc2.get 22 (lc.gen 22+1)=some [.int .i64 (p:Nat),.int .i64 (q:Nat),.int .i64 (r:Nat)]->lc2.gen 19=1->lc2.get 19 1=some [.int .i64 ((i:Int)-1),.int .i64 ((j:Int)-1),.int .i64 ((k:Int)-1)]->
    gW 1 lo s2 ov2 ((out++part++lW b p).map bB)->s2.minw<=s2.next->s1.next<=s2.next->(∀n,n<lo->s2.get [] n=s1.get [] n)->s2.ci=s.ci->
    W (QS sp) 74 (.region Fh) ⟨e2,147,lc2⟩ s2 (fun w fr s3=>w= .normal/\ ∃e3 lc3,fr=⟨e3,147,lc3⟩/\s3=s2/\ay e3 0=vb/\ay e3 16= .ptr x 0/\ay e3 17= .ptr y 0/\ay e3 18= .ptr z 0/\ay e3 19= .lref 19 1 0/\ay e3 20=ov2/\ay e3 92=va/\ay e3 93= .int .i64 (all.length:Nat)/\ay e3 94= .int .i64 (pre.length:Nat)/\lc3.gen 19=1/\lc3.get 19 1=some [.int .i64 (p:Nat),.int .i64 (q:Nat),.int .i64 (r:Nat)]):=by
    intro e2 lc2 s2 ov2 a0 a16 a17 a18 a19 a20 a22 a92 a93 a94 l22 l22' l19 l19' aO am an ag ac
    refine cp ?_
    unfold Fh
    simp only[aw,az,eD,aA,eE,ai,bn,eN,ak,aD,bT,au,dj,ik,aq,cu,cT,cF,aP,aR,aY,cut,dl,bO,aZ,cy,cP,bS,tA,aQ,ah,ar,bJ,ck,dX,aX,dA,cd,dT,VA,Ha,a22,a19,l22',l19']
    refine⟨_,_,rfl,?_,?_,?_,?_,?_,?_,?_,?_,?_,?_,?_⟩
    ·simp only[ai,ah,cF, *]
    ·simp only[ai,ah,cF, *]
    ·simp only[ai,ah,cF, *]
    ·simp only[ai,ah,cF, *]
    ·simp only[ai,ah,cF, *]
    ·simp only[ai,ah,cF, *]
    ·simp only[ai,ah,cF, *]
    ·simp only[ai,ah,cF, *]
    ·simp only[ai,ah,cF, *]
    ·simp only[cJ,ah,cT]
    ·simp only[bU,cT,bS]
   have go: ∀(e3:bq) (lc3:Ag.Loc) (s2:St) (ov2:aj),ay e3 0=vb->ay e3 16= .ptr x 0->ay e3 17= .ptr y 0->ay e3 18= .ptr z 0->ay e3 19= .lref 19 1 0->ay e3 20=ov2->ay e3 92=va->ay e3 93= .int .i64 (all.length:Nat)->ay e3 94= .int .i64 (pre.length:Nat)->lc3.gen 19=1->lc3.get 19 1=some [.int .i64 (p:Nat),.int .i64 (q:Nat),.int .i64 (r:Nat)]->
    gW 1 lo s2 ov2 ((out++part++lW b p).map bB)->s2.minw<=s2.next->s1.next<=s2.next->(∀n,n<lo->s2.get [] n=s1.get [] n)->s2.ci=s.ci->
    W (QS sp) 74 (.region Fi) ⟨e3,147,lc3⟩ s2 (Ex.next (fun w fr s'=>fr.size=147/\s'.ci=s.ci/\((w= .exit 4/\ ∃out' ov',l8 b o t rest (p+1) (q+1) (r+1) (out++part++lW b p)=some out'/\ay fr.env 20=ov'/\gW 1 lo s' ov' (out'.map bB))\/(w= .ret/\l8 b o t rest (p+1) (q+1) (r+1) (out++part++lW b p)=none/\ay fr.env 6= .nils/\ay fr.env 7= .bool false))) fun fr s'=>W (QS sp) 74 (.loop x6) fr s' fun w fr s'=>fr.size=147/\s'.ci=s.ci/\((w= .exit 4/\ ∃out' ov',l8 b o t rest (p+1) (q+1) (r+1) (out++part++lW b p)=some out'/\ay fr.env 20=ov'/\gW 1 lo s' ov' (out'.map bB))\/(w= .ret/\l8 b o t rest (p+1) (q+1) (r+1) (out++part++lW b p)=none/\ay fr.env 6= .nils/\ay fr.env 7= .bool false))):=by
    intro e3 lc3 s2 ov2 a0 a16 a17 a18 a19 a20 a92 a93 a94 l19 l19' aO am an ag ac
    have hls1:=TW b p
    refine cp ?_
    unfold Fi
    simp only[aw,az,aA,ai,aG,aU,ak,aH,aD,bm,au,dW,aq,a7,cT,aP,bS,tA,ar,a94,hwr,aW]
    have hgg: ∀n,n<lo->s2.get [] n=s'.get [] n:=fun n hn=>(ag n hn).trans (hold1 n hn)
    have dd: ∀(l:List aB) (i p:Nat),i<=p->(l.drop i).drop (p-i+1)=l.drop (p+1):=fun l i p h=>by rw[List.drop_drop,show i+(p-i+1)=p+1 by omega]
    refine jy (ih (pre++[(p,q,r)]) (p+1) (q+1) (r+1) _ lc3 s2 ov2 (out++part++lW b p) (by rw[hpre];simp) r7 am (by omega) aO ?_ (by omega) (by omega) (by omega) ?_ ?_ ?_ ?_ ?_ ?_ ?_ ?_ ?_ ?_ ?_ ?_ l19 ?_) ?_
    ·rw[dw,dw];omega
    ·rw[<-dd b i p r1];exact hx'.keep (hgg x hlo.1)
    ·rw[<-dd o j q r2];exact hy'.keep (hgg y hlo.2.1)
    ·rw[<-dd t k r r3];exact hz'.keep (hgg z hlo.2.2)
    ·simp only[ai,ah,cF, *]
    ·simp only[ai,ah,cF, *]
    ·simp only[ai,ah,cF, *]
    ·simp only[ai,ah,cF, *]
    ·simp only[ai,ah,cT,cF,dw,aR,aY]
    ·simp only[ai,ah,cF, *]
    ·simp only[ai,ah,cF, *]
    ·simp only[ai,ah,cF, *]
    ·simp only[ai,ah,cF, *]
    ·rw[l19']
     have: ∀p:Nat,((p+1:Nat):Int)-1=(p:Int):=fun p=>by omega
     rw[this,this,this]
    rintro w fr s3 ⟨g1,g2,g3⟩
    exact⟨g1,g2.trans ac,g3⟩
   refine aV (aV (cp ?_))
   unfold Fg
   simp only[aw,az,aA,ai,aG,fp,ak,aD,au,fq,aq,eJ,cT,dg,bS,tA,ar,q24,aW]
   refine bc (t:=false) (by simp only[ak,ai,ah,cT,cF, *]) (b7 ?_)
   simp only[aW]
   refine aV (cp ?_)
   unfold Rz
   simp only[aw,az,aA,ai,aG,aM,cG,ak,aD,bh,bk,au,bZ,ph,bG,aq,cT,cF,aP,bW,bS,tA,ah,ar,aX,wh,acK,p20,q23,hoc,hpc,happ,aW]
   refine aV (aV (cp ?_))
   unfold RA
   simp only[aw,az,aA,ai,cJ,bU,aG,bn,aU,bN,cG,ak,aD,bh,bk,bT,au,bZ,cE,cW,bG,aq,a7,cT,cF,aP,bW,aZ,bE,cN,bS,tA,cQ,ah,ar,aX,eC,De,acL,p0,p22,cb,hlb,cJ,bU,aW]
   by_cases hpb:p<b.length
   ·have hv:b[p]? =some b[p]:=j2 hpb
    have hib:=fun lc=>hb.at lF hv lc .i64
    have hlm:lW b p=[b[p]]:=by simp only[lW,hv]
    have hbs: ∀e s,ay e 141= .str b[p]->ey Tryz.prog 37 1 [(0,.tmp 141)] false e s=some (.list 1 [.str b[p]] .full,s):=fun e s p=>by
     simp only[ey,qQ,aq,ee,evc,ev,p,n7,cT,gU,ld,aR,aY,dl,lk,aQ,jJ,iL,cut]
     rfl
    obtain⟨ov2,s2,happ2,hO3,hc2,hn2,hm2,hold2,hcell2⟩:=xo qQ rfl (by decide) (y:=.list 1 [.str b[p]] .full) (ys:=[bB b[p]]) hO2 rfl (by rw[dw,fw,fw,pT];omega) (by omega) hm1
    have hoc2:=hO3.clean
    refine bc (t:=true) (by simp only[ak,ai,ah,cT,cF,hpb,dT]) (cp ?_)
    unfold RB
    simp only[aw,az,aA,ai,cJ,bU,aG,aM,lL,bn,bN,dI,cG,ak,aD,bh,bk,bT,dR,au,bZ,ph,bG,ji,aq,jD,cT,cF,aP,bW,aZ,bE,bS,tA,cQ,ah,ar,aX,eC,dv,De,wh,acM,acN,p0,p22,hib,bB,hoc1,hbs,happ2,cJ,bU,aW]
    refine jy (fin _ _ s2 ov2 ?_ ?_ ?_ ?_ ?_ ?_ ?_ ?_ ?_ ?_ ?_ ?_ ?_ ?_ ?_ hm2 hn2 hold2 (hc2.trans (hc1.trans hc'))) ?_
    ·simp only[ai,ah,cF, *]
    ·simp only[ai,ah,cF, *]
    ·simp only[ai,ah,cF, *]
    ·simp only[ai,ah,cF, *]
    ·simp only[ai,ah,cF, *]
    ·simp only[ai,ah,cT,cF, *]
    ·simp only[ai,ah,cF, *]
    ·simp only[ai,ah,cF, *]
    ·simp only[ai,ah,cF, *]
    ·simp only[ai,ah,cF, *]
    ·simp only[cJ,ah,cT]
    ·simp only[bU,cT,bS]
    ·simp only[cJ,ah,cF,g19]
    ·simp only[bU,ah,cF,b19]
    ·rw[hlm,mm,mm];exact hO3
    rintro w fr s3 ⟨rfl,e3,lc3,rfl,rfl,j0,j16,j17,j18,j19,j20,j92,j93,j94,l19,l19'⟩
    simp only[dM,aW]
    exact go e3 lc3 s3 ov2 j0 j16 j17 j18 j19 j20 j92 j93 j94 l19 l19' (by rw[hlm,mm,mm];exact hO3) hm2 hn2 hold2 (hc2.trans (hc1.trans hc'))
   ·have hv:b[p]? =none:=List.getElem?_eq_none (by omega)
    have hlm:lW b p=[]:=by simp only[lW,hv]
    refine bc (t:=false) (by simp only[ak,ai,ah,cT,cF,hpb,decide_false]) (b7 ?_)
    simp only[aW]
    refine jy (fin _ _ s1 ov1 ?_ ?_ ?_ ?_ ?_ ?_ ?_ ?_ ?_ ?_ ?_ ?_ ?_ ?_ ?_ hm1 (bK _) (fun _ _=>rfl) (hc1.trans hc')) ?_
    ·simp only[ai,ah,cF, *]
    ·simp only[ai,ah,cF, *]
    ·simp only[ai,ah,cF, *]
    ·simp only[ai,ah,cF, *]
    ·simp only[ai,ah,cF, *]
    ·simp only[ai,ah,cT,cF, *]
    ·simp only[ai,ah,cF, *]
    ·simp only[ai,ah,cF, *]
    ·simp only[ai,ah,cF, *]
    ·simp only[ai,ah,cF, *]
    ·simp only[cJ,ah,cT]
    ·simp only[bU,cT,bS]
    ·simp only[cJ,ah,cF,g19]
    ·simp only[bU,ah,cF,b19]
    ·rw[hlm,iQ,mm];exact hO2
    rintro w fr s3 ⟨rfl,e3,lc3,rfl,rfl,j0,j16,j17,j18,j19,j20,j92,j93,j94,l19,l19'⟩
    simp only[dM,aW]
    exact go e3 lc3 s3 ov1 j0 j16 j17 j18 j19 j20 j92 j93 j94 l19 l19' (by rw[hlm,iQ,mm];exact hO2) hm1 (bK _) (fun _ _=>rfl) (hc1.trans hc')
  ·refine aV (aV (cp ?_))
   unfold Fg
   simp only[aw,az,aA,ai,aG,fp,ak,aD,au,fq,aq,eJ,cT,ej,bS,tA,ar,q24,aW]
   refine bc (t:=true) (by simp only[ak,ai,ah,cT,cF, *]) (aF ?_)
   unfold Ry
   simp only[aw,az,aA,aM,aH,au,tA,ar,ofValue,gD]
   exact bP ⟨rfl,hc',.inr ⟨rfl,by simp only[l8,hch],by simp only[ai,ah,cT,cF, *],by simp only[ai,ah,cT,cF, *]⟩⟩
end
def mP (b o t:List aB):Option (List aB):=bif mZ [b,o,t] then none else BF b o t
def uU:Option (List aB)->aj
 |some l=>.tup [gK 1 (l.map bB),.bool true]
 |none=>.tup [.nils,.bool false]
theorem Yj {e:bq} {x y z:Operand} {a b c:aj} (hx:ev e x=some a) (hy:ev e y=some b) (hz:ev e z=some c) (ca:a.clean=true) (cb:b.clean=true) (cc:c.clean=true) (la:a.cells=[a]) (lb:b.cells=[b]) (lc:c.cells=[c]) (s:St):ey Tryz.prog 286 3 [(0,x),(1,y),(2,z)] false e s=some (.list 1 [a,b,c] .full,s):=by
 have el:jG Tryz.prog 286=some ⟨1,24,false,.nils⟩:=Zn
 simp only[ey,el,aq,ee,evc,hx,hy,hz,ca,cb,cc,la,lb,lc,cT,gU,xw,aR,aY,dl,lk,aQ,bJ,jJ,iL,cut]
 rfl
theorem aa0 {h:bD bR} {lo:Nat} {s:St} {ov:aj} {l:List aB} (hO:gW 1 lo s ov (l.map bB)):j5 h (.tup [ov,.bool true]) (uU (some l)):=by
 refine⟨4,?_⟩
 have h1:dt h 3 ov=some (gK 1 (l.map bB)):=xQ hO (k:=2) fun v hv=>by
  obtain⟨p,_,rfl⟩:=List.mem_map.1 hv
  rfl
 show((eU (dt h 3) [ov,.bool true])).bind (fun r=>some (aj.tup r))=_
 have h2:dt h 3 (.bool true)=some (.bool true):=rfl
 simp only[eU,h1,h2,aq,uU]
theorem Wg (W:List (Nat×Nat)): ∀M:List (Nat×Nat),(jP W M).length<=M.length
 | []=>bK _
 |(a,b)::M=>by
  simp only[jP]
  have:=Wg W M
  cases jL a W<;>simp only[aR]<;>omega
theorem aoP {sp:FuncId->Option (List aj->Option aj)} (h74:sp 74=none) (h114:sp 114=some wV) (h115:sp 115=some wv) (h116:sp 116=none) (h117:sp 117=none) (h37:sp 37=some qc) {vb vo vt:aj} {b o t:List aB}
 (hb:bH 1 bB vb b) (ho:bH 1 bB vo o) (ht:bH 1 bB vt t) (pb:cx vb=true) (po:cx vo=true) (pt:cx vt=true) {s:St} (hm:s.minw<=s.next):
 ∃v s',bv (QS sp) 74 [vb,vo,vt] s v s'/\(j5 s'.heap v (uU (mP b o t))/\s'.ci=s.ci):=by
 have cb:=hb.clean
 have co:=ho.clean
 have ct:=ht.clean
 have cell: ∀ {v:aj} {l:List aB},bH 1 bB v l->v.cells=[v]:=fun h=>by rcases h with⟨rfl,_⟩|⟨r,rfl⟩<;>rfl
 have lb:=cell hb
 have lo:=cell ho
 have lt:=cell ht
 have hlb:=fun mk s=>hb.len iV jl mk s
 have hlo:=fun mk s=>ho.len iV jl mk s
 have hlt:=fun mk s=>ht.len iV jl mk s
 have hR:Rows [vb,vo,vt] [b,o,t]:=.cons hb pb (.cons ho po (.cons ht pt .nil))
 have hsh:wV [.list 1 [vb,vo,vt] .full]=some (.bool (!mZ [b,o,t])):=by
  have q1:cg [vb,vo,vt].length 1000=true:=rfl
  simp only[wV,(yE hR).1,aq,q1,cT]
 have hbs: ∀e s,ay e 25=vb->ay e 26=vo->ay e 27=vt->ey Tryz.prog 286 3 [(0,.tmp 25),(1,.tmp 26),(2,.tmp 27)] false e s=some (.list 1 [vb,vo,vt] .full,s):=fun e s p q r=>Yj (by rw[ak,p]) (by rw[ak,q]) (by rw[ak,r]) cb co ct lb lo lt s
 refine bv.ofEx ajH ajG ajJ ajI h74 ?_
 unfold Rh
 refine aF ?_
 unfold Ri
 simp only[dr,cZ,aw,az,aA,aM,aH,au,cT,aR,aY,tA,aQ,ar,bJ,ck,cd,dT,ofValue,gD]
 refine aV (aV (cp ?_))
 unfold Rj
 simp only[aw,az,aA,ai,aG,lL,fp,dc,da,ak,aD,bh,bk,au,bZ,fq,bG,aq,eJ,jD,cT,cF,aP,bW,dq,bS,tA,ah,ar,Bool.not_not,aX,acQ,hbs,h114,hsh,aW]
 cases hlong:mZ [b,o,t] with
 |true=>
  have hres:mP b o t=none:=by simp only[mP,hlong,cT]
  refine bc (t:=true) (by simp only[ak,ai,ah,cT,cF,dg]) (aF ?_)
  unfold Rt
  simp only[aw,az,aA,aM,aH,au,dg,tA,ar,ofValue,gD]
  refine bP ⟨.inr rfl,.tup [.nils,.bool false],tL (v:=.nils) (w:=.bool false) (by simp only[ai,ah,cT,cF, *]) rfl (by simp only[ai,ah,cT,cF, *]) rfl,?_,rfl⟩
  rw[hres]
  exact⟨3,rfl⟩
 |false=>
  have hres:mP b o t=BF b o t:=by simp only[mP,hlong,cF]
  have hl3:oP b=false/\oP o=false/\oP t=false:=by
   simp only[mZ,lf,Bool.or_eq_false_iff] at hlong
   exact hlong
  have sb:b.length<=2000:=by have:=of_decide_eq_false hl3.1;omega
  have so:o.length<=2000:=by have:=of_decide_eq_false hl3.2.1;omega
  have st:t.length<=2000:=by have:=of_decide_eq_false hl3.2.2;omega
  have hmt:=UB hb ht pb pt sb st
  have hmo:=UB hb ho pb po sb so
  have lWt:=(uI b t).length (iK _)
  have lWo:=(uI b o).length (iK _)
  have iWt:=Ua (nU b t)
  have iWo:=Ua (nU b o)
  have hct:=iWt.clean
  have hco:=iWo.clean
  have hnt:=fun mk s=>iWt.len Ud Uc mk s
  have hno:=fun mk s=>iWo.len Ud Uc mk s
  rw[hres]
  refine bc (t:=false) (by simp only[ak,ai,ah,cT,cF,ej]) (b7 ?_)
  simp only[aW]
  refine aF ?_
  unfold RC
  simp only[aw,az,aA,ai,aM,uM,ak,au,bZ,cT,cF,aP,ej,bS,tA,ah,ar,A3]
  refine aV (aF ?_)
  unfold RE
  simp only[aw,az,aA,ai,aG,cG,dc,da,ak,aH,aD,bh,bk,bm,au,bZ,cW,bG,aq,cT,cF,aP,bW,dq,bS,tA,ah,ar,aX,acR,cb,ct,h115,hmt,hct,hnt]
  refine cR ?_
  refine jy (aqh (mW:=s.next) iWt (uI b t) (by omega) (nU b t) [] _ _ (s.new (.map [] 0)) rfl (lj hm) (iC _) (by rw[dy,bS];rfl) ?_ ?_ ?_ ?_) ?_
  ·simp only[ai,ah,cT,cF, *]
  ·simp only[ai,ah,cT,cF, *]
  ·simp only[ai,ah,cT,cF, *]
  ·simp only[ai,ah,cT,cF];rfl
  rintro x fr s1 ⟨rfl,e1,lc1,rfl,g1,⟨a0,a1,a2,a8⟩,hW1,n1,m1,c1⟩
  have n1:s1.next=s.next+1:=n1
  have c1:s1.ci=s.ci:=c1
  have b0:ay e1 0=vb:=a0.trans (by simp only[ai,ah,cT,cF, *])
  have b1:ay e1 1=vo:=a1.trans (by simp only[ai,ah,cT,cF, *])
  have b2:ay e1 2=vt:=a2.trans (by simp only[ai,ah,cT,cF, *])
  have b8:ay e1 8= .map s.next:=a8.trans (by simp only[ai,ah,cT,cF, *])
  show W (QS sp) 74 _ _ _ _
  refine aF ?_
  unfold RI
  simp only[aw,az,aA,aM,aH,au,tA,ar,ofValue,gD]
  refine aV (aF ?_)
  unfold Rk
  simp only[aw,az,aA,ai,aG,cG,dc,da,ak,aH,aD,bh,bk,bm,au,bZ,cW,bG,aq,cT,cF,aP,bW,dq,bS,tA,ah,ar,aX,acS,b0,b1,cb,co,h115,hmo,hco,hno]
  refine cR ?_
  refine jy (ao8 (_la:=0) (_lb0:=0) (Wt:=nU b t) iWo (by omega) (mW:=s.next) (lo:=s.next+1) (iC _) (nU b o) [] _ _ s1 .nils rfl m1 (by omega) hW1 (.inl ⟨rfl,rfl⟩) (bK _) ?_ ?_ ?_ ?_ ?_) ?_
  ·simp only[ai,ah,cT,cF, *]
  ·simp only[ai,ah,cT,cF, *]
  ·simp only[ai,ah,cT,cF, *]
  ·simp only[ai,ah,cT,cF, *]
  ·simp only[ai,ah,cT,cF];rfl
  rintro x fr s2 ⟨rfl,e2,lc2,ov2,rfl,g2,⟨d0,d1,d2,d11⟩,hO2,hl2,n2,m2,c2⟩
  have f0:ay e2 0=vb:=d0.trans (by simp only[ai,ah,cT,cF, *])
  have f1:ay e2 1=vo:=d1.trans (by simp only[ai,ah,cT,cF, *])
  have f2:ay e2 2=vt:=d2.trans (by simp only[ai,ah,cT,cF, *])
  have hoc2:=hO2.clean
  have hbd: ∀e,ay e 74= .int .i64 (b.length:Nat)->ay e 76= .int .i64 (o.length:Nat)->ay e 78= .int .i64 (t.length:Nat)->gQ Tryz.prog 186 [(0,.tmp 74),(1,.tmp 76),(2,.tmp 78)] e=some (.agg [.int .i64 (b.length:Nat),.int .i64 (o.length:Nat),.int .i64 (t.length:Nat)]):=fun e p q r=>by
   rw[CE]
   simp only[yW,aq,ee,evc,ev,p,q,r,a7,cT]
   rfl
  have hbs4: ∀e s,ay e 79= .agg [.int .i64 (b.length:Nat),.int .i64 (o.length:Nat),.int .i64 (t.length:Nat)]->ey Tryz.prog 184 1 [(0,.tmp 79)] false e s=some (.list 3 [.agg [.int .i64 (b.length:Nat),.int .i64 (o.length:Nat),.int .i64 (t.length:Nat)]] .full,s):=fun e s h=>Ic (by rw[ak,h]) s
  obtain⟨ov3,s3,happ,hO3,hc3,hn3,hm3,hold3,hcell3⟩:=xo C5 rfl (by decide) (y:=.list 3 [.agg [.int .i64 (b.length:Nat),.int .i64 (o.length:Nat),.int .i64 (t.length:Nat)]] .full) (ys:=[tW (b.length,o.length,t.length)]) hO2 rfl (by rw[fw,pT];omega) (by omega) m2
  have hall:gW 3 (s.next+1) s3 ov3 ((rN b o t).map tW):=by rw[rN,mm];exact hO3
  have hoc3:=hO3.clean
  have hva:bH 3 tW ov3 (rN b o t):=by
   rcases hall with⟨h1,h2⟩|⟨_,k,h1,_⟩
   ·exact .inl ⟨h1,List.map_eq_nil_iff.1 h2⟩
   ·exact .inr ⟨_,h1⟩
  have hln:=fun mk s=>hva.len ala ak9 mk s
  have hall_len:(rN b o t).length<=10000:=by rw[rN,dw,pT];have:=Wg (nU b t) (nU b o);omega
  show W (QS sp) 74 _ _ _ _
  refine aF ?_
  unfold Rp
  simp only[aw,az,aA,ai,aG,aM,lK,lL,cG,ak,aD,bh,bk,au,bZ,cW,ph,bG,aq,jD,cT,cF,aP,bW,bS,tA,ah,ar,aX,J0,acV,acW,acX,acY,acZ,f0,f1,f2,d11,cb,co,ct,hlb,hlo,hlt,hoc2,hbd,hbs4,happ]
  have hb82: ∀e,ay e 82=vb->gQ Tryz.prog 189 [(0,.tmp 82)] e=some (.agg [vb]):=fun e p=>by
   rw[CF]
   simp only[Ht,aq,ee,evc,ev,p,cb,lb,cT]
   rfl
  have hb85: ∀e,ay e 85=vo->gQ Tryz.prog 189 [(0,.tmp 85)] e=some (.agg [vo]):=fun e p=>by
   rw[CF]
   simp only[Ht,aq,ee,evc,ev,p,co,lo,cT]
   rfl
  have hb88: ∀e,ay e 88=vt->gQ Tryz.prog 189 [(0,.tmp 88)] e=some (.agg [vt]):=fun e p=>by
   rw[CF]
   simp only[Ht,aq,ee,evc,ev,p,ct,lt,cT]
   rfl
  refine aF ?_
  unfold Rq
  simp only[aw,az,aA,ai,aG,aM,iA,lK,ak,aD,i9,au,bG,dj,aq,cu,cT,cF,aP,bW,bS,tA,ah,ar,ac0,ac1,ac2,f0,f1,f2,hb82,hb85,hb88,i9,jF]
  obtain⟨s4,hs4⟩: ∃a,a=((s3.new (.cells [vb])).new (.cells [vo])).new (.cells [vt]):=⟨_,rfl⟩
  rw[<-hs4]
  have n4:s4.next=s3.next+3:=by rw[hs4];rfl
  have m4:s4.minw<=s4.next:=by rw[n4];have:s4.minw=s3.minw:=by rw[hs4];rfl
                               omega
  have c4:s4.ci=s.ci:=by rw[hs4];exact hc3.trans (c2.trans c1)
  have gx:s4.get [] s3.next=some (.cells [vb]):=by rw[hs4,dy,jF,jF,beq_eq_false_iff_ne.2 (by omega),cF,dy,jF,beq_eq_false_iff_ne.2 (by omega),cF,dy,bS];rfl
  have gy:s4.get [] (s3.next+1)=some (.cells [vo]):=by rw[hs4,dy,jF,jF,beq_eq_false_iff_ne.2 (by omega),cF,dy,jF,bS];rfl
  have gz:s4.get [] (s3.next+1+1)=some (.cells [vt]):=by rw[hs4,dy,jF,jF,bS];rfl
  refine aF ?_
  unfold Rr
  have hbd3: ∀e,gQ Tryz.prog 186 [(0,.const (.int .i64 (-1))),(1,.const (.int .i64 (-1))),(2,.const (.int .i64 (-1)))] e=some (.agg [.int .i64 (-1),.int .i64 (-1),.int .i64 (-1)]):=fun e=>by
   rw[CE]
   simp only[yW,aq,ee,evc,ev,ofValue,gD,a7,cT]
   rfl
  simp only[aw,az,eD,aA,eE,ai,bU,iW,gY,lK,eN,ak,aD,fv,au,bG,dj,ik,aq,cu,cT,cF,aP,bW,aR,aY,dl,bO,aZ,cy,cP,bS,tA,aQ,ah,ar,bJ,ck,dX,aX,dA,cd,dT,yW,Ha,acO,hbd3]
  have gz19:lc2.gen 19=0:=g2.trans (g1.trans (by first|rfl|(simp only[cJ,ah,cF,dp];try rfl)))
  refine aF ?_
  unfold Ru
  simp only[aw,az,aA,aM,aH,au,tA,ar,ofValue,gD]
  refine aV (aF ?_)
  unfold Rv
  simp only[aw,az,aA,ai,aG,cG,ak,aH,aD,bh,bk,bm,au,bZ,cW,bG,aq,cT,cF,aP,bW,bS,tA,ah,ar,aX,ac3,hoc3,hln]
  refine cR ?_
  refine jy (YT h116 h117 h37 hb sb so st hva hall_len (x:=s3.next) (y:=s3.next+1) (z:=s3.next+1+1) (lo:=s3.next+3) (by omega) (by omega) (by omega) ⟨by omega,by omega,by omega⟩ (rN b o t) [] 0 0 0 _ _ s4 .nils [] rfl (HW b o t) m4 (by omega) (.inl ⟨rfl,rfl⟩) (bK _) (by omega) (by omega) (by omega) ⟨vb,gx,hb,pb⟩ ⟨vo,gy,ho,po⟩ ⟨vt,gz,ht,pt⟩ ?_ ?_ ?_ ?_ ?_ ?_ ?_ ?_ ?_ ?_ ?_) ?_
  ·simp only[ai,dp,bJ,ah,cT,cF, *]
  ·simp only[ai,dp,bJ,ah,cT,cF, *]
  ·simp only[ai,dp,bJ,ah,cT,cF, *]
  ·simp only[ai,dp,bJ,ah,cT,cF, *]
  ·simp only[ai,ah,cT,cF];rfl
  ·simp only[ai,dp,bJ,ah,cT,cF, *]
  ·simp only[ai,dp,bJ,ah,cT,cF, *]
  ·simp only[ai,dp,bJ,ah,cT,cF, *]
  ·simp only[ai,ah,cT,cF,gz19]
  ·simp only[cJ,ah,cT,gz19]
  ·simp only[bU,ah,cT,gz19]
   rfl
  rintro w fr s5 ⟨hz,c5,hcase⟩
  have hci:s5.ci=s.ci:=c5.trans c4
  rcases hcase with⟨rfl,out',ov',hq,h20,hO5⟩|⟨rfl,hq,h6,h7⟩
  ·obtain⟨e5,z5,lc5⟩:=fr
   have hz:z5=147:=hz
   subst hz
   have h20:ay e5 20=ov':=h20
   have hoc5:=hO5.clean
   have hr:BF b o t=some out':=hq
   show W (QS sp) 74 _ _ _ _
   refine aF ?_
   unfold RD
   simp only[aw,az,aA,ai,aG,aM,ak,aH,au,cT,bS,tA,ar,ofValue,gD,h20]
   refine bP ⟨.inr rfl,.tup [ov',.bool true],tL (v:=ov') (w:=.bool true) (by simp only[ai,ah,cT,cF, *]) hoc5 (by simp only[ai,ah,cT,cF, *]) rfl,?_,hci⟩
   rw[hr]
   exact aa0 hO5
  ·refine⟨.inr rfl,.tup [.nils,.bool false],tL (v:=.nils) (w:=.bool false) h6 rfl h7 rfl,?_,hci⟩
   have hr:BF b o t=none:=hq
   rw[hr]
   exact⟨3,rfl⟩
def tR:Sp
 | [u,v,w]=>bif pures [u,v,w] then(ic 1 mw u).bind fun b=>(ic 1 mw v).bind fun o=>(ic 1 mw w).bind fun t=>some (uU (mP b o t)) else none
 |_=>none
theorem aoN {vb vo vt:aj} {b o t:List aB} (hb:bH 1 bB vb b) (ho:bH 1 bB vo o) (ht:bH 1 bB vt t) (pb:cx vb=true) (po:cx vo=true) (pt:cx vt=true):tR [vb,vo,vt]=some (uU (mP b o t)):=by
 simp only[tR,pures,pb,po,pt,fL,cT,ka pf hb,ka pf ho,ka pf ht,aq]
def Cm:fh:=[(37,qc),(114,wV),(115,wv)]
theorem Xr:fI Cm:=.cons I1 (.cons aoS (.cons alU .nil))
theorem aoO:ek Tryz.prog 74 tR:=by
 intro args x hv G h w xs wr hx
 unfold tR at hv
 split at hv
 ·rename_i u v t
  obtain⟨hp,hv⟩:=cq hv
  simp only[aN] at hv
  obtain⟨a,h1,b,h2,c,h3,hv⟩:=hv
  injection hv with hv;subst hv
  have ha:=jA (fun v a=>pd) h1
  have hb:=jA (fun v a=>pd) h2
  have hc:=jA (fun v a=>pd) h3
  have hq:cx u=true/\cx v=true/\cx t=true:=by
   simp only[pures,dX,df] at hp
   exact hp
  obtain⟨ov,s',r1,r2,r3⟩:=aoP (sp:=fun f=>eR f Cm) rfl rfl rfl rfl rfl rfl ha hb hc hq.1 hq.2.1 hq.2.2 (s:=s0) (bK _)
  exact fD (Q:=QT Cm) (fB Xr) (fun _=>fG 1) (args:=[u,v,t]) (v:=ov) (s':=s') (kZ hp) (by rw[iP hp];exact r1) r3 r2 G h w xs wr hx
 ·cases hv
theorem aoh (r:Option (List aB)):(∃l,r=some l/\uU r= .tup [gK 1 (l.map bB),.bool true]/\bH 1 bB (gK 1 (l.map bB)) l)\/(r=none/\uU r= .tup [.nils,.bool false]):=by
 cases r with
 |none=>exact .inr ⟨rfl,rfl⟩
 |some l=>
  refine .inl ⟨l,rfl,rfl,?_⟩
  cases l with
  |nil=>exact .inl ⟨rfl,rfl⟩
  |cons a l=>exact .inr ⟨_,rfl⟩
end Go.Proofs.YtbfmdojdemckbaaGreat
