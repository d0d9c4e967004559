/- Operations of the evaluator are sound: slicing, append, copy. -/
import Derived.Test.YtbfmdojdemckbaaGreatAg3
namespace Go.Ag
open _root_.Bool renaming and_eq_true→cU
open Builtin renaming append_→rb,clear_→sQ,copy_→wl,firstCells→oI,lenOf→sR,nextslicecap→A0
open _root_.List renaming all_eq_true→mP,getElem?_append_left→oJ,getElem?_append_right→pC,getElem?_drop→re,getElem?_eq_none→jg,getElem?_take→uj,length_append→dn,length_drop→sT,length_nil→aQ,length_take→pD,mem_of_mem_drop→ul,mem_of_mem_take→rg,nil_append→bT,take_append_drop→mR,take_of_length_le→ws
open _root_.Nat renaming add_assoc→nL,add_mul→ma,add_zero→cY,eq_zero_or_pos→sV,le_refl→bv,lt_or_ge→gY,min_eq_left→wu,mul_le_mul_right→uo
open _root_.Option renaming bind_eq_some_iff→aF,map_some→qr
open _root_.Option.some renaming injEq→a7
open _root_.Prod.mk renaming injEq→bK
theorem akY (s:List UInt8) (l h:Nat):(ByteArray.mk ⟨s⟩).extract l h=ByteArray.mk ⟨(s.take h).drop l⟩:=by
 apply ByteArray.ext
 rw [ByteArray.data_extract]
 apply Array.ext'
 simp only [Array.toList_extract,List.extract]
 rw [List.drop_take]
section
variable {P:Program} {mk:bj} {G:Gh} {s s':St} {B:Nat→Nat} {fr:Fr} {a:Act} {w:World} {o:Oper} {lo hi:Nat} {v:ai} {loc':Loc}
def wv (x:Option Value) (d n:Nat):Prop:=(x=none∧n=d)∨ ∃k,x=some (.int k (.ofNat n))
theorem ll (fx:c8 G s.heap B fr a.tmps w) {x:Option Operand} {d n:Nat} (h:jv fr.env x d=some n):wv (x.map a.eval) d n:=by
 cases x with
 |none=>simp [jv] at h;exact .inl ⟨rfl,h.symm⟩
 |some x=>
  simp only [jv,aF] at h
  obtain⟨u,hu,h⟩:=h
  obtain⟨k,rfl⟩:=vu h
  have hl:VR G _ _:=fx.ev hu
  generalize hX:a.eval x=X at hl
  cases hl
  exact .inr ⟨k,by simp [hX]⟩
theorem xP {isS:Bool} {len cap l h:Nat} {lv hv:Option Value} (hl:wv lv 0 l) (hh:wv hv len h) (h1:h≤cap) (h2:l≤h) (w:World):
 (Instr.sliceBounds isS len cap lv hv none).run P w= .ok (l,h,cap) w:=by
 have e1: ∀n m:Nat,n≤m→(0≤(Int.ofNat n)∧(Int.ofNat n)≤(m:Int)):=fun n m hnm=>⟨Int.natCast_nonneg n,Int.ofNat_le.2 hnm⟩
 rcases hl with⟨rfl,rfl⟩|⟨k,rfl⟩<;>rcases hh with⟨rfl,rfl⟩|⟨k',rfl⟩<;>
  simp [Instr.sliceBounds,Instr.sliceBound,asIntOf,h1,h2]
theorem Sq {len cap l h m:Nat} {lv hv mv:Option Value} (hl:wv lv 0 l) (hh:wv hv len h) (hm: ∃k,mv=some (.int k (.ofNat m))) (hs:hv.isSome=true) (h0:m≤cap) (h1:h≤m) (h2:l≤h) (w:World):
 (Instr.sliceBounds true len cap lv hv mv).run P w= .ok (l,h,m) w:=by
 obtain⟨km,rfl⟩:=hm
 rcases hh with⟨rfl,rfl⟩|⟨k',rfl⟩
 ·simp at hs
 ·rcases hl with⟨rfl,rfl⟩|⟨k,rfl⟩<;>simp [Instr.sliceBounds,Instr.sliceBound,asIntOf,h0,h1,h2]
theorem Xp {sz:Nat} {xs:List ai} (hsz: ∀x∈xs,x.cells.length=sz) {h l:Nat} (_h1:h≤xs.length) (_h2:l≤h):
 ∀(i:Nat) u,(bO ((xs.take h).drop l))[i]? =some u→(bO xs)[l*sz+i]? =some u:=by
 have hd: ∀(l:Nat) (xs:List ai),(∀x∈xs,x.cells.length=sz)→bO (xs.drop l)=(bO xs).drop (l*sz):=by
  intro l
  induction l with
  |zero=>intro xs _;simp
  |succ l ih=>
   intro xs hx
   cases xs with
   |nil=>simp [bO]
   |cons x xs=>
    simp only [List.drop_succ_cons,bO]
    rw [ih xs (fun y hy=>hx y (by simp [hy])),Nat.succ_mul,Nat.add_comm,←List.drop_drop,List.drop_append_of_le_length (by rw [hx x (by simp)];exact bv _)]
    rw [←hx x (by simp),List.drop_length,bT]
 have ht: ∀(xs ys:List ai),bO (xs++ys)=bO xs++bO ys:=by
  intro xs ys
  induction xs with
  |nil=>simp [bO]
  |cons x xs ih=>simp [bO,ih]
 intro i u hu
 rw [hd l _ (fun y hy=>hsz y (rg hy)),re] at hu
 have e:bO xs=bO (xs.take h)++bO (xs.drop h):=by rw [←ht,mR]
 rw [e]
 rcases gY (l*sz+i) (bO (xs.take h)).length with hlt|hge
 ·rw [oJ hlt];exact hu
 ·rw [jg hge] at hu;cases hu
theorem ajd {t:TypeId} {x:Operand} {lop hop mop:Option Operand} (ho:o.op= .slice t x lop hop mop) (wr:WR G s.heap w) (fx:c8 G s.heap B fr a.tmps w)
 (he:ky x (fun x=>jH P mk t x lop hop mop fr.env s) fr s=some (v,loc',s')):fO P G s.heap w B fr.loc lo hi a o v loc' s'.heap:=by
 simp only [ky,aF] at he
 obtain⟨xv,hx,he⟩:=he
 replace he:=jG he
 obtain⟨he,rfl,rfl⟩:=he
 have hX:=(fx.evc hx).1
 generalize hXv:a.eval x=X at hX
 simp only [jH,aF] at he
 obtain⟨d,hd,he⟩:=he
 split at he
 ·split at he
  ·rename_i bs
   simp only [aF] at he
   obtain⟨h,hh,l,hl,he⟩:=he
   replace he:=bW he
   obtain⟨hc,he⟩:=he
   simp only [cU] at hc
   injection he with he;subst he
   cases hX
   refine .pure wr fx (y:=.string ⟨⟨(bs.take h).drop l⟩⟩) ?_ (LV.of_VR (.str _))
   have hb:=xP (P:=P) (isS:=false) (cap:=bs.length) (ll fx hl) (ll fx hh) (iZ hc.2) (iZ hc.1) w
   have hsz:(ByteArray.mk ⟨bs⟩).size=bs.length:=rfl
   simp [execOp,ho,hXv,Instr.sliceAt,Instr.slice,dp hd,hsz,hb,akY]
  ·cases he
 ·rename_i e
  simp only [aF] at he
  obtain⟨n,hn,he⟩:=he
  split at he
  ·simp only [aF] at he
   obtain⟨h,hh,l,hl,m,hm,he⟩:=he
   replace he:=bW he
   obtain⟨hc,he⟩:=he
   simp only [cU] at hc
   have hiso:=hc.2
   obtain rfl:=eU hc.1.1.1
   obtain rfl:=eU hc.1.1.2
   obtain rfl:=eU hc.1.2
   injection he with he;subst he
   cases hX
   refine .pure wr fx (y:=.slice none 0 0) ?_ (LV.of_VR .nils)
   cases mop with
   |none=>
    have hb:=xP (P:=P) (isS:=true) (cap:=0) (ll fx hl) (ll fx hh) (bv _) (bv _) w
    simp [execOp,ho,hXv,Instr.sliceAt,Instr.slice,dp hd,hb,gS hn]
   |some mx=>
    have hbm:=ll fx hm
    rcases hbm with⟨h0,_⟩|⟨km,hkm⟩
    ·cases h0
    ·cases hop with
     |none=>simp at hiso
     |some hx=>
      have hb:=Sq (P:=P) (cap:=0) (ll fx hl) (ll fx hh) ⟨km,hkm⟩ rfl (bv _) (bv _) (bv _) w
      simp only [qr] at hb
      simp [execOp,ho,hXv,Instr.sliceAt,Instr.slice,dp hd,hb,gS hn]
  ·rename_i sz xs r
   simp only [aF] at he
   obtain⟨h,hh,l,hl,he⟩:=he
   replace he:=bW he
   obtain⟨hc,he⟩:=he
   simp only [cU] at hc
   obtain rfl:=eU hc.1.1
   have hlh:=iZ hc.1.2
   have hhl:=iZ hc.2
   cases hX with
   |list hsp hpos hsz hcap hro hr=>
   rename_i ad cap
   obtain⟨b,off,sp⟩:=ad
   have hsp0:0<cap→sp=none:=fun h0=>by
    rcases hsp with h|h
    ·omega
    ·exact h
   have hlen:((xs.take h).drop l).length=h-l:=by simp;omega
   have hmem: ∀y∈(xs.take h).drop l,y.cells.length=sz:=fun y hy=>hsz y (rg (ul hy))
   have hcells: ∀(i:Nat) u,(bO ((xs.take h).drop l))[i]? =some u→G.ro b (off+l*sz+i)=some u:=fun i u hu=>by
    rw [nL];exact hro _ _ (Xp hsz hhl hlh i u hu)
   split at he
   ·injection he with he;subst he
    have hb:=xP (P:=P) (isS:=true) (cap:=cap) (ll fx hl) (ll fx hh) (by omega) hlh w
    refine .pure wr fx (y:=.slice (some (if cap=l then⟨b,off,sp⟩ else⟨b,off+l*sz,none⟩)) (h-l) (cap-l)) ?_ (LV.of_VR ?_)
    ·by_cases hcl:cap=l
     ·subst hcl
      simp [execOp,ho,hXv,Instr.sliceAt,Instr.slice,dp hd,hb,gS hn]
     ·obtain rfl:=hsp0 (by omega)
      simp [execOp,ho,hXv,Instr.sliceAt,Instr.slice,dp hd,hb,gS hn,hcl,lH]
    ·rw [←hlen]
     refine .list (by by_cases hcl:cap=l;exact .inl (by omega);exact .inr (by rw [if_neg hcl])) hpos hmem (by rw [hlen];omega) ?_ ?_
     ·intro i u hu
      by_cases hcl:cap=l
      ·have:(xs.take h).drop l=[]:=List.length_eq_zero_iff.1 (by rw [hlen];omega)
       rw [this] at hu;simp [bO] at hu
      ·rw [if_neg hcl];exact hcells i u hu
     ·rw [hlen]
      cases hcnd:(Nat.beq h xs.length&&(Nat.blt l h||Nat.beq l 0)) with
      |false=>trivial
      |true=>
       simp only [cU,Bool.or_eq_true] at hcnd
       have hhx:=eU hcnd.1
       simp only [cT]
       cases r with
       |full=>simp only [wA] at hr ⊢;omega
       |no=>trivial
       |own k=>
        obtain⟨hk,dm,hdm,hle⟩:=hr
        simp only at hle
        have hcase:l<h∨l=0:=hcnd.2.imp mi eU
        have key:(l=0∧(if cap=l then(⟨b,off,sp⟩:Addr) else⟨b,off+l*sz,none⟩)=⟨b,off,sp⟩)∨(if cap=l then(⟨b,off,sp⟩:Addr) else⟨b,off+l*sz,none⟩)=⟨b,off+l*sz,none⟩:=by
         rcases hcase with hc|rfl
         ·exact .inr (by rw [if_neg (by omega)])
         ·refine .inl ⟨rfl,?_⟩
          by_cases h0:cap=0
          ·rw [if_pos h0]
          ·obtain rfl:=hsp0 (by omega)
           rw [if_neg h0];simp
        rcases key with⟨rfl,hk'⟩|hk'
        ·rw [hk']
         subst hhx
         exact⟨by simpa using hk,dm,hdm,by simpa using hle⟩
        ·rw [hk']
         subst hhx
         refine⟨?_,dm,hdm,?_⟩
         ·rw [hk]
          congr 2
          simp only
          have:xs.length*sz=l*sz+(xs.length-l)*sz:=by rw [←ma];congr 1;omega
          omega
         ·simp only
          have:cap*sz=l*sz+(cap-l)*sz:=by rw [←ma];congr 1;omega
          omega
   ·simp only [aF] at he
    obtain⟨m,hm,he⟩:=he
    replace he:=bW he
    obtain⟨hmh,he⟩:=he
    simp only [cU] at hmh
    obtain rfl:=eU hmh.1
    injection he with he;subst he
    have hbm:=ll fx hm
    rcases hbm with⟨h0,_⟩|⟨km,hkm⟩
    ·cases h0
    ·have hb:=Sq (P:=P) (cap:=cap) (ll fx hl) (ll fx hh) ⟨km,hkm⟩ (by simpa using hmh.2) (by omega) (bv _) hlh w
     simp only [qr] at hb
     refine .pure wr fx (y:=.slice (some (if m=l then⟨b,off,sp⟩ else⟨b,off+l*sz,none⟩)) (m-l) (m-l)) ?_ (LV.of_VR ?_)
     ·by_cases hcl:m=l
      ·subst hcl
       simp [execOp,ho,hXv,Instr.sliceAt,Instr.slice,dp hd,hb,gS hn]
      ·obtain rfl:=hsp0 (by omega)
       simp [execOp,ho,hXv,Instr.sliceAt,Instr.slice,dp hd,hb,gS hn,hcl,lH]
     ·rw [←hlen]
      refine .list (by by_cases hcl:m=l;exact .inl (by omega);exact .inr (by rw [if_neg hcl])) hpos hmem (bv _) ?_ rfl
      intro i u hu
      by_cases hcl:m=l
      ·have:(xs.take m).drop l=[]:=List.length_eq_zero_iff.1 (by rw [hlen];omega)
       rw [this] at hu;simp [bO] at hu
      ·rw [if_neg hcl];exact hcells i u hu
  ·rename_i sz n' off len lcap
   simp only [aF] at he
   obtain⟨h,hh,l,hl,he⟩:=he
   replace he:=bW he
   obtain⟨hc,he⟩:=he
   simp only [cU] at hc
   obtain rfl:=eU hc.1.1.1
   have hlh:=iZ hc.1.1.2
   have hhl:=iZ hc.1.2
   cases mop with
   |some _=>simp at hc
   |none=>
   injection he with he;subst he
   cases hX with
   |arr hat hsp hpos hlen hcap hadr hdim hle=>
   rename_i ad bd cap dm
   obtain⟨b,aoff,sp⟩:=ad
   simp only at hsp;subst hsp
   have hb:=xP (P:=P) (isS:=true) (cap:=cap) (ll fx hl) (ll fx hh) (by omega) hlh w
   refine .pure wr fx (y:=.slice (some (if cap=l then⟨b,aoff,none⟩ else⟨b,aoff+l*sz,none⟩)) (h-l) (cap-l)) ?_ (LV.of_VR ?_)
   ·by_cases hcl:cap=l
    ·subst hcl
     simp [execOp,ho,hXv,Instr.sliceAt,Instr.slice,dp hd,hb,gS hn]
    ·simp [execOp,ho,hXv,Instr.sliceAt,Instr.slice,dp hd,hb,gS hn,hcl,lH]
   ·have hmul:cap*sz=l*sz+(cap-l)*sz:=by rw [←ma];congr 1;omega
    refine .arr hat (by split<;>rfl) hpos (by omega) (by omega) ?_ hdim (by omega)
    rcases hadr with h0|⟨h1,h2⟩
    ·exact .inl (by omega)
    ·by_cases hcl:cap=l
     ·exact .inl (by omega)
     ·rw [if_neg hcl]
      exact .inr ⟨h1,by simp only at h2 ⊢;omega⟩
  ·cases he
 ·rename_i len e
  simp only [aF] at he
  obtain⟨n,hn,he⟩:=he
  split at he
  ·rename_i m off
   simp only [aF] at he
   obtain⟨h,hh,l,hl,ob,hob,he⟩:=he
   split at he
   ·rename_i cs
    replace he:=bW he
    obtain⟨hc,he⟩:=he
    simp only [cU] at hc
    have hlh:=iZ hc.1.1.1.1
    have hhl:=iZ hc.1.1.1.2
    have hnz:0<len*n:=mi hc.1.2
    have hpos:0<n:=Nat.pos_of_mul_pos_left hnz
    have hin:=iZ hc.2
    cases mop with
    |some _=>simp at hc
    |none=>
    injection he with he;subst he
    cases hX with
    |ptr hat=>
    rename_i ad
    obtain⟨ad',hat',hsp,C,ty,hb,hdm,hcs⟩:=wr.obj m _ (iL hob)
    rw [hat] at hat';injection hat' with hat';subst hat'
    have hbd:=xP (P:=P) (isS:=false) (cap:=len) (ll fx hl) (ll fx hh) hhl hlh w
    have hsz:ad.off+cs.length≤C.size∨cs.length=0:=by
     rcases sV cs.length with h0|h0
     ·exact .inr h0
     ·obtain⟨_,y,hy,_⟩:=hcs (cs.length-1) cs[cs.length-1] (List.getElem?_eq_getElem (by omega))
      have:ad.off+(cs.length-1)<C.size:=by
       rcases gY (ad.off+(cs.length-1)) C.size with h|h
       ·exact h
       ·simp [Array.getElem?_eq_none h] at hy
      exact .inl (by omega)
    have hmul:len*n=l*n+(len-l)*n:=by rw [←ma];congr 1;omega
    ·refine .pure wr fx (y:=.slice (some (if len=l then⟨ad.block,ad.off+off,none⟩ else⟨ad.block,ad.off+off+l*n,none⟩)) (h-l) (len-l)) ?_ (LV.of_VR ?_)
     ·by_cases hcl:len=l
      ·subst hcl
       simp [execOp,ho,hXv,Instr.sliceAt,dp hd,Instr.sureAddr,hbd,gS hn]
      ·simp [execOp,ho,hXv,Instr.sliceAt,dp hd,Instr.sureAddr,hbd,gS hn,hcl,lH]
     ·refine .arr hat (by split<;>rfl) hpos (by omega) (bv _) ?_ hdm (by omega)
      by_cases hcl:len=l
      ·exact .inl (by omega)
      ·rw [if_neg hcl]
       exact .inr ⟨rfl,by simp only;omega⟩
   ·cases he
  ·cases he
 ·cases he
end
section
variable {P:Program} {mk:bj} {G:Gh} {s s':St} {B:Nat→Nat} {fr:Fr} {a:Act} {w:World} {o:Oper} {lo hi:Nat} {v:ai} {loc':Loc}
theorem VR.slice_len {x:ai} {X:Value} (h:VR G x X) (hs:w7 x=true): ∃b n c,X= .slice b n c:=by
 cases h<;>first|(simp [w7] at hs;done)|exact⟨_,_,_,rfl⟩
theorem xQ {g:Bool} {n:Nat} {y:ai} {Y:Value} {ys:List ai} (hg:g=false→n=1) (hpos:0<n) (h:jO mk g n y s=some ys) (hy:VR G y Y) (wr:WR G s.heap w):
 ∃C:Array Value,(∀w':World,w'.heap=w.heap→(sR Y).run P w'= .ok ys.length w'∧ ∀k,k≤ys.length→(oI n k Y).run P w'= .ok ⟨C.toList.take (k*n)⟩ w')∧cg G (bO ys) C.toList∧dG (bO ys)=true∧ ∀u∈ys,u.cells.length=n:=by
 unfold jO at h
 split at h
 ·injection h with h;subst h;cases hy
  refine⟨#[],fun w' hw'=>⟨by simp [sR],fun k hk=>?_⟩,.nil,rfl,by simp⟩
  obtain rfl:k=0:=by simpa using hk
  simp [oI]
 ·rename_i sz xs r
  replace h:=bW h
  obtain⟨hsz,h⟩:=h
  obtain rfl:=eU hsz
  injection h with h;subst h
  cases hy with
  |list hsp hp hm hcap hro hr=>
  rename_i ad cap
  obtain⟨b,off,sp⟩:=ad
  have hsp0:0<cap→sp=none:=fun h0=>by
   rcases hsp with h|h
   ·omega
   ·exact h
  obtain⟨vs,h1,h2,h3⟩:=Fi (G:=G) (cs:=bO xs) (f:=fun i=>w.cell? ⟨b,off+i,none⟩) (fun i u hu=>wr.ro _ _ _ (hro i u hu))
  refine⟨⟨vs⟩,fun w' hw'=>⟨by simp [sR],fun k hk=>?_⟩,h1,h2,hm⟩
  have hcell: ∀ad,w'.cell? ad=w.cell? ad:=fun ad=>by simp [World.cell?,hw']
  have hlen:(vs.take (k*sz)).length=k*sz:=by
   rw [pD,←h1.length,ki hm]
   exact wu (uo _ hk)
  have hl:=run_loadCells_list (P:=P) (w:=w') ⟨b,off,sp⟩ (vs.take (k*sz)) (fun j v hj=>by
   have hk0:0<cap:=by
    have hjl:j<(vs.take (k*sz)).length:=by
     rcases gY j (vs.take (k*sz)).length with h|h
     ·exact h
     ·simp [jg h] at hj
    rw [hlen] at hjl
    rcases sV k with h|h
    ·subst h;omega
    ·omega
   obtain rfl:=hsp0 hk0
   rw [lH,hcell]
   refine h3 j v ?_
   rw [uj] at hj
   split at hj
   ·exact hj
   ·cases hj)
  rw [hlen] at hl
  simpa [oI] using hl
 ·rename_i sz m off len lcap
  replace h:=bW h
  obtain⟨hsz,h⟩:=h
  obtain rfl:=eU hsz
  simp only [aF] at h
  obtain⟨ob,hob,h⟩:=h
  split at h
  ·rename_i cs
   simp only [aF] at h
   obtain⟨c,hc,h⟩:=h
   cases hy with
   |arr hat hsp hp hlen hcap hadr hdim hle=>
   rename_i ad bd cap dm
   obtain⟨b,aoff,sp⟩:=ad
   simp only at hsp;subst hsp
   obtain⟨bd',hat',hsp',C,ty,hb,_,hcs⟩:=wr.obj m _ (iL hob)
   rw [hat] at hat';injection hat' with hat';subst hat'
   have hsc:dG c=true:=by
    simp only [dG,mP]
    intro u hu
    obtain⟨i,hi⟩:=List.mem_iff_getElem?.1 hu
    exact(hcs _ u (wL hc hi)).1
   obtain⟨c1,c2,c3⟩:=uE hg h hsc
   obtain⟨vs,h1,h2,h3⟩:=Fi (G:=G) (cs:=c) (f:=fun i=>w.cell? ⟨bd.block,bd.off+off+i,none⟩) (fun i u hu=>by
    obtain⟨q1,y,hy,q2⟩:=hcs _ u (wL hc hu)
    exact⟨q1,y,by rw [nb hb,nL];exact hy,q2⟩)
   refine⟨⟨vs⟩,fun w' hw'=>⟨by simp [sR,c1],fun k hk=>?_⟩,by rw [c2];exact h1,by rw [c2];exact h2,c3⟩
   have hcell: ∀ad,w'.cell? ad=w.cell? ad:=fun ad=>by simp [World.cell?,hw']
   rw [c1] at hk
   have hvl:vs.length=len*sz:=by rw [←h1.length];exact(uK hc).2
   have hlen':(vs.take (k*sz)).length=k*sz:=by
    rw [pD,hvl]
    exact wu (uo _ hk)
   rcases hadr with h0|⟨e1,e2⟩
   ·obtain rfl:k=0:=by omega
    simp [oI,loadCells,loadCellsFrom]
   ·simp only at e1 e2
    subst e1;subst e2
    have hl:=run_loadCells_list (P:=P) (w:=w') ⟨bd.block,bd.off+off,none⟩ (vs.take (k*sz)) (fun j v hj=>by
     rw [lH,hcell]
     refine h3 j v ?_
     rw [uj] at hj
     split at hj
     ·exact hj
     ·cases hj)
    rw [hlen'] at hl
    simpa [oI] using hl
  ·cases h
 ·cases h
theorem HW (newLen:Nat): ∀(r c:Nat),Builtin.growBy newLen r c≤max c (newLen+(newLen+768) / 4)
 |0,c=>by simp [Builtin.growBy];omega
 |r+1,c=>by
  unfold Builtin.growBy
  split
  ·omega
  ·have:=HW newLen r (c+(c+768) / 4)
   omega
theorem aiF {need cap:Nat} (h:cap<need):A0 need cap≤need*2+1024:=by
 unfold A0
 split
 ·omega
 ·split
  ·omega
  ·have:=HW need 4 cap
   omega
theorem akd {need b cap:Nat} (h:kP need b=true) (hc:cap<need): ¬A0 need cap*b>2 ^ 48:=by
 have h1:=iZ h
 have h2:=aiF hc
 have:A0 need cap*b≤(need*2+1024)*b:=uo _ h2
 omega
theorem ake {need b:Nat} (h:kP need b=true) (hb:0<b):need<2 ^ 47:=by
 have h1:=iZ h
 have:need*2+1024≤(need*2+1024)*b:=Nat.le_mul_of_pos_right _ hb
 omega
theorem akm {t t2 ty e:TypeId} {E:EI} (hd:P.underlying t=some (.slice e)) (hE:tl P e=some E) (ht2:lj P t2=true) {base:Option Addr} {len cap k:Nat} {Y:Value} {CX CY:Array Value}
 (hk: ∀w':World,w'.heap=w.heap→(sR Y).run P w'= .ok k w') (hX: ∀w':World,w'.heap=w.heap→(oI E.n len (.slice base len cap)).run P w'= .ok CX w')
 (hY: ∀w':World,w'.heap=w.heap→(oI E.n k Y).run P w'= .ok CY w') (hn:cap<len+k) (hr:kP (len+k) E.b=true) (hx:CX.size=len*E.n) (hy:CY.size=k*E.n):
 ∃(newCap:Nat) (R:Array Value),len+k≤newCap∧R.size=newCap*E.n∧(∀i:Nat,i<(len+k)*E.n→R[i]? =(CX++CY)[i]?)∧
  (rb #[t,t2] ty #[.slice base len cap,Y]).run P w= .ok (.slice (some ⟨w.heap.size,0,none⟩) (len+k) newCap) (w.drew.alloc (.cells R e)):=by
 obtain⟨hsz,_,hg,hpos,hg1,i,zv,hb0,hi,hzv,hov,hzs,hib⟩:=rH hE
 have hcap:=akd hr hn
 have hmax:=ake hr hb0
 let newCap:=(Question.appendCap (len+k) cap e).cut (w.tape w.drawn (.appendCap (len+k) cap e))
 have hnc:len+k≤newCap:=by simp only [newCap,Question.cut];omega
 refine⟨newCap,CX++CY++Builtin.zeroCells zv.cells (newCap-(len+k)),hnc,?_,?_,?_⟩
 ·simp only [Array.size_append,hx,hy,Builtin.zeroCells,Array.size_map,Array.size_range,hzs]
  rw [←ma,←ma];congr 1;omega
 ·intro i hi
  rw [Array.getElem?_append_left]
  simp only [Array.size_append,hx,hy]
  rw [←ma];exact hi
 ·have ht2': ∃e2,P.underlying t2=some (.slice e2):=by
   unfold lj at ht2
   split at ht2
   ·rename_i e2 h;exact⟨e2,h⟩
   ·cases ht2
  obtain⟨e2,ht2'⟩:=ht2'
  have hle: ¬len+k≤cap:=by omega
  have hX':=hX w.drew rfl
  have hY':=hY w.drew rfl
  simp [rb,dp hd,gS hsz,dp ht2',hk w rfl,hle,typeInfo,hi,hib,hcap,Question.forced,hX',hY',qd hi hzv,newRow]
  rw [if_neg (fun h=>by have:=h.2;omega)]
theorem Fm {t t2 ty e:TypeId} {E:EI} (hd:P.underlying t=some (.slice e)) (hE:tl P e=some E) (ht2:lj P t2=true) {b off len cap k:Nat} {Y:Value} {CY C:Array Value} {et:TypeId}
 (hk:(sR Y).run P w= .ok k w) (hY:(oI E.n k Y).run P w= .ok CY w) (hn:len+k≤cap) (hb:w.heap[b]? =some (.cells C et (0,0)))
 (hfit:off+len*E.n+CY.size≤C.size) (hone: ∀y∈CY.toList,y.oneCell'=true):
 (rb #[t,t2] ty #[.slice (some ⟨b,off,none⟩) len cap,Y]).run P w= .ok (.slice (some ⟨b,off,none⟩) (len+k) cap) (dK w b (.cells (iV C (off+len*E.n) CY.toList) et (0,0))):=by
 obtain⟨hsz,_,hg,hpos,hg1,i,zv,hb0,hi,hzv,hov,hzs,hib⟩:=rH hE
 have ht2': ∃e2,P.underlying t2=some (.slice e2):=by
  unfold lj at ht2
  split at ht2
  ·rename_i e2 h;exact⟨e2,h⟩
  ·cases ht2
 obtain⟨e2,ht2'⟩:=ht2'
 have hst:=Az (P:=P) b (off+len*E.n) et CY.toList 0 w C hb (by simpa using hfit) hone
 simp only [cY] at hst
 simp [rb,dp hd,gS hsz,dp ht2',hk,hn,hY,lH,hst]
theorem akn {t t2 ty e:TypeId} {E:EI} (hd:P.underlying t=some (.slice e)) (hE:tl P e=some E) (ht2:lj P t2=true) {base:Option Addr} {len cap:Nat} {Y:Value}
 (hk:(sR Y).run P w= .ok 0 w) (hY:(oI E.n 0 Y).run P w= .ok #[] w) (hn:len≤cap):
 (rb #[t,t2] ty #[.slice base len cap,Y]).run P w= .ok (.slice base len cap) w:=by
 obtain⟨hsz,_,hg,hpos,hg1,i,zv,hb0,hi,hzv,hov,hzs,hib⟩:=rH hE
 have ht2': ∃e2,P.underlying t2=some (.slice e2):=by
  unfold lj at ht2
  split at ht2
  ·rename_i e2 h;exact⟨e2,h⟩
  ·cases ht2
 obtain⟨e2,ht2'⟩:=ht2'
 cases base<;>simp [rb,dp hd,gS hsz,dp ht2',hk,hn,hY,storeCells]
theorem rM (xs ys:List ai):bO (xs++ys)=bO xs++bO ys:=by
 induction xs with
 |nil=>simp [bO]
 |cons x xs ih=>simp [bO,ih]
theorem VR.cap_le {x:ai} {b:Option Addr} {n c:Nat} (h:VR G x (.slice b n c)):n≤c:=by
 cases h<;>omega
theorem ah1 {E:EI} {mu:Bool} {zs:List ai} {v1:ai} {s1 s2:St} {e:TypeId} {newCap:Nat} {R:Array Value} (hpos:0<E.n) (wr:WR G s2.heap w)
 (he:j2 E mu zs s2=some (v1,s1)) (hn0:G.at_ s2.next=none) (hz: ∀z∈zs,z.cells.length=E.n) (hcap:zs.length≤newCap) (hR:R.size=newCap*E.n)
 (hc: ∀(i:Nat) v,(bO zs)[i]? =some v→v.scal=true∧ ∃y,R[i]? =some y∧VR G v y):
 s1.next=s2.next+1∧ ∃G',WR G' s1.heap (w.drew.alloc (.cells R e))∧dh G s2.heap w G' s1.heap (w.drew.alloc (.cells R e)) s2.next (s2.next+1)∧VR G' v1 (.slice (some ⟨w.heap.size,0,none⟩) zs.length newCap):=by
 have wr':WR G s2.heap w.drew:=wr.of_heap rfl
 have fixExt: ∀ {G' h'},dh G s2.heap w.drew G' h' (w.drew.alloc (.cells R e)) s2.next (s2.next+1)→dh G s2.heap w G' h' (w.drew.alloc (.cells R e)) s2.next (s2.next+1):=
  fun x=>⟨x.le,x.size,x.keep,x.owns,x.names,x.cells,m7.trans (⟨rfl,rfl,bv _,fun _ _=>rfl,rfl,Nat.le_succ _⟩:m7 w w.drew) x.quiet⟩
 simp only [j2] at he
 replace he:=bW he
 obtain⟨_,he⟩:=he
 replace he:=gr he
 rcases he with⟨_,he⟩|⟨_,he⟩
 ·simp only [a7,bK] at he
  obtain⟨rfl,rfl⟩:=he
  obtain⟨c1,c2⟩:=wr'.boxed hn0 R e (bO zs) hc
  exact⟨rfl,_,c1,fixExt c2,.arr (Gh.boxed_at G w.drew s2.next R.size) rfl hpos (bv _) hcap (.inr ⟨rfl,rfl⟩) (Gh.boxed_dim G w.drew s2.next R.size) (by simp [hR])⟩
 ·simp only [a7,bK] at he
  obtain⟨rfl,rfl⟩:=he
  obtain⟨c1,c2⟩:=wr'.listed hn0 R e (bO zs) hc
  refine⟨rfl,_,c1,fixExt c2,.list (.inr rfl) hpos hz hcap (fun i x hx=>by rw [Nat.zero_add];exact(Gh.listed_ro G w.drew s2.next (bO zs) R.size i).trans hx) ⟨?_,R.size,Gh.listed_dim G w.drew s2.next (bO zs) R.size,by simp [hR]⟩⟩
  rw [Gh.listed_at,ki hz]
  simp
def Gh.grown (G:Gh) (b e0:Nat) (cs:List ai):Gh where
 at_:=G.at_
 ro c o:=if c=b∧e0≤o∧o<e0+cs.length then cs[o-e0]? else G.ro c o
 dim:=G.dim
theorem WR.extend {h:bq bE} (wr:WR G h w) {k n b e0:Nat} (hk:h.get k=some .tok) (hat:G.at_ k=some ⟨b,e0,none⟩) (hn:G.at_ n=none) {C:Array Value} {et:TypeId} (hb:w.heap[b]? =some (.cells C et (0,0)))
 {cs:List ai} {CY:Array Value} (hv:cg G cs CY.toList) (hs:dG cs=true) (hfit:e0+CY.size≤C.size):
 WR ((G.grown b e0 cs).name n ⟨b,e0+cs.length,none⟩) ((h.set k none).set n (some .tok)) (dK w b (.cells (iV C e0 CY.toList) et (0,0)))∧
 dh G h w ((G.grown b e0 cs).name n ⟨b,e0+cs.length,none⟩) ((h.set k none).set n (some .tok)) (dK w b (.cells (iV C e0 CY.toList) et (0,0))) n (n+1):=by
 have hlt:=gH hb
 have hlen:cs.length=CY.size:=by simpa using hv.length
 have hblk: ∀c,(dK w b (.cells (iV C e0 CY.toList) et (0,0))).heap[c]? =if c=b then some (.cells (iV C e0 CY.toList) et (0,0)) else w.heap[c]? :=fun c=>iO w b c _ hlt
 have hold: ∀i v,G.ro b i=some v→i<e0:=fun i v hi=>(wr.apart k _ _ i v hk hat hi).2
 have hown:ez G h b:=⟨k,_,by rw [hk];simp,hat,rfl⟩
 have hle:G.le (G.grown b e0 cs):=⟨fun _ _ e=>e,fun c o v e=>by
  simp only [Gh.grown]
  rw [if_neg]
  ·exact e
  ·rintro⟨rfl,h1,_⟩
   have:=hold o v e
   omega,fun _ _ e=>e⟩
 have wk:=wr.killed k
 have hno: ¬ez G (h.set k none) b:=zY (a:=⟨b,e0,none⟩) wr (by rw [hk];simp) hat
 have w1:WR (G.grown b e0 cs) (h.set k none) (dK w b (.cells (iV C e0 CY.toList) et (0,0))):=by
  refine⟨?_,wk.sep,?_,?_,?_,fun m c hm=>by simp;exact wk.below m c hm⟩
  ·intro m ob hm
   obtain⟨c,hc,hsp,hr⟩:=wk.obj m ob hm
   refine⟨c,hc,hsp,(hr.mono hle).of_block ?_⟩
   rw [hblk,if_neg]
   intro e
   exact hno ⟨m,c,by rw [hm];simp,hc,e⟩
  ·intro c i v hi
   simp only [Gh.grown] at hi
   by_cases hin:c=b∧e0≤i∧i<e0+cs.length
   ·rw [if_pos hin] at hi
    obtain⟨rfl,h1,h2⟩:=hin
    obtain⟨q1,y,hy,q2⟩:=hv.rows hs _ v hi
    refine⟨q1,y,?_,q2.mono hle⟩
    rw [nb (by rw [hblk,if_pos rfl]),AV _ _ _ _ (by simpa using hfit),if_pos (by simp;omega)]
    simpa using hy
   ·rw [if_neg hin] at hi
    obtain⟨q1,y,hy,q2⟩:=wr.ro c i v hi
    refine⟨q1,y,?_,q2.mono hle⟩
    by_cases e:c=b
    ·subst e
     have:=hold i v hi
     rw [nb hb] at hy
     rw [nb (by rw [hblk,if_pos rfl]),AV _ _ _ _ (by simpa using hfit),if_neg (by omega)]
     exact hy
    ·rw [←hy];simp [World.cell?,hblk,e]
  ·intro m ob c i v hm hc hi
   simp only [Gh.grown] at hi
   rw [if_neg] at hi
   ·exact wk.apart m ob c i v hm hc hi
   ·rintro⟨e,_,_⟩
    exact hno ⟨m,c,by rw [hm];simp,hc,e⟩
  ·intro c d hd
   obtain⟨D,t,hD,hsz⟩:=wr.dim c d hd
   rw [hblk]
   by_cases e:c=b
   ·subst e
    rw [hb] at hD
    simp only [a7,Obj.cells.injEq] at hD
    obtain⟨rfl,rfl,_⟩:=hD
    exact⟨_,et,if_pos rfl,by simpa using hsz⟩
   ·rw [if_neg e];exact⟨D,t,hD,hsz⟩
 have hno': ¬ez (G.grown b e0 cs) (h.set k none) b:=hno
 have w2:=w1.named (n:=n) (a:=⟨b,e0+cs.length,none⟩) (o:=.tok) hn (by simp;exact hlt) rfl hno' ⟨_,et,by rw [hblk,if_pos rfl]⟩ (fun i v hi=>by
  refine⟨rfl,?_⟩
  simp only [Gh.grown] at hi
  by_cases hin:e0≤i∧i<e0+cs.length
  ·exact hin.2
  ·rw [if_neg (by simpa using hin)] at hi
   have:=hold i v hi
   show i<e0+cs.length
   omega)
 refine⟨w2,⟨hle.trans (Gh.name_le _ _ hn),by simp,?_,?_,?_,?_,xL w hb rfl rfl⟩⟩
 ·intro c hc ho
  rw [hblk,if_neg]
  intro e;subst e;exact ho hown
 ·intro c hc ho
  rcases vF ho with rfl|ho
  ·exact hown
  ·exact sk (show ez G (h.set k none) c from ho)
 ·intro m c hm h0
  simp only [Gh.name,Gh.grown] at hm
  by_cases em:m=n
  ·omega
  ·rw [if_neg em,h0] at hm;cases hm
 ·intro c i v hc hi h0
  simp only [Gh.name,Gh.grown] at hi
  by_cases hin:c=b∧e0≤i∧i<e0+cs.length
  ·rw [hin.1];exact hown
  ·rw [if_neg hin,h0] at hi;cases hi
theorem WR.rehome {h:bq bE} (wr:WR G h w) {m n:Nat} {cs0:List ai} {ad bd:Addr} (hm:h.get m=some (.cells cs0)) (hat:G.at_ m=some bd) (hn:G.at_ n=none) {C C':Array Value} {et:TypeId} (hb:w.heap[bd.block]? =some (.cells C et (0,0)))
 (hs:C'.size=C.size) (hdm:G.dim bd.block=some C.size) (had:ad.block=bd.block) (hsp:ad.spot=none) {cs:List ai} (hc: ∀(i:Nat) v,cs[i]? =some v→v.scal=true∧ ∃y,C'[ad.off+i]? =some y∧VR G v y):
 WR (G.name n ad) ((h.set m none).set n (some (.cells cs))) (dK w bd.block (.cells C' et (0,0)))∧
 dh G h w (G.name n ad) ((h.set m none).set n (some (.cells cs))) (dK w bd.block (.cells C' et (0,0))) n (n+1):=by
 have hlt:=gH hb
 have hown:ez G h bd.block:=⟨m,bd,by rw [hm];simp,hat,rfl⟩
 have hro: ∀i,G.ro bd.block i=none:=fun i=>by
  cases hr:G.ro bd.block i with
  |none=>rfl
  |some v=>have:=(wr.apart m _ bd i v hm hat hr).1;cases this
 have hno:=zY wr (by rw [hm];simp) hat
 have w1:=(wr.killed m).putFree hb hs hno hro
 have w2:=w1.named (n:=n) (a:=ad) (o:=.cells cs) hn (by rw [had];simpa using hlt) hsp (by rw [had];exact hno)
  ⟨C',et,by rw [had,iO _ _ _ _ hlt,if_pos rfl],by rw [had,hs];exact hdm,hc⟩ (fun i v hi=>by rw [had,hro] at hi;cases hi)
 refine⟨w2,⟨Gh.name_le _ _ hn,by simp,?_,?_,?_,?_,xL w hb rfl rfl⟩⟩
 ·intro c hc' ho
  rw [iO _ _ _ _ hlt,if_neg]
  intro e;subst e;exact ho hown
 ·intro c hc' ho
  rcases vF ho with rfl|ho
  ·rw [had];exact hown
  ·exact sk ho
 ·intro q c hq h0
  simp only [Gh.name] at hq
  by_cases em:q=n
  ·omega
  ·rw [if_neg em,h0] at hq;cases hq
 ·intro c i v hc' hi h0
  simp only [Gh.name] at hi
  rw [hi] at h0;cases h0
theorem dh.after_kill {h h':bq bE} {G':Gh} {w':World} {m lo hi:Nat} (x:dh G (h.set m none) w G' h' w' lo hi):dh G h w G' h' w' lo hi:=
 ⟨x.le,x.size,fun b hb ho=>x.keep b hb (fun o=>ho (sk o)),fun b hb o=>sk (x.owns b hb o),x.names,fun b i v hb h1 h2=>sk (x.cells b i v hb h1 h2),x.quiet⟩
theorem BI {g:Bool} {sz:Nat} (hg:g=false→sz=1): ∀(n:Nat) (cs:List ai),cs.length=n*sz→ ∃xs,ie g sz n cs=some xs
 |0,cs,h=>by
  have:cs=[]:=List.length_eq_zero_iff.1 (by simpa using h)
  subst this
  exact⟨[],rfl⟩
 |n+1,cs,h=>by
  rw [Nat.succ_mul] at h
  cases hgv:g with
  |true=>
   obtain⟨r,hr⟩:=BI hg n (cs.drop sz) (by simp;omega)
   rw [hgv] at hr
   refine⟨.agg (cs.take sz)::r,?_⟩
   have hc:cut cs 0 sz=some (cs.take sz):=by
    simp only [cut,List.drop_zero]
    have:Nat.beq (cs.take sz).length sz=true:=by rw [EW];simp;omega
    rw [this];rfl
   simp [ie,hc,hr]
  |false=>
   have h1:=hg hgv
   subst h1
   cases cs with
   |nil=>simp at h
   |cons c cs=>
    obtain⟨r,hr⟩:=BI hg n cs (by simp at h;omega)
    rw [hgv] at hr
    exact⟨c::r,by simp [ie,hr]⟩
theorem akl {t t2 ty:TypeId} {x y:ai} {X Y:Value} {mu:Bool} (he:jD P mk t x y mu s=some (v,s')) (ht2:lj P t2=true) (hx:VR G x X) (hy:VR G y Y) (wr:WR G s.heap w)
 (hfree: ∀n,s.next≤n→n<s'.next→G.at_ n=none):
 ∃Z w' G',(rb #[t,t2] ty #[X,Y]).run P w= .ok Z w'∧WR G' s'.heap w'∧dh G s.heap w G' s'.heap w' s.next s'.next∧VR G' v Z:=by
 simp only [jD,aF] at he
 obtain⟨E,hE,ys,hys,he⟩:=he
 obtain⟨e,hd,hE⟩:=xV hE
 obtain⟨hsz,_,hg,hpos,hg1,ti,zv,hb0,hi,hzv,hov,hzs,hib⟩:=rH hE
 obtain⟨CY,hYr,hvY,hsY,hmY⟩:=xQ (P:=P) hg1 hpos hys hy wr
 have hCYl:CY.size=ys.length*E.n:=by
  have:=hvY.length
  rw [ki hmY] at this
  simpa using this.symm
 have hk: ∀w':World,w'.heap=w.heap→(sR Y).run P w'= .ok ys.length w':=fun w' h=>(hYr w' h).1
 have hY: ∀w':World,w'.heap=w.heap→(oI E.n ys.length Y).run P w'= .ok CY w':=fun w' h=>by
  have:=(hYr w' h).2 ys.length (bv _)
  rw [ws (by simp [hCYl])] at this
  exact this
 have grow: ∀(mu:Bool) (xs:List ai) (base:Option Addr) (cap:Nat) (CX:Array Value) (s2:St) (v1:ai) (s1:St),X= .slice base xs.length cap→WR G s2.heap w→s2.next=s.next→
  (∀w':World,w'.heap=w.heap→(oI E.n xs.length (.slice base xs.length cap)).run P w'= .ok CX w')→cg G (bO xs) CX.toList→dG (bO xs)=true→(∀u∈xs,u.cells.length=E.n)→
  cap<xs.length+ys.length→j2 E mu (xs++ys) s2=some (v1,s1)→G.at_ s.next=none→
  s1.next=s.next+1∧ ∃Z w' G',(rb #[t,t2] ty #[X,Y]).run P w= .ok Z w'∧WR G' s1.heap w'∧dh G s2.heap w G' s1.heap w' s.next (s.next+1)∧VR G' v1 Z:=by
  intro mu xs base cap CX s2 v1 s1 hX wr2 hs2 hXr hvX hsX hmX hcap hmade hn0
  have hCXl:CX.size=xs.length*E.n:=by
   have:=hvX.length
   rw [ki hmX] at this
   simpa using this.symm
  have hroom:kP (xs.length+ys.length) E.b=true:=by
   simp only [j2,dn] at hmade
   exact(bW hmade).1
  obtain⟨newCap,R,r1,r2,r3,r4⟩:=akm (ty:=ty) hd hE ht2 hk hXr hY hcap hroom hCXl hCYl
  have hvXY:cg G (bO (xs++ys)) (CX++CY).toList:=by rw [rM];simpa using hvX.append hvY
  have hsXY:dG (bO (xs++ys))=true:=by rw [rM,SA,hsX,hsY];rfl
  have hmXY: ∀z∈xs++ys,z.cells.length=E.n:=by
   intro z hz
   rcases List.mem_append.1 hz with h|h
   ·exact hmX z h
   ·exact hmY z h
  obtain⟨q1,G',q2,q3,q4⟩:=ah1 (e:=e) (newCap:=newCap) (R:=R) hpos wr2 hmade (by rw [hs2];exact hn0) hmXY (by simpa using r1) r2 (fun i u hu=>by
   obtain⟨p1,y,hy,p2⟩:=hvXY.rows hsXY i u hu
   refine⟨p1,y,?_,p2⟩
   rw [r3 i];·exact hy
   have:i<(bO (xs++ys)).length:=by
    rcases gY i (bO (xs++ys)).length with h|h
    ·exact h
    ·simp [jg h] at hu
   rw [ki hmXY] at this
   simpa using this)
  rw [hs2] at q1 q3
  refine⟨q1,_,_,G',by rw [hX];exact r4,q2,q3,by simpa using q4⟩
 split at he
 ·
  replace he:=bW he
  obtain⟨hsl,he⟩:=he
  simp only [a7,bK] at he
  obtain⟨rfl,rfl⟩:=he
  obtain⟨b,n,c,rfl⟩:=hx.slice_len hsl
  have h0:CY= #[]:=by
   have:CY.size=0:=by simpa using hCYl
   exact Array.eq_empty_of_size_eq_zero this
  subst h0
  exact⟨_,w,G,akn hd hE ht2 (hk w rfl) (hY w rfl) hx.cap_le,wr,.refl,hx⟩
 ·rename_i y0 yr
  have hfr:s'.next=s.next+1→G.at_ s.next=none:=fun h=>hfree s.next (bv _) (by omega)
  generalize hyr:(y0::yr)=yl at*
  have hyne:0<yl.length:=by rw [←hyr];simp
  clear hyr
  unfold kY at he
  split at he
  ·
   cases hx
   have hnx:s'.next=s.next+1:=by
    simp only [j2] at he
    have h1:=(bW he).2
    rcases gr h1 with⟨_,h2⟩|⟨_,h2⟩<;>(simp only [a7,bK] at h2;rw [←h2.2];rfl)
   obtain⟨q1,Z,w',G',q2,q3,q4,q5⟩:=grow mu [] none 0 #[] s v s' rfl wr rfl (fun w' _=>by simp [oI]) (by simpa [bO] using cg.nil) rfl (by simp) (by simpa using hyne) (by simpa using he) (hfr hnx)
   rw [q1]
   exact⟨Z,w',G',q2,q3,q4,q5⟩
  ·
   rename_i sz xs
   replace he:=bW he
   obtain⟨hsz',he⟩:=he
   obtain rfl:=eU hsz'
   have hnx:s'.next=s.next+1:=by
    simp only [j2] at he
    have h1:=(bW he).2
    rcases gr h1 with⟨_,h2⟩|⟨_,h2⟩<;>(simp only [a7,bK] at h2;rw [←h2.2];rfl)
   obtain⟨CX,hXr,hvX,hsX,hmX⟩:=xQ (P:=P) (mk:=mk) (s:=s) (ys:=xs) (g:=E.g) (n:=E.n) hg1 hpos (by simp [jO]) hx wr
   have hCXl:CX.size=xs.length*E.n:=by
    have:=hvX.length
    rw [ki hmX] at this
    simpa using this.symm
   cases hx with
   |list hsp hp hm hcap hro hr=>
   rename_i ad cap
   obtain rfl:cap=xs.length:=hr
   obtain⟨q1,Z,w',G',q2,q3,q4,q5⟩:=grow mu xs (some ad) xs.length CX s v s' rfl wr rfl (fun w' h=>by
    have:=(hXr w' h).2 xs.length (bv _)
    rwa [ws (by simp [hCXl])] at this) hvX hsX hmX (by omega) he (hfr hnx)
   rw [q1]
   exact⟨Z,w',G',q2,q3,q4,q5⟩
  ·
   rename_i sz xs k
   simp only [aF] at he
   obtain⟨ob,hob,he⟩:=he
   split at he
   ·replace he:=bW he
    obtain⟨hc,he⟩:=he
    simp only [cU] at hc
    obtain rfl:=eU hc.2
    simp only [a7,bK] at he
    obtain⟨rfl,rfl⟩:=he
    have hn0:G.at_ s.next=none:=hfr rfl
    obtain⟨CX,hXr,hvX,hsX,hmX⟩:=xQ (P:=P) (mk:=mk) (s:=s) (ys:=xs) (g:=E.g) (n:=E.n) hg1 hpos (by simp [jO]) hx wr
    have hCXl:CX.size=xs.length*E.n:=by
     have:=hvX.length
     rw [ki hmX] at this
     simpa using this.symm
    cases hx with
    |list hsp hp hm hcap hro hr=>
    rename_i ad cap
    obtain⟨b,off,sp⟩:=ad
    have hsp0:0<cap→sp=none:=fun h0=>by
     rcases hsp with h|h
     ·omega
     ·exact h
    obtain⟨hat,dm,hdm,hle⟩:=hr
    simp only at hat hdm hle
    by_cases hfit:xs.length+yl.length≤cap
    ·
     obtain rfl:=hsp0 (by omega)
     obtain⟨C,et,hC,hCs⟩:=wr.dim _ dm hdm
     have hmul:(xs.length+yl.length)*E.n≤cap*E.n:=uo _ hfit
     rw [ma] at hmul
     obtain⟨c1,c2⟩:=wr.extend (iL hob) hat hn0 hC hvY hsY (by rw [hCYl];omega)
     refine⟨_,_,_,Fm hd hE ht2 (hk w rfl) (hY w rfl) hfit hC (by rw [hCYl];omega) (hvY.ones hsY),c1,c2,?_⟩
     rw [←dn]
     refine .list (.inr rfl) hpos ?_ (by simpa using hfit) ?_ ⟨?_,dm,?_,hle⟩
     ·intro z hz
      rcases List.mem_append.1 hz with h|h
      ·exact hmX z h
      ·exact hmY z h
     ·intro i u hu
      rw [rM] at hu
      simp only [Gh.name,Gh.grown]
      by_cases h1:i<(bO xs).length
      ·rw [oJ h1] at hu
       rw [ki hmX] at h1
       rw [if_neg (by rintro⟨_,h2,_⟩;omega)]
       exact hro i u hu
      ·rw [pC (by omega)] at hu
       rw [ki hmX] at h1 hu
       have h3:i-xs.length*E.n<(bO yl).length:=by
        rcases gY (i-xs.length*E.n) (bO yl).length with h|h
        ·exact h
        ·simp [jg h] at hu
       rw [if_pos (by refine⟨?_,?_,?_⟩<;>first|trivial|omega),←hu]
       congr 1;omega
     ·simp only [Gh.name,if_true]
      rw [ki hmY]
      congr 2
      simp only [dn,ma];omega
     ·exact hdm
    ·
     have hmade:j2 E false (xs++yl) (s.put k none)=some (.list E.n (xs++yl) (.own s.next),(s.put k none).new .tok):=by
      simp only [j2,dn,hc.1,cT,cF]
      rfl
     obtain⟨q1,Z,w',G',q2,q3,q4,q5⟩:=grow false xs (some ⟨b,off,sp⟩) cap CX (s.put k none) _ _ rfl (wr.killed k) rfl (fun w' h=>by
      have:=(hXr w' h).2 xs.length (bv _)
      rwa [ws (by simp [hCXl])] at this) hvX hsX hmX (by omega) hmade hn0
     exact⟨Z,w',G',q2,q3,dh.after_kill q4,q5⟩
   ·cases he
  ·
   rename_i sz m off len lcap
   simp only [aF] at he
   obtain⟨ob,hob,he⟩:=he
   split at he
   ·rename_i cs
    replace he:=bW he
    obtain⟨hc,he⟩:=he
    simp only [cU] at hc
    obtain rfl:=eU hc.2
    have hx0:=hx
    cases hx with
    |arr hat hsp hp hlen hcap hadr hdim hle=>
    rename_i ad bd cap dm
    obtain⟨b,aoff,sp⟩:=ad
    simp only at hsp;subst hsp
    obtain⟨bd',hat',hsp',C,et,hC,hdC,hcs⟩:=wr.obj m _ (iL hob)
    rw [hat] at hat';injection hat' with hat';subst hat'
    have hdd:dm=C.size:=by rw [hdim] at hdC;injection hdC
    replace he:=gr he
    rcases he with⟨hend,he⟩|⟨_,he⟩
    ·have hend:=eU hend
     simp only [a7,bK] at he
     obtain⟨rfl,rfl⟩:=he
     have hn0:G.at_ s.next=none:=hfr rfl
     by_cases hfit:len+yl.length≤cap
     ·rcases hadr with h0|⟨e1,e2⟩
      ·omega
      ·simp only at e1 e2
       subst e1;subst e2
       have hmul:(len+yl.length)*E.n≤cap*E.n:=uo _ hfit
       rw [ma] at hmul
       have hfit':bd.off+off+len*E.n+CY.toList.length≤C.size:=by simp [hCYl];omega
       obtain⟨c1,c2⟩:=wr.rehome (n:=s.next) (ad:=⟨bd.block,bd.off+off,none⟩) (C':=iV C (bd.off+off+len*E.n) CY.toList) (cs:=cs.drop off++bO yl) (iL hob) hat hn0 hC (by simp) hdC rfl rfl (fun i u hu=>by
        show _∧ ∃y,(iV C (bd.off+off+len*E.n) CY.toList)[bd.off+off+i]? =some y∧_
        rw [AV _ _ _ _ hfit']
        by_cases h1:i<(cs.drop off).length
        ·rw [oJ h1,re] at hu
         simp only [sT] at h1
         rw [if_neg (by omega),nL]
         exact hcs _ u hu
        ·rw [pC (by omega)] at hu
         simp only [sT] at h1 hu
         obtain⟨p1,y,hy,p2⟩:=hvY.rows hsY _ u hu
         have h3:i-(cs.length-off)<(bO yl).length:=by
          rcases gY (i-(cs.length-off)) (bO yl).length with h|h
          ·exact h
          ·simp [jg h] at hu
         rw [ki hmY] at h3
         rw [if_pos (by simp [hCYl];omega)]
         refine⟨p1,y,?_,p2⟩
         rw [←hy,←Array.getElem?_toList]
         congr 1;omega)
       refine⟨_,_,_,Fm hd hE ht2 (hk w rfl) (hY w rfl) hfit hC (by simpa using hfit') (hvY.ones hsY),c1,c2,?_⟩
       exact .arr (b:=⟨bd.block,bd.off+off,none⟩) (by simp [Gh.name]) rfl hpos (bv _) hfit (.inr ⟨rfl,by simp⟩) (show G.dim bd.block=some dm from hdim) (by simpa using hle)
     ·have hcl:(cs.drop off).length=len*E.n:=by simp;omega
      obtain⟨xs,hxs⟩:=BI hg1 len (cs.drop off) hcl
      have hsd:dG (cs.drop off)=true:=by
       simp only [dG,mP]
       intro u hu
       obtain⟨i,hi⟩:=List.mem_iff_getElem?.1 (ul hu)
       exact(hcs i u hi).1
      obtain⟨k1,k2,k3⟩:=uE hg1 hxs hsd
      have hel:jO mk E.g E.n (.arr E.n m off len lcap) s=some xs:=by
       have hcut:cut cs off (len*E.n)=some (cs.drop off):=by
        simp only [cut]
        have:(cs.drop off).take (len*E.n)=cs.drop off:=ws (by omega)
        rw [this,EW]
        simp only [hcl,bS,cT]
       simp [jO,hob,hcut,hxs]
      obtain⟨CX,hXr,hvX,hsX,hmX⟩:=xQ (P:=P) hg1 hpos hel hx0 wr
      have hCXl:CX.size=xs.length*E.n:=by
       have:=hvX.length
       rw [ki hmX] at this
       simpa using this.symm
      have hmade:j2 E true (xs++yl) (s.put m none)=some (.arr E.n s.next 0 (len+yl.length) (len+yl.length),(s.put m none).new (.cells (cs.drop off++bO yl))):=by
       simp only [j2,dn,k1,hc.1,cT,rM,k2]
       rfl
      obtain⟨q1,Z,w',G',q2,q3,q4,q5⟩:=grow true xs (some ⟨b,aoff,none⟩) cap CX (s.put m none) _ _ (by rw [k1]) (wr.killed m) rfl (fun w' h=>by
       have:=(hXr w' h).2 xs.length (bv _)
       rw [ws (by simp [hCXl])] at this
       rw [k1] at this ⊢
       exact this) hvX hsX hmX (by omega) hmade hn0
      exact⟨Z,w',G',q2,q3,dh.after_kill q4,q5⟩
    ·replace he:=bW he
     obtain⟨hin,he⟩:=he
     have hin:=iZ hin
     simp only [aF] at he
     obtain⟨cs',hw,he⟩:=he
     simp only [a7,bK] at he
     obtain⟨rfl,rfl⟩:=he
     rcases hadr with h0|⟨e1,e2⟩
     ·omega
     ·simp only at e1 e2
      subst e1;subst e2
      have hne:bO yl≠ []:=by
       intro e
       have h0:=ki hmY
       rw [e,aQ] at h0
       have:=Nat.mul_pos hyne hpos
       omega
      obtain⟨hle2,hrows⟩:=xO (base:=bd.off) hw hvY hsY hne hcs
      have hfit':bd.off+off+len*E.n+CY.toList.length≤C.size:=by rw [nL bd.off];exact hle2
      obtain⟨c1,c2⟩:=wr.changed (o':=.cells cs') (ob:=.cells (iV C (bd.off+off+len*E.n) CY.toList) et (0,0)) (iL hob) hat
       ⟨_,et,by rw [iO _ _ _ _ (gH hC),if_pos rfl],by rw [hdC];simp,by rw [nL bd.off];exact hrows⟩
       (fun i u hu=>by have:=(wr.apart m _ bd i u (iL hob) hat hu).1;cases this)
       (fun d hd=>by rw [hdC] at hd;injection hd with hd;exact⟨_,et,rfl,by simpa using hd⟩)
      exact⟨_,_,_,Fm hd hE ht2 (hk w rfl) (hY w rfl) (by omega) hC (by simpa using hfit') (hvY.ones hsY),c1,c2 _ _,.arr hat rfl hpos hin hcap (.inr ⟨rfl,rfl⟩) hdim hle⟩
   ·cases he
  ·cases he
theorem akq {t t2 ty:TypeId} {x y:ai} {X Y:Value} (he:wK P mk t x y s=some (v,s')) (hx:VR G x X) (hy:VR G y Y) (wr:WR G s.heap w):
 ∃Z w',(wl #[t,t2] ty #[X,Y]).run P w= .ok Z w'∧WR G s'.heap w'∧(∀lo hi,dh G s.heap w G s'.heap w' lo hi)∧VR G v Z:=by
 simp only [wK,aF] at he
 obtain⟨E,hE,ys,hys,he⟩:=he
 obtain⟨e,hd,hE⟩:=xV hE
 obtain⟨hsz,_,hg,hpos,hg1,ti,zv,hb0,hi,hzv,hov,hzs,hib⟩:=rH hE
 obtain⟨CY,hYr,hvY,hsY,hmY⟩:=xQ (P:=P) hg1 hpos hys hy wr
 obtain⟨hk,hY⟩:=hYr w rfl
 split at he
 ·simp only [a7,bK] at he
  obtain⟨rfl,rfl⟩:=he
  cases hx
  have h0:=hY 0 (Nat.zero_le _)
  exact⟨_,w,by simp [wl,dp hd,hk,gS hsz,h0,goInt],wr,fun _ _=>.refl,.int _ _⟩
 ·simp only [a7,bK] at he
  obtain⟨rfl,rfl⟩:=he
  cases hx
  have h0:=hY 0 (Nat.zero_le _)
  exact⟨_,w,by simp [wl,dp hd,hk,gS hsz,h0,goInt,storeCells],wr,fun _ _=>.refl,.int _ _⟩
 ·rename_i sz m off len lcap
  replace he:=bW he
  obtain⟨hc,he⟩:=he
  obtain rfl:=eU hc
  simp only [aF] at he
  obtain⟨ob,hob,he⟩:=he
  split at he
  ·rename_i cs
   simp only [aF] at he
   obtain⟨cs',hw,he⟩:=he
   simp only [a7,bK] at he
   obtain⟨rfl,rfl⟩:=he
   cases hx with
   |arr hat hsp hp hlen hcap hadr hdim hle=>
   rename_i ad bd cap dm
   obtain⟨b,aoff,sp⟩:=ad
   simp only at hsp;subst hsp
   obtain⟨bd',hat',hsp',C,et,hC,hdC,hcs⟩:=wr.obj m _ (iL hob)
   rw [hat] at hat';injection hat' with hat';subst hat'
   have hl:(ys.take len).length=Nat.min ys.length len:=by rw [pD];exact Nat.min_comm _ _
   have hkk:=hY (Nat.min ys.length len) (Nat.min_le_left _ _)
   have hmT: ∀u∈ys.take len,u.cells.length=E.n:=fun u hu=>hmY u (rg hu)
   have hft:bO (ys.take len)=(bO ys).take ((ys.take len).length*E.n):=by
    have key: ∀(A D:List ai),(∀u∈A,u.cells.length=E.n)→bO A=(bO (A++D)).take (A.length*E.n):=fun A D hA=>by
     rw [rM,List.take_append_of_le_length (by rw [ki hA];exact bv _),ws (by rw [ki hA];exact bv _)]
    have:=key (ys.take len) (ys.drop len) hmT
    rwa [mR] at this
   have hvT:cg G (bO (ys.take len)) (CY.toList.take (Nat.min ys.length len*E.n)):=by rw [hft,hl];exact hvY.take _
   have hsT:dG (bO (ys.take len))=true:=by
    rw [hft]
    simp only [dG,mP] at hsY ⊢
    exact fun u hu=>hsY u (rg hu)
   by_cases hz:Nat.min ys.length len=0
   ·have hfe:bO (ys.take len)=[]:=by
     have:=ki hmT
     rw [hl,hz,Nat.zero_mul] at this
     exact List.length_eq_zero_iff.1 this
    have hcs':cs'=cs:=by
     rw [hfe] at hw
     simp only [cI,aQ,cY,bT,mR] at hw
     have:=(bW hw).2
     injection this with this
     exact this.symm
    subst hcs'
    rw [hz] at hkk
    have hsame:(s.put m (some (.cells cs'))).heap.get=s.heap.get:=by
     funext q
     show(s.heap.set m (some (.cells cs'))).get q=_
     rw [bq.get_set]
     by_cases e':q=m
     ·rw [if_pos e',e',iL hob]
     ·rw [if_neg e']
    have hown: ∀q,ez G (s.put m (some (.cells cs'))).heap q↔ez G s.heap q:=fun q=>by unfold ez;rw [hsame]
    refine⟨.int .i64 0,w,by simp [wl,dp hd,hk,gS hsz,hz,hkk,goInt,storeCells],?_,fun lo hi=>?_,?_⟩
    ·exact⟨fun q ob h=>wr.obj q ob (by rw [←hsame];exact h),fun q r a b h1 h2=>wr.sep q r a b (by rw [←hsame];exact h1) (by rw [←hsame];exact h2),wr.ro,fun q ob a i v h=>wr.apart q ob a i v (by rw [←hsame];exact h),wr.dim,wr.below⟩
    ·exact⟨.refl G,bv _,fun _ _ _=>rfl,fun q _ h=>(hown q).1 h,fun n a h h'=>(by rw [h] at h';cases h'),fun b o v _ h h'=>(by rw [h] at h';cases h'),.refl _⟩
    ·rw [hl,hz];exact .int _ _
   ·have hne:bO (ys.take len)≠ []:=by
     intro e'
     have h0:=ki hmT
     rw [e',aQ,hl] at h0
     have:=Nat.mul_pos (Nat.pos_of_ne_zero hz) hpos
     omega
    rcases hadr with h0|⟨e1,e2⟩
    ·have:Nat.min ys.length len≤len:=Nat.min_le_right _ _
     omega
    ·simp only at e1 e2
     subst e1;subst e2
     obtain⟨hle2,hrows⟩:=xO (base:=bd.off) hw hvT hsT hne hcs
     obtain⟨c1,c2⟩:=wr.changed (o':=.cells cs') (ob:=.cells (iV C (bd.off+off) (CY.toList.take (Nat.min ys.length len*E.n))) et (0,0)) (iL hob) hat
      ⟨_,et,by rw [iO _ _ _ _ (gH hC),if_pos rfl],by rw [hdC];simp,hrows⟩
      (fun i u hu=>by have:=(wr.apart m _ bd i u (iL hob) hat hu).1;cases this)
      (fun d hd=>by rw [hdC] at hd;injection hd with hd;exact⟨_,et,rfl,by simpa using hd⟩)
     have hst:=Az (P:=P) bd.block (bd.off+off) et (CY.toList.take (Nat.min ys.length len*E.n)) 0 w C hC (by simpa using hle2) (hvT.ones hsT)
     simp only [cY] at hst
     refine⟨.int .i64 (Nat.min ys.length len:Nat),_,by simp [wl,dp hd,hk,gS hsz,hkk,hst,goInt],c1,c2,?_⟩
     rw [hl];exact .int _ _
  ·cases he
 ·cases he
theorem akp {t ty:TypeId} {x:ai} {X:Value} (he:rE P mk t x s=some s') (hu: ∃d,P.underlying t=some d) (hx:VR G x X) (wr:WR G s.heap w):
 ∃w',(sQ #[t] ty #[X]).run P w= .ok (.tuple #[]) w'∧WR G s'.heap w'∧ ∀lo hi,dh G s.heap w G s'.heap w' lo hi:=by
 obtain⟨d,hd⟩:=hu
 unfold rE at he
 split at he
 ·injection he with he;subst he;cases hx
  exact⟨w,by simp [sQ,dp hd],wr,fun _ _=>.refl⟩
 ·injection he with he;subst he;cases hx
  exact⟨w,by simp [sQ,dp hd],wr,fun _ _=>.refl⟩
 ·simp only [aF] at he
  obtain⟨ob,hob,he⟩:=he
  split at he
  ·injection he with he;subst he
   cases hx with
   |map hat=>
   obtain⟨ad,ES,h1,h2,h3,h4⟩:=qP wr hob
   rw [hat] at h1;injection h1 with h1;subst h1
   obtain⟨c1,c2⟩:=vl (es':=[]) (ES':= #[]) wr hob hat h3 .nil
   exact⟨_,by simp [sQ,dp hd,mG h3,vT _ h3],c1,c2⟩
  ·cases he
 ·injection he with he;subst he;cases hx
  exact⟨w,by simp [sQ,dp hd],wr,fun _ _=>.refl⟩
 ·rename_i sz m off len lcap
  replace he:=gr he
  rcases he with⟨h0,he⟩|⟨h0,he⟩
  ·obtain rfl:=eU h0
   injection he with he;subst he;cases hx
   exact⟨w,by simp [sQ,dp hd],wr,fun _ _=>.refl⟩
  ·have h0:=uB h0
   simp only [aF] at he
   obtain⟨E,hE,he⟩:=he
   obtain⟨e,hd',hE⟩:=xV hE
   obtain⟨hsz,_,hg,hpos,hg1,ti,zv,hb0,hi,hzv,hov,hzs,hib⟩:=rH hE
   replace he:=bW he
   obtain⟨hc,he⟩:=he
   obtain rfl:=eU hc
   simp only [aF] at he
   obtain⟨ob,hob,he⟩:=he
   split at he
   ·rename_i cs
    simp only [aF] at he
    obtain⟨cs',hw,he⟩:=he
    injection he with he;subst he
    cases hx with
    |arr hat hsp hp hlen hcap hadr hdim hle=>
    rename_i ad bd cap dm
    obtain⟨b,aoff,sp⟩:=ad
    simp only at hsp;subst hsp
    obtain⟨bd',hat',hsp',C,et,hC,hdC,hcs⟩:=wr.obj m _ (iL hob)
    rw [hat] at hat';injection hat' with hat';subst hat'
    obtain⟨hzr,hzt⟩:=qV G hov
    obtain⟨R,hR,hRl,hRg⟩:=Ar hzr.cells len
    have hrow:=FV (zs:=zv.cells) hRl hRg
    rcases hadr with h00|⟨e1,e2⟩
    ·omega
    ·simp only at e1 e2
     subst e1;subst e2
     have hne:gg E.z.cells len≠ []:=by
      intro e'
      have h1:=hR.length
      rw [e',aQ,hRl,Array.length_toList,hzs] at h1
      have:=Nat.mul_pos (Nat.pos_of_ne_zero h0) hpos
      omega
     have hsR:=Au (hzr.scals_cells hzt) len
     obtain⟨hle2,hrows⟩:=xO (base:=bd.off) hw hR hsR hne hcs
     obtain⟨c1,c2⟩:=wr.changed (o':=.cells cs') (ob:=.cells (iV C (bd.off+off) R) et (0,0)) (iL hob) hat
      ⟨_,et,by rw [iO _ _ _ _ (gH hC),if_pos rfl],by rw [hdC];simp,hrows⟩
      (fun i u hu=>by have:=(wr.apart m _ bd i u (iL hob) hat hu).1;cases this)
      (fun d hd=>by rw [hdC] at hd;injection hd with hd;exact⟨_,et,rfl,by simpa using hd⟩)
     have hst:=Az (P:=P) bd.block (bd.off+off) et R 0 w C hC (by simpa using hle2) (hR.ones hsR)
     simp only [cY] at hst
     have hzc:Builtin.zeroCells zv.cells len=⟨R⟩:=hrow
     obtain⟨len,rfl⟩: ∃l,len=l+1:=⟨len-1,by omega⟩
     exact⟨_,by simp [sQ,dp hd',qd hi hzv,hzc,hst],c1,c2⟩
   ·cases he
 ·cases he
theorem aiT {hint:Tmp→Nat} {dst:Option Tmp} {c:Call} (ho:o.op= .call c) (wr:WR G s.heap w) (fx:c8 G s.heap B fr a.tmps w)
 (he:pY P mk hint dst c fr s=some (v,loc',s')) (hfree: ∀n,s.next≤n→n<s'.next→G.at_ n=none):
 fO P G s.heap w B fr.loc s.next s'.next a o v loc' s'.heap:=by
 unfold pY at he
 split at he
 ·rename_i b hcal
  simp only [aF] at he
  obtain⟨args,hargs,he⟩:=he
  simp only [gR,aF] at he
  obtain⟨⟨v1,s1⟩,he,hq⟩:=he
  simp only [a7,bK] at hq
  obtain⟨rfl,rfl,rfl⟩:=hq
  obtain⟨hA,hAt⟩:=fx.evcs hargs
  have hres: ∀(nx:Sem Value),(∀cs,builtin b c.argTypes o.type cs (c.args.map a.eval)=(do pure (.value (←nx))))→(execOp a.eval o).run P w=(nx.run P w).andThen fun y w'=>.ok (.value y) w':=by
   intro nx hnx
   simp [execOp,ho,resolve,hcal,invoke,hnx]
  have hmap:c.args.map a.eval=⟨c.args.toList.map a.eval⟩:=by apply Array.ext';simp
  have htyp:c.argTypes=⟨c.argTypes.toList⟩:=rfl
  generalize hM:c.args.toList.map a.eval=M at hA hmap
  generalize hT:c.argTypes.toList=T at he htyp
  unfold ld at he
  split at he
  ·
   cases hA with|cons hx hl=>
   cases hl
   simp only [aF] at he
   obtain⟨y,hy,he⟩:=he
   simp only [a7,bK] at he
   obtain⟨rfl,rfl⟩:=he
   obtain⟨Y,hr,hv⟩:=aks (ty:=o.type) hy hx wr
   refine .pure wr fx (y:=Y) ?_ (LV.of_VR hv)
   rw [hres (Builtin.len_ c.argTypes o.type (c.args.map a.eval)) (fun _=>rfl),hmap,htyp,hr]
   rfl
  ·
   cases hA with|cons hx hl=>
   cases hl with|cons hy hl=>
   cases hl
   replace he:=bW he
   obtain⟨ht2,he⟩:=he
   obtain⟨Z,w',G',hr,h1,h2,h3⟩:=akl (ty:=o.type) he ht2 hx hy wr hfree
   refine .heap fx ?_ (.inl rfl) h1 h2 (LV.of_VR h3)
   rw [hres (rb c.argTypes o.type (c.args.map a.eval)) (fun _=>rfl),hmap,htyp,hr]
   rfl
  ·
   cases hA with|cons hx hl=>
   cases hl with|cons hy hl=>
   cases hl
   obtain⟨Z,w',hr,h1,h2,h3⟩:=akq (ty:=o.type) he hx hy wr
   refine .heap fx ?_ (.inl rfl) h1 (h2 _ _) (LV.of_VR h3)
   rw [hres (wl c.argTypes o.type (c.args.map a.eval)) (fun _=>rfl),hmap,htyp,hr]
   rfl
  ·
   cases hA with|cons hx hl=>
   cases hl
   simp only [aF] at he
   obtain⟨d,hd,s2,hs2,he⟩:=he
   simp only [a7,bK] at he
   obtain⟨rfl,rfl⟩:=he
   obtain⟨w',hr,h1,h2⟩:=akp (ty:=o.type) hs2 ⟨d,hd⟩ hx wr
   refine .heap fx (y:=.tuple #[]) ?_ (.inl rfl) h1 (h2 _ _) (LV.of_VR (.tup .nil))
   rw [hres (sQ c.argTypes o.type (c.args.map a.eval)) (fun _=>rfl),hmap,htyp,hr]
   rfl
  ·
   simp only [aF] at he
   obtain⟨y,hy,he⟩:=he
   simp only [a7,bK] at he
   obtain⟨rfl,rfl⟩:=he
   cases hA with
   |cons hx hl=>
    obtain⟨Y,hr,hv⟩:=Sw (P:=P) (isMax:=false) w hy hx hl
    refine .pure wr fx (y:=Y) ?_ (LV.of_VR hv)
    rw [hres (Builtin.min_ c.argTypes o.type (c.args.map a.eval)) (fun _=>rfl),hmap]
    simp only [Builtin.min_]
    simp only [Bool.false_eq_true,if_false] at hr
    rw [hr];rfl
  ·
   simp only [aF] at he
   obtain⟨y,hy,he⟩:=he
   simp only [a7,bK] at he
   obtain⟨rfl,rfl⟩:=he
   cases hA with
   |cons hx hl=>
    obtain⟨Y,hr,hv⟩:=Sw (P:=P) (isMax:=true) w hy hx hl
    refine .pure wr fx (y:=Y) ?_ (LV.of_VR hv)
    rw [hres (Builtin.max_ c.argTypes o.type (c.args.map a.eval)) (fun _=>rfl),hmap]
    simp only [Builtin.max_]
    simp only [if_true] at hr
    rw [hr];rfl
  ·cases he
 ·cases he
end
end Go.Ag
