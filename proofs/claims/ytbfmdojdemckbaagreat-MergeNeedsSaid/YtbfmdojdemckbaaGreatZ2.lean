/- Contracts of lexer.Name, tag.Valid, object.Valid, atlas.Valid, planisphereref13.Few, planisphereref12.Same, planisphereref11.Valid, planisphereref21.Closed, slices.Equal, object.Same. -/
import Derived.Test.YtbfmdojdemckbaaGreatZ1
import Derived.Sort.Walk0
import Derived.Lib.Bytealg
open Bool renaming and_eq_true→df,and_false→mi,and_self→fL,and_true→dX,false_and→jR,false_or→jI,not_false→ej,not_true→dg,or_eq_true→t6,or_false→lf,or_true→pQ,true_and→iq,true_or→lh
open List renaming all_cons→li,append_nil→iQ,cons_append→cP,cons_beq_cons→B5,drop_succ_cons→gZ,drop→aZ,eq_nil_of_length_eq_zero→rE,head?_cons→bE,length_append→dw,length_cons→aR,length_nil→aY,map_cons→fS,mem_of_getElem?→kE,mergeSort_perm→B9,nil_append→cy,pairwise_mergeSort→Ca,take_succ_cons→e7,take→bO
open Nat renaming add_zero→cQ,beq→bo,ble_eq_true_of_le→fe,blt→cg,le_of_ble_eq_true→iu,le_refl→bK,lt_irrefl→ff,reduceAdd→bJ,reduceBEq→ah,reduceLT→ar,reduceLeDiff→ck,zero_add→aQ,zero_lt_succ→fG
open Go.Op renaming bytesLess→iE
open Go.Operand renaming const→aE,tmp→aa
open Option renaming bind_eq_some_iff→aN,bind_some→aq,map_some→rI
open Option.some renaming injEq→bp
open Go.Ag.bv renaming of2→dZ
open Go.Value renaming string→fX
open Go.Ag.W renaming block→cR,cond→bc,exit→eL,loop1→cY,region→gH,reg→cp,ret→bP,sdrawQ→ll,seq→aV,skip→b7,sreg→aF
namespace Go.Proofs.YtbfmdojdemckbaaGreat
open Go.Ag
def small:Nat:=9223372036854775808
abbrev cM:=aB×aB
def bB (s:aB):aj:=.str s
def ep (t:cM):aj:=.agg [.str t.1,.str t.2]
def mw:aj->Option aB
 | .str s=>some s
 |_=>none
def oC:aj->Option cM
 | .agg [.str a,.str b]=>some (a,b)
 |_=>none
def kQ {α β:Type} (g:α->Option β):List α->Option (List β)
 | []=>some []
 |a::l=>(g a).bind fun b=>(kQ g l).bind fun r=>some (b::r)
def ic {α:Type} (n:Nat) (dec:aj->Option α):aj->Option (List α)
 | .nils=>some []
 | .list m xs _=>bif bo m n then kQ dec xs else none
 |_=>none
theorem pd {v:aj} {s:aB} (h:mw v=some s):v=bB s:=by
 unfold mw at h;split at h
 ·injection h with h;subst h;rfl
 ·cases h
theorem rQ {v:aj} {t:cM} (h:oC v=some t):v=ep t:=by
 unfold oC at h;split at h
 ·injection h with h;subst h;rfl
 ·cases h
theorem Uv {α:Type} {dec:aj->Option α} {enc:α->aj} (hd: ∀v a,dec v=some a->v=enc a): ∀ {xs:List aj} {l:List α},kQ dec xs=some l->xs=l.map enc
 | [],l,h=>by simp only[kQ,bp] at h;subst h;rfl
 |x::xs,l,h=>by
  simp only[kQ,aN,bp] at h
  obtain⟨a,h1,r,h2,rfl⟩:=h
  rw[fS,<-hd x a h1,<-Uv hd h2]
theorem Uy {α:Type} {dec:aj->Option α} {enc:α->aj} (hd: ∀a,dec (enc a)=some a): ∀(l:List α),kQ dec (l.map enc)=some l
 | []=>rfl
 |a::l=>by simp only[fS,kQ,hd,aq,Uy hd l]
theorem jA {α:Type} {n:Nat} {dec:aj->Option α} {enc:α->aj} (hd: ∀v a,dec v=some a->v=enc a) {v:aj} {l:List α} (h:ic n dec v=some l):bH n enc v l:=by
 unfold ic at h
 split at h
 ·injection h with h;exact .inl ⟨rfl,h.symm⟩
 ·obtain⟨h1,h2⟩:=cq h
  have:=Nat.eq_of_beq_eq_true h1
  subst this
  rename_i xs r
  exact .inr ⟨r,by rw[Uv hd h2]⟩
 ·cases h
theorem ka {α:Type} {n:Nat} {dec:aj->Option α} {enc:α->aj} (hd: ∀a,dec (enc a)=some a) {v:aj} {l:List α} (h:bH n enc v l):ic n dec v=some l:=by
 rcases h with⟨rfl,rfl⟩|⟨r,rfl⟩
 ·rfl
 ·simp only[ic,Uy hd,aX,bS,cT]
theorem yA {α:Type} {enc:α->aj} (hp: ∀a,cx (enc a)=true) (l:List α):pures (l.map enc)=true:=by
 rw[uQ]
 intro v hv
 obtain⟨a,_,rfl⟩:=List.mem_map.1 hv
 exact hp a
theorem JX {α:Type} {n:Nat} {enc:α->aj} (hp: ∀a,cx (enc a)=true) {v:aj} {l:List α} (h:bH n enc v l):iZ v=true/\bH n enc (weak v) l:=by
 rcases h with⟨rfl,rfl⟩|⟨r,rfl⟩
 ·exact⟨rfl,.inl ⟨rfl,rfl⟩⟩
 ·exact⟨by simpa[iZ] using yA hp l,.inr (by
   simp only[weak,iP (yA hp l)]
   exact⟨_,rfl⟩)⟩
theorem Wk (s:aB):cx (bB s)=true:=rfl
theorem Hd (t:cM):cx (ep t)=true:=rfl
theorem pf (s:aB):mw (bB s)=some s:=rfl
theorem rR (t:cM):oC (ep t)=some t:=rfl
theorem cX (s:St) (n m:Nat) (o:Option bR):(s.put n o).get [] m=bif m==n then o else s.get [] m:=by
 simp only[St.get,St.put,eA,cF,bD.get_set]
 by_cases h:m=n
 ·subst h;simp
 ·rw[if_neg h,beq_eq_false_iff_ne.2 h];rfl
theorem dy (s:St) (m:Nat) (o:bR):(s.new o).get [] m=bif m==s.next then some o else s.get [] m:=by
 simp only[St.get,St.new,eA,cF,bD.get_set]
 by_cases h:m=s.next
 ·subst h;simp
 ·rw[if_neg h,beq_eq_false_iff_ne.2 h];rfl
theorem qs (s:St) (n:Nat) (o:Option bR):(s.put n o).next=s.next:=rfl
theorem jF (s:St) (o:bR):(s.new o).next=s.next+1:=rfl
def c8 (n:Nat):List (aB×aj)->List dx
 | []=>[]
 |(k,v)::l=>⟨.str k,v,n⟩::c8 (n+1) l
def look (k:aB):List (aB×aj)->Option aj
 | []=>none
 |(a,v)::l=>bif k==a then some v else look k l
def oV (k:aB):List (aB×aj)->Nat
 | []=>0
 |(a,_)::l=>bif k==a then 0 else oV k l+1
section
variable {P:Program} {kt:TypeId} (heq: ∀a b:List UInt8,kL P 8 kt (.str a) (.str b)=some (a==b))
include heq
theorem Dr: ∀(l:List (aB×aj)) (k:aB) (n i:Nat),kN P kt (.str k) (c8 n l) i=some ((look k l).map fun v=>(i+oV k l,⟨.str k,v,n+oV k l⟩))
 | [],k,n,i=>rfl
 |(a,v)::l,k,n,i=>by
  simp only[c8,kN,heq,aq,look,oV]
  cases h:k==a with
  |true=>
   have:k=a:=by simpa using h
   subst this
   simp
  |false=>
   simp only[cF]
   rw[Dr l k (n+1) (i+1)]
   cases look k l with
   |none=>rfl
   |some u=>
    simp only[rI]
    rw[show i+1+oV k l=i+(oV k l+1) by omega,show n+1+oV k l=n+(oV k l+1) by omega]
theorem AV {t:TypeId} {e:TypeId} {z:aj} (hk: ∀k:List UInt8,oO P t (.str k)=some (kt,e)) (hz:fF P e=some z) {s:St} {m:Nat} {l:List (aB×aj)} {c:Nat} (hs:s.get [] m=some (.map (c8 0 l) c)) (k:aB):
 lZ P [] t (.map m) (.str k) false s=some ((look k l).getD z):=by
 simp only[lZ,hk,aq,hz,yj,hs,Dr heq l k 0 0]
 cases look k l<;>rfl
end
theorem IY: ∀(l r:List (aB×aj)) (n:Nat),c8 n (l++r)=c8 n l++c8 (n+l.length) r
 | [],r,n=>rfl
 |(a,v)::l,r,n=>by simp only[cP,c8,IY l r (n+1),aR];congr 3;omega
def fk (k:aB) (v:aj):List (aB×aj)->List (aB×aj)
 | []=>[(k,v)]
 |(a,u)::l=>bif k==a then(k,v)::l else(a,u)::fk k v l
theorem nj (k j:aB) (v:aj): ∀l,look j (fk k v l)=bif j==k then some v else look j l
 | []=>by
   simp only[fk,look]
 |(a,u)::l=>by
  simp only[fk]
  cases h:k==a with
  |true=>
   have:k=a:=by simpa using h
   subst this
   simp only[cT,look]
   cases j==k<;>rfl
  |false=>
   simp only[cF,look,nj k j v l]
   cases h2:j==a with
   |false=>rfl
   |true=>
    have:j=a:=by simpa using h2
    subst this
    have:(j==k)=false:=by
     cases h3:j==k with
     |false=>rfl
     |true=>have:j=k:=by simpa using h3
            subst this;simp at h
    simp[this]
theorem JW {k:aB} {v:aj}: ∀ {l},look k l=none->fk k v l=l++[(k,v)]
 | [],_=>rfl
 |(a,u)::l,h=>by
  simp only[look] at h
  simp only[fk]
  cases h1:k==a with
  |true=>rw[h1] at h;cases h
  |false=>rw[h1] at h;simp only[cF,JW h,cP]
theorem I0 {k:aB} {u v:aj}: ∀ {l:List (aB×aj)} {n:Nat},look k l=some u->(c8 n l).set (oV k l) ⟨.str k,v,n+oV k l⟩=c8 n (fk k v l)
 | [],_,h=>by cases h
 |(a,w)::l,n,h=>by
  simp only[look] at h
  simp only[fk,oV,c8]
  cases h1:k==a with
  |true=>simp[c8]
  |false=>
   rw[h1] at h
   simp only[cF,List.set_cons_succ,c8]
   rw[<-I0 (l:=l) (n:=n+1) h,show n+(oV k l+1)=n+1+oV k l by omega]
theorem w5 {P:Program} {kt t e:TypeId} (heq: ∀a b:List UInt8,kL P 8 kt (.str a) (.str b)=some (a==b)) (hk: ∀k:List UInt8,oO P t (.str k)=some (kt,e)) {s:St} {m:Nat} {l:List (aB×aj)} (hs:s.get [] m=some (.map (c8 0 l) l.length)) (k:aB) (v:aj):
 mR P [] t (.map m) (.str k) v s=some (s.put m (some (.map (c8 0 (fk k v l)) (fk k v l).length))):=by
 have hlen: ∀ {l:List (aB×aj)} {u:aj},look k l=some u->(fk k v l).length=l.length:=by
  intro l
  induction l with
  |nil=>intro u h;cases h
  |cons x l ih=>
   obtain⟨a,w⟩:=x
   intro u h
   simp only[look] at h
   simp only[fk]
   cases h1:k==a with
   |true=>rfl
   |false=>rw[h1] at h;simp only[cF,aR,ih h]
 simp only[mR,hk,aq,hs,Dr heq l k 0 0]
 cases h:look k l with
 |none=>
  simp only[Option.map_none,JW h,dw,aR,aY,IY,aQ]
  rfl
 |some u=>
  have hks:tC (.str k) (.str k)=true:=by simp[tC,wU]
  simp only[rI,hks,cT,hlen h]
  have:=I0 (v:=v) (n:=0) h
  rw[aQ] at this ⊢
  rw[this]
def qi (b:UInt8):Bool:=uE b.toNat
def xU (b:UInt8):Bool:=vN b.toNat
def uJ (s:aB):Bool:=s.all fun b=>qi b||xU b||bo b.toNat 95
def gS (s:aB):Bool:=match s with| []=>false|b::r=>qi b&&uJ r&&Nat.ble (b::r).length 24
def mI:Sp
 | [.str s]=>bif cg s.length small then some (.bool (gS s)) else none
 |_=>none
theorem wy {s:aB} (h:s.length<small):mI [.str s]=some (.bool (gS s)):=by
 simp only[mI,dA,h,dT,cT]
def pE (i:Nat) (b:UInt8):Bool:=qi b||(!(i==0)&&(xU b||(b.toNat==95)))
def pB:Nat->aB->Bool
 |_,[]=>true
 |i,b::r=>pE i b&&pB (i+1) r
theorem Gk: ∀(s:aB) (i:Nat),pB (i+1) s=uJ s
 | [],_=>rfl
 |b::r,i=>by
  simp only[pB,uJ,li]
  rw[Gk r (i+1)]
  simp[pE,uJ,Bool.or_assoc,aX]
theorem xz (b:UInt8):bz ((s8 b.toNat:Nat):Int) 3=qi b:=by
 rw[show(3:Int)=((3:Nat):Int) from rfl,qh]
 unfold s8 qi
 cases uE b.toNat with
 |true=>rfl
 |false=>
  simp only[cF]
  cases vN b.toNat with
  |true=>rfl
  |false=>
   simp only[cF]
   cases yk b.toNat [32,9,10] with
   |true=>rfl
   |false=>
    simp only[cF]
    cases yk b.toNat [59,44,46,58,40,41,123,125,91,93,61,60,62,47,45] with
    |true=>rfl
    |false=>
     simp only[cF]
     cases bo b.toNat 35<;>cases bo b.toNat 95<;>cases bo b.toNat 34<;>rfl
theorem Iz:(List.range 256).all (fun n=>(bo (s8 n) 4==vN n)&&(bo (s8 n) 5==bo n 95))=true:=by decide+kernel
theorem CS (b:UInt8):bz ((s8 b.toNat:Nat):Int) 4=xU b:=by
 rw[show(4:Int)=((4:Nat):Int) from rfl,qh,<-aX]
 have:=List.all_eq_true.1 Iz b.toNat (List.mem_range.2 b.toNat_lt)
 simp only[df,beq_iff_eq] at this
 exact this.1
theorem Iw (b:UInt8):bz ((s8 b.toNat:Nat):Int) 5=(b.toNat==95):=by
 rw[<-aX b.toNat,show(5:Int)=((5:Nat):Int) from rfl,qh,<-aX]
 have:=List.all_eq_true.1 Iz b.toNat (List.mem_range.2 b.toNat_lt)
 simp only[df,beq_iff_eq] at this
 exact this.2
section
variable {sp:FuncId->Option (List aj->Option aj)}
theorem ams {str:aB} (hsmall:str.length<9223372036854775808) {s:St} {g:Nat}: ∀(rest pre:aB) (e:bq) (lc:Ag.Loc),str=pre++rest->
 ay e 0= .str str->ay e 3= .lref 3 g 0->lc.gen 3=g->lc.get 3 g=some (pZ 256 0)->ay e 8= .int .i64 (str.length:Nat)->ay e 9= .int .i64 (pre.length:Nat)->
 W (QS sp) 58 (.loop An) ⟨e,39,lc⟩ s fun x fr s'=>s'=s/\fr.size=39/\((x= .exit 0/\ay fr.env 0= .str str/\pB pre.length rest=true)\/(x= .ret/\ay fr.env 2= .bool false/\pB pre.length rest=false)):=by
 intro rest
 induction rest with
 |nil=>
  intro pre e lc hpre h0 h3 hg hl h8 h9
  have hlen:str.length=pre.length:=by rw[hpre];simp
  refine cY ?_
  unfold An
  refine aF ?_
  unfold EX
  simp only[aw,az,aA,aU,ak,aD,au,cE,aq,a7,cT,aP,cN,tA,ar,decide_false,h8,h9,hlen,ff]
  refine aV (bc (t:=false) (by simp only[ak,ai,ah,cT, *]) ?_)
  refine eL ?_
  refine⟨rfl,rfl,.inl ⟨rfl,?_,rfl⟩⟩
  simp only[ai,ah,cF, *]
 |cons b rest ih=>
  intro pre e lc hpre h0 h3 hg hl h8 h9
  have hlt:pre.length<str.length:=by rw[hpre];simp
  have hdrop:str.drop pre.length=b::rest:=by rw[hpre];simp
  have hb:b.toNat<256:=b.toNat_lt
  have hcell:=Ix 256 0 b.toNat hb
  rw[aQ] at hcell
  have hwr:IntKind.i64.wrap ((pre.length:Int)+1)=((pre.length+1:Nat):Int):=by rw[eh (by omega) (by omega)];omega
  have hi0:bz (pre.length:Int) 0=(pre.length==0):=qh _ 0
  refine cY ?_
  unfold An
  refine aF ?_
  unfold EX
  simp only[aw,az,aA,aU,ak,aD,au,cE,aq,a7,cT,aP,cN,tA,ar,dT,h8,h9,hlt]
  refine aV (bc (t:=true) (by simp only[ak,ai,ah,cT, *]) (b7 ?_))
  refine aV (cR ?_)
  refine aF ?_
  unfold Qy
  simp only[aw,az,aA,ai,aG,aM,ak,au,cT,cF,bS,tA,ah,ar,h9]
  refine aF ?_
  unfold Qz
  simp only[aw,az,aA,ai,aG,aM,bn,Bk,dI,ak,aD,bT,sn,au,aq,cw,cT,cF,aP,bS,tA,aQ,ah,ar,aX,dA,dT,an5,adJ,D3,h0,h3,hdrop,hb,hg,hl,hcell,Nat.mul_one]
  refine aF ?_
  unfold QA
  have fin: ∀e' lc',ay e' 30= .bool true->W (QS sp) 58 (.cond (aa 30) (.seq (.region EY) .ret) .skip) ⟨e',39,lc'⟩ s fun x fr s'=>x= .ret/\s'=s/\fr.size=39/\ay fr.env 2= .bool false:=by
   intro e' lc' h
   refine bc (t:=true) (by simp only[ak,h]) (aF ?_)
   unfold EY
   simp only[aw,az,aA,aM,aH,bF,au,tA,ar]
   exact bP ⟨rfl,rfl,rfl,by simp only[ai,ah,cT, *]⟩
  cases hL:qi b with
  |true=>
   simp only[aw,az,de,aA,eH,fR,pN,ai,aG,cz,aU,ak,aH,aD,bF,bm,cD,du,au,xt,aq,a7,cT,cF,aP,dg,bS,tA,ah,ar,xz,hL]
   refine bc (t:=false) (by simp only[ak,ai,ah,cT,cF, *]) (b7 ?_)
   simp only[dM,aW]
   refine cp ?_
   unfold Ao
   simp only[aw,az,aA,ai,aG,aU,ak,aH,aD,bm,au,dW,aq,a7,cT,cF,aP,bS,tA,ah,ar,h9,hwr,aW]
   refine(ih (pre++[b]) _ _ (by rw[hpre];simp) (by simp only[ai,ah,cF, *]) (by simp only[ai,ah,cF, *]) hg hl (by simp only[ai,ah,cF, *]) (by simp only[ai,ah,cT,cF,dw,aR,aY])).mono ?_
   have hok:pE pre.length b=true:=by simp[pE,hL]
   simp only[pB,hok,iq,dw,aR,aY]
   exact fun _ _ _ h=>h
  |false=>
  cases hz:pre.length==0 with
  |true=>
   simp only[aw,az,de,aA,dQ,eH,eW,ip,pN,ai,aG,cz,aU,ak,aH,aD,bF,bm,cD,dB,au,gJ,xt,aq,a7,cT,cF,aP,ej,bS,tA,ah,ar,hi0,xz,hL,hz]
   refine(fin _ _ ?_).mono ?_
   ·simp only[ai,ah,cT,cF, *]
   ·rintro x fr s' ⟨rfl,rfl,hs,h⟩
    exact⟨rfl,hs,.inr ⟨rfl,h,by simp[pB,pE,hL,hz]⟩⟩
  |false=>
  cases hD:xU b with
  |true=>
   simp only[aw,az,de,aA,dQ,eH,eW,fR,eG,ai,aG,cz,aU,ak,aH,aD,bF,bm,cD,dB,du,au,gJ,xt,aq,a7,cT,cF,aP,dg,ej,bS,tA,ah,ar,hi0,xz,CS,hL,hz,hD]
   refine bc (t:=false) (by simp only[ak,ai,ah,cT,cF, *]) (b7 ?_)
   simp only[dM,aW]
   refine cp ?_
   unfold Ao
   simp only[aw,az,aA,ai,aG,aU,ak,aH,aD,bm,au,dW,aq,a7,cT,cF,aP,bS,tA,ah,ar,h9,hwr,aW]
   refine(ih (pre++[b]) _ _ (by rw[hpre];simp) (by simp only[ai,ah,cF, *]) (by simp only[ai,ah,cF, *]) hg hl (by simp only[ai,ah,cF, *]) (by simp only[ai,ah,cT,cF,dw,aR,aY])).mono ?_
   have hok:pE pre.length b=true:=by simp[pE,hL,hz,hD]
   simp only[pB,hok,iq,dw,aR,aY]
   exact fun _ _ _ h=>h
  |false=>
  cases hU:b.toNat==95 with
  |true=>
   simp only[aw,az,de,aA,dQ,eW,eG,ai,aG,cz,aU,ak,aH,aD,bF,bm,cD,dB,du,au,gJ,xt,aq,a7,cT,cF,aP,dg,ej,bS,tA,ah,ar,hi0,xz,CS,Iw,hL,hz,hD,hU]
   refine bc (t:=false) (by simp only[ak,ai,ah,cT,cF, *]) (b7 ?_)
   simp only[dM,aW]
   refine cp ?_
   unfold Ao
   simp only[aw,az,aA,ai,aG,aU,ak,aH,aD,bm,au,dW,aq,a7,cT,cF,aP,bS,tA,ah,ar,h9,hwr,aW]
   refine(ih (pre++[b]) _ _ (by rw[hpre];simp) (by simp only[ai,ah,cF, *]) (by simp only[ai,ah,cF, *]) hg hl (by simp only[ai,ah,cF, *]) (by simp only[ai,ah,cT,cF,dw,aR,aY])).mono ?_
   have hok:pE pre.length b=true:=by simp[pE,hL,hz,hD,hU]
   simp only[pB,hok,iq,dw,aR,aY]
   exact fun _ _ _ h=>h
  |false=>
   simp only[aw,az,de,aA,dQ,eW,eG,ai,aG,cz,aU,ak,aH,aD,bF,bm,cD,dB,du,au,gJ,xt,aq,a7,cT,cF,aP,ej,bS,tA,ah,ar,hi0,xz,CS,Iw,hL,hz,hD,hU]
   refine(fin _ _ ?_).mono ?_
   ·simp only[ai,ah,cT,cF, *]
   ·rintro x fr s' ⟨rfl,rfl,hs,h⟩
    exact⟨rfl,hs,.inr ⟨rfl,h,by simp[pB,pE,hL,hz,hD,hU]⟩⟩
theorem amu (h156:sp 89=some BJ) (h94:sp 58=none) (str:aB) (hsmall:str.length<9223372036854775808) (s:St):bv (QS sp) 58 [.str str] s (.bool (gS str)) s:=by
 have hspec:BJ []=some (.agg (pZ 256 0)):=rfl
 have hln:=Iy 256 0
 refine dZ aiX aiW aiZ aiY h94 ?_
 unfold Qu
 refine aF ?_
 unfold Qv
 simp only[dr,cZ,aw,az,aA,aM,aH,bF,au,cT,aR,aY,tA,aQ,ar,ck,cd,dT]
 refine aF ?_
 unfold Qw
 have hz:fF Tryz.prog 151=some (.agg (gU [.int .u8 0] 256)):=by kernel_rfl
 have hrl:(gU [aj.int .u8 0] 256).length=256:=by kernel_rfl
 have hw:dl (gU [aj.int .u8 0] 256) 0 (pZ 256 0)=some (pZ 256 0):=by
  simp only[dl,hrl,hln,cd]
  have:aZ (0+256) (gU [aj.int .u8 0] 256)=[]:=List.drop_eq_nil_of_le (by rw[hrl];omega)
  rw[this];simp
 simp only[h156,hspec,hz,hw,hln,aw,az,eD,aA,eE,ai,dp,bU,iW,gY,eN,dc,da,ak,aD,bh,fv,bG,dj,ik,aq,cu,cT,cF,aP,bW,dq,bS,tA,aQ,ah,ar,dX,aX,dA,dT,apg,acz]
 refine aV (aF ?_)
 unfold Qx
 simp only[aw,az,aA,ai,aG,cG,ak,aH,aD,bh,bk,bm,au,bZ,cW,bG,aq,cw,cT,cF,aP,bW,bS,tA,ah,ar,aX,lX]
 refine cR ?_
 refine(ams hsmall (g:=1) str [] _ _ rfl (by simp only[ai,ah,cT,cF, *]) (by simp only[ai,ah,cT,cF, *]) (by simp only[dp,cJ,ah,cT]) (by simp only[bU,ah,cT]) (by simp only[ai,ah,cT,cF, *]) (by simp only[ai,ah,cT,cF];rfl)).mono ?_
 rintro x ⟨e,sz,lc⟩ s' ⟨rfl,hs,⟨rfl,h0,hok⟩|⟨rfl,h2,hok⟩⟩
 ·have hs:sz=39:=hs
  subst hs
  have h0:ay e 0= .str str:=h0
  show W (QS sp) 58 _ _ _ _
  refine aF ?_
  unfold QB
  have hil:gX (str.length:Int) 24=decide (str.length<=24):=oN _ 24
  cases str with
  |nil=>
   simp only[aw,az,de,aA,eH,fR,ai,aG,aM,cz,aU,ak,aH,aD,bF,iM,cD,du,au,qM,aq,cw,cT,cF,aP,dg,bS,tA,ah,ar,h0]
   refine bP ⟨rfl,.inr rfl,bV ?_ rfl⟩
   simp only[ai,ah,cT,cF, *]
   rfl
  |cons b r=>
   have hne:((b::r:aB)== [])=false:=rfl
   simp only[aw,az,de,aA,dQ,eW,ai,aG,aM,cz,aU,cG,ak,aH,aD,bh,bk,bF,bm,iM,cD,dB,au,bZ,xr,qM,cW,bG,aq,a7,cw,cT,cF,aP,bW,aR,ej,bS,tA,ah,ar,aX,lX,h0,hne]
   refine bP ⟨rfl,.inr rfl,bV ?_ rfl⟩
   simp only[ai,ah,cT,cF]
   have hn:gS (b::r)=decide ((b::r).length<=24):=by
    simp only[pB,aY,aQ,df] at hok
    have h1:qi b=true:=by simpa[pE] using hok.1
    have h2:uJ r=true:=by rw[<-Gk r 0];exact hok.2
    simp only[gS,h1,h2,iq,cd]
   rw[hn]
   exact congrArg aj.bool hil
 ·refine⟨rfl,.inr rfl,bV ?_ rfl⟩
  rw[h2]
  cases str with
  |nil=>cases hok
  |cons b r=>
   simp only[pB,aY,aQ,Bool.and_eq_false_iff] at hok
   refine congrArg aj.bool ?_
   rcases hok with h|h
   ·have h1:qi b=false:=by simpa[pE] using h
    simp[gS,h1]
   ·have h2:uJ r=false:=by rw[<-Gk r 0];exact h
    simp[gS,h2]
end
def T2:fh:=(89,BJ)::T1
theorem HI:fI T2:=.cons ao6 HH
theorem amr:ek Tryz.prog 58 mI:=by
 intro args v hv G h w xs wr hx
 unfold mI at hv
 split at hv
 ·rename_i s
  obtain⟨h1,hv⟩:=cq hv
  injection hv with hv;subst hv
  have h1:s.length<small:=iu h1
  exact fD (Q:=QT T2) (fB HI) (fun _=>fG 1) (args:=[.str s]) (v:=.bool (gS s)) (s':=s0) rfl (amu (sp:=fun f=>eR f T2) rfl rfl s h1 s0) rfl ⟨1,rfl⟩ G h w xs wr hx
 ·cases hv
def kX (last:aB) (t:cM):Bool:= !gS t.1||Ag.leBytes t.1 last||(t.2== [])||decide (200<t.2.length)
def ma:aB->List cM->Bool
 |_,[]=>true
 |last,t::r=>bif kX last t then false else ma t.1 r
def gM (l:List cM):Bool:=ma [] l&&decide (l.length<=60)
section
variable {sp:FuncId->Option (List aj->Option aj)} (h94:sp 58=some mI)
include h94
theorem apz {v:aj} {l:List cM} (hl:bH 2 ep v l) (hk: ∀t∈l,t.1.length<small) (hsmall:l.length<small) {s:St}: ∀(rest pre:List cM) (e:bq) (lc:Ag.Loc) (last:aB),l=pre++rest->
 ay e 0=v->ay e 6=v->ay e 7= .int .i64 (l.length:Nat)->ay e 8= .int .i64 (pre.length:Nat)->ay e 3= .str last->
 W (QS sp) 59 (.loop Ap) ⟨e,39,lc⟩ s fun x fr s'=>s'=s/\fr.size=39/\((x= .exit 0/\ay fr.env 0=v/\ma last rest=true)\/(x= .ret/\ay fr.env 2= .bool false/\ma last rest=false)):=by
 intro rest
 induction rest with
 |nil=>
  intro pre e lc last hpre h0 h6 h7 h8 h3
  have hlen:l.length=pre.length:=by rw[hpre];simp
  refine cY ?_
  unfold Ap
  refine aF ?_
  unfold EZ
  simp only[aw,az,aA,aU,ak,aD,au,cE,aq,a7,cT,aP,cN,tA,ar,decide_false,h7,h8,hlen,ff,decide_false,ar]
  refine aV (bc (t:=false) (by simp only[ak,Gv]) ?_)
  refine eL ?_
  refine⟨rfl,rfl,.inl ⟨rfl,?_,rfl⟩⟩
  simp only[ai,cF,ah,h0]
 |cons t rest ih=>
  intro pre e lc last hpre h0 h6 h7 h8 h3
  have hlt:pre.length<l.length:=by rw[hpre];simp
  have hat:l[pre.length]? =some t:=by rw[hpre];simp
  have hia:=fun lc=>hl.at tt hat lc .i64
  have hcl:=hl.clean
  have hns:=wy (hk t (kE hat))
  have hsm:small=9223372036854775808:=rfl
  have hwr:IntKind.i64.wrap ((pre.length:Int)+1)=((pre.length+1:Nat):Int):=by rw[eh (by omega) (by omega)];omega
  refine cY ?_
  unfold Ap
  refine aF ?_
  unfold EZ
  simp only[aw,az,aA,aU,ak,aD,au,cE,aq,a7,cT,aP,cN,tA,ar,dT,h7,h8,hlt,dT,ar]
  refine aV (bc (t:=true) (by simp only[ak,Gv]) (b7 ?_))
  refine aV (cR ?_)
  refine aF ?_
  unfold QG
  simp only[aw,az,eD,aA,eE,ai,bU,iW,gY,bn,eN,dI,ak,aD,fv,dR,au,bG,dj,ik,aq,cu,cT,cF,aP,bW,aR,aY,cut,dl,bO,aZ,e7,cy,cP,bS,tA,aQ,ah,ar,bJ,ck,dX,aX,dA,cd,dT,Br,Hb,BZ,acA,h6,h8,hia,ep]
  refine aV (aF ?_)
  unfold QI
  have fin: ∀e' lc',ay e' 32= .bool true->kX last t=true->W (QS sp) 59 (.cond (aa 32) (.seq (.region E0) .ret) .skip) ⟨e',39,lc'⟩ s fun x fr s'=>x= .ret/\s'=s/\fr.size=39/\ay fr.env 2= .bool false:=by
   intro e' lc' h _
   refine bc (t:=true) (by simp only[ak,h]) (aF ?_)
   unfold E0
   simp only[aw,az,aA,aM,aH,bF,au,tA,ar]
   exact bP ⟨rfl,rfl,rfl,by simp only[ai,ah,cT, *]⟩
  cases hb1:gS t.1 with
  |false=>
   simp only[aw,az,de,aA,eH,ip,ai,cJ,bU,aG,cz,bn,fp,bN,dc,da,ak,aH,aD,bh,bk,bF,bT,cD,dB,au,fq,aq,eJ,cw,cT,cF,aP,dq,aZ,bE,ej,bS,tA,cQ,ah,ar,aX,dv,pq,h94,hns,hb1]
   refine(fin _ _ ?_ ?_).mono ?_
   ·simp only[ai,ah,cT,cF, *]
   ·simp[kX,hb1]
   ·rintro x fr s' ⟨rfl,rfl,hs,h⟩
    exact⟨rfl,hs,.inr ⟨rfl,h,by simp[ma,kX,hb1]⟩⟩
  |true=>
  cases hb2:Ag.leBytes t.1 last with
  |true=>
   simp only[aw,az,de,aA,dQ,eH,ip,eG,ai,cJ,bU,aG,cz,bn,aU,fp,bN,dc,da,ak,aH,aD,bh,bk,bF,bT,cD,dB,du,au,vF,fq,aq,eJ,cw,cT,cF,aP,dq,aZ,bE,dg,bS,tA,cQ,ah,ar,aX,dv,pq,h3,h94,hns,hb1,hb2]
   refine(fin _ _ ?_ ?_).mono ?_
   ·simp only[ai,ah,cT,cF, *]
   ·simp[kX,hb1,hb2]
   ·rintro x fr s' ⟨rfl,rfl,hs,h⟩
    exact⟨rfl,hs,.inr ⟨rfl,h,by simp[ma,kX,hb1,hb2]⟩⟩
  |false=>
  cases hb3:t.2== [] with
  |true=>
   simp only[aw,az,de,aA,dQ,eH,ip,eG,ai,cJ,bU,aG,cz,bn,aU,fp,bN,dc,da,ak,aH,aD,bh,bk,bF,iM,bT,cD,dB,du,au,jr,vF,fq,aq,eJ,cw,cT,cF,aP,dq,aZ,bE,dg,bS,tA,aQ,cQ,ah,ar,aX,dv,pq,vZ,h3,h94,hns,hb1,hb2,hb3]
   refine(fin _ _ ?_ ?_).mono ?_
   ·simp only[ai,ah,cT,cF, *]
   ·simp[kX,hb1,hb2,hb3]
   ·rintro x fr s' ⟨rfl,rfl,hs,h⟩
    exact⟨rfl,hs,.inr ⟨rfl,h,by simp[ma,kX,hb1,hb2,hb3]⟩⟩
  |false=>
  have hil:di 200 (t.2.length:Nat)=decide (200<t.2.length):=cN 200 _
  cases hb4:decide (200<t.2.length) with
  |true=>
   simp only[aw,az,de,aA,dQ,eG,ai,cJ,bU,aG,cz,bn,aU,fp,bN,cG,dc,da,ak,aH,aD,bh,bk,bF,bm,iM,bT,cD,du,au,bZ,iT,jr,vF,fq,cW,bG,aq,eJ,a7,cw,cT,cF,aP,bW,dq,aZ,bE,dg,bS,tA,aQ,cQ,ah,ar,aX,dv,pq,vZ,lX,JD,h3,h94,hns,hb1,hb2,hb3,hil,hb4]
   refine(fin _ _ ?_ ?_).mono ?_
   ·simp only[ai,ah,cT,cF, *]
   ·simp[kX,hb1,hb2,hb3,hb4]
   ·rintro x fr s' ⟨rfl,rfl,hs,h⟩
    exact⟨rfl,hs,.inr ⟨rfl,h,by simp[ma,kX,hb1,hb2,hb3,hb4]⟩⟩
  |false=>
   simp only[aw,az,de,aA,dQ,eG,ai,cJ,bU,aG,cz,bn,aU,fp,bN,cG,dc,da,ak,aH,aD,bh,bk,bF,bm,iM,bT,cD,du,au,bZ,iT,jr,vF,fq,cW,bG,aq,eJ,a7,cw,cT,cF,aP,bW,dq,aZ,bE,dg,bS,tA,aQ,cQ,ah,ar,aX,dv,pq,vZ,lX,JD,h3,h94,hns,hb1,hb2,hb3,hil,hb4]
   refine bc (t:=false) (by simp only[ak,ai,ah,cT,cF, *]) (b7 ?_)
   simp only[aW]
   refine cp ?_
   unfold QJ
   simp only[aw,az,aA,ai,cJ,bU,aM,bn,bN,ak,bT,au,aq,cT,cF,aP,aZ,bE,bS,tA,cQ,ah,ar,aX,dv,pq,aW,dM]
   refine cp ?_
   unfold QK
   simp only[aw,az,aA,ai,aG,aU,ak,aH,aD,bm,au,dW,aq,a7,cT,cF,aP,bS,tA,ah,ar,h8,hwr,aW]
   refine(ih (pre++[t]) _ _ t.1 (by rw[hpre];simp) (by simp only[ai,ah,cF, *]) (by simp only[ai,ah,cF, *]) (by simp only[ai,ah,cF, *]) (by simp only[ai,ah,cT,cF,dw,aR,aY]) (by simp only[ai,ah,cT,cF, *])).mono ?_
   have hbad:kX last t=false:=by simp[kX,hb1,hb2,hb3,hb4]
   simp only[ma,hbad,cF]
   exact fun _ _ _ h=>h
theorem apA (h95:sp 59=none) {v:aj} {l:List cM} (hl:bH 2 ep v l) (hk: ∀t∈l,t.1.length<small) (hsmall:l.length<small) (s:St):bv (QS sp) 59 [v] s (.bool (gM l)) s:=by
 have hlen:=fun mk s=>hl.len qW qV mk s
 have hcl:=hl.clean
 refine dZ ai1 ai0 ai3 ai2 h95 ?_
 unfold QC
 refine aF ?_
 unfold QD
 simp only[dr,cZ,aw,az,aA,aM,aH,bF,au,cT,aR,aY,tA,aQ,ar,ck,cd,dT]
 refine aF ?_
 unfold QE
 simp only[aw,az,aA,aM,aH,iM,au,tA,ar]
 refine aV (aF ?_)
 unfold QF
 simp only[aw,az,aA,ai,aG,cG,ak,aH,aD,bh,bk,bm,au,bZ,cW,bG,aq,cT,cF,aP,bW,bS,tA,ah,ar,aX,hcl,hlen]
 refine cR ?_
 refine(apz h94 hl hk hsmall l [] _ _ [] rfl (by simp only[ai,ah,cT,cF, *]) (by simp only[ai,ah,cT,cF, *]) (by simp only[ai,ah,cT,cF, *]) (by simp only[ai,ah,cT,cF];rfl) (by simp only[ai,ah,cT,cF, *])).mono ?_
 rintro x ⟨e,sz,lc⟩ s' ⟨rfl,hs,⟨rfl,h0,hok⟩|⟨rfl,h2,hok⟩⟩
 ·have hs:sz=39:=hs
  subst hs
  have h0:ay e 0=v:=h0
  show W (QS sp) 59 _ _ _ _
  refine aF ?_
  unfold QL
  simp only[aw,az,aA,ai,aG,aM,aU,cG,ak,aH,aD,bh,bk,bm,au,bZ,xr,cW,bG,aq,a7,cT,cF,aP,bW,bS,tA,ah,ar,aX,h0,hcl,hlen]
  refine bP ⟨rfl,.inr rfl,bV ?_ rfl⟩
  simp only[ai,ah,cT,cF,gM,hok,iq]
  exact congrArg aj.bool (oN l.length 60)
 ·exact⟨rfl,.inr rfl,bV (by rw[h2];simp[gM,hok]) rfl⟩
end
def qB:List cM->Bool
 | []=>true
 |t::l=>cg t.1.length small&&qB l
theorem uX: ∀ {l:List cM},qB l=true-> ∀t∈l,t.1.length<small
 | [],_,_,h=>by cases h
 |a::l,h,t,ht=>by
  simp only[qB,df] at h
  rcases List.mem_cons.1 ht with rfl|ht
  ·exact iu h.1
  ·exact uX h.2 t ht
theorem uY: ∀ {l:List cM},(∀t∈l,t.1.length<small)->qB l=true
 | [],_=>rfl
 |a::l,h=>by
  simp only[qB,df]
  exact⟨fe (h a (by simp)),uY fun t ht=>h t (by simp[ht])⟩
def qE:Sp
 | [v]=>(ic 2 oC v).bind fun l=>bif cg l.length small&&qB l then some (.bool (gM l)) else none
 |_=>none
theorem Wv {v:aj} {l:List cM} (h:bH 2 ep v l) (h1:l.length<small) (h2: ∀t∈l,t.1.length<small):qE [v]=some (.bool (gM l)):=by
 simp only[qE,ka rR h,aq,dA,h1,dT,uY h2,fL,cT]
def T3:fh:=(58,mI)::T2
theorem Cj:fI T3:=.cons amr HI
theorem Ww:ek Tryz.prog 59 qE:=by
 intro args u hv G h w xs wr hx
 unfold qE at hv
 split at hv
 ·rename_i v
  simp only[aN] at hv
  obtain⟨l,h1,hv⟩:=hv
  obtain⟨h2,hv⟩:=cq hv
  injection hv with hv;subst hv
  simp only[df] at h2
  have hl:bH 2 ep v l:=jA (fun _ _=>rQ) h1
  obtain⟨ht,hw⟩:=JX Hd hl
  exact fD (Q:=QT T3) (fB Cj) (fun _=>fG 1) (args:=[v]) (v:=.bool (gM l)) (s':=s0) (by simp only[jv,ht,fL])
   (apA (sp:=fun f=>eR f T3) rfl rfl hw (uX h2.2) (iu h2.1) s0) rfl ⟨1,rfl⟩ G h w xs wr hx
 ·cases hv
def jw (k:Int):aB:=bif bz k 1 then [110,111,100,101] else bif bz k 2 then [119,97,121] else bif bz k 3 then [97,114,101,97] else bif bz k 4 then [114,111,117,116,101] else bif bz k 5 then [116,117,114,110] else []
def ru:Sp
 | [.int .i64 k]=>some (.str (jw k))
 |_=>none
theorem ZO:jU [] 100 57 [.int .i64 0]=some (.str (jw 0),0):=by kernel_rfl
theorem ZP:jU [] 100 57 [.int .i64 1]=some (.str (jw 1),0):=by kernel_rfl
theorem ZQ:jU [] 100 57 [.int .i64 2]=some (.str (jw 2),0):=by kernel_rfl
theorem ZR:jU [] 100 57 [.int .i64 3]=some (.str (jw 3),0):=by kernel_rfl
theorem ZS:jU [] 100 57 [.int .i64 4]=some (.str (jw 4),0):=by kernel_rfl
theorem ZT:jU [] 100 57 [.int .i64 5]=some (.str (jw 5),0):=by kernel_rfl
theorem aqk {sp:FuncId->Option (List aj->Option aj)} (h93:sp 57=none) {k:Int} (hk:k<0\/6<=k) (s:St):bv (QS sp) 57 [.int .i64 k] s (.str []) s:=by
 refine dZ aiS aiR aiV aiU h93 ?_
 unfold Qq
 refine aF ?_
 unfold Qr
 simp only[dr,cZ,aw,az,aA,aM,aH,iM,au,cT,aR,aY,tA,aQ,ar,ck,cd,dT]
 refine aF ?_
 unfold Qs
 simp only[aw,az,eD,aA,eE,ai,dp,bU,iW,gY,lK,eN,ak,aH,aD,iM,fv,au,bG,dj,ji,ik,aq,cw,cu,cT,cF,aP,bW,aR,aY,dl,bO,aZ,gZ,e7,cy,cP,bS,tA,aQ,ah,ar,bJ,Nat.reduceMul,ck,dX,aX,dA,cd,dT,X3,apf,aqw,acy,ee]
 refine aV (aF ?_)
 unfold Qt
 have fin: ∀e' lc',ay e' 10= .bool true->W (QS sp) 57 (.cond (aa 10) (.seq (.region EW) .ret) .skip) ⟨e',14,lc'⟩ s fun x fr s'=>x= .ret/\s'=s/\ay fr.env 2= .str []:=by
  intro e' lc' h
  refine bc (t:=true) (by simp only[ak,h]) (aF ?_)
  unfold EW
  simp only[aw,az,aA,aM,aH,iM,au,tA,ar]
  exact bP ⟨rfl,rfl,by simp only[ai,ah,cT, *]⟩
 cases h1:di k 0 with
 |true=>
  simp only[aw,az,de,aA,eH,ip,ai,aG,cz,aU,ak,aH,aD,bF,bm,cD,dB,au,cE,aq,a7,cT,cF,aP,bS,tA,ah,ar,h1]
  refine(fin _ _ ?_).mono ?_
  ·simp only[ai,ah,cT,cF, *]
  ·rintro x fr s' ⟨rfl,rfl,h⟩
   exact⟨rfl,.inr rfl,bV h rfl⟩
 |false=>
  have h2:gX 6 k=true:=by
   simp only[di,decide_eq_false_iff_not] at h1
   simp only[gX,decide_eq_true_eq];omega
  simp only[aw,az,de,aA,dQ,eG,ai,aG,cz,aU,ak,aH,aD,bF,bm,cD,du,au,cE,j7,aq,a7,cT,cF,aP,bS,tA,ah,ar,h1,h2]
  refine(fin _ _ ?_).mono ?_
  ·simp only[ai,ah,cT,cF, *]
  ·rintro x fr s' ⟨rfl,rfl,h⟩
   exact⟨rfl,.inr rfl,bV h rfl⟩
theorem ng {a b:Int} (h:a≠b):bz a b=false:=beq_eq_false_iff_ne.2 h
theorem aqi:ek Tryz.prog 57 ru:=by
 intro args u hv G h w xs wr hx
 unfold ru at hv
 split at hv
 ·rename_i k
  injection hv with hv;subst hv
  have hcase:(k<0\/6<=k)\/k=0\/k=1\/k=2\/k=3\/k=4\/k=5:=by omega
  rcases hcase with hk|rfl|rfl|rfl|rfl|rfl|rfl
  ·have hw:jw k=[]:=by
    simp only[jw,ng (show k≠1 by omega),ng (show k≠2 by omega),ng (show k≠3 by omega),ng (show k≠4 by omega),ng (show k≠5 by omega),cF]
   rw[hw]
   exact fD (Q:=QT []) (fB .nil) (fun _=>fG 1) (args:=[.int .i64 k]) (v:=.str []) (s':=s0) rfl (aqk (sp:=fun f=>eR f []) rfl hk s0) rfl ⟨1,rfl⟩ G h w xs wr hx
  ·exact kB .nil ZO (args':=[.int .i64 0]) rfl rfl G h w xs wr hx
  ·exact kB .nil ZP (args':=[.int .i64 1]) rfl rfl G h w xs wr hx
  ·exact kB .nil ZQ (args':=[.int .i64 2]) rfl rfl G h w xs wr hx
  ·exact kB .nil ZR (args':=[.int .i64 3]) rfl rfl G h w xs wr hx
  ·exact kB .nil ZS (args':=[.int .i64 4]) rfl rfl G h w xs wr hx
  ·exact kB .nil ZT (args':=[.int .i64 5]) rfl rfl G h w xs wr hx
 ·cases hv
def pw (k:Int):Nat:=bif bz k 2 then 2 else bif bz k 3 then 3 else bif bz k 4 then 1 else bif bz k 5 then 3 else 0
def ws:Sp
 | [.int .i64 k]=>bif gX 0 k&&di k 6 then some (.int .i64 (pw k:Nat)) else none
 |_=>none
theorem ZU:jU [] 100 60 [.int .i64 0]=some (.int .i64 (pw 0:Nat),0):=by kernel_rfl
theorem ZV:jU [] 100 60 [.int .i64 1]=some (.int .i64 (pw 1:Nat),0):=by kernel_rfl
theorem ZW:jU [] 100 60 [.int .i64 2]=some (.int .i64 (pw 2:Nat),0):=by kernel_rfl
theorem ZX:jU [] 100 60 [.int .i64 3]=some (.int .i64 (pw 3:Nat),0):=by kernel_rfl
theorem ZY:jU [] 100 60 [.int .i64 4]=some (.int .i64 (pw 4:Nat),0):=by kernel_rfl
theorem ZZ:jU [] 100 60 [.int .i64 5]=some (.int .i64 (pw 5:Nat),0):=by kernel_rfl
theorem ak0:ek Tryz.prog 60 ws:=by
 intro args u hv G h w xs wr hx
 unfold ws at hv
 split at hv
 ·rename_i k
  obtain⟨hk,hv⟩:=cq hv
  injection hv with hv;subst hv
  simp only[gX,di,df,decide_eq_true_eq] at hk
  have hcase:k=0\/k=1\/k=2\/k=3\/k=4\/k=5:=by omega
  rcases hcase with rfl|rfl|rfl|rfl|rfl|rfl
  ·exact kB .nil ZU (args':=[.int .i64 0]) rfl rfl G h w xs wr hx
  ·exact kB .nil ZV (args':=[.int .i64 1]) rfl rfl G h w xs wr hx
  ·exact kB .nil ZW (args':=[.int .i64 2]) rfl rfl G h w xs wr hx
  ·exact kB .nil ZX (args':=[.int .i64 3]) rfl rfl G h w xs wr hx
  ·exact kB .nil ZY (args':=[.int .i64 4]) rfl rfl G h w xs wr hx
  ·exact kB .nil ZZ (args':=[.int .i64 5]) rfl rfl G h w xs wr hx
 ·cases hv
def jN (x y:Int):Bool:=gX 0 x&&di x 1048576&&gX 0 y&&di y 1048576
def qY:Sp
 | [.agg [.int .i64 x,.int .i64 y]]=>some (.bool (jN x y))
 |_=>none
theorem amR {sp:FuncId->Option (List aj->Option aj)} (h99:sp 63=none) (x y:Int) (s:St):bv (QS sp) 63 [.agg [.int .i64 x,.int .i64 y]] s (.bool (jN x y)) s:=by
 refine dZ ajx ajw ajz ajy h99 ?_
 unfold QV
 refine aF ?_
 unfold QW
 simp only[dr,cZ,aw,az,aA,ai,dp,aM,iA,ak,aH,aD,bF,fv,au,bG,dj,aq,cu,cT,bW,aR,aY,bS,tA,aQ,ar,ck,cd,dT,acB]
 refine aF ?_
 unfold QX
 cases h1:gX 0 x with
 |false=>
  simp only[aw,az,de,aA,eH,fR,ai,dp,cJ,bU,aG,aM,cz,bn,aU,bN,ak,aH,aD,bF,bm,bT,cD,du,au,j7,aq,a7,cT,cF,aP,aZ,bE,bS,tA,cQ,ah,ar,aX,eC,rZ,h1]
  refine bP ⟨rfl,.inr rfl,bV ?_ rfl⟩
  simp only[ai,ah,cT,cF, *]
  simp only[jN,h1,jR]
 |true=>
 cases h2:di x 1048576 with
 |false=>
  simp only[aw,az,de,aA,dQ,eH,eW,fR,ai,dp,cJ,bU,aG,aM,cz,bn,aU,bN,ak,aH,aD,bF,bm,bT,cD,dB,du,au,cE,j7,aq,a7,cT,cF,aP,aZ,bE,bS,tA,cQ,ah,ar,aX,eC,rZ,h1,h2]
  refine bP ⟨rfl,.inr rfl,bV ?_ rfl⟩
  simp only[ai,ah,cT,cF, *]
  simp only[jN,h1,h2,mi,jR]
 |true=>
 cases h3:gX 0 y with
 |false=>
  simp only[aw,az,de,aA,dQ,eH,eW,fR,ai,dp,cJ,bU,aG,aM,cz,bn,aU,bN,ak,aH,aD,bF,bm,bT,cD,dB,du,au,cE,j7,aq,a7,cT,cF,aP,aZ,bE,bS,tA,aQ,cQ,ah,ar,aX,eC,rZ,xJ,h1,h2,h3]
  refine bP ⟨rfl,.inr rfl,bV ?_ rfl⟩
  simp only[ai,ah,cT,cF, *]
  simp only[jN,h1,h2,h3,mi,jR]
 |true=>
  simp only[aw,az,de,aA,dQ,eW,ai,dp,cJ,bU,aG,aM,cz,bn,aU,bN,ak,aH,aD,bF,bm,bT,cD,dB,au,cE,j7,aq,a7,cT,cF,aP,aZ,bE,bS,tA,aQ,cQ,ah,ar,aX,eC,rZ,xJ,h1,h2,h3]
  refine bP ⟨rfl,.inr rfl,bV ?_ rfl⟩
  simp only[ai,ah,cT,cF, *]
  simp only[jN,h1,h2,h3,iq]
theorem amQ:ek Tryz.prog 63 qY:=by
 intro args u hv G h w xs wr hx
 unfold qY at hv
 split at hv
 ·rename_i x y
  injection hv with hv;subst hv
  exact fD (Q:=QT []) (fB .nil) (fun _=>fG 1) (args:=[.agg [.int .i64 x,.int .i64 y]]) (v:=.bool (jN x y)) (s':=s0) rfl (amR (sp:=fun f=>eR f []) rfl x y s0) rfl ⟨1,rfl⟩ G h w xs wr hx
 ·cases hv
def T4:fh:=(57,ru)::(60,ws)::(63,qY)::(59,qE)::T3
theorem HJ:fI T4:=.cons aqi (.cons ak0 (.cons amQ (.cons Ww Cj)))
def Uf (P:Program) (t:TypeId) (off:Nat):Option bR->Option aj
 |some (.cells cs)=>fK P t cs off
 |_=>none
theorem dH (P:Program) (mk:bt) (t:TypeId) (n off:Nat) (lc:Ag.Loc) (s:St):lY P mk t (.ptr n off) lc s=Uf P t off (s.get mk n):=by
 simp only[lY]
 cases s.get mk n with
 |none=>rfl
 |some o=>cases o<;>rfl
theorem dG (P:Program) (t:TypeId) (off:Nat) (cs:List aj):Uf P t off (some (.cells cs))=fK P t cs off:=rfl
noncomputable def Wj (lc:Ag.Loc) (s:St) (m off:Nat) (v:aj):Option bR->Option (Ag.Loc×St)
 |some (.cells cs)=>(dl cs off v.cells).bind fun cs'=>some (lc,s.put m (some (.cells cs')))
 |_=>none
theorem kW (P:Program) (mk:bt) (t:TypeId) (m off:Nat) (v:aj) (lc:Ag.Loc) (s:St):qC P mk t (.ptr m off) v lc s=(fQ P t).bind fun n=>bif bo v.cells.length n&&cg 0 n then Wj lc s m off v (s.get mk m) else none:=by
 simp only[qC]
 cases s.get mk m with
 |none=>rfl
 |some o=>cases o<;>rfl
theorem kV (lc:Ag.Loc) (s:St) (m off:Nat) (v:aj) (cs:List aj):Wj lc s m off v (some (.cells cs))=(dl cs off v.cells).bind fun cs'=>some (lc,s.put m (some (.cells cs'))):=rfl
section
variable {Q:cI} {f:FuncId}
theorem gd (n:Nat) {l:List cV} {fr:Fr} {s:St} {N:Fr->St->Prop} (h:WP Q f (l.take n) fr s fun fr s=>WL Q f (l.drop n) fr s N):WL Q f l fr s N:=by
 obtain⟨fr1,s1,h1,h2⟩:=h
 have:=WL.app h1 h2
 rwa [List.take_append_drop] at this
theorem gq {d:Tmp} {x:Operand} {av:Array Operand} {ts:Array TypeId} {l:List cV} {e:bq} {sz:Nat} {lc:Ag.Loc} {s s1:St} {g:FuncId} {args:List aj} {v:aj} {N:Fr->St->Prop}
 (hc:callee e ⟨.value x,av,ts⟩=some (g,args)) (hr:bv Q g args s v s1) (hd:d<sz) (hk:WL Q f l ⟨e.set d (some v),sz,lc⟩ s1 N):
 WL Q f (⟨some d,.call ⟨.value x,av,ts⟩,.aw⟩::l) ⟨e,sz,lc⟩ s N:=
 WL.call rfl rfl (fun b=>by simp) hc hr (iO.2 ⟨hd,rfl⟩) hk
theorem gp {l:List cV} {fr:Fr} {s:St} {N:Fr->St->Prop} (h:WP Q f l fr s N):WL Q f l fr s N:=let⟨_,_,h1,h2⟩:=h;WL.run h1 h2
end
structure Obj where
 id:aB
 kind:Int
 x:Int
 y:Int
 refsV:aj
 tagsV:aj
 refs:List aB
 tags:List cM
def Obj.cells (o:Obj):List aj:=[.str o.id,.int .i64 o.kind,.int .i64 o.x,.int .i64 o.y,o.refsV,o.tagsV]
def Obj.val (o:Obj):aj:=.agg o.cells
structure Obj.Ok (o:Obj):Prop where
 refs:bH 1 bB o.refsV o.refs
 tags:bH 2 ep o.tagsV o.tags
 id:o.id.length<small
 reflen:o.refs.length<small
 ref: ∀r∈o.refs,r.length<small
 taglen:o.tags.length<small
 key: ∀t∈o.tags,t.1.length<small
def jZ (ks:List aB):List (aB×aj):=ks.map fun k=>(k,.bool true)
theorem Uq (k:aB): ∀ks,look k (jZ ks)=bif ks.contains k then some (.bool true) else none
 | []=>rfl
 |a::ks=>by
  have ih:=Uq k ks
  simp only[jZ,fS,look,List.contains_cons] at ih ⊢
  rw[ih]
  cases k==a<;>simp
theorem Ur (k:aB) (ks:List aB):(look k (jZ ks)).getD (.bool false)= .bool (ks.contains k):=by
 rw[Uq];cases ks.contains k<;>rfl
def lA (k:aB) (ks:List aB):List aB:=bif ks.contains k then ks else ks++[k]
theorem D0 (k:aB): ∀ks,fk k (.bool true) (jZ ks)=jZ (lA k ks)
 | []=>rfl
 |a::ks=>by
  have ih:=D0 k ks
  simp only[jZ,fS,fk,lA,List.contains_cons] at ih ⊢
  cases h:k==a with
  |true=>
   have:k=a:=by simpa using h
   subst this
   simp
  |false=>
   simp only[cF,jI,ih]
   cases ks.contains k<;>simp
def vd (kind:Int) (last:aB) (seen:List aB) (r:aB):Bool:=((bz kind 2&&(r==last))||(bz kind 3&&seen.contains r))|| !gS r
structure mn (s:St) (o:Obj) (po pl ps m:Nat) (last:aB) (seen:List aB):Prop where
 ho:s.get [] po=some (.cells o.cells)
 hl:s.get [] pl=some (.cells [.str last])
 hs:s.get [] ps=some (.cells [.map m])
 hm:s.get [] m=some (.map (c8 0 (jZ seen)) (jZ seen).length)
 d1:(pl==m)=false
 d2:(po==m)=false
 d3:(po==pl)=false
 d4:(ps==m)=false
 d5:(ps==pl)=false
 d6:(m==pl)=false
noncomputable def mn.next (s:St) (pl m:Nat) (seen:List aB) (r:aB):St:=(s.put m (some (.map (c8 0 (jZ (lA r seen))) (jZ (lA r seen)).length))).put pl (some (.cells [.str r]))
theorem mn.after {s:St} {o:Obj} {po pl ps m:Nat} {last:aB} {seen:List aB} (c:mn s o po pl ps m last seen) (r:aB):mn (mn.next s pl m seen r) o po pl ps m r (lA r seen):=by
 refine⟨?_,?_,?_,?_,c.d1,c.d2,c.d3,c.d4,c.d5,c.d6⟩<;>simp only[mn.next,cX,c.d1,c.d2,c.d3,c.d4,c.d5,c.d6,bS,cT,cF,c.ho,c.hs]
section
variable {sp:FuncId->Option (List aj->Option aj)} (h94:sp 58=some mI)
include h94
theorem aqu (h97:sp 61=none) {s:St} {o:Obj} {po pl ps m:Nat} {last:aB} {seen:List aB} (c:mn s o po pl ps m last seen) {r:aB} (hr:r.length<small):
 bv (QS sp) 61 [.str r,.ptr po 0,.ptr pl 0,.ptr ps 0] s (.bool (vd o.kind last seen r)) (mn.next s pl m seen r):=by
 have hns:=wy hr
 have hlk:=AV qR A4 W5 c.hm r
 rw[Ur] at hlk
 have hup:=w5 qR A4 c.hm r (.bool true)
 rw[D0] at hup
 have ho:=c.ho
 have hl:=c.hl
 have hs:=c.hs
 have d1:=c.d1
 refine dZ ajp ajo ajr ajq h97 ?_
 unfold QN
 refine aF ?_
 unfold QO
 simp only[dr,cZ,aw,az,aA,aM,aH,bF,au,cT,aR,aY,tA,aQ,ar,bJ,ck,cd,dT]
 refine aF ?_
 unfold QP
 have two: ∀e b,ay e 0= .str r->ay e 1= .ptr po 0->ay e 2= .ptr pl 0->ay e 3= .ptr ps 0->ay e 6= .bool b->b=((bz o.kind 2&&(r==last))||(bz o.kind 3&&seen.contains r))->W (QS sp) 61 (.seq (.region E3) (.seq (.region E4) .ret)) ⟨e,34,[]⟩ s fun x fr' s1=>s1=mn.next s pl m seen r/\(x= .normal\/x= .ret)/\ ∃vs,gL (QS sp) [] fr' s1 [.tmp 5]=some vs/\jO vs= .bool (vd o.kind last seen r):=by
  intro e b h0 h1 h2 h3 h6 hb
  refine aF ?_
  unfold E3
  simp only[aw,az,eD,aA,eE,ai,aG,bn,eN,tI,ak,aH,aD,bF,au,tM,ji,aq,eJ,cw,gr,cT,cF,aP,aR,aY,dl,bO,aZ,bE,gZ,cy,iQ,bS,tA,aQ,ah,ar,ck,dX,aX,dA,cd,dT,GG,Hc,dH,dG,kW,kV,cX,h0,h2,h3,hs,hl,hup,d1]
  refine aF ?_
  unfold E4
  cases b with
  |true=>
   simp only[aw,az,de,aA,eH,ip,ai,aG,aM,cz,ak,aH,bF,cD,dB,au,aq,cT,cF,bS,tA,ah,ar,h6]
   refine bP ⟨rfl,.inr rfl,bV ?_ rfl⟩
   simp only[ai,ah,cT,cF, *]
   simp only[vd,<-hb,lh]
  |false=>
   simp only[aw,az,de,aA,dQ,eG,ai,aG,aM,cz,fp,dc,da,ak,aH,aD,bh,bk,bF,cD,du,au,fq,aq,eJ,cw,cT,cF,dq,bS,tA,ah,ar,h0,h6,h94,hns]
   refine bP ⟨rfl,.inr rfl,bV ?_ rfl⟩
   simp only[ai,ah,cT,cF, *]
   simp only[vd,<-hb,jI]
 cases hk2:bz o.kind 2 with
 |true=>
  cases he:r==last with
  |true=>
   simp only[aw,az,de,aA,dQ,eH,eW,ip,pN,ai,aG,aM,cz,bn,aU,bN,ak,aH,aD,bF,bm,cD,dB,au,gJ,jr,aq,a7,cw,cT,cF,aP,aZ,bE,bS,tA,aQ,ah,ar,eC,dv,mG,dH,dG,ho,hl,Obj.cells,hk2,he]
   refine two _ true ?_ ?_ ?_ ?_ ?_ (by simp only[hk2,he,fL,lh])<;>simp only[ai,ah,cT,cF, *]
  |false=>
   cases hk3:bz o.kind 3 with
   |true=>
    simp only[aw,az,de,aA,dQ,eW,eG,ai,aG,aM,cz,bn,aU,bN,l5,ak,aH,aD,bF,bm,cD,dB,du,au,gJ,jr,aq,a7,cw,gr,cT,cF,aP,aZ,bE,bS,tA,aQ,ah,ar,eC,dv,GG,mG,dH,dG,ho,hs,hl,Obj.cells,hk2,he,hk3,hlk]
    refine two _ (seen.contains r) ?_ ?_ ?_ ?_ ?_ (by simp only[hk2,he,hk3,mi,jI,iq])<;>simp only[ai,ah,cT,cF, *]
   |false=>
    simp only[aw,az,de,aA,dQ,eH,eW,fR,eG,ai,aG,aM,cz,bn,aU,bN,ak,aH,aD,bF,bm,cD,dB,du,au,gJ,jr,aq,a7,cw,cT,cF,aP,aZ,bE,bS,tA,aQ,ah,ar,eC,dv,mG,dH,dG,ho,hl,Obj.cells,hk2,he,hk3]
    refine two _ false ?_ ?_ ?_ ?_ ?_ (by simp only[hk2,he,hk3,mi,jI,jR])<;>simp only[ai,ah,cT,cF, *]
 |false=>
  cases hk3:bz o.kind 3 with
  |true=>
   simp only[aw,az,de,aA,dQ,eH,eW,fR,eG,ai,aG,aM,cz,bn,aU,bN,l5,ak,aH,aD,bF,bm,cD,dB,du,au,gJ,aq,a7,cw,gr,cT,cF,aP,aZ,bE,bS,tA,aQ,ah,ar,eC,GG,mG,dH,dG,ho,hs,Obj.cells,hk2,hk3,hlk]
   refine two _ (seen.contains r) ?_ ?_ ?_ ?_ ?_ (by simp only[hk2,hk3,jR,jI,iq])<;>simp only[ai,ah,cT,cF, *]
  |false=>
   simp only[aw,az,de,aA,dQ,eH,fR,eG,ai,aG,aM,cz,bn,aU,bN,ak,aH,aD,bF,bm,cD,du,au,gJ,aq,a7,cT,cF,aP,aZ,bE,bS,tA,aQ,ah,ar,eC,mG,dH,dG,ho,Obj.cells,hk2,hk3]
   refine two _ false ?_ ?_ ?_ ?_ ?_ (by simp only[hk2,hk3,jI,jR])<;>simp only[ai,ah,cT,cF, *]
end
theorem bv.ofEx {Q:cI} {f:FuncId} {fn:Func} {sc:SC} {n:Nat} {rs:List ResultVar} {args:List aj} {s:St} {R:aj->St->Prop} (hf:Q.P.funcs[f]? =some fn) (hc:fn.body.map cL=some sc) (hn:fn.ntmps=n) (hr:fn.results.toList=rs) (hsp:Q.spec f=none)
 (h:W Q f sc (dr n args) s fun x fr' s1=>(x= .normal\/x= .ret)/\ ∃v,(∃vs,gL Q [] fr' s1 rs=some vs/\jO vs=v)/\R v s1) (hH:Q.specH f=none:=by rfl) (hW:Q.specW f=none:=by rfl): ∃v s',bv Q f args s v s'/\R v s':=by
 obtain⟨x,fr',s1,h1,h2,v,h3,h4⟩:=h
 exact⟨v,s1,dZ hf hc hn hr hsp ⟨x,fr',s1,h1,rfl,h2,h3⟩ hH hW,h4⟩
def nM (kind:Int):aB->List aB->List aB->Bool
 |_,_,[]=>false
 |last,seen,r::rs=>vd kind last seen r||nM kind r (lA r seen) rs
def vJ (po pl ps:Nat):aj:=.func (.func 61) [] [.ptr po 0,.ptr pl 0,.ptr ps 0]
theorem Iv (po pl ps:Nat):(vJ po pl ps).clean=true:=rfl
section
variable {sp:FuncId->Option (List aj->Option aj)} (h94:sp 58=some mI) (h97:sp 61=none)
include h94 h97
theorem adS {v:aj} {l:List aB} (hl:bH 1 bB v l) (hk: ∀r∈l,r.length<small) (hsmall:l.length<small) {o:Obj} {po pl ps m:Nat}: ∀(rest pre:List aB) (e:bq) (lc:Ag.Loc) (s:St) (last:aB) (seen:List aB),l=pre++rest->mn s o po pl ps m last seen->
 ay e 0=v->ay e 1=vJ po pl ps->ay e 7= .int .i64 (l.length:Nat)->ay e 8= .int .i64 (pre.length:Nat)->
 W (QS sp) 90 (.loop AH) ⟨e,19,lc⟩ s fun x fr s'=>(∃last' seen',mn s' o po pl ps m last' seen')/\s'.ci=s.ci/\fr.size=19/\((x= .exit 0/\nM o.kind last seen rest=false)\/(x= .ret/\(∃i:Nat,ay fr.env 4= .int .i64 (i:Int))/\nM o.kind last seen rest=true)):=by
 intro rest
 induction rest with
 |nil=>
  intro pre e lc s last seen hpre c h0 h1 h7 h8
  have hlen:l.length=pre.length:=by rw[hpre];simp
  refine cY ?_
  unfold AH
  refine aF ?_
  unfold FN
  simp only[aw,az,aA,aU,ak,aD,au,cE,aq,a7,cT,aP,cN,tA,ar,decide_false,h7,h8,hlen,ff]
  refine aV (bc (t:=false) (by simp only[ak,ai,ah,cT, *]) ?_)
  exact eL ⟨⟨last,seen,c⟩,rfl,rfl,.inl ⟨rfl,rfl⟩⟩
 |cons r rest ih=>
  intro pre e lc s last seen hpre c h0 h1 h7 h8
  have hlt:pre.length<l.length:=by rw[hpre];simp
  have hat:l[pre.length]? =some r:=by rw[hpre];simp
  have hia:=fun lc=>hl.at lF hat lc .i64
  have hcl:=hl.clean
  have hr:=hk r (kE hat)
  have hsm:small=9223372036854775808:=rfl
  have hwr:IntKind.i64.wrap ((pre.length:Int)+1)=((pre.length+1:Nat):Int):=by rw[eh (by omega) (by omega)];omega
  refine cY ?_
  unfold AH
  refine aF ?_
  unfold FN
  simp only[aw,az,aA,aU,ak,aD,au,cE,aq,a7,cT,aP,cN,tA,ar,dT,h7,h8,hlt]
  refine aV (bc (t:=true) (by simp only[ak,ai,ah,cT, *]) (b7 ?_))
  refine aV (cR ?_)
  refine aF ?_
  unfold Tr
  simp only[aw,az,aA,ai,aG,aM,ak,au,cT,cF,bS,tA,ah,ar,h8]
  refine aV (gH (gd 5 ?_))
  unfold Ts
  simp only[aw,az,aA,ai,aG,bn,dI,ak,dR,au,ji,aq,cT,cF,aP,bO,aZ,bE,bS,tA,ah,ar,dv,h0,h1,hia,bB]
  refine gq (g:=61) (args:=[.str r,.ptr po 0,.ptr pl 0,.ptr ps 0]) ?_ (aqu h94 h97 c hr) (by decide) ?_
  ·simp only[callee,vJ,ai,ak,aD,bh,bk,aq,cw,cT,cF,cy,cP,bS,ah]
  refine gp ?_
  simp only[aw,aW]
  cases hw:vd o.kind last seen r with
  |true=>
   refine bc (t:=true) (by simp only[ak,ai,ah,cT,cF]) (aF ?_)
   unfold Tt
   simp only[aw,az,aA,ai,aG,aM,ak,au,cT,cF,bS,tA,ah,ar]
   refine bP ⟨⟨_,_,c.after r⟩,rfl,rfl,.inr ⟨rfl,⟨pre.length,?_⟩,by simp[nM,hw]⟩⟩
   simp only[ai,ah,cT,cF, *]
  |false=>
   refine bc (t:=false) (by simp only[ak,ai,ah,cT,cF]) (b7 ?_)
   simp only[dM,aW]
   refine cp ?_
   unfold Tu
   simp only[aw,az,aA,ai,aG,aU,ak,aH,aD,bm,au,dW,aq,a7,cT,cF,aP,bS,tA,ah,ar,h8,hwr,aW]
   refine(ih (pre++[r]) _ _ _ r (lA r seen) (by rw[hpre];simp) (c.after r) (by simp only[ai,ah,cF, *]) (by simp only[ai,ah,cF, *]) (by simp only[ai,ah,cF, *]) (by simp only[ai,ah,cT,cF,dw,aR,aY])).mono ?_
   simp only[nM,hw,jI]
   exact fun _ _ _ h=>h
theorem adT (h157:sp 90=none) {v:aj} {l:List aB} (hl:bH 1 bB v l) (hk: ∀r∈l,r.length<small) (hsmall:l.length<small) {o:Obj} {po pl ps m:Nat} {s:St} {last:aB} {seen:List aB} (c:mn s o po pl ps m last seen):
 ∃u s',bv (QS sp) 90 [v,vJ po pl ps] s u s'/\((∃last' seen',mn s' o po pl ps m last' seen')/\s'.ci=s.ci/\ ∃z:Int,u= .int .i64 z/\gX 0 z=nM o.kind last seen l):=by
 have hlen:=fun mk s=>hl.len iV jl mk s
 have hcl:=hl.clean
 refine bv.ofEx akB akA akD akC h157 ?_
 unfold Tn
 refine aF ?_
 unfold Tp
 simp only[dr,cZ,aw,az,aA,aM,aH,bm,au,cT,aR,aY,tA,aQ,ar,bJ,ck,cd,dT]
 refine aV (aF ?_)
 unfold Tq
 simp only[aw,az,aA,ai,aG,cG,ak,aH,aD,bh,bk,bm,au,bZ,cW,bG,aq,cT,cF,aP,bW,bS,tA,ah,ar,aX,hcl,hlen]
 refine cR ?_
 refine(adS h94 h97 hl hk hsmall l [] _ _ s last seen rfl c (by simp only[ai,ah,cT,cF, *]) (by simp only[ai,ah,cT,cF, *]) (by simp only[ai,ah,cT,cF, *]) (by simp only[ai,ah,cT,cF];rfl)).mono ?_
 rintro x ⟨e,sz,lc⟩ s' ⟨hc,hci,hs,⟨rfl,hok⟩|⟨rfl,⟨i,h4⟩,hok⟩⟩
 ·have hs:sz=19:=hs
  subst hs
  show W (QS sp) 90 _ _ _ _
  refine aF ?_
  unfold Tv
  simp only[aw,az,aA,aM,aH,bm,au,tA,ar]
  refine bP ⟨.inr rfl,.int .i64 (-1),bV ?_ rfl,hc,hci, -1,rfl,by rw[hok];rfl⟩
  simp only[ai,ah,cT, *]
 ·exact⟨.inr rfl,.int .i64 i,bV h4 rfl,hc,hci,i,rfl,by rw[hok];simp[gX]⟩
theorem abc (h157:sp 90=none) (h98:sp 62=none) {v:aj} {l:List aB} (hl:bH 1 bB v l) (hk: ∀r∈l,r.length<small) (hsmall:l.length<small) {o:Obj} {po pl ps m:Nat} {s:St} {last:aB} {seen:List aB} (c:mn s o po pl ps m last seen):
 ∃u s',bv (QS sp) 62 [v,vJ po pl ps] s u s'/\((∃last' seen',mn s' o po pl ps m last' seen')/\s'.ci=s.ci/\u= .bool (nM o.kind last seen l)):=by
 obtain⟨u,s1,hr,hc,hci,z,rfl,hz⟩:=adT h94 h97 h157 hl hk hsmall c
 have hcl:=hl.clean
 refine bv.ofEx ajt ajs ajv aju h98 ?_
 unfold QQ
 refine aF ?_
 unfold QR
 simp only[dr,cZ,aw,az,aA,aM,aH,bF,au,cT,aR,aY,tA,aQ,ar,bJ,ck,cd,dT]
 refine aV (gH (gd 2 ?_))
 unfold QU
 simp only[aw,az,aA,ai,aG,ak,au,cT,cF,bO,aZ,bS,tA,ah,ar]
 refine gq (g:=90) ?_ hr (by decide) ?_
 ·simp only[callee,hcl,Iv,ai,ak,fA,aD,bh,bk,aq,cT,cF,cy,cP,bS,ah]
 refine gp ?_
 simp only[aw,az,aA,ai,aM,aU,ak,aH,aD,bm,au,j7,aq,a7,cT,cF,aP,bS,tA,ah,ar,hz,aW]
 refine bP ⟨.inr rfl,_,bV (v:=.bool (nM o.kind last seen l)) ?_ rfl,hc,hci,rfl⟩
 simp only[ai,ah,cT,cF, *]
end
def lV (o:Obj):Bool:=(jw o.kind== [])|| !gS o.id|| !gM o.tags||decide (o.refs.length<pw o.kind)||decide (2000<o.refs.length)
def rz (o:Obj):Bool:=bz o.x 0&&bz o.y 0
def eK (o:Obj):Bool:=bif lV o then false else bif nM o.kind [] [] o.refs then false else bif bz o.kind 1 then(o.refs.length==0)&&jN o.x o.y else bif bz o.kind 5 then(o.refs.length==3)&&rz o else rz o
theorem XO (P:Program) (t:TypeId) (a b:List aj):gf P .eql t (.agg a) (.agg b)=(td P t (.agg a) (.agg b)).bind fun b=>some (.bool b):=rfl
theorem XP (P:Program) (t:TypeId) (a b:List aj):gf P .neq t (.agg a) (.agg b)=(td P t (.agg a) (.agg b)).bind fun b=>some (.bool !b):=rfl
theorem pH (a b c d:Int):gf Tryz.prog .eql 36 (.agg [.int .i64 a,.int .i64 b]) (.agg [.int .i64 c,.int .i64 d])=some (.bool (bif bz a c then bif bz b d then true else false else false)):=by
 have h:td Tryz.prog 36 (.agg [.int .i64 a,.int .i64 b]) (.agg [.int .i64 c,.int .i64 d])=(some (bz a c)).bind fun r=>bif r then(some (bz b d)).bind fun r=>bif r then some true else some false else some false:=by kernel_rfl
 rw[XO,h]
 cases bz a c<;>cases bz b d<;>rfl
theorem Vn (a b:Int):(bif bz a 0 then bif bz b 0 then true else false else false)=(bz a 0&&bz b 0):=by
 cases bz a 0<;>cases bz b 0<;>rfl
theorem aqj {k:Int} (h:(jw k== [])=false):(gX 0 k&&di k 6)=true:=by
 by_cases h1:0<=k/\k<6
 ·simp[gX,di,h1.1,h1.2]
 ·have hw:jw k=[]:=by
   simp only[jw,ng (show k≠1 by omega),ng (show k≠2 by omega),ng (show k≠3 by omega),ng (show k≠4 by omega),ng (show k≠5 by omega),cF]
  rw[hw] at h;cases h
theorem wf (s:St) (mk:bt) (n:Nat):s.top.get mk n=s.get mk n:=rfl
theorem akZ {k:Int} (h:(gX 0 k&&di k 6)=true):ws [.int .i64 k]=some (.int .i64 (pw k:Nat)):=by
 simp only[ws,h,cT]
section
variable {sp:FuncId->Option (List aj->Option aj)} (h93:sp 57=some ru) (h94:sp 58=some mI) (h95:sp 59=some qE) (h96:sp 60=some ws) (h99:sp 63=some qY) (h97:sp 61=none) (h98:sp 62=none) (h157:sp 90=none)
include h93 h94 h95 h96 h99 h97 h98 h157
theorem amN (h48:sp 36=none) {o:Obj} (ho:o.Ok): ∃v s',bv (QS sp) 36 [o.val] s0 v s'/\(v= .bool (eK o)/\s'.ci=0):=by
 have hns:=wy ho.id
 have hts:=Wv ho.tags ho.taglen ho.key
 have hws:ru [.int .i64 o.kind]=some (.str (jw o.kind)):=rfl
 have hlen:=fun mk s=>ho.refs.len iV jl mk s
 have hcr:=ho.refs.clean
 have hct:=ho.tags.clean
 refine bv.ofEx ahm ahl aho ahn h48 ?_
 unfold OO
 refine aF ?_
 unfold OP
 simp only[dr,cZ,aw,az,aA,ai,aM,iA,ak,aH,aD,bF,i9,au,bG,dj,aq,cu,cT,bW,aR,aY,bS,tA,aQ,ar,ck,cd,dT,aci,Obj.val]
 have hn0:s0.next=0:=rfl
 have hs1: ∃s1,s0.new (.cells o.cells)=s1/\s1.get [] 0=some (.cells o.cells)/\s1.minw<=s1.next/\s1.next=1/\s1.ci=0:=⟨_,rfl,by rw[dy];rfl,Nat.zero_le _,rfl,rfl⟩
 obtain⟨s1,e1,g1,m1,n1,c1⟩:=hs1
 rw[e1,hn0]
 refine aV (ll m1 ?_)
 have fin: ∀e lc,ay e 36= .bool true->W (QS sp) 36 (.cond (aa 36) (.seq (.region EG) .ret) .skip) ⟨e,72,lc⟩ s1 fun x fr s'=>x= .ret/\s'=s1/\ay fr.env 2= .bool false:=by
  intro e lc h
  refine bc (t:=true) (by simp only[ak,h]) (aF ?_)
  unfold EG
  simp only[aw,az,aA,aM,aH,bF,au,tA,ar]
  exact bP ⟨rfl,rfl,by simp only[ai,ah,cT, *]⟩
 unfold OQ
 cases hb1:jw o.kind== [] with
 |true=>
  simp only[d8,d7,jg,ec,kD,isStore,ip,ai,aG,cz,bn,aU,bN,dc,da,ak,aH,aD,bh,bk,bF,iM,cD,dB,au,jr,aq,a7,cw,cT,cF,aP,dq,aZ,bE,bS,tA,aQ,ah,ar,eC,mG,dH,dG,wf,g1,Obj.cells,h93,hws,hb1]
  refine(fin _ _ ?_).mono ?_
  ·simp only[ai,ah,cT,cF, *]
  ·rintro x fr s' ⟨rfl,rfl,h⟩
   exact⟨.inr rfl,_,bV h rfl,by simp[eK,lV,hb1],c1⟩
 |false=>
 have hk:=aqj hb1
 have hls:=akZ hk
 cases hb2:gS o.id with
 |false=>
  simp only[d8,d7,jg,ec,kh,kD,isStore,ip,eG,ai,aG,cz,bn,aU,fp,bN,dc,da,ak,aH,aD,bh,bk,bF,iM,cD,dB,du,au,jr,fq,aq,eJ,a7,cw,cT,cF,aP,dq,aZ,bE,ej,bS,tA,aQ,cQ,ah,ar,eC,dv,r0,mG,dH,dG,wf,g1,Obj.cells,h93,hws,hb1,h94,hns,hb2]
  refine(fin _ _ ?_).mono ?_
  ·simp only[ai,ah,cT,cF, *]
  ·rintro x fr s' ⟨rfl,rfl,h⟩
   exact⟨.inr rfl,_,bV h rfl,by simp[eK,lV,hb2],c1⟩
 |true=>
 cases hb3:gM o.tags with
 |false=>
  simp only[d8,d7,jg,ec,kh,kD,isStore,ip,eG,ai,aG,cz,bn,aU,fp,bN,dc,da,ak,aH,aD,bh,bk,bF,iM,cD,dB,du,au,jr,fq,aq,eJ,a7,cw,cT,cF,aP,dq,aZ,bE,dg,ej,bS,tA,aQ,cQ,ah,ar,eC,dv,mL,r0,mG,uv,dH,dG,wf,g1,Obj.cells,h93,hws,hb1,h94,hns,hb2,h95,hts,hct,hb3]
  refine(fin _ _ ?_).mono ?_
  ·simp only[ai,ah,cT,cF, *]
  ·rintro x fr s' ⟨rfl,rfl,h⟩
   exact⟨.inr rfl,_,bV h rfl,by simp[eK,lV,hb3],c1⟩
 |true=>
 cases hb4:decide (o.refs.length<pw o.kind) with
 |true=>
  simp only[d8,d7,jg,ec,kh,kD,isStore,ip,eG,ai,aG,cz,bn,aU,fp,bN,cG,dc,da,ak,aH,aD,bh,bk,bF,iM,cD,dB,du,au,bZ,cE,jr,fq,cW,bG,aq,eJ,a7,cw,cT,cF,aP,bW,dq,aZ,bE,cN,dg,bS,tA,aQ,cQ,ah,ar,aX,eC,dv,fT,mL,r0,mG,na,uv,dH,dG,wf,g1,Obj.cells,h93,hws,hb1,h94,hns,hb2,h95,hts,hct,hb3,hcr,hlen,h96,hls,hb4]
  refine(fin _ _ ?_).mono ?_
  ·simp only[ai,ah,cT,cF, *]
  ·rintro x fr s' ⟨rfl,rfl,h⟩
   exact⟨.inr rfl,_,bV h rfl,by simp[eK,lV,hb4],c1⟩
 |false=>
 have hil:di 2000 (o.refs.length:Nat)=decide (2000<o.refs.length):=cN 2000 _
 cases hb5:decide (2000<o.refs.length) with
 |true=>
  simp only[d8,d7,jg,ec,kh,isStore,eG,ai,aG,cz,bn,aU,fp,bN,cG,dc,da,ak,aH,aD,bh,bk,bF,bm,iM,cD,du,au,bZ,cE,iT,jr,fq,cW,bG,aq,eJ,a7,cw,cT,cF,aP,bW,dq,aZ,bE,cN,dg,bS,tA,aQ,cQ,ah,ar,aX,eC,dv,fT,mL,r0,mG,na,uv,dH,dG,wf,g1,Obj.cells,h93,hws,hb1,h94,hns,hb2,h95,hts,hct,hb3,hcr,hlen,h96,hls,hb4,hil,hb5]
  refine(fin _ _ ?_).mono ?_
  ·simp only[ai,ah,cT,cF, *]
  ·rintro x fr s' ⟨rfl,rfl,h⟩
   exact⟨.inr rfl,_,bV h rfl,by simp[eK,lV,hb5],c1⟩
 |false=>
 have hgood:lV o=false:=by simp only[lV,hb1,hb2,hb3,hb4,hb5];rfl
 simp only[d8,d7,jg,ec,kh,isStore,eG,ai,aG,cz,bn,aU,fp,bN,cG,dc,da,ak,aH,aD,bh,bk,bF,bm,iM,cD,du,au,bZ,cE,iT,jr,fq,cW,bG,aq,eJ,a7,cw,cT,cF,aP,bW,dq,aZ,bE,cN,dg,bS,tA,aQ,cQ,ah,ar,aX,eC,dv,fT,mL,r0,mG,na,uv,dH,dG,wf,g1,Obj.cells,h93,hws,hb1,h94,hns,hb2,h95,hts,hct,hb3,hcr,hlen,h96,hls,hb4,hil,hb5]
 refine bc (t:=false) (by simp only[ak,ai,ah,cT,cF, *]) (b7 ?_)
 simp only[aW]
 refine aF ?_
 unfold OW
 simp only[aw,az,eD,aA,eE,ai,gY,eN,uM,ak,aD,i9,bZ,bG,aq,gr,cT,cF,aP,bW,aR,aY,dl,bO,aZ,gZ,cy,iQ,bS,tA,aQ,ah,ar,bJ,ck,dX,aX,dA,cd,dT,ape,aqv,acj,nl,kW,dy,jF,n1,kV,aj.cells]
 refine aF ?_
 unfold OX
 simp only[aw,az,eD,aA,eE,ai,gY,eN,ak,aH,aD,iM,i9,bG,ji,aq,cw,cT,cF,aP,bW,aR,aY,dl,bO,aZ,gZ,cy,iQ,bS,tA,aQ,ah,ar,bJ,ck,dX,aX,dA,cd,dT,Hc,aqD,ack,kW,dy,cX,jF,qs,n1,kV]
 refine aF ?_
 unfold OY
 simp only[aw,az,aA,ai,aM,wJ,ak,aD,bh,bk,au,aq,ez,cT,cF,bS,tA,ah,ar,pz]
 have hs2: ∃s2,((((s1.new (.map [] 0)).new (.cells [.nilm])).put 2 (some (.cells [.map 1]))).new (.cells [.str []])).put 3 (some (.cells [.str []]))=s2/\mn s2 o 0 3 2 1 [] []/\s2.ci=0:=by
  refine⟨_,rfl,⟨?_,?_,?_,?_,rfl,rfl,rfl,rfl,rfl,rfl⟩,c1⟩<;>simp only[dy,cX,jF,qs,n1,g1,ah,bJ,cT,cF]<;>rfl
 obtain⟨s2,e2,hclo,c2⟩:=hs2
 rw[e2]
 obtain⟨u,s3,hr,⟨last3,seen3,c3⟩,hci3,rfl⟩:=abc h94 h97 h157 h98 ho.refs ho.ref ho.reflen hclo
 have g2:=hclo.ho
 have g3:=c3.ho
 have hci3:s3.ci=0:=hci3.trans c2
 have harg:aj.func (.func 61) [] [.ptr 0 0,.ptr 3 0,.ptr 2 0]=vJ 0 3 2:=rfl
 rw[harg]
 refine aV (aV (gH (gd 3 ?_)))
 unfold OZ
 simp only[aw,az,aA,ai,aG,bn,bN,ak,au,aq,cT,cF,aP,bO,aZ,bE,bS,tA,aQ,ah,ar,fT,na,dH,dG,g2,Obj.cells]
 refine gq (g:=62) ?_ hr (by decide) ?_
 ·simp only[da,hcr,Iv,ai,da,ak,aD,bh,bk,aq,cT,cF,bS,ah]
 refine gp ?_
 simp only[aw,aW]
 cases hw:nM o.kind [] [] o.refs with
 |true=>
  refine bc (t:=true) (by simp only[ak,ai,ah,cT,cF]) (aF ?_)
  unfold O0
  simp only[aw,az,aA,aM,aH,bF,au,tA,ar]
  refine bP ⟨.inr rfl,_,bV (v:=.bool false) ?_ rfl,?_,hci3⟩
  ·simp only[ai,ah,cT,cF, *]
  ·simp[eK,hgood,hw]
 |false=>
 refine bc (t:=false) (by simp only[ak,ai,ah,cT,cF]) (b7 ?_)
 simp only[aW]
 refine aV (aF ?_)
 unfold O1
 simp only[aw,az,aA,ai,bn,bN,ak,au,aq,cT,cF,aP,aZ,bE,bS,tA,aQ,ah,ar,eC,mG,dH,dG,g3,Obj.cells]
 refine cR (aF ?_)
 unfold O2
 simp only[aw,az,aA,ai,aM,aU,ak,aH,aD,bm,au,gJ,aq,a7,cT,cF,aP,bS,tA,ah,ar]
 have e0:bz (o.refs.length:Int) 0=(o.refs.length==0):=qh _ 0
 have e3:bz (o.refs.length:Int) 3=(o.refs.length==3):=qh _ 3
 cases hk1:bz o.kind 1 with
 |true=>
  refine bc (t:=true) (by simp only[ak,ai,ah,cT,cF, *]) (aF ?_)
  unfold OS
  have hon:qY [.agg [.int .i64 o.x,.int .i64 o.y]]=some (.bool (jN o.x o.y)):=rfl
  cases hz:o.refs.length==0 with
  |true=>
   simp only[aw,az,de,aA,dQ,eW,ai,aG,aM,cz,bn,aU,bN,cG,dc,da,ak,aH,aD,bh,bk,bF,bm,cD,dB,au,bZ,gJ,cW,bG,aq,a7,cu,cT,cF,aP,bW,dq,aR,aY,cut,bO,aZ,bE,e7,bS,tA,aQ,ah,ar,bJ,aX,fT,jo,vV,na,dH,dG,g3,Obj.cells,hcr,hlen,e0,hz,h99,hon]
   refine bP ⟨.inr rfl,_,bV (v:=.bool (jN o.x o.y)) ?_ rfl,?_,hci3⟩
   ·simp only[ai,ah,cT,cF, *]
   ·simp[eK,hgood,hw,hk1,hz]
  |false=>
   simp only[aw,az,de,aA,eH,fR,ai,aG,aM,cz,bn,aU,bN,cG,ak,aH,aD,bh,bk,bF,bm,cD,du,au,bZ,gJ,cW,bG,aq,a7,cT,cF,aP,bW,aZ,bE,bS,tA,aQ,ah,ar,aX,fT,na,dH,dG,g3,Obj.cells,hcr,hlen,e0,hz]
   refine bP ⟨.inr rfl,_,bV (v:=.bool false) ?_ rfl,?_,hci3⟩
   ·simp only[ai,ah,cT,cF, *]
   ·simp[eK,hgood,hw,hk1,hz]
 |false=>
  refine bc (t:=false) (by simp only[ak,ai,ah,cT,cF, *]) (aF ?_)
  unfold OT
  simp only[aw,az,aA,ai,aM,aU,ak,aH,aD,bm,au,gJ,aq,a7,cT,cF,aP,bS,tA,ah,ar]
  cases hk5:bz o.kind 5 with
  |true=>
   refine bc (t:=true) (by simp only[ak,ai,ah,cT,cF, *]) (aF ?_)
   unfold OU
   cases hz:o.refs.length==3 with
   |true=>
    simp only[aw,az,de,aA,dQ,eW,ai,aG,aM,cz,lK,bn,aU,bN,cG,ak,aH,aD,bh,bk,bF,bm,cD,dB,au,bZ,gJ,cW,bG,dj,aq,a7,cu,cT,cF,aP,bW,aR,aY,cut,bO,aZ,bE,e7,bS,tA,aQ,ah,ar,bJ,aX,CH,fT,jo,vg,vV,na,dH,dG,g3,Obj.cells,hcr,hlen,e3,hz,ee,pH,Vn]
    refine bP ⟨.inr rfl,_,bV (v:=.bool (bz o.x 0&&bz o.y 0)) ?_ rfl,?_,hci3⟩
    ·simp only[ai,ah,cT,cF, *]
    ·simp[eK,hgood,hw,hk1,hk5,hz,rz]
   |false=>
    simp only[aw,az,de,aA,eH,fR,ai,aG,aM,cz,bn,aU,bN,cG,ak,aH,aD,bh,bk,bF,bm,cD,du,au,bZ,gJ,cW,bG,aq,a7,cT,cF,aP,bW,aZ,bE,bS,tA,aQ,ah,ar,aX,fT,na,dH,dG,g3,Obj.cells,hcr,hlen,e3,hz]
    refine bP ⟨.inr rfl,_,bV (v:=.bool false) ?_ rfl,?_,hci3⟩
    ·simp only[ai,ah,cT,cF, *]
    ·simp[eK,hgood,hw,hk1,hk5,hz]
  |false=>
   refine bc (t:=false) (by simp only[ak,ai,ah,cT,cF, *]) (b7 ?_)
   simp only[dM,aW]
   refine aF ?_
   unfold OV
   simp only[aw,az,aA,ai,aM,lK,bn,aU,bN,ak,aD,au,dj,aq,cu,cT,cF,aP,aR,aY,cut,bO,aZ,e7,bS,tA,aQ,ah,ar,bJ,aX,CH,jo,vg,vV,dH,dG,g3,Obj.cells,ee,pH,Vn]
   refine bP ⟨.inr rfl,_,bV (v:=.bool (bz o.x 0&&bz o.y 0)) ?_ rfl,?_,hci3⟩
   ·simp only[ai,ah,cT,cF, *]
   ·simp[eK,hgood,hw,hk1,hk5,rz]
end
def wW:List aB->Bool
 | []=>true
 |t::l=>cg t.length small&&wW l
theorem V7: ∀ {l:List aB},wW l=true-> ∀t∈l,t.length<small
 | [],_,_,h=>by cases h
 |a::l,h,t,ht=>by
  simp only[wW,df] at h
  rcases List.mem_cons.1 ht with rfl|ht
  ·exact iu h.1
  ·exact V7 h.2 t ht
theorem V8: ∀ {l:List aB},(∀t∈l,t.length<small)->wW l=true
 | [],_=>rfl
 |a::l,h=>by
  simp only[wW,df]
  exact⟨fe (h a (by simp)),V8 fun t ht=>h t (by simp[ht])⟩
def A2 (id:aB) (k x y:Int) (rv tv:aj) (rs:List aB) (ts:List cM):Option Obj:=
 bif cx rv&&cx tv&&cg id.length small&&cg rs.length small&&wW rs&&cg ts.length small&&qB ts then some ⟨id,k,x,y,rv,tv,rs,ts⟩ else none
def mr:aj->Option Obj
 | .agg [.str id,.int .i64 k,.int .i64 x,.int .i64 y,rv,tv]=>(ic 1 mw rv).bind fun rs=>(ic 2 oC tv).bind fun ts=>A2 id k x y rv tv rs ts
 |_=>none
structure Obj.Good (o:Obj):Prop extends o.Ok where
 pr:cx o.refsV=true
 pt:cx o.tagsV=true
theorem rP {v:aj} {o:Obj} (h:mr v=some o):v=o.val/\o.Good:=by
 unfold mr at h
 split at h
 ·simp only[aN] at h
  obtain⟨rs,h1,ts,h2,h⟩:=h
  unfold A2 at h
  obtain⟨h3,h⟩:=cq h
  simp only[df] at h3
  obtain⟨⟨⟨⟨⟨⟨p1,p2⟩,p3⟩,p4⟩,p5⟩,p6⟩,p7⟩:=h3
  injection h with h
  subst h
  exact⟨rfl,⟨⟨jA (fun v a=>pd) h1,jA (fun v a=>rQ) h2,iu p3,iu p4,V7 p5,iu p6,uX p7⟩,p1,p2⟩⟩
 ·cases h
theorem um {o:Obj} (h:o.Good):mr o.val=some o:=by
 show((ic 1 mw o.refsV).bind fun rs=>(ic 2 oC o.tagsV).bind fun ts=>A2 o.id o.kind o.x o.y o.refsV o.tagsV rs ts)=_
 rw[ka pf h.refs,aq,ka rR h.tags,aq]
 unfold A2
 have q1:cg o.id.length small=true:=fe h.id
 have q2:cg o.refs.length small=true:=fe h.reflen
 have q3:cg o.tags.length small=true:=fe h.taglen
 rw[h.pr,h.pt,q1,q2,q3,V8 h.ref,uY h.key]
 rfl
theorem Obj.Good.pure {o:Obj} (h:o.Good):cx o.val=true:=by
 simp only[Obj.val,Obj.cells,cx,pures,h.pr,h.pt,fL]
mutual
theorem WK: ∀ {v:aj},cx v=true->iZ v=true
 | .agg cs,h=>by simp only[iZ];exact kZ (by simpa only[cx] using h)
 | .tup cs,h=>by simp only[iZ];exact kZ (by simpa only[cx] using h)
 | .list _ xs r,h=>by
   simp only[cx,df] at h
   simp only[iZ];exact h.1
 | .bool _,_=>rfl
 | .int _ _,_=>rfl
 | .str _,_=>rfl
 | .nilp,_=>rfl
 | .ptr _ _,h=>by simp[cx] at h
 | .lref _ _ _,h=>by simp[cx] at h
 | .ro cs,h=>by simpa only[iZ] using h
 | .nils,_=>rfl
 | .arr _ _ _ _ _,h=>by simp[cx] at h
 | .nilm,_=>rfl
 | .map _,h=>by simp[cx] at h
 | .nilf,_=>rfl
 | .func _ _ _,h=>by simpa only[iZ] using h
 | .nili,_=>rfl
 | .iface _ _,h=>by simpa only[iZ] using h
theorem kZ: ∀ {l:List aj},pures l=true->jv l=true
 | [],_=>rfl
 |v::l,h=>by
  simp only[pures,df] at h
  simp only[jv,WK h.1,kZ h.2,fL]
end
def su:Sp
 | [v]=>(mr v).bind fun o=>some (.bool (eK o))
 |_=>none
theorem UV {o:Obj} (h:o.Good):su [o.val]=some (.bool (eK o)):=by
 show(mr o.val).bind _=_
 rw[um h];rfl
theorem UW:ek Tryz.prog 36 su:=by
 intro args u hv G h w xs wr hx
 unfold su at hv
 split at hv
 ·rename_i v
  simp only[aN,bp] at hv
  obtain⟨o,ho,rfl⟩:=hv
  obtain⟨rfl,hg⟩:=rP ho
  obtain⟨v,s',hr,rfl,hci⟩:=amN (sp:=fun f=>eR f T4) rfl rfl rfl rfl rfl rfl rfl rfl rfl hg.toOk
  have hw:eX [o.val]=[o.val]:=iP (by simp only[pures,hg.pure,fL])
  refine fD (Q:=QT T4) (fB HJ) (fun _=>fG 1) (args:=[o.val]) (v:=.bool (eK o)) (s':=s') ?_ (by rw[hw];exact hr) hci ⟨1,rfl⟩ G h w xs wr hx
  exact kZ (by simp only[pures,hg.pure,fL])
 ·cases hv
def l0:aB->List Obj->Bool
 |_,[]=>true
 |last,o::r=>bif !eK o||Ag.leBytes o.id last then false else l0 o.id r
def jV (l:List Obj):Bool:=l0 [] l&&decide (l.length<=1000000)
section
variable {sp:FuncId->Option (List aj->Option aj)} (h48:sp 36=some su)
include h48
theorem alR {v:aj} {l:List Obj} (hl:bH 6 Obj.val v l) (hk: ∀o∈l,o.Good) (hsmall:l.length<small) {s:St}: ∀(rest pre:List Obj) (e:bq) (lc:Ag.Loc) (last:aB),l=pre++rest->
 ay e 1= .lref 1 1 0->lc.gen 1=1->lc.get 1 1=some [v]->ay e 7=v->ay e 8= .int .i64 (l.length:Nat)->ay e 9= .int .i64 (pre.length:Nat)->ay e 3= .str last->
 W (QS sp) 13 (.loop zP) ⟨e,29,lc⟩ s fun x fr s'=>s'=s/\fr.size=29/\((x= .exit 0/\ay fr.env 1= .lref 1 1 0/\fr.loc.gen 1=1/\fr.loc.get 1 1=some [v]/\l0 last rest=true)\/(x= .ret/\ay fr.env 2= .bool false/\l0 last rest=false)):=by
 intro rest
 induction rest with
 |nil=>
  intro pre e lc last hpre h1 hg hb h7 h8 h9 h3
  have hlen:l.length=pre.length:=by rw[hpre];simp
  refine cY ?_
  unfold zP
  refine aF ?_
  unfold Ef
  simp only[aw,az,aA,aU,ak,aD,au,cE,aq,a7,cT,aP,cN,tA,ar,decide_false,h8,h9,hlen,ff]
  refine aV (bc (t:=false) (by simp only[ak,ai,ah,cT, *]) ?_)
  refine eL ⟨rfl,rfl,.inl ⟨rfl,?_,hg,hb,rfl⟩⟩
  simp only[ai,ah,cF, *]
 |cons o rest ih=>
  intro pre e lc last hpre h1 hg hb h7 h8 h9 h3
  have hlt:pre.length<l.length:=by rw[hpre];simp
  have hat:l[pre.length]? =some o:=by rw[hpre];simp
  have hia:=fun lc=>hl.at qg hat lc .i64
  have hcl:=hl.clean
  have hos:=UV (hk o (kE hat))
  have hsm:small=9223372036854775808:=rfl
  have hwr:IntKind.i64.wrap ((pre.length:Int)+1)=((pre.length+1:Nat):Int):=by rw[eh (by omega) (by omega)];omega
  simp only[Obj.val,Obj.cells] at hos
  refine cY ?_
  unfold zP
  refine aF ?_
  unfold Ef
  simp only[aw,az,aA,aU,ak,aD,au,cE,aq,a7,cT,aP,cN,tA,ar,dT,h8,h9,hlt]
  refine aV (bc (t:=true) (by simp only[ak,ai,ah,cT, *]) (b7 ?_))
  simp only[aW]
  refine aV (cR ?_)
  refine aF ?_
  unfold LK
  simp only[aw,az,eD,aA,eE,ai,bU,iW,gY,bn,eN,dI,ak,aD,fv,dR,au,bG,dj,ik,aq,cu,cT,cF,aP,bW,aR,aY,cut,dl,bO,aZ,e7,cy,cP,bS,tA,aQ,ah,ar,bJ,ck,dX,aX,dA,cd,dT,kT,rm,rA,abJ,h7,h9,hia,Obj.val,Obj.cells]
  refine aV (aF ?_)
  unfold LL
  have fin: ∀e' lc',ay e' 21= .bool true->W (QS sp) 13 (.cond (aa 21) (.seq (.region Eg) .ret) .skip) ⟨e',29,lc'⟩ s fun x fr s'=>x= .ret/\s'=s/\fr.size=29/\ay fr.env 2= .bool false:=by
   intro e' lc' h
   refine bc (t:=true) (by simp only[ak,h]) (aF ?_)
   unfold Eg
   simp only[aw,az,aA,aM,aH,bF,au,tA,ar]
   exact bP ⟨rfl,rfl,rfl,by simp only[ai,ah,cT, *]⟩
  cases hb1:eK o with
  |false=>
   simp only[aw,az,de,aA,eH,ip,ai,bU,aG,cz,bn,fp,dc,da,ak,aH,aD,bh,bk,bF,bT,cD,dB,au,fq,aq,eJ,cu,cT,cF,aP,dq,aR,aY,cut,bO,aZ,ej,bS,tA,aQ,ah,ar,bJ,aX,kT,h48,hos,hb1]
   refine(fin _ _ ?_).mono ?_
   ·simp only[ai,ah,cT,cF, *]
   ·rintro x fr s' ⟨rfl,rfl,hs,h⟩
    exact⟨rfl,hs,.inr ⟨rfl,h,by simp[l0,hb1]⟩⟩
  |true=>
  cases hb2:Ag.leBytes o.id last with
  |true=>
   simp only[aw,az,de,aA,dQ,eG,ai,cJ,bU,aG,cz,bn,aU,fp,bN,dc,da,ak,aH,aD,bh,bk,bF,bT,cD,du,au,vF,fq,aq,eJ,cw,cu,cT,cF,aP,dq,aR,aY,cut,bO,aZ,bE,dg,bS,tA,aQ,cQ,ah,ar,bJ,aX,dv,kT,mF,h48,hos,hb1,hb2,h3]
   refine(fin _ _ ?_).mono ?_
   ·simp only[ai,ah,cT,cF, *]
   ·rintro x fr s' ⟨rfl,rfl,hs,h⟩
    exact⟨rfl,hs,.inr ⟨rfl,h,by simp[l0,hb2]⟩⟩
  |false=>
   simp only[aw,az,de,aA,dQ,eG,ai,cJ,bU,aG,cz,bn,aU,fp,bN,dc,da,ak,aH,aD,bh,bk,bF,bT,cD,du,au,vF,fq,aq,eJ,cw,cu,cT,cF,aP,dq,aR,aY,cut,bO,aZ,bE,dg,bS,tA,aQ,cQ,ah,ar,bJ,aX,dv,kT,mF,h48,hos,hb1,hb2,h3]
   refine bc (t:=false) (by simp only[ak,ai,ah,cT,cF, *]) (b7 ?_)
   simp only[aW]
   refine cp ?_
   unfold LM
   simp only[aw,az,aA,ai,cJ,bU,aM,bn,bN,ak,bT,au,aq,cT,cF,aP,aZ,bE,bS,tA,cQ,ah,ar,aX,dv,mF,aW,dM]
   refine cp ?_
   unfold LN
   simp only[aw,az,aA,ai,aG,aU,ak,aH,aD,bm,au,dW,aq,a7,cT,cF,aP,bS,tA,ah,ar,h9,hwr,aW]
   refine(ih (pre++[o]) _ _ o.id (by rw[hpre];simp) (by simp only[ai,ah,cF, *]) (by simp only[cJ,ah,cF,hg]) (by simp only[bU,ah,cF,hb]) (by simp only[ai,ah,cF, *]) (by simp only[ai,ah,cF, *]) (by simp only[ai,ah,cT,cF,dw,aR,aY]) (by simp only[ai,ah,cT,cF, *])).mono ?_
   simp only[l0,hb1,hb2,dg,jI,cF]
   exact fun _ _ _ h=>h
theorem alT (h23:sp 13=none) {v:aj} {l:List Obj} (hl:bH 6 Obj.val v l) (hk: ∀o∈l,o.Good) (hsmall:l.length<small) (s:St):bv (QS sp) 13 [.agg [v]] s (.bool (jV l)) s:=by
 have hlen:=fun mk s=>hl.len qm ql mk s
 have hcl:=hl.clean
 refine dZ afi afh afk afj h23 ?_
 unfold LG
 refine aF ?_
 unfold LH
 simp only[dr,cZ,aw,az,aA,ai,dp,aM,iA,ak,aH,aD,bF,fv,au,bG,dj,aq,cu,cT,bW,aR,aY,bS,tA,aQ,ar,ck,cd,dT,abI]
 refine aF ?_
 unfold LI
 simp only[aw,az,aA,aM,aH,iM,au,tA,ar]
 refine aV (aF ?_)
 unfold LJ
 simp only[aw,az,aA,ai,dp,cJ,bU,aG,bn,bN,cG,ak,aH,aD,bh,bk,bm,bT,au,bZ,cW,bG,aq,cT,cF,aP,bW,aZ,bE,bS,tA,cQ,ah,ar,aX,iG,iz,hcl,hlen]
 refine cR ?_
 refine(alR h48 hl hk hsmall l [] _ _ [] rfl (by simp only[ai,ah,cT,cF, *]) (by simp only[dp,cJ,ah,cT]) (by simp only[bU,ah,cT]) (by simp only[ai,ah,cT,cF, *]) (by simp only[ai,ah,cT,cF, *]) (by simp only[ai,ah,cT,cF];rfl) (by simp only[ai,ah,cT,cF, *])).mono ?_
 rintro x ⟨e,sz,lc⟩ s' ⟨rfl,hs,⟨rfl,h1,hg,hb,hok⟩|⟨rfl,h2,hok⟩⟩
 ·have hs:sz=29:=hs
  subst hs
  have h1:ay e 1= .lref 1 1 0:=h1
  have hg:lc.gen 1=1:=hg
  have hb:lc.get 1 1=some [v]:=hb
  show W (QS sp) 13 _ _ _ _
  refine aF ?_
  unfold LO
  simp only[aw,az,aA,ai,aM,bn,aU,bN,cG,ak,aH,aD,bh,bk,bm,bT,au,bZ,xr,cW,bG,aq,a7,cT,cF,aP,bW,aZ,bE,bS,tA,cQ,ah,ar,aX,iG,iz,h1,hg,hb,hcl,hlen]
  refine bP ⟨rfl,.inr rfl,bV ?_ rfl⟩
  simp only[ai,ah,cT,cF,jV,hok,iq]
  exact congrArg aj.bool (oN l.length 1000000)
 ·exact⟨rfl,.inr rfl,bV (by rw[h2];simp[jV,hok]) rfl⟩
end
def jK:aj->Option (List Obj)
 | .agg [v]=>(ic 6 mr v).bind fun l=>bif cg l.length small then some l else none
 |_=>none
theorem Uw: ∀ {xs:List aj} {l:List Obj},kQ mr xs=some l->(∀o∈l,o.Good)
 | [],l,h=>by simp only[kQ,bp] at h;subst h;intro o ho;cases ho
 |x::xs,l,h=>by
  simp only[kQ,aN,bp] at h
  obtain⟨a,h1,r,h2,rfl⟩:=h
  intro o ho
  rcases List.mem_cons.1 ho with rfl|ho
  ·exact(rP h1).2
  ·exact Uw h2 o ho
theorem Ux: ∀ {l:List Obj},(∀o∈l,o.Good)->kQ mr (l.map Obj.val)=some l
 | [],_=>rfl
 |o::l,h=>by
  have ih:=Ux (l:=l) fun o ho=>h o (List.mem_cons_of_mem _ ho)
  simp only[fS,kQ,um (h o List.mem_cons_self),aq,ih]
theorem kK {u:aj} {l:List Obj} (h:jK u=some l): ∃v,u= .agg [v]/\bH 6 Obj.val v l/\(∀o∈l,o.Good)/\l.length<small:=by
 unfold jK at h
 split at h
 ·rename_i v
  simp only[aN] at h
  obtain⟨l',h1,h⟩:=h
  obtain⟨h2,h⟩:=cq h
  injection h with h;subst h
  refine⟨v,rfl,jA (fun v a h=>(rP h).1) h1,?_,iu h2⟩
  unfold ic at h1
  split at h1
  ·injection h1 with h1;subst h1;intro o ho;cases ho
  ·obtain⟨_,h1⟩:=cq h1
   exact Uw h1
  ·cases h1
 ·cases h
theorem mq {v:aj} {l:List Obj} (h:bH 6 Obj.val v l) (hg: ∀o∈l,o.Good) (hs:l.length<small):jK (.agg [v])=some l:=by
 have:ic 6 mr v=some l:=by
  rcases h with⟨rfl,rfl⟩|⟨r,rfl⟩
  ·rfl
  ·simp only[ic,Ux hg,aX,bS,cT]
 have q:cg l.length small=true:=fe hs
 simp only[jK,this,aq,q,cT]
theorem Vq {l:List Obj} (hg: ∀o∈l,o.Good):pures (l.map Obj.val)=true:=by
 rw[uQ]
 intro v hv
 obtain⟨o,ho,rfl⟩:=List.mem_map.1 hv
 exact(hg o ho).pure
theorem kS {v:aj} {l:List Obj} (h:bH 6 Obj.val v l) (hg: ∀o∈l,o.Good):iZ (.agg [v])=true/\ ∃v',weak (.agg [v])= .agg [v']/\bH 6 Obj.val v' l:=by
 rcases h with⟨rfl,rfl⟩|⟨r,rfl⟩
 ·exact⟨rfl,.nils,rfl,.inl ⟨rfl,rfl⟩⟩
 ·refine⟨by simp only[iZ,jv,Vq hg,fL],.list 6 (l.map Obj.val) (match r with| .own _=>.no|r=>r),?_,.inr ⟨_,rfl⟩⟩
  simp only[weak,eX,iP (Vq hg)]
  cases r<;>rfl
def si:Sp
 | [v]=>(jK v).bind fun l=>some (.bool (jV l))
 |_=>none
theorem AX {v:aj} {l:List Obj} (h:bH 6 Obj.val v l) (hg: ∀o∈l,o.Good) (hs:l.length<small):si [.agg [v]]=some (.bool (jV l)):=by
 simp only[si,mq h hg hs,aq]
def T5:fh:=(36,su)::T4
theorem HK:fI T5:=.cons UW HJ
theorem F7:ek Tryz.prog 13 si:=by
 intro args u hv G h w xs wr hx
 unfold si at hv
 split at hv
 ·rename_i v
  simp only[aN,bp] at hv
  obtain⟨l,hl,rfl⟩:=hv
  obtain⟨v,rfl,hl,hg,hs⟩:=kK hl
  obtain⟨ht,v',hw,hl'⟩:=kS hl hg
  have hw:eX [.agg [v]]=[.agg [v']]:=by simp only[eX,hw]
  exact fD (Q:=QT T5) (fB HK) (fun _=>fG 1) (args:=[.agg [v]]) (v:=.bool (jV l)) (s':=s0) (by simp only[jv,ht,fL]) (by rw[hw];exact alT (sp:=fun f=>eR f T5) rfl rfl hl' hg hs s0) rfl ⟨1,rfl⟩ G h w xs wr hx
 ·cases hv
def tK:List aB->Bool
 | []=>true
 |r::l=>bif decide (60<r.length) then false else tK l
def Ws (t:cM):Bool:=di 300 (IntKind.i64.wrap ((t.1.length:Int)+(t.2.length:Int)))
def tU:List cM->Bool
 | []=>true
 |t::l=>bif Ws t then false else tU l
def wE (o:Obj):Bool:=decide (12<o.refs.length)||decide (20<o.tags.length)||decide (60<o.id.length)
def pD:List Obj->Bool
 | []=>true
 |o::l=>bif wE o then false else bif tK o.refs then bif tU o.tags then pD l else false else false
def kM (l:List Obj) (n:Int):Bool:=bif di n (l.length:Nat) then false else pD l
structure y9 (v:aj) (o:Obj) (i g:Nat) (e:bq) (lc:Ag.Loc):Prop where
 h2:ay e 2= .lref 2 1 0
 g2:lc.gen 2=1
 b2:lc.get 2 1=some [v]
 h6:ay e 6= .lref 6 g 0
 g6:lc.gen 6=g
 b6:lc.get 6 g=some o.cells
 h5:ay e 5= .int .i64 (i:Nat)
section
variable {sp:FuncId->Option (List aj->Option aj)}
theorem aan {v:aj} {o:Obj} (ho:o.Ok) {i g:Nat} {s:St} {lc:Ag.Loc}: ∀(rest pre:List aB) (e:bq),o.refs=pre++rest->y9 v o i g e lc->ay e 7= .int .i64 (pre.length:Nat)->
 W (QS sp) 22 (.loop zT) ⟨e,79,lc⟩ s fun x fr s'=>s'=s/\ ∃e',fr=⟨e',79,lc⟩/\((x= .exit 2/\y9 v o i g e' lc/\tK rest=true)\/(x= .ret/\ay e' 4= .bool false/\tK rest=false)):=by
 intro rest
 have hlen:=fun mk s=>ho.refs.len iV jl mk s
 have hcl:=ho.refs.clean
 have hsm:small=9223372036854775808:=rfl
 induction rest with
 |nil=>
  intro pre e hpre F h7
  obtain⟨h2,g2,b2,h6,g6,b6,h5⟩:=F
  have hl:o.refs.length=pre.length:=by rw[hpre];simp
  refine cY ?_
  unfold zT
  refine aV (aF ?_)
  unfold Ej
  simp only[aw,az,aA,ai,aG,bn,aU,bN,cG,ak,aD,bh,bk,bT,au,bZ,cE,cW,bG,aq,a7,cT,cF,aP,bW,aZ,bE,cN,bS,tA,aQ,ah,ar,aX,decide_false,fT,kx,h7,h6,g6,b6,Obj.cells,hcl,hlen,hl,ff]
  refine bc (t:=false) (by simp only[ak,ai,ah,cT,cF, *]) ?_
  refine eL ⟨rfl,_,rfl,.inl ⟨rfl,⟨?_,g2,b2,?_,g6,b6,?_⟩,rfl⟩⟩<;>simp only[ai,ah,cF, *]
 |cons r rest ih=>
  intro pre e hpre F h7
  have F0:=F
  obtain⟨h2,g2,b2,h6,g6,b6,h5⟩:=F
  have hlt:pre.length<o.refs.length:=by rw[hpre];simp
  have hat:o.refs[pre.length]? =some r:=by rw[hpre];simp
  have hia:=fun lc=>ho.refs.at lF hat lc .i64
  have hrl:=ho.reflen
  have hwr:IntKind.i64.wrap ((pre.length:Int)+1)=((pre.length+1:Nat):Int):=by rw[eh (by omega) (by omega)];omega
  have hil:di 60 (r.length:Nat)=decide (60<r.length):=cN 60 _
  refine cY ?_
  unfold zT
  refine aV (aF ?_)
  unfold Ej
  simp only[aw,az,aA,ai,aG,bn,aU,bN,cG,ak,aD,bh,bk,bT,au,bZ,cE,cW,bG,aq,a7,cT,cF,aP,bW,aZ,bE,cN,bS,tA,aQ,ah,ar,aX,dT,fT,kx,h7,h6,g6,b6,Obj.cells,hcl,hlen,hlt]
  refine bc (t:=true) (by simp only[ak,ai,ah,cT,cF, *]) (b7 ?_)
  simp only[aW]
  refine aV (cR (aF ?_))
  unfold M5
  simp only[aw,az,aA,ai,aG,bn,aU,bN,dI,cG,ak,aH,aD,bh,bk,bm,bT,dR,au,bZ,iT,cW,bG,ji,aq,a7,cw,cT,cF,aP,bW,aZ,bE,bS,tA,aQ,ah,ar,aX,dv,fT,kx,lX,h7,h6,g6,b6,Obj.cells,hia,bB,hil]
  cases hb:decide (60<r.length) with
  |true=>
   refine bc (t:=true) (by simp only[ak,ai,ah,cT,cF]) (aF ?_)
   unfold M6
   simp only[aw,az,aA,aM,aH,bF,au,tA,ar]
   refine bP ⟨rfl,_,rfl,.inr ⟨rfl,?_,by simp only[tK,hb,cT]⟩⟩
   simp only[ai,ah,cT,cF, *]
  |false=>
   refine bc (t:=false) (by simp only[ak,ai,ah,cT,cF]) (b7 ?_)
   simp only[dM,aW]
   refine cp ?_
   unfold M4
   simp only[aw,az,aA,ai,aG,aM,aU,ak,aH,aD,bm,au,dW,aq,a7,cT,cF,aP,bS,tA,ah,ar,h7,hwr,aW]
   have hr:tK (r::rest)=tK rest:=by simp only[tK,hb,cF]
   rw[hr]
   refine ih (pre++[r]) _ (by rw[hpre];simp) ⟨?_,g2,b2,?_,g6,b6,?_⟩ ?_
   ·simp only[ai,ah,cF, *]
   ·simp only[ai,ah,cF, *]
   ·simp only[ai,ah,cF, *]
   ·simp only[ai,ah,cT,cF,dw,aR,aY]
theorem aaq {v:aj} {o:Obj} (ho:o.Ok) {i g:Nat} {s:St} (hm:s.minw<=s.next) {lc:Ag.Loc}: ∀(rest pre:List cM) (e:bq),o.tags=pre++rest->y9 v o i g e lc->ay e 8= .int .i64 (pre.length:Nat)->
 W (QS sp) 22 (.loop zU) ⟨e,79,lc⟩ s fun x fr s'=>s'=s/\ ∃e',fr=⟨e',79,lc⟩/\((x= .exit 4/\y9 v o i g e' lc/\tU rest=true)\/(x= .ret/\ay e' 4= .bool false/\tU rest=false)):=by
 intro rest
 have hlen:=fun mk s=>ho.tags.len qW qV mk s
 have hcl:=ho.tags.clean
 have hsm:small=9223372036854775808:=rfl
 induction rest with
 |nil=>
  intro pre e hpre F h8
  obtain⟨h2,g2,b2,h6,g6,b6,h5⟩:=F
  have hl:o.tags.length=pre.length:=by rw[hpre];simp
  refine cY ?_
  unfold zU
  refine aV (aF ?_)
  unfold Ek
  simp only[aw,az,aA,ai,aG,bn,aU,bN,cG,ak,aD,bh,bk,bT,au,bZ,cE,cW,bG,aq,a7,cT,cF,aP,bW,aZ,bE,cN,bS,tA,aQ,ah,ar,aX,decide_false,mL,r9,h8,h6,g6,b6,Obj.cells,hcl,hlen,hl,ff]
  refine bc (t:=false) (by simp only[ak,ai,ah,cT,cF, *]) ?_
  refine eL ⟨rfl,_,rfl,.inl ⟨rfl,⟨?_,g2,b2,?_,g6,b6,?_⟩,rfl⟩⟩<;>simp only[ai,ah,cF, *]
 |cons r rest ih=>
  intro pre e hpre F h8
  obtain⟨h2,g2,b2,h6,g6,b6,h5⟩:=F
  have hlt:pre.length<o.tags.length:=by rw[hpre];simp
  have hat:o.tags[pre.length]? =some r:=by rw[hpre];simp
  have hia:=fun lc=>ho.tags.at tt hat lc .i64
  have hrl:=ho.taglen
  have hwr:IntKind.i64.wrap ((pre.length:Int)+1)=((pre.length+1:Nat):Int):=by rw[eh (by omega) (by omega)];omega
  refine cY ?_
  unfold zU
  refine aV (aF ?_)
  unfold Ek
  simp only[aw,az,aA,ai,aG,bn,aU,bN,cG,ak,aD,bh,bk,bT,au,bZ,cE,cW,bG,aq,a7,cT,cF,aP,bW,aZ,bE,cN,bS,tA,aQ,ah,ar,aX,dT,mL,r9,h8,h6,g6,b6,Obj.cells,hcl,hlen,hlt]
  refine bc (t:=true) (by simp only[ak,ai,ah,cT,cF, *]) (b7 ?_)
  simp only[aW]
  refine aV (cR (ll hm ?_))
  unfold M9
  simp only[d8,d7,ec,isStore,ai,aG,bn,aU,bN,dI,cG,ak,aH,aD,bh,bk,bm,bT,dR,au,bZ,iT,dW,cW,bG,dj,aq,a7,cw,cT,cF,aP,bW,aZ,bE,bS,tA,aQ,ah,ar,aX,dv,mL,r9,vW,xL,lX,h8,h6,g6,b6,Obj.cells,hia,ep]
  cases hb:Ws r with
  |true=>
   have hb':di 300 (IntKind.i64.wrap ((r.1.length:Int)+(r.2.length:Int)))=true:=hb
   refine bc (t:=true) (by simp only[ak,ai,ah,cT,cF,hb']) (aF ?_)
   unfold Na
   simp only[aw,az,aA,aM,aH,bF,au,tA,ar]
   refine bP ⟨rfl,_,rfl,.inr ⟨rfl,?_,by simp only[tU,hb,cT]⟩⟩
   simp only[ai,ah,cT,cF, *]
  |false=>
   have hb':di 300 (IntKind.i64.wrap ((r.1.length:Int)+(r.2.length:Int)))=false:=hb
   refine bc (t:=false) (by simp only[ak,ai,ah,cT,cF,hb']) (b7 ?_)
   simp only[dM,aW]
   refine cp ?_
   unfold M8
   simp only[aw,az,aA,ai,aG,aM,aU,ak,aH,aD,bm,au,dW,aq,a7,cT,cF,aP,bS,tA,ah,ar,h8,hwr,aW]
   have hr:tU (r::rest)=tU rest:=by simp only[tU,hb,cF]
   rw[hr]
   refine ih (pre++[r]) _ (by rw[hpre];simp) ⟨?_,g2,b2,?_,g6,b6,?_⟩ ?_
   ·simp only[ai,ah,cF, *]
   ·simp only[ai,ah,cF, *]
   ·simp only[ai,ah,cF, *]
   ·simp only[ai,ah,cT,cF,dw,aR,aY]
theorem aam {v:aj} {l:List Obj} (hl:bH 6 Obj.val v l) (hk: ∀o∈l,o.Good) (hsmall:l.length<small) {s:St} (hm:s.minw<=s.next): ∀(rest pre:List Obj) (e:bq) (lc:Ag.Loc),l=pre++rest->
 ay e 2= .lref 2 1 0->lc.gen 2=1->lc.get 2 1=some [v]->ay e 5= .int .i64 (pre.length:Nat)->
 W (QS sp) 22 (.loop zV) ⟨e,79,lc⟩ s fun x fr s'=>s'=s/\fr.size=79/\((x= .exit 0/\pD rest=true)\/(x= .ret/\ay fr.env 4= .bool false/\pD rest=false)):=by
 intro rest
 have hlen:=fun mk s=>hl.len qm ql mk s
 have hcl:=hl.clean
 have hsm:small=9223372036854775808:=rfl
 induction rest with
 |nil=>
  intro pre e lc hpre h2 g2 b2 h5
  have hl:l.length=pre.length:=by rw[hpre];simp
  refine cY ?_
  unfold zV
  refine aV (aF ?_)
  unfold El
  simp only[aw,az,aA,ai,aG,bn,aU,bN,cG,ak,aD,bh,bk,bT,au,bZ,cE,cW,bG,aq,a7,cT,cF,aP,bW,aZ,bE,cN,bS,tA,cQ,ah,ar,aX,decide_false,iG,iz,h2,g2,b2,h5,hcl,hlen,hl,ff]
  refine bc (t:=false) (by simp only[ak,ai,ah,cT,cF, *]) ?_
  exact eL ⟨rfl,rfl,.inl ⟨rfl,rfl⟩⟩
 |cons o rest ih=>
  intro pre e lc hpre h2 g2 b2 h5
  have hlt:pre.length<l.length:=by rw[hpre];simp
  have hat:l[pre.length]? =some o:=by rw[hpre];simp
  have hia:=fun lc=>hl.at qg hat lc .i64
  have ho:=(hk o (kE hat)).toOk
  have hwr:IntKind.i64.wrap ((pre.length:Int)+1)=((pre.length+1:Nat):Int):=by rw[eh (by omega) (by omega)];omega
  have rlen:=fun mk s=>ho.refs.len iV jl mk s
  have rcl:=ho.refs.clean
  have tlen:=fun mk s=>ho.tags.len qW qV mk s
  have tcl:=ho.tags.clean
  have i1:di 12 (o.refs.length:Nat)=decide (12<o.refs.length):=cN 12 _
  have i2:di 20 (o.tags.length:Nat)=decide (20<o.tags.length):=cN 20 _
  have i3:di 60 (o.id.length:Nat)=decide (60<o.id.length):=cN 60 _
  refine cY ?_
  unfold zV
  refine aV (aF ?_)
  unfold El
  simp only[aw,az,aA,ai,aG,bn,aU,bN,cG,ak,aD,bh,bk,bT,au,bZ,cE,cW,bG,aq,a7,cT,cF,aP,bW,aZ,bE,cN,bS,tA,cQ,ah,ar,aX,dT,iG,iz,h2,g2,b2,h5,hcl,hlen,hlt]
  refine bc (t:=true) (by simp only[ak,ai,ah,cT,cF, *]) (b7 ?_)
  simp only[aW]
  refine aV (cR (aF ?_))
  unfold Nh
  simp only[aw,az,eD,aA,eE,ai,bU,iW,aG,gY,bn,eN,bN,dI,ak,aD,fv,bT,dR,au,bG,dj,ik,aq,cu,cT,cF,aP,bW,aR,aY,cut,dl,bO,aZ,bE,e7,cy,cP,bS,tA,aQ,cQ,ah,ar,bJ,ck,dX,aX,dA,cd,dT,iG,kT,rm,rA,iz,ab1,h2,g2,b2,h5,hia,Obj.val,Obj.cells]
  refine aV (aF ?_)
  unfold Ni
  have fin: ∀e' lc',ay e' 41= .bool true->W (QS sp) 22 (.cond (aa 41) (.seq (.region Em) .ret) .skip) ⟨e',79,lc'⟩ s fun x fr s'=>x= .ret/\s'=s/\fr.size=79/\ay fr.env 4= .bool false:=by
   intro e' lc' h
   refine bc (t:=true) (by simp only[ak,h]) (aF ?_)
   unfold Em
   simp only[aw,az,aA,aM,aH,bF,au,tA,ar]
   exact bP ⟨rfl,rfl,rfl,by simp only[ai,ah,cT, *]⟩
  cases q1:decide (12<o.refs.length) with
  |true=>
   simp only[aw,az,de,aA,eH,ip,ai,cJ,bU,aG,cz,bn,aU,bN,cG,ak,aH,aD,bh,bk,bF,bm,bT,cD,dB,au,bZ,iT,cW,bG,aq,a7,cT,cF,aP,bW,aZ,bE,bS,tA,aQ,ah,ar,aX,fT,kx,rcl,rlen,i1,q1]
   refine(fin _ _ ?_).mono ?_
   ·simp only[ai,ah,cT,cF, *]
   ·rintro x fr s' ⟨rfl,rfl,hs,h⟩
    exact⟨rfl,hs,.inr ⟨rfl,h,by simp only[pD,wE,q1,lh,cT]⟩⟩
  |false=>
  cases q2:decide (20<o.tags.length) with
  |true=>
   simp only[aw,az,de,aA,dQ,eH,ip,eG,ai,cJ,bU,aG,cz,bn,aU,bN,cG,ak,aH,aD,bh,bk,bF,bm,bT,cD,dB,du,au,bZ,iT,cW,bG,aq,a7,cT,cF,aP,bW,aZ,bE,bS,tA,aQ,ah,ar,aX,fT,mL,kx,r9,rcl,rlen,i1,q1,tcl,tlen,i2,q2]
   refine(fin _ _ ?_).mono ?_
   ·simp only[ai,ah,cT,cF, *]
   ·rintro x fr s' ⟨rfl,rfl,hs,h⟩
    exact⟨rfl,hs,.inr ⟨rfl,h,by simp only[pD,wE,q1,q2,lh,pQ,cT]⟩⟩
  |false=>
  cases q3:decide (60<o.id.length) with
  |true=>
   simp only[aw,az,de,aA,dQ,eG,ai,cJ,bU,aG,cz,bn,aU,bN,cG,ak,aH,aD,bh,bk,bF,bm,bT,cD,du,au,bZ,iT,cW,bG,aq,a7,cw,cT,cF,aP,bW,aZ,bE,bS,tA,aQ,cQ,ah,ar,aX,dv,fT,mL,mF,kx,r9,lX,rcl,rlen,i1,q1,tcl,tlen,i2,q2,i3,q3]
   refine(fin _ _ ?_).mono ?_
   ·simp only[ai,ah,cT,cF, *]
   ·rintro x fr s' ⟨rfl,rfl,hs,h⟩
    exact⟨rfl,hs,.inr ⟨rfl,h,by simp only[pD,wE,q1,q2,q3,pQ,cT]⟩⟩
  |false=>
  have hmany:wE o=false:=by simp only[wE,q1,q2,q3,lf]
  simp only[aw,az,de,aA,dQ,eG,ai,cJ,bU,aG,cz,bn,aU,bN,cG,ak,aH,aD,bh,bk,bF,bm,bT,cD,du,au,bZ,iT,cW,bG,aq,a7,cw,cT,cF,aP,bW,aZ,bE,bS,tA,aQ,cQ,ah,ar,aX,dv,fT,mL,mF,kx,r9,lX,rcl,rlen,i1,q1,tcl,tlen,i2,q2,i3,q3]
  refine bc (t:=false) (by simp only[ak,ai,ah,cT,cF, *]) (b7 ?_)
  simp only[aW]
  refine aV (aF ?_)
  unfold Nj
  simp only[aw,az,aA,aM,aH,bm,au,tA,ar]
  refine cR ?_
  refine(aan (v:=v) ho (i:=pre.length) (g:=lc.gen 6+1) o.refs [] _ rfl ⟨?_,?_,?_,?_,?_,?_,?_⟩ ?_).mono ?_
  ·simp only[ai,ah,cF, *]
  ·simp only[cJ,ah,cF,g2]
  ·simp only[bU,ah,cF,b2]
  ·simp only[ai,ah,cT,cF, *]
  ·simp only[cJ,ah,cT]
  ·simp only[bU,bS,cT,Obj.cells]
  ·simp only[ai,ah,cF, *]
  ·simp only[ai,ah,cT,cF];rfl
  rintro x fr s' ⟨rfl,e',rfl,⟨rfl,F,hok⟩|⟨rfl,h4,hok⟩⟩
  ·show W (QS sp) 22 _ _ _ _
   refine aF ?_
   unfold M7
   obtain⟨f2,fg2,fb2,f6,fg6,fb6,f5⟩:=F
   simp only[aw,az,aA,aM,aH,bm,au,tA,ar]
   refine cR ?_
   refine(aaq (v:=v) ho hm (i:=pre.length) (g:=lc.gen 6+1) o.tags [] _ rfl ⟨?_,fg2,fb2,?_,fg6,fb6,?_⟩ ?_).mono ?_
   ·simp only[ai,ah,cF, *]
   ·simp only[ai,ah,cF, *]
   ·simp only[ai,ah,cF, *]
   ·simp only[ai,ah,cT];rfl
   rintro x fr s' ⟨rfl,e'',rfl,⟨rfl,F,hok2⟩|⟨rfl,h4,hok2⟩⟩
   ·show W (QS sp) 22 _ _ _ _
    refine cp ?_
    unfold Ng
    obtain⟨f2,fg2,fb2,f6,fg6,fb6,f5⟩:=F
    simp only[aw,az,aA,ai,aG,aM,aU,ak,aH,aD,bm,au,dW,aq,a7,cT,cF,aP,bS,tA,ah,ar,f5,hwr,aW]
    have hr:pD (o::rest)=pD rest:=by simp only[pD,hmany,hok,hok2,cT,cF]
    rw[hr]
    refine ih (pre++[o]) _ _ (by rw[hpre];simp) ?_ fg2 fb2 ?_
    ·simp only[ai,ah,cF, *]
    ·simp only[ai,ah,cT,cF,dw,aR,aY]
   ·exact⟨rfl,rfl,.inr ⟨rfl,h4,by simp only[pD,hmany,hok,hok2,cT,cF]⟩⟩
  ·exact⟨rfl,rfl,.inr ⟨rfl,h4,by simp only[pD,hmany,hok,cF]⟩⟩
theorem aao (h22:sp 22=none) {v:aj} {l:List Obj} (hl:bH 6 Obj.val v l) (hk: ∀o∈l,o.Good) (hsmall:l.length<small) (n:Int) {s:St} (hm:s.minw<=s.next):bv (QS sp) 22 [.agg [v],.int .i64 n] s (.bool (kM l n)) s:=by
 have hlen:=fun mk s=>hl.len qm ql mk s
 have hcl:=hl.clean
 refine dZ agk agj agm agl h22 ?_
 unfold MY
 refine aF ?_
 unfold MZ
 simp only[dr,cZ,aw,az,aA,ai,dp,aM,iA,ak,aH,aD,bF,fv,au,bG,dj,aq,cu,cT,cF,bW,aR,aY,bS,tA,aQ,ah,ar,bJ,ck,cd,dT,ab0]
 refine aV (aF ?_)
 unfold M3
 simp only[aw,az,aA,ai,dp,cJ,bU,aG,bn,aU,bN,cG,ak,aD,bh,bk,bT,au,bZ,iT,cW,bG,aq,a7,cT,cF,aP,bW,aZ,bE,bS,tA,cQ,ah,ar,aX,iG,iz,hcl,hlen]
 cases hb:di n (l.length:Nat) with
 |true=>
  refine bc (t:=true) (by simp only[ak,ai,ah,cT,cF]) (aF ?_)
  unfold Nc
  simp only[aw,az,aA,aM,aH,bF,au,tA,ar]
  refine bP ⟨rfl,.inr rfl,bV ?_ rfl⟩
  simp only[ai,ah,cT,kM,hb]
 |false=>
  refine bc (t:=false) (by simp only[ak,ai,ah,cT,cF]) (b7 ?_)
  simp only[aW]
  refine aV (aF ?_)
  unfold Nf
  simp only[aw,az,aA,aM,aH,bm,au,tA,ar]
  refine cR ?_
  refine(aam hl hk hsmall hm l [] _ _ rfl (by simp only[ai,ah,cT,cF, *]) (by simp only[dp,cJ,ah,cT]) (by simp only[bU,ah,cT]) (by simp only[ai,ah,cT,cF];rfl)).mono ?_
  rintro x ⟨e,sz,lc⟩ s' ⟨rfl,hs,⟨rfl,hok⟩|⟨rfl,h4,hok⟩⟩
  ·have hs:sz=79:=hs
   subst hs
   show W (QS sp) 22 _ _ _ _
   refine aF ?_
   unfold Nb
   simp only[aw,az,aA,aM,aH,bF,au,tA,ar]
   refine bP ⟨rfl,.inr rfl,bV ?_ rfl⟩
   simp only[ai,ah,cT,kM,hb,cF,hok]
  ·exact⟨rfl,.inr rfl,bV (by rw[h4];simp only[kM,hb,cF,hok]) rfl⟩
end
def v7:Sp
 | [v,.int .i64 n]=>(jK v).bind fun l=>some (.bool (kM l n))
 |_=>none
theorem Dl {v:aj} {l:List Obj} (h:bH 6 Obj.val v l) (hg: ∀o∈l,o.Good) (hs:l.length<small) (n:Int):v7 [.agg [v],.int .i64 n]=some (.bool (kM l n)):=by
 simp only[v7,mq h hg hs,aq]
theorem aal:ek Tryz.prog 22 v7:=by
 intro args u hv G h w xs wr hx
 unfold v7 at hv
 split at hv
 ·rename_i v n
  simp only[aN,bp] at hv
  obtain⟨l,hl,rfl⟩:=hv
  obtain⟨v,rfl,hl,hg,hs⟩:=kK hl
  obtain⟨ht,v',hw,hl'⟩:=kS hl hg
  have hw:eX [.agg [v],.int .i64 n]=[.agg [v'],.int .i64 n]:=by simp only[eX,hw];rfl
  exact fD (Q:=QT []) (fB .nil) (fun _=>fG 1) (args:=[.agg [v],.int .i64 n]) (v:=.bool (kM l n)) (s':=s0) (by simp only[jv,ht];rfl) (by rw[hw];exact aao (sp:=fun f=>eR f []) rfl hl' hg hs n (bK _)) rfl ⟨1,rfl⟩ G h w xs wr hx
 ·cases hv
theorem apL (a b c d:aB):gf Tryz.prog .neq 51 (.agg [.str a,.str b]) (.agg [.str c,.str d])=some (.bool !(bif a==c then bif b==d then true else false else false)):=by
 have h:td Tryz.prog 51 (.agg [.str a,.str b]) (.agg [.str c,.str d])=(some (a==c)).bind fun r=>bif r then(some (b==d)).bind fun r=>bif r then some true else some false else some false:=by kernel_rfl
 rw[XP,h]
 cases a==c<;>cases b==d<;>rfl
theorem adY (a:Int):bz a a=true:=bS a
structure Obj.Eqv (o q:Obj):Prop where
 id:q.id=o.id
 kind:q.kind=o.kind
 x:q.x=o.x
 y:q.y=o.y
 refs:q.refs=o.refs
 tags:q.tags=o.tags
theorem Obj.Eqv.rfl {o:Obj}:o.Eqv o:=⟨Eq.refl _,Eq.refl _,Eq.refl _,Eq.refl _,Eq.refl _,Eq.refl _⟩
def uB (b:UInt8):Bool:=qi b||xU b||bo b.toNat 95
def zI (r:Option (aj×Nat)) (b:Bool):Bool:=
 match r with
 |some (.bool c,0)=>c==b
 |_=>false
theorem JY {r:Option (aj×Nat)} {b:Bool} (h:zI r b=true):r=some (.bool b,0):=by
 unfold zI at h
 split at h
 ·rename_i c
  rw[eq_of_beq h]
 ·cases h
theorem ZI:(List.range 256).all (fun n=>zI (jU [] 100 145 [.int .u8 n]) (uE n))=true:=by kernel_rfl
theorem ZH:(List.range 256).all (fun n=>zI (jU [] 100 144 [.int .u8 n]) (uE n||vN n||bo n 95))=true:=by kernel_rfl
def ye:Sp
 | [.int .u8 (.ofNat n)]=>bif cg n 256 then some (.bool (uE n)) else none
 |_=>none
def yS:Sp
 | [.int .u8 (.ofNat n)]=>bif cg n 256 then some (.bool (uE n||vN n||bo n 95)) else none
 |_=>none
theorem ak6 (b:UInt8):ye [.int .u8 (b.toNat:Nat)]=some (.bool (qi b)):=by
 have:cg b.toNat 256=true:=fe b.toNat_lt
 show(bif cg b.toNat 256 then _ else _)=_
 rw[this];rfl
theorem ap5 (b:UInt8):yS [.int .u8 (b.toNat:Nat)]=some (.bool (uB b)):=by
 have:cg b.toNat 256=true:=fe b.toNat_lt
 show(bif cg b.toNat 256 then _ else _)=_
 rw[this];rfl
theorem ak7:ek Tryz.prog 145 ye:=by
 intro args u hv G h w xs wr hx
 unfold ye at hv
 split at hv
 ·rename_i n
  obtain⟨h1,hv⟩:=cq hv
  injection hv with hv;subst hv
  exact kB .nil (JY (List.all_eq_true.1 ZI n (List.mem_range.2 (iu h1)))) (args':=[.int .u8 (.ofNat n)]) rfl rfl G h w xs wr hx
 ·cases hv
theorem ap6:ek Tryz.prog 144 yS:=by
 intro args u hv G h w xs wr hx
 unfold yS at hv
 split at hv
 ·rename_i n
  obtain⟨h1,hv⟩:=cq hv
  injection hv with hv;subst hv
  exact kB .nil (JY (List.all_eq_true.1 ZH n (List.mem_range.2 (iu h1)))) (args':=[.int .u8 (.ofNat n)]) rfl rfl G h w xs wr hx
 ·cases hv
section
variable {sp:FuncId->Option (List aj->Option aj)} (h144:sp 144=some yS)
include h144
theorem amp {str:aB} (hsmall:str.length<9223372036854775808) {s:St}: ∀(rest pre:aB) (e:bq) (lc:Ag.Loc),str=pre++rest->
 ay e 0= .str str->ay e 3= .int .i64 (pre.length:Nat)->
 W (QS sp) 85 (.loop AE) ⟨e,28,lc⟩ s fun x fr s'=>s'=s/\fr.size=28/\((x= .exit 0/\ay fr.env 0= .str str/\rest.all uB=true)\/(x= .ret/\ay fr.env 2= .bool false/\rest.all uB=false)):=by
 intro rest
 induction rest with
 |nil=>
  intro pre e lc hpre h0 h3
  have hlen:str.length=pre.length:=by rw[hpre];simp
  refine cY ?_
  unfold AE
  refine aV (aF ?_)
  unfold FF
  simp only[aw,az,aA,ai,aG,aU,cG,ak,aD,bh,bk,au,bZ,cE,cW,bG,aq,a7,cw,cT,cF,aP,bW,cN,bS,tA,ah,ar,aX,decide_false,lX,h0,h3,hlen,ff]
  refine bc (t:=false) (by simp only[ak,ai,ah,cT,cF, *]) ?_
  refine eL ?_
  refine⟨rfl,rfl,.inl ⟨rfl,?_,rfl⟩⟩
  simp only[ai,ah,cF, *]
 |cons b rest ih=>
  intro pre e lc hpre h0 h3
  have hlt:pre.length<str.length:=by rw[hpre];simp
  have hdrop:str.drop pre.length=b::rest:=by rw[hpre];simp
  have hwr:IntKind.i64.wrap ((pre.length:Int)+1)=((pre.length+1:Nat):Int):=by rw[eh (by omega) (by omega)];omega
  have hw8:=ap5 b
  refine cY ?_
  unfold AE
  refine aV (aF ?_)
  unfold FF
  simp only[aw,az,aA,ai,aG,aU,cG,ak,aD,bh,bk,au,bZ,cE,cW,bG,aq,a7,cw,cT,cF,aP,bW,cN,bS,tA,ah,ar,aX,dT,lX,h0,h3,hlt]
  refine bc (t:=true) (by simp only[ak,ai,ah,cT,cF, *]) (b7 ?_)
  simp only[aW]
  refine aV (cR ?_)
  refine aF ?_
  unfold SH
  simp only[aw,az,aA,ai,aG,fp,Bk,dc,da,ak,aD,bh,bk,sn,au,fq,aq,eJ,a7,cw,cT,cF,aP,dq,bS,tA,ah,ar,D3,h0,h3,hdrop,h144,hw8]
  cases hw:uB b with
  |false=>
   refine bc (t:=true) (by simp only[ak,ai,ah,cT,cF,ej]) ?_
   refine aF ?_
   unfold SI
   simp only[aw,az,aA,aM,aH,bF,au,ej,tA,ar]
   refine bP ⟨rfl,rfl,.inr ⟨rfl,by simp only[ai,ah,cT,cF, *],?_⟩⟩
   simp only[li,hw,jR]
  |true=>
   refine bc (t:=false) (by simp only[ak,ai,ah,cT,cF,dg]) (b7 ?_)
   simp only[dM,aW]
   refine cp ?_
   unfold SF
   simp only[aw,az,aA,ai,aG,aM,aU,ak,aH,aD,bm,au,dW,aq,a7,cT,cF,aP,dg,bS,tA,ah,ar,h3,hwr,aW]
   refine(ih (pre++[b]) _ _ (by rw[hpre];simp) (by simp only[ai,ah,cF, *]) (by simp only[ai,ah,cT,cF,dw,aR,aY])).mono ?_
   simp only[li,hw,iq]
   exact fun _ _ _ h=>h
theorem amq (h145:sp 145=some ye) (h85:sp 85=none) (str:aB) (hsmall:str.length<9223372036854775808) (s:St):bv (QS sp) 85 [.str str] s (.bool (gS str)) s:=by
 refine dZ ake akd akg akf h85 ?_
 unfold SB
 refine aF ?_
 unfold SD
 simp only[dr,cZ,aw,az,aA,aM,aH,bF,au,cT,aR,aY,tA,aQ,ar,ck,cd,dT]
 refine aV (aF ?_)
 unfold SE
 simp only[aw,az,aA,aM,aH,bm,au,tA,ar]
 refine cR ?_
 refine(amp h144 hsmall str [] _ _ rfl (by simp only[ai,ah,cT,cF, *]) (by simp only[ai,ah,cT,cF];rfl)).mono ?_
 rintro x ⟨e,sz,lc⟩ s' ⟨rfl,hs,⟨rfl,h0,hok⟩|⟨rfl,h2,hok⟩⟩
 ·have hs:sz=28:=hs
  subst hs
  have h0:ay e 0= .str str:=h0
  show W (QS sp) 85 _ _ _ _
  refine aF ?_
  unfold SJ
  cases str with
  |nil=>
   have h1:di 0 ((0:Nat):Int)=false:=rfl
   simp only[aw,az,de,aA,eH,fR,ai,aG,aM,cz,aU,cG,ak,aH,aD,bh,bk,bF,bm,cD,du,au,bZ,iT,cW,bG,aq,a7,cw,cT,cF,aP,bW,aY,bS,tA,ah,ar,aX,lX,h0,h1]
   refine bP ⟨rfl,.inr rfl,bV ?_ rfl⟩
   simp only[ai,ah,cT,cF, *]
   rfl
  |cons b r=>
   have h1:di 0 (((b::r).length:Nat):Int)=true:=by rw[show(0:Int)=((0:Nat):Int) from rfl,cN];simp
   have hil:gX (((b::r).length:Nat):Int) 24=decide ((b::r).length<=24):=oN _ 24
   have hlb:=ak6 b
   have hn:gS (b::r)=(qi b&&decide ((b::r).length<=24)):=by
    simp only[li,df] at hok
    have h2:uJ r=true:=hok.2
    simp only[gS,h2,dX,cd]
   cases h24:decide ((b::r).length<=24) with
   |false=>
    rw[h24] at hil
    simp only[aR] at h1 hil
    simp only[aw,az,de,aA,dQ,eH,eW,fR,ai,aG,aM,cz,aU,cG,ak,aH,aD,bh,bk,bF,bm,cD,dB,du,au,bZ,xr,iT,cW,bG,aq,a7,cw,cT,cF,aP,bW,aR,bS,tA,ah,ar,aX,lX,h0,h1,hil]
    refine bP ⟨rfl,.inr rfl,bV ?_ rfl⟩
    simp only[ai,ah,cT,cF, *]
    rw[mi]
   |true=>
    rw[h24] at hil
    have h0d:fV (.int .i64 0)=some 0:=rfl
    simp only[aR] at h1 hil
    simp only[aw,az,de,aA,dQ,eW,ai,aG,aM,cz,aU,Bk,cG,dc,da,ak,aH,aD,bh,bk,bF,bm,cD,dB,au,bZ,xr,iT,cW,bG,aq,a7,cw,cT,cF,aP,bW,dq,aR,aZ,bS,tA,ah,ar,aX,D3,lX,h0,h1,hil,h0d,h145,hlb]
    refine bP ⟨rfl,.inr rfl,bV ?_ rfl⟩
    simp only[ai,ah,cT,cF, *]
    rw[dX]
 ·refine⟨rfl,.inr rfl,bV ?_ rfl⟩
  rw[h2]
  cases str with
  |nil=>cases hok
  |cons b r=>
   refine congrArg aj.bool ?_
   cases hn:gS (b::r) with
   |false=>rfl
   |true=>
    exfalso
    simp only[gS,df] at hn
    have h3:uB b=true:=by simp only[uB,hn.1.1,lh]
    have h4:r.all uB=true:=hn.1.2
    rw[li,h3,h4] at hok
    cases hok
end
def U1:fh:=[(144,yS),(145,ye)]
theorem HN:fI U1:=.cons ap6 (.cons ak7 .nil)
theorem amo:ek Tryz.prog 85 mI:=by
 intro args v hv G h w xs wr hx
 unfold mI at hv
 split at hv
 ·rename_i s
  obtain⟨h1,hv⟩:=cq hv
  injection hv with hv;subst hv
  have h1:s.length<small:=iu h1
  exact fD (Q:=QT U1) (fB HN) (fun _=>fG 1) (args:=[.str s]) (v:=.bool (gS s)) (s':=s0) rfl (amq (sp:=fun f=>eR f U1) rfl rfl rfl s h1 s0) rfl ⟨1,rfl⟩ G h w xs wr hx
 ·cases hv
theorem Ig (P:Program) (t:TypeId) (a b:List UInt8):gf P .geq t (.str a) (.str b)=some (.bool (!iE a b)):=rfl
theorem ZJ:jU [] 100 86 [.int .i64 1]=some (.str (jw 1),0):=by kernel_rfl
theorem ZK:jU [] 100 86 [.int .i64 2]=some (.str (jw 2),0):=by kernel_rfl
theorem ZL:jU [] 100 86 [.int .i64 3]=some (.str (jw 3),0):=by kernel_rfl
theorem ZM:jU [] 100 86 [.int .i64 4]=some (.str (jw 4),0):=by kernel_rfl
theorem ZN:jU [] 100 86 [.int .i64 5]=some (.str (jw 5),0):=by kernel_rfl
theorem ap8 (e:bq) (s:St):ey Tryz.prog 37 6 [(0,aE (fX {data:= #[] })),(1,aE (fX {data:= #[110,111,100,101] })),(2,aE (fX {data:= #[119,97,121] })),(3,aE (fX {data:= #[97,114,101,97] })),(4,aE (fX {data:= #[114,111,117,116,101] })),(5,aE (fX {data:= #[116,117,114,110] }))] false e s=
 some (.list 1 [.str [],.str [110,111,100,101],.str [119,97,121],.str [97,114,101,97],.str [114,111,117,116,101],.str [116,117,114,110]] .full,s):=by
 kernel_rfl
theorem ap9 {sp:FuncId->Option (List aj->Option aj)} (h86:sp 86=none) {k:Int} (hk:k<1\/5<k) (s:St):bv (QS sp) 86 [.int .i64 k] s (.str []) s:=by
 refine dZ aki akh akl akk h86 ?_
 unfold SK
 refine aF ?_
 unfold SL
 simp only[dr,cZ,aw,az,aA,aM,aH,iM,au,cT,aR,aY,tA,aQ,ar,ck,cd,dT]
 refine aF ?_
 unfold SM
 simp only[aw,az,aA,ai,aM,lL,ak,au,bZ,bG,cT,cF,aP,bW,bS,tA,ah,ar,aX,adr,ap8]
 refine aV (aF ?_)
 unfold SN
 have fin: ∀e' lc',ay e' 10= .bool true->W (QS sp) 86 (.cond (aa 10) (.seq (.region FG) .ret) .skip) ⟨e',15,lc'⟩ s fun x fr s'=>x= .ret/\s'=s/\ay fr.env 2= .str []:=by
  intro e' lc' h
  refine bc (t:=true) (by simp only[ak,h]) (aF ?_)
  unfold FG
  simp only[aw,az,aA,aM,aH,iM,au,tA,ar]
  exact bP ⟨rfl,rfl,by simp only[ai,ah,cT, *]⟩
 cases h1:di k 1 with
 |true=>
  simp only[aw,az,de,aA,eH,ip,ai,aG,cz,aU,ak,aH,aD,bF,bm,cD,dB,au,cE,aq,a7,cT,cF,aP,bS,tA,ah,ar,h1]
  refine(fin _ _ ?_).mono ?_
  ·simp only[ai,ah,cT,cF, *]
  ·rintro x fr s' ⟨rfl,rfl,h⟩
   exact⟨rfl,.inr rfl,bV h rfl⟩
 |false=>
  have h2:di 5 k=true:=by
   simp only[di,decide_eq_false_iff_not] at h1
   simp only[di,decide_eq_true_eq];omega
  simp only[aw,az,de,aA,dQ,eG,ai,aG,cz,aU,ak,aH,aD,bF,bm,cD,du,au,cE,iT,aq,a7,cT,cF,aP,bS,tA,ah,ar,h1,h2]
  refine(fin _ _ ?_).mono ?_
  ·simp only[ai,ah,cT,cF, *]
  ·rintro x fr s' ⟨rfl,rfl,h⟩
   exact⟨rfl,.inr rfl,bV h rfl⟩
theorem ap7:ek Tryz.prog 86 ru:=by
 intro args u hv G h w xs wr hx
 unfold ru at hv
 split at hv
 ·rename_i k
  injection hv with hv;subst hv
  have hcase:(k<1\/5<k)\/k=1\/k=2\/k=3\/k=4\/k=5:=by omega
  rcases hcase with hk|rfl|rfl|rfl|rfl|rfl
  ·have hw:jw k=[]:=by
    simp only[jw,ng (show k≠1 by omega),ng (show k≠2 by omega),ng (show k≠3 by omega),ng (show k≠4 by omega),ng (show k≠5 by omega),cF]
   rw[hw]
   exact fD (Q:=QT []) (fB .nil) (fun _=>fG 1) (args:=[.int .i64 k]) (v:=.str []) (s':=s0) rfl (ap9 (sp:=fun f=>eR f []) rfl hk s0) rfl ⟨1,rfl⟩ G h w xs wr hx
  ·exact kB .nil ZJ (args':=[.int .i64 1]) rfl rfl G h w xs wr hx
  ·exact kB .nil ZK (args':=[.int .i64 2]) rfl rfl G h w xs wr hx
  ·exact kB .nil ZL (args':=[.int .i64 3]) rfl rfl G h w xs wr hx
  ·exact kB .nil ZM (args':=[.int .i64 4]) rfl rfl G h w xs wr hx
  ·exact kB .nil ZN (args':=[.int .i64 5]) rfl rfl G h w xs wr hx
 ·cases hv
theorem amP {sp:FuncId->Option (List aj->Option aj)} (h84:sp 84=none) (x y:Int) (s:St):bv (QS sp) 84 [.agg [.int .i64 x,.int .i64 y]] s (.bool (jN x y)) s:=by
 refine dZ aka aj9 akc akb h84 ?_
 unfold Sy
 refine aF ?_
 unfold Sz
 simp only[dr,cZ,aw,az,aA,ai,dp,aM,iA,ak,aH,aD,bF,fv,au,bG,dj,aq,cu,cT,bW,aR,aY,bS,tA,aQ,ar,ck,cd,dT,adq]
 refine aF ?_
 unfold SA
 cases h1:gX 0 x with
 |false=>
  simp only[aw,az,de,aA,eH,fR,ai,dp,cJ,bU,aG,aM,cz,bn,aU,bN,ak,aH,aD,bF,bm,bT,cD,du,au,j7,aq,a7,cT,cF,aP,aZ,bE,bS,tA,cQ,ah,ar,aX,eC,rZ,h1]
  refine bP ⟨rfl,.inr rfl,bV ?_ rfl⟩
  simp only[ai,ah,cT,cF, *]
  simp only[jN,h1,jR]
 |true=>
 cases h2:di x 1048576 with
 |false=>
  simp only[aw,az,de,aA,dQ,eH,eW,fR,ai,dp,cJ,bU,aG,aM,cz,bn,aU,bN,ak,aH,aD,bF,bm,bT,cD,dB,du,au,cE,j7,aq,a7,cT,cF,aP,aZ,bE,bS,tA,cQ,ah,ar,aX,eC,rZ,h1,h2]
  refine bP ⟨rfl,.inr rfl,bV ?_ rfl⟩
  simp only[ai,ah,cT,cF, *]
  simp only[jN,h1,h2,mi,jR]
 |true=>
 cases h3:gX 0 y with
 |false=>
  simp only[aw,az,de,aA,dQ,eH,eW,fR,ai,dp,cJ,bU,aG,aM,cz,bn,aU,bN,ak,aH,aD,bF,bm,bT,cD,dB,du,au,cE,j7,aq,a7,cT,cF,aP,aZ,bE,bS,tA,aQ,cQ,ah,ar,aX,eC,rZ,xJ,h1,h2,h3]
  refine bP ⟨rfl,.inr rfl,bV ?_ rfl⟩
  simp only[ai,ah,cT,cF, *]
  simp only[jN,h1,h2,h3,mi,jR]
 |true=>
  simp only[aw,az,de,aA,dQ,eW,ai,dp,cJ,bU,aG,aM,cz,bn,aU,bN,ak,aH,aD,bF,bm,bT,cD,dB,au,cE,j7,aq,a7,cT,cF,aP,aZ,bE,bS,tA,aQ,cQ,ah,ar,aX,eC,rZ,xJ,h1,h2,h3]
  refine bP ⟨rfl,.inr rfl,bV ?_ rfl⟩
  simp only[ai,ah,cT,cF, *]
  simp only[jN,h1,h2,h3,iq]
theorem amO:ek Tryz.prog 84 qY:=by
 intro args u hv G h w xs wr hx
 unfold qY at hv
 split at hv
 ·rename_i x y
  injection hv with hv;subst hv
  exact fD (Q:=QT []) (fB .nil) (fun _=>fG 1) (args:=[.agg [.int .i64 x,.int .i64 y]]) (v:=.bool (jN x y)) (s':=s0) rfl (amP (sp:=fun f=>eR f []) rfl x y s0) rfl ⟨1,rfl⟩ G h w xs wr hx
 ·cases hv
def rd (p:Option aB) (k:aB):Bool:=match p with|none=>false|some p=> !iE p k
def qD (p:Option aB) (t:cM):Bool:= !gS t.1||decide (t.2.length<1)||decide (200<t.2.length)||rd p t.1
def pJ:Option aB->List cM->Bool
 |_,[]=>true
 |p,t::r=>bif qD p t then false else pJ (some t.1) r
def rh (l:List cM):Bool:=bif decide (60<l.length) then false else pJ none l
def Xh (pre:List cM) (p:Option aB):Prop:=(pre=[]/\p=none)\/ ∃q t,pre=q++[t]/\p=some t.1
section
variable {sp:FuncId->Option (List aj->Option aj)} (h85:sp 85=some mI)
include h85
theorem aps {v:aj} {l:List cM} (hl:bH 2 ep v l) (hk: ∀t∈l,t.1.length<small) (hsmall:l.length<small) {s:St} (hm:s.minw<=s.next) {lc:Ag.Loc}: ∀(rest pre:List cM) (e:bq) (p:Option aB),l=pre++rest->Xh pre p->
 ay e 0=v->ay e 3= .int .i64 (pre.length:Nat)->
 W (QS sp) 87 (.loop AF) ⟨e,56,lc⟩ s fun x fr s'=>s'=s/\fr.size=56/\((x= .exit 0/\pJ p rest=true)\/(x= .ret/\ay fr.env 2= .bool false/\pJ p rest=false)):=by
 intro rest
 have hlen:=fun mk s=>hl.len qW qV mk s
 have hcl:=hl.clean
 have hsm:small=9223372036854775808:=rfl
 induction rest with
 |nil=>
  intro pre e p hpre hp h0 h3
  have hlen':l.length=pre.length:=by rw[hpre];simp
  refine cY ?_
  unfold AF
  refine aV (aF ?_)
  unfold FH
  simp only[aw,az,aA,ai,aG,aU,cG,ak,aD,bh,bk,au,bZ,cE,cW,bG,aq,a7,cT,cF,aP,bW,cN,bS,tA,ah,ar,aX,decide_false,h0,h3,hcl,hlen,hlen',ff]
  refine bc (t:=false) (by simp only[ak,ai,ah,cT,cF, *]) ?_
  exact eL ⟨rfl,rfl,.inl ⟨rfl,rfl⟩⟩
 |cons t rest ih=>
  intro pre e p hpre hp h0 h3
  have hlt:pre.length<l.length:=by rw[hpre];simp
  have hat:l[pre.length]? =some t:=by rw[hpre];simp
  have hia:=fun lc=>hl.at tt hat lc .i64
  have hns:=wy (hk t (kE hat))
  have hwr:IntKind.i64.wrap ((pre.length:Int)+1)=((pre.length+1:Nat):Int):=by rw[eh (by omega) (by omega)];omega
  have hi1:di (t.2.length:Nat) 1=decide (t.2.length<1):=cN _ 1
  have hi2:di 200 (t.2.length:Nat)=decide (200<t.2.length):=cN 200 _
  have hi3:di 0 (pre.length:Nat)=decide (0<pre.length):=cN 0 _
  refine cY ?_
  unfold AF
  refine aV (aF ?_)
  unfold FH
  simp only[aw,az,aA,ai,aG,aU,cG,ak,aD,bh,bk,au,bZ,cE,cW,bG,aq,a7,cT,cF,aP,bW,cN,bS,tA,ah,ar,aX,dT,h0,h3,hcl,hlen,hlt]
  refine bc (t:=true) (by simp only[ak,ai,ah,cT,cF, *]) (b7 ?_)
  simp only[aW]
  refine aV (cR (ll hm ?_))
  unfold ST
  have fin: ∀e' lc',ay e' 55= .bool true->W (QS sp) 87 (.cond (aa 55) (.seq (.region FJ) .ret) .skip) ⟨e',56,lc'⟩ s fun x fr s'=>x= .ret/\s'=s/\fr.size=56/\ay fr.env 2= .bool false:=by
   intro e' lc' h
   refine bc (t:=true) (by simp only[ak,h]) (aF ?_)
   unfold FJ
   simp only[aw,az,aA,aM,aH,bF,au,tA,ar]
   exact bP ⟨rfl,rfl,rfl,by simp only[ai,ah,cT, *]⟩
  cases hb1:gS t.1 with
  |false=>
   simp only[d8,d7,jg,ec,kD,isStore,ip,pN,ai,aG,cz,bn,fp,bN,dI,dc,da,ak,aH,aD,bh,bk,bF,dR,cD,dB,au,fq,dj,aq,eJ,cw,cT,cF,aP,dq,aZ,bE,ej,bS,tA,ah,ar,dv,vW,h0,h3,hia,ep,h85,hns,hb1]
   refine(fin _ _ ?_).mono ?_
   ·simp only[ai,ah,cT,cF, *]
   ·rintro x fr s' ⟨rfl,rfl,hs,h⟩
    exact⟨rfl,hs,.inr ⟨rfl,h,by simp[pJ,qD,hb1]⟩⟩
  |true=>
  cases hb2:decide (t.2.length<1) with
  |true=>
   simp only[d8,d7,jg,ec,kh,kD,isStore,ip,eG,pN,ai,aG,cz,bn,aU,fp,bN,dI,cG,dc,da,ak,aH,aD,bh,bk,bF,bm,dR,cD,dB,du,au,bZ,cE,fq,cW,bG,dj,aq,eJ,a7,cw,cT,cF,aP,bW,dq,aZ,bE,dg,bS,tA,ah,ar,aX,dv,vW,xL,lX,h0,h3,hia,ep,h85,hns,hb1,hi1,hb2]
   refine(fin _ _ ?_).mono ?_
   ·simp only[ai,ah,cT,cF, *]
   ·rintro x fr s' ⟨rfl,rfl,hs,h⟩
    exact⟨rfl,hs,.inr ⟨rfl,h,by simp only[pJ,qD,hb1,hb2,pQ,lh,cT]⟩⟩
  |false=>
  cases hb3:decide (200<t.2.length) with
  |true=>
   simp only[d8,d7,jg,ec,kh,kD,isStore,ip,eG,pN,ai,aG,cz,bn,aU,fp,bN,dI,cG,dc,da,ak,aH,aD,bh,bk,bF,bm,dR,cD,dB,du,au,bZ,cE,iT,fq,cW,bG,dj,aq,eJ,a7,cw,cT,cF,aP,bW,dq,aZ,bE,dg,bS,tA,ah,ar,aX,dv,vW,xL,lX,h0,h3,hia,ep,h85,hns,hb1,hi1,hb2,hi2,hb3]
   refine(fin _ _ ?_).mono ?_
   ·simp only[ai,ah,cT,cF, *]
   ·rintro x fr s' ⟨rfl,rfl,hs,h⟩
    exact⟨rfl,hs,.inr ⟨rfl,h,by simp only[pJ,qD,hb1,hb2,hb3,pQ,lh,cT]⟩⟩
  |false=>
  rcases hp with⟨rfl,rfl⟩|⟨q,u,rfl,rfl⟩
  ·have hi3:di 0 ((0:Nat):Int)=false:=rfl
   have hwr0:IntKind.i64.wrap (((0:Nat):Int)+1)=1:=rfl
   simp only[aY] at h3 hia
   simp only[d8,d7,jg,ec,kh,kD,isStore,fR,eG,ai,aG,cz,bn,aU,fp,bN,dI,cG,dc,da,ak,aH,aD,bh,bk,bF,bm,dR,cD,du,au,bZ,cE,iT,fq,cW,bG,dj,aq,eJ,a7,cw,cT,cF,aP,bW,dq,aY,aZ,bE,dg,bS,tA,ah,ar,aX,dv,vW,xL,lX,h0,h3,hia,ep,h85,hns,hb1,hi1,hb2,hi2,hb3,hi3]
   have hbad:qD none t=false:=by simp only[qD,hb1,hb2,hb3,rd,dg,lf]
   refine bc (t:=false) (by simp only[ak,ai,ah,cT,cF]) (b7 ?_)
   simp only[dM,aW]
   refine cp ?_
   unfold FI
   simp only[aw,az,aA,ai,aG,aM,aU,ak,aH,aD,bm,au,dW,aq,a7,cT,cF,aP,bS,tA,ah,ar,h3,hwr0,aW]
   refine(ih [t] _ (some t.1) (by rw[hpre];simp) (.inr ⟨[],t,rfl,rfl⟩) (by simp only[ai,ah,cF, *]) (by simp only[ai,ah,cT,cF];rfl)).mono ?_
   simp only[pJ,hbad,cF]
   exact fun _ _ _ h=>h
  ·have hi3:decide (0<(q++[u]).length)=true:=by simp
   have hat2:l[q.length]? =some u:=by rw[hpre];simp
   have hia2:=fun lc=>hl.at tt hat2 lc .i64
   have hws:IntKind.i64.wrap (((q++[u]).length:Int)-1)=((q.length:Nat):Int):=by
    have:(q++[u]).length=q.length+1:=by simp
    rw[this,eh (by omega) (by omega)];omega
   have hi4:di 0 ((q++[u]).length:Nat)=true:=by rw[show(0:Int)=((0:Nat):Int) from rfl,cN];simp
   simp only[d8,d7,jg,ec,kh,isStore,eW,eG,ai,aG,cz,bn,aU,fp,bN,dI,cG,dc,da,ak,aH,aD,bh,bk,bF,bm,dR,cD,dB,du,au,bZ,cE,iT,pY,fq,cW,bG,dj,aq,eJ,a7,cw,cT,cF,aP,bW,dq,aZ,bE,dg,bS,tA,ah,ar,aX,Ig,dv,vW,xL,lX,h0,h3,hia,hia2,hws,ep,h85,hns,hb1,hi1,hb2,hi2,hb3,hi4]
   cases hb4:iE u.1 t.1 with
   |false=>
    refine(fin _ _ ?_).mono ?_
    ·simp only[ai,ah,cT,cF,ej]
    ·rintro x fr s' ⟨rfl,rfl,hs,h⟩
     exact⟨rfl,hs,.inr ⟨rfl,h,by simp only[pJ,qD,rd,hb4,ej,pQ,cT]⟩⟩
   |true=>
    have hbad:qD (some u.1) t=false:=by simp only[qD,hb1,hb2,hb3,rd,hb4,dg,lf]
    refine bc (t:=false) (by simp only[ak,ai,ah,cT,cF,dg]) (b7 ?_)
    simp only[dM,aW]
    refine cp ?_
    unfold FI
    simp only[aw,az,aA,ai,aG,aM,aU,ak,aH,aD,bm,au,dW,aq,a7,cT,cF,aP,dg,bS,tA,ah,ar,h3,hwr,aW]
    refine(ih (q++[u]++[t]) _ (some t.1) (by rw[hpre];simp) (.inr ⟨q++[u],t,rfl,rfl⟩) (by simp only[ai,ah,cF, *]) (by simp only[ai,ah,cT,cF,dw,aR,aY])).mono ?_
    simp only[pJ,hbad,cF]
    exact fun _ _ _ h=>h
theorem apt (h87:sp 87=none) {v:aj} {l:List cM} (hl:bH 2 ep v l) (hk: ∀t∈l,t.1.length<small) (hsmall:l.length<small) {s:St} (hm:s.minw<=s.next):bv (QS sp) 87 [v] s (.bool (rh l)) s:=by
 have hlen:=fun mk s=>hl.len qW qV mk s
 have hcl:=hl.clean
 have hil:di 60 (l.length:Nat)=decide (60<l.length):=cN 60 _
 refine dZ ako akn akq akp h87 ?_
 unfold SO
 refine aF ?_
 unfold SP
 simp only[dr,cZ,aw,az,aA,aM,aH,bF,au,cT,aR,aY,tA,aQ,ar,ck,cd,dT]
 refine aV (aF ?_)
 unfold SQ
 simp only[aw,az,aA,ai,aG,aU,cG,ak,aH,aD,bh,bk,bm,au,bZ,iT,cW,bG,aq,a7,cT,cF,aP,bW,bS,tA,ah,ar,aX,hcl,hlen,hil]
 cases h60:decide (60<l.length) with
 |true=>
  refine bc (t:=true) (by simp only[ak,ai,ah,cT,cF]) (aF ?_)
  unfold SR
  simp only[aw,az,aA,aM,aH,bF,au,tA,ar]
  refine bP ⟨rfl,.inr rfl,bV ?_ rfl⟩
  simp only[ai,ah,cT,cF,rh,h60]
 |false=>
  refine bc (t:=false) (by simp only[ak,ai,ah,cT,cF]) (b7 ?_)
  simp only[aW]
  refine aV (aF ?_)
  unfold SS
  simp only[aw,az,aA,aM,aH,bm,au,tA,ar]
  refine cR ?_
  refine(aps h85 hl hk hsmall hm l [] _ none rfl (.inl ⟨rfl,rfl⟩) (by simp only[ai,ah,cT,cF, *]) (by simp only[ai,ah,cT,cF];rfl)).mono ?_
  rintro x ⟨e,sz,lc⟩ s' ⟨rfl,hs,⟨rfl,hok⟩|⟨rfl,h2,hok⟩⟩
  ·have hs:sz=56:=hs
   subst hs
   show W (QS sp) 87 _ _ _ _
   refine aF ?_
   unfold SU
   simp only[aw,az,aA,aM,aH,bF,au,tA,ar]
   refine bP ⟨rfl,.inr rfl,bV ?_ rfl⟩
   simp only[ai,ah,cT,cF,rh,h60,hok]
  ·exact⟨rfl,.inr rfl,bV (by rw[h2];simp only[rh,h60,cF,hok]) rfl⟩
end
def wZ:Sp
 | [v]=>(ic 2 oC v).bind fun l=>bif cg l.length small&&qB l then some (.bool (rh l)) else none
 |_=>none
theorem apq {v:aj} {l:List cM} (h:bH 2 ep v l) (h1:l.length<small) (h2: ∀t∈l,t.1.length<small):wZ [v]=some (.bool (rh l)):=by
 simp only[wZ,ka rR h,aq,dA,h1,dT,uY h2,fL,cT]
def U2:fh:=(85,mI)::U1
theorem Cn:fI U2:=.cons amo HN
theorem apr:ek Tryz.prog 87 wZ:=by
 intro args u hv G h w xs wr hx
 unfold wZ at hv
 split at hv
 ·rename_i v
  simp only[aN] at hv
  obtain⟨l,h1,hv⟩:=hv
  obtain⟨h2,hv⟩:=cq hv
  injection hv with hv;subst hv
  simp only[df] at h2
  have hl:bH 2 ep v l:=jA (fun _ _=>rQ) h1
  obtain⟨ht,hw⟩:=JX Hd hl
  exact fD (Q:=QT U2) (fB Cn) (fun _=>fG 1) (args:=[v]) (v:=.bool (rh l)) (s':=s0) (by simp only[jv,ht,fL])
   (apt (sp:=fun f=>eR f U2) rfl rfl hw (uX h2.2) (iu h2.1) (bK _)) rfl ⟨1,rfl⟩ G h w xs wr hx
 ·cases hv
def yz (p:Option aB) (k:aB):Bool:=match p with|none=>false|some p=>p==k
def qz (kind:Int) (p:Option aB) (seen:List aB) (r:aB):Bool:= !gS r||(bz kind 2&&yz p r)||(bz kind 3&&seen.contains r)
def nu (kind:Int):Option aB->List aB->List aB->Bool
 |_,_,[]=>true
 |p,seen,r::l=>bif qz kind p seen r then false else nu kind (some r) (lA r seen) l
def rU (kind:Int) (n:Nat):Bool:=bif bz kind 1 then n==0 else bif bz kind 2 then decide (2<=n) else bif bz kind 3 then decide (3<=n) else bif bz kind 4 then decide (1<=n) else n==3
def ri (o:Obj):Bool:=bif decide (2000<o.refs.length) then false else bif nu o.kind none [] o.refs then rU o.kind o.refs.length else false
def Xj (pre:List aB) (p:Option aB):Prop:=(pre=[]/\p=none)\/ ∃q t,pre=q++[t]/\p=some t
structure vA (o:Obj) (n m:Nat) (e:bq) (lc:Ag.Loc):Prop where
 h1:ay e 1= .lref 1 1 0
 g1:lc.gen 1=1
 b1:lc.get 1 1=some o.cells
 h3:ay e 3= .int .i64 (n:Nat)
 h4:ay e 4= .map m
section
variable {sp:FuncId->Option (List aj->Option aj)} (h85:sp 85=some mI)
include h85
theorem anX {o:Obj} (ho:o.Ok) {m:Nat} {lc:Ag.Loc}: ∀(rest pre:List aB) (e:bq) (s:St) (p:Option aB) (seen:List aB),o.refs=pre++rest->Xj pre p->s.minw<=s.next->m<s.next->s.ci=0->
 s.get [] m=some (.map (c8 0 (jZ seen)) (jZ seen).length)->vA o o.refs.length m e lc->ay e 5= .int .i64 (pre.length:Nat)->
 W (QS sp) 88 (.loop x9) ⟨e,87,lc⟩ s fun x fr s'=>s'.ci=0/\((x= .exit 0/\(∃e',fr=⟨e',87,lc⟩/\vA o o.refs.length m e' lc)/\nu o.kind p seen rest=true)\/(x= .ret/\ay fr.env 2= .bool false/\nu o.kind p seen rest=false)):=by
 intro rest
 have hcl:=ho.refs.clean
 have hsm:small=9223372036854775808:=rfl
 have hrl:=ho.reflen
 induction rest with
 |nil=>
  intro pre e s p seen hpre hp hm hmn hci hs I h5
  obtain⟨h1,g1,b1,h3,h4⟩:=I
  have hlen':o.refs.length=pre.length:=by rw[hpre];simp
  refine cY ?_
  unfold x9
  refine aV (aF ?_)
  unfold FL
  simp only[aw,az,aA,ai,aG,aU,ak,aD,au,cE,aq,a7,cT,cF,aP,cN,bS,tA,ah,ar,decide_false,h3,h5,hlen',ff]
  refine bc (t:=false) (by simp only[ak,ai,ah,cT,cF, *]) ?_
  refine eL ⟨hci,.inl ⟨rfl,⟨_,rfl,⟨?_,g1,b1,?_,?_⟩⟩,rfl⟩⟩
  ·simp only[ai,ah,cF, *]
  ·simp only[ai,ah,cF,h3,hlen']
  ·simp only[ai,ah,cF, *]
 |cons r rest ih=>
  intro pre e s p seen hpre hp hm hmn hci hs I h5
  obtain⟨h1,g1,b1,h3,h4⟩:=I
  have hlt:pre.length<o.refs.length:=by rw[hpre];simp
  have hat:o.refs[pre.length]? =some r:=by rw[hpre];simp
  have hia:=fun lc=>ho.refs.at lF hat lc .i64
  have hns:=wy (ho.ref r (kE hat))
  have hwr:IntKind.i64.wrap ((pre.length:Int)+1)=((pre.length+1:Nat):Int):=by rw[eh (by omega) (by omega)];omega
  have hlk:lZ Tryz.prog [] 109 (.map m) (.str r) false s.top=some (.bool (seen.contains r)):=by
   have:=AV qR A4 W5 (s:=s.top) (m:=m) hs r
   rwa [Ur] at this
  have hup:=w5 qR A4 hs r (.bool true)
  rw[D0] at hup
  refine cY ?_
  unfold x9
  refine aV (aF ?_)
  unfold FL
  simp only[aw,az,aA,ai,aG,aU,ak,aD,au,cE,aq,a7,cT,cF,aP,cN,bS,tA,ah,ar,dT,h3,h5,hlt]
  refine bc (t:=true) (by simp only[ak,ai,ah,cT,cF, *]) (b7 ?_)
  simp only[aW]
  refine aV (cR (aV (ll hm ?_)))
  unfold Tf
  have fin: ∀e' lc' (K:Ex->Fr->St->Prop) N,ay e' 60= .bool true->(∀fr,ay fr.env 2= .bool false->K .ret fr s)->W (QS sp) 88 (.cond (aa 60) (.seq (.region AG) .ret) .skip) ⟨e',87,lc'⟩ s (Ex.next K N):=by
   intro e' lc' K N h hk
   refine bc (t:=true) (by simp only[ak,h]) (aF ?_)
   unfold AG
   simp only[aw,az,aA,aM,aH,bF,au,tA,ar]
   exact bP (hk _ (by simp only[ai,ah,cT, *]))
  have good: ∀e' (K:Ex->Fr->St->Prop),ay e' 60= .bool false->ay e' 1= .lref 1 1 0->ay e' 3= .int .i64 (o.refs.length:Nat)->ay e' 4= .map m->ay e' 5= .int .i64 (pre.length:Nat)->
   (∀e'',vA o o.refs.length m e'' lc->ay e'' 5= .int .i64 (pre.length:Nat)->K .normal ⟨e'',87,lc⟩ (s.put m (some (.map (c8 0 (jZ (lA r seen))) (jZ (lA r seen)).length))))->
   W (QS sp) 88 (.cond (aa 60) (.seq (.region AG) .ret) .skip) ⟨e',87,lc⟩ s (Ex.next K fun fr s=>W (QS sp) 88 (.region FK) fr s K):=by
   intro e' K h60 h1' h3' h4' h5' hk
   refine bc (t:=false) (by simp only[ak,h60]) (b7 ?_)
   simp only[aW]
   refine cp ?_
   unfold FK
   simp only[aw,az,eD,aA,eE,ai,aG,bn,bN,dI,tI,ak,aH,aD,bF,bT,dR,au,tM,ji,aq,eJ,cw,gr,cT,cF,aP,aZ,bE,bS,tA,aQ,ah,ar,aX,dv,fT,kx,h1',h4',h5',g1,b1,Obj.cells,hia,bB,hup]
   refine hk _ ⟨?_,g1,b1,?_,?_⟩ ?_<;>simp only[ai,ah,cF, *]
  have step: ∀e'',qz o.kind p seen r=false->vA o o.refs.length m e'' lc->ay e'' 5= .int .i64 (pre.length:Nat)->
   W (QS sp) 88 (.region FM) ⟨e'',87,lc⟩ (s.put m (some (.map (c8 0 (jZ (lA r seen))) (jZ (lA r seen)).length))) (Ex.next (fun x fr s'=>s'.ci=0/\((x= .exit 0/\(∃e',fr=⟨e',87,lc⟩/\vA o o.refs.length m e' lc)/\nu o.kind p seen (r::rest)=true)\/(x= .ret/\ay fr.env 2= .bool false/\nu o.kind p seen (r::rest)=false))) fun fr s=>W (QS sp) 88 (.loop x9) fr s (fun x fr s'=>s'.ci=0/\((x= .exit 0/\(∃e',fr=⟨e',87,lc⟩/\vA o o.refs.length m e' lc)/\nu o.kind p seen (r::rest)=true)\/(x= .ret/\ay fr.env 2= .bool false/\nu o.kind p seen (r::rest)=false)))):=by
   intro e'' hbad I h5'
   obtain⟨h1',_,_,h3',h4'⟩:=I
   refine cp ?_
   unfold FM
   simp only[aw,az,aA,ai,aG,aM,aU,ak,aH,aD,bm,au,dW,aq,a7,cT,cF,aP,bS,tA,ah,ar,h5',hwr,aW]
   have hms:(s.put m (some (.map (c8 0 (jZ (lA r seen))) (jZ (lA r seen)).length))).minw<=(s.put m (some (.map (c8 0 (jZ (lA r seen))) (jZ (lA r seen)).length))).next:=by
    show(bif Nat.ble s.minw m then s.minw else m)<=s.next
    cases Nat.ble s.minw m
    ·exact Nat.le_of_lt hmn
    ·exact hm
   refine(ih (pre++[r]) _ _ (some r) (lA r seen) (by rw[hpre];simp) (.inr ⟨pre,r,rfl,rfl⟩) hms hmn hci (by rw[cX];simp only[bS,cT]) ⟨?_,g1,b1,?_,?_⟩ ?_).mono ?_
   ·simp only[ai,ah,cF, *]
   ·simp only[ai,ah,cF, *]
   ·simp only[ai,ah,cF, *]
   ·simp only[ai,ah,cT,cF,dw,aR,aY]
   ·simp only[nu,hbad,cF]
    exact fun _ _ _ h=>h
  cases hb1:gS r with
  |false=>
   simp only[d8,d7,jg,ec,kD,isStore,ip,pN,ai,aG,cz,bn,fp,bN,dI,dc,da,ak,aH,aD,bh,bk,bF,bT,dR,cD,dB,au,fq,ji,aq,eJ,cw,cT,cF,aP,dq,aZ,bE,ej,bS,tA,aQ,ah,ar,aX,dv,fT,kx,h1,g1,b1,h5,Obj.cells,hia,bB,h85,hns,hb1]
   refine fin _ _ _ _ (by simp only[ai,ah,cT,cF, *]) fun fr h=>?_
   exact⟨hci,.inr ⟨rfl,h,by simp only[nu,qz,hb1,ej,lh,cT]⟩⟩
  |true=>
  cases hk2:bz o.kind 2 with
  |true=>
   have hk3:bz o.kind 3=false:=by
    have:o.kind=2:=by simpa[bz] using hk2
    rw[this];rfl
   rcases hp with⟨rfl,rfl⟩|⟨q,u,rfl,rfl⟩
   ·have hi3:di 0 ((0:Nat):Int)=false:=rfl
    have h5':=h5
    simp only[aY] at h5 hia
    simp only[d8,d7,jg,ec,kh,kD,isStore,eW,fR,eG,ai,aG,cz,bn,aU,fp,bN,dI,dc,da,ak,aH,aD,bh,bk,bF,bm,bT,dR,cD,dB,du,au,iT,gJ,fq,ji,aq,eJ,a7,cw,cT,cF,aP,dq,aY,aZ,bE,dg,bS,tA,aQ,ah,ar,aX,eC,dv,fT,lS,kx,h1,g1,b1,h5,Obj.cells,hia,bB,h85,hns,hb1,hk2,hk3,hi3]
    refine good _ _ ?_ ?_ ?_ ?_ ?_ fun e'' I h5''=>?_
    ·simp only[ai,ah,cT,cF, *]
    ·simp only[ai,ah,cF, *]
    ·simp only[ai,ah,cF, *]
    ·simp only[ai,ah,cF, *]
    ·simp only[ai,ah,cF];exact h5'
    simp only[dM,aW]
    exact step e'' (by simp only[qz,yz,hb1,hk2,hk3,dg,mi,lf,jR]) I h5''
   ·have hat2:o.refs[q.length]? =some u:=by rw[hpre];simp
    have hia2:=fun lc=>ho.refs.at lF hat2 lc .i64
    have hws:IntKind.i64.wrap (((q++[u]).length:Int)-1)=((q.length:Nat):Int):=by
     have:(q++[u]).length=q.length+1:=by simp
     rw[this,eh (by omega) (by omega)];omega
    have hi4:di 0 ((q++[u]).length:Nat)=true:=by rw[show(0:Int)=((0:Nat):Int) from rfl,cN];simp
    cases hb4:u==r with
    |true=>
     simp only[d8,d7,jg,ec,kh,kD,isStore,eW,ip,eG,pN,ai,aG,cz,bn,aU,fp,bN,dI,dc,da,ak,aH,aD,bh,bk,bF,bm,bT,dR,cD,dB,du,au,iT,gJ,pY,jr,fq,ji,aq,eJ,a7,cw,cT,cF,aP,dq,aZ,bE,dg,bS,tA,aQ,ah,ar,aX,eC,dv,fT,lS,kx,h1,g1,b1,h5,Obj.cells,hia,hia2,hws,bB,h85,hns,hb1,hk2,hi4,hb4]
     refine fin _ _ _ _ (by simp only[ai,ah,cT,cF, *]) fun fr h=>?_
     exact⟨hci,.inr ⟨rfl,h,by simp only[nu,qz,yz,hb1,hk2,hb4,dg,fL,pQ,lh,cT]⟩⟩
    |false=>
     simp only[d8,d7,jg,ec,kh,kD,isStore,eW,fR,eG,ai,aG,cz,bn,aU,fp,bN,dI,dc,da,ak,aH,aD,bh,bk,bF,bm,bT,dR,cD,dB,du,au,iT,gJ,pY,jr,fq,ji,aq,eJ,a7,cw,cT,cF,aP,dq,aZ,bE,dg,bS,tA,aQ,ah,ar,aX,eC,dv,fT,lS,kx,h1,g1,b1,h5,Obj.cells,hia,hia2,hws,bB,h85,hns,hb1,hk2,hk3,hi4,hb4]
     refine good _ _ ?_ ?_ ?_ ?_ ?_ fun e'' I h5''=>?_
     ·simp only[ai,ah,cT,cF, *]
     ·simp only[ai,ah,cF, *]
     ·simp only[ai,ah,cF, *]
     ·simp only[ai,ah,cF, *]
     ·simp only[ai,ah,cF, *]
     simp only[dM,aW]
     exact step e'' (by simp only[qz,yz,hb1,hk2,hk3,hb4,dg,mi,lf,jR]) I h5''
  |false=>
   cases hk3:bz o.kind 3 with
   |false=>
    simp only[d8,d7,jg,ec,kh,kD,isStore,fR,eG,ai,aG,cz,bn,aU,fp,bN,dI,dc,da,ak,aH,aD,bh,bk,bF,bm,bT,dR,cD,du,au,gJ,fq,ji,aq,eJ,a7,cw,cT,cF,aP,dq,aZ,bE,dg,bS,tA,aQ,ah,ar,aX,eC,dv,fT,lS,kx,h1,g1,b1,h5,Obj.cells,hia,bB,h85,hns,hb1,hk2,hk3]
    refine good _ _ ?_ ?_ ?_ ?_ ?_ fun e'' I h5''=>?_
    ·simp only[ai,ah,cT,cF, *]
    ·simp only[ai,ah,cF, *]
    ·simp only[ai,ah,cF, *]
    ·simp only[ai,ah,cF, *]
    ·simp only[ai,ah,cF, *]
    simp only[dM,aW]
    exact step e'' (by simp only[qz,hb1,hk2,hk3,dg,lf,jR]) I h5''
   |true=>
    simp only[d8,d7,jg,ec,kh,kD,isStore,eW,fR,eG,ai,aG,cz,bn,aU,fp,bN,dI,l5,dc,da,ak,aH,aD,bh,bk,bF,bm,bT,dR,cD,dB,du,au,gJ,fq,ji,aq,eJ,a7,cw,gr,cT,cF,aP,dq,aZ,bE,dg,bS,tA,aQ,ah,ar,aX,eC,dv,fT,lS,kx,h1,g1,b1,h4,h5,Obj.cells,hia,bB,h85,hns,hb1,hk2,hk3,hlk]
    cases hb4:seen.contains r with
    |true=>
     refine fin _ _ _ _ (by simp only[ai,ah,cT,cF]) fun fr h=>?_
     exact⟨hci,.inr ⟨rfl,h,by simp only[nu,qz,hb1,hk2,hk3,hb4,dg,fL,pQ,cT]⟩⟩
    |false=>
     refine good _ _ ?_ ?_ ?_ ?_ ?_ fun e'' I h5''=>?_
     ·simp only[ai,ah,cT,cF]
     ·simp only[ai,ah,cF, *]
     ·simp only[ai,ah,cF, *]
     ·simp only[ai,ah,cF, *]
     ·simp only[ai,ah,cF, *]
     simp only[dM,aW]
     exact step e'' (by simp only[qz,hb1,hk2,hk3,hb4,dg,lf,jR,mi]) I h5''
end
theorem A3 (P:Program) (t:TypeId) (e:bq) (s:St):nl P t e none s=some (.map s.next,s.new (.map [] 0)):=rfl
section
variable {sp:FuncId->Option (List aj->Option aj)} (h85:sp 85=some mI)
include h85
theorem anZ (h88:sp 88=none) {o:Obj} (ho:o.Ok): ∃v s',bv (QS sp) 88 [o.val] s0 v s'/\(v= .bool (ri o)/\s'.ci=0):=by
 have hcl:=ho.refs.clean
 have htl:=ho.tags.clean
 have hlen:=fun mk s=>ho.refs.len iV jl mk s
 have hil:di 2000 (o.refs.length:Nat)=decide (2000<o.refs.length):=cN 2000 _
 refine bv.ofEx akt aks akv aku h88 ?_
 unfold SV
 refine aF ?_
 unfold SW
 simp only[dr,cZ,aw,az,aA,ai,dp,aM,iA,ak,aH,aD,bF,fv,au,bG,dj,aq,cu,cT,bW,aR,aY,bS,tA,aQ,ar,ck,cd,dT,ads,Obj.val,Obj.cells]
 refine aF ?_
 unfold SX
 simp only[aw,az,aA,ai,dp,cJ,bU,aM,bn,bN,cG,ak,aD,bh,bk,bT,au,bZ,cW,bG,aq,cT,cF,aP,bW,aZ,bE,bS,tA,aQ,ah,ar,aX,fT,kx,hcl,hlen]
 refine aV (aF ?_)
 unfold S9
 simp only[aw,az,aA,ai,aG,aU,ak,aH,aD,bm,au,iT,aq,a7,cT,cF,aP,bS,tA,ah,ar,hil]
 cases h20:decide (2000<o.refs.length) with
 |true=>
  refine bc (t:=true) (by simp only[ak,ai,ah,cT,cF]) (aF ?_)
  unfold Tb
  simp only[aw,az,aA,aM,aH,bF,au,tA,ar]
  refine bP ⟨.inr rfl,_,bV (v:=.bool false) (by simp only[ai,ah,cT,cF]) rfl,?_,rfl⟩
  simp only[ri,h20,cT]
 |false=>
  refine bc (t:=false) (by simp only[ak,ai,ah,cT,cF]) (b7 ?_)
  simp only[aW]
  refine aF ?_
  unfold Tc
  simp only[aw,az,aA,ai,aM,uM,ak,au,bZ,cT,cF,aP,bS,tA,ah,ar,A3]
  refine aV (aF ?_)
  unfold Td
  simp only[aw,az,aA,aM,aH,bm,au,tA,ar]
  refine cR ?_
  have hg:((s0.new (.map [] 0))).get [] 0=some (.map (c8 0 (jZ [])) (jZ []).length):=by rw[dy];rfl
  refine(anX h85 ho o.refs [] _ _ none [] rfl (.inl ⟨rfl,rfl⟩) (Nat.zero_le _) (Nat.lt_succ_self _) rfl hg ⟨?_,?_,?_,?_,?_⟩ ?_).mono ?_
  ·simp only[ai,ah,cT,cF, *]
  ·simp only[dp,cJ,ah,cT]
  ·simp only[bU,ah,cT,Obj.cells]
  ·simp only[ai,ah,cT,cF, *]
  ·simp only[ai,ah,cT,cF, *];rfl
  ·simp only[ai,ah,cT,cF];rfl
  rintro x ⟨e1,sz,lc⟩ s' ⟨hci,⟨rfl,⟨e,hfr,h1,g1,b1,h3,h4⟩,hok⟩|⟨rfl,h2,hok⟩⟩
  ·injection hfr with q1 q2 q3
   subst q1;subst q2;subst q3
   show W (QS sp) 88 _ _ _ _
   have e1:bz (o.refs.length:Nat) 0=(o.refs.length==0):=qh _ 0
   have e3:bz (o.refs.length:Nat) 3=(o.refs.length==3):=qh _ 3
   have l2:gX 2 (o.refs.length:Nat)=decide (2<=o.refs.length):=oN 2 _
   have l3:gX 3 (o.refs.length:Nat)=decide (3<=o.refs.length):=oN 3 _
   have l1:gX 1 (o.refs.length:Nat)=decide (1<=o.refs.length):=oN 1 _
   refine aV (aF ?_)
   unfold SY
   simp only[aw,az,aA,ai,bn,bN,ak,bT,au,aq,cT,aP,aZ,bE,bS,tA,aQ,ar,aX,eC,lS,h1,g1,b1,Obj.cells]
   refine cR (aF ?_)
   unfold SZ
   simp only[aw,az,aA,ai,aM,aU,ak,aH,aD,bm,au,gJ,aq,a7,cT,cF,aP,bS,tA,ah,ar]
   have fin: ∀b,rU o.kind o.refs.length=b->aj.bool b= .bool (ri o):=by
    intro b hb
    simp only[ri,h20,cF,hok,cT,hb]
   cases k1:bz o.kind 1 with
   |true=>
    refine bc (t:=true) (by simp only[ak,ai,ah,cT,cF]) (aF ?_)
    unfold S2
    simp only[aw,az,aA,ai,aG,aM,aU,ak,aH,aD,bm,au,gJ,aq,a7,cT,cF,aP,bS,tA,ah,ar,h3,e1]
    refine bP ⟨.inr rfl,_,bV (v:=.bool (o.refs.length==0)) (by simp only[ai,ah,cT,cF]) rfl,fin _ (by simp only[rU,k1,cT]),hci⟩
   |false=>
   refine bc (t:=false) (by simp only[ak,ai,ah,cT,cF]) (aF ?_)
   unfold S3
   simp only[aw,az,aA,ai,aM,aU,ak,aH,aD,bm,au,gJ,aq,a7,cT,cF,aP,bS,tA,ah,ar]
   cases k2:bz o.kind 2 with
   |true=>
    refine bc (t:=true) (by simp only[ak,ai,ah,cT,cF]) (aF ?_)
    unfold S4
    simp only[aw,az,aA,ai,aG,aM,aU,ak,aH,aD,bm,au,j7,aq,a7,cT,cF,aP,bS,tA,ah,ar,h3,l2]
    refine bP ⟨.inr rfl,_,bV (v:=.bool (decide (2<=o.refs.length))) (by simp only[ai,ah,cT,cF]) rfl,fin _ (by simp only[rU,k1,k2,cT,cF]),hci⟩
   |false=>
   refine bc (t:=false) (by simp only[ak,ai,ah,cT,cF]) (aF ?_)
   unfold S5
   simp only[aw,az,aA,ai,aM,aU,ak,aH,aD,bm,au,gJ,aq,a7,cT,cF,aP,bS,tA,ah,ar]
   cases k3:bz o.kind 3 with
   |true=>
    refine bc (t:=true) (by simp only[ak,ai,ah,cT,cF]) (aF ?_)
    unfold S6
    simp only[aw,az,aA,ai,aG,aM,aU,ak,aH,aD,bm,au,j7,aq,a7,cT,cF,aP,bS,tA,ah,ar,h3,l3]
    refine bP ⟨.inr rfl,_,bV (v:=.bool (decide (3<=o.refs.length))) (by simp only[ai,ah,cT,cF]) rfl,fin _ (by simp only[rU,k1,k2,k3,cT,cF]),hci⟩
   |false=>
   refine bc (t:=false) (by simp only[ak,ai,ah,cT,cF]) (aF ?_)
   unfold S7
   simp only[aw,az,aA,ai,aM,aU,ak,aH,aD,bm,au,gJ,aq,a7,cT,cF,aP,bS,tA,ah,ar]
   cases k4:bz o.kind 4 with
   |true=>
    refine bc (t:=true) (by simp only[ak,ai,ah,cT,cF]) (aF ?_)
    unfold S8
    simp only[aw,az,aA,ai,aG,aM,aU,ak,aH,aD,bm,au,j7,aq,a7,cT,cF,aP,bS,tA,ah,ar,h3,l1]
    refine bP ⟨.inr rfl,_,bV (v:=.bool (decide (1<=o.refs.length))) (by simp only[ai,ah,cT,cF]) rfl,fin _ (by simp only[rU,k1,k2,k3,k4,cT,cF]),hci⟩
   |false=>
   refine bc (t:=false) (by simp only[ak,ai,ah,cT,cF]) (b7 ?_)
   simp only[dM,aW]
   refine aF ?_
   unfold Ta
   simp only[aw,az,aA,ai,aG,aM,aU,ak,aH,aD,bm,au,gJ,aq,a7,cT,cF,aP,bS,tA,ah,ar,h3,e3]
   refine bP ⟨.inr rfl,_,bV (v:=.bool (o.refs.length==3)) (by simp only[ai,ah,cT,cF]) rfl,fin _ (by simp only[rU,k1,k2,k3,k4,cF]),hci⟩
  ·have h2:ay e1 2= .bool false:=h2
   refine⟨.inr rfl,_,bV h2 rfl,?_,hci⟩
   simp only[ri,h20,hok,cF]
end
def yC:Sp
 | [v]=>(mr v).bind fun o=>some (.bool (ri o))
 |_=>none
theorem anV {o:Obj} (h:o.Good):yC [o.val]=some (.bool (ri o)):=by
 show(mr o.val).bind _=_
 rw[um h];rfl
theorem anW:ek Tryz.prog 88 yC:=by
 intro args u hv G h w xs wr hx
 unfold yC at hv
 split at hv
 ·rename_i v
  simp only[aN,bp] at hv
  obtain⟨o,ho,rfl⟩:=hv
  obtain⟨rfl,hg⟩:=rP ho
  obtain⟨v,s',hr,rfl,hci⟩:=anZ (sp:=fun f=>eR f U2) rfl rfl hg.toOk
  have hw:eX [o.val]=[o.val]:=iP (by simp only[pures,hg.pure,fL])
  refine fD (Q:=QT U2) (fB Cn) (fun _=>fG 1) (args:=[o.val]) (v:=.bool (ri o)) (s':=s') ?_ (by rw[hw];exact hr) hci ⟨1,rfl⟩ G h w xs wr hx
  exact kZ (by simp only[pures,hg.pure,fL])
 ·cases hv
def xq (o:Obj):Bool:=bif bz o.kind 1 then jN o.x o.y else rz o
def nw (o:Obj):Bool:=gS o.id&& !(jw o.kind== [])&&xq o&&rh o.tags&&ri o
theorem ap0 {sp:FuncId->Option (List aj->Option aj)} (h84:sp 84=some qY) (h85:sp 85=some mI) (h86:sp 86=some ru) (h87:sp 87=some wZ) (h88:sp 88=some yC) (h54:sp 54=none) {o:Obj} (ho:o.Good) (s:St):
 bv (QS sp) 54 [o.val] s (.bool (nw o)) s:=by
 have hcl:=ho.refs.clean
 have htl:=ho.tags.clean
 have hns:=wy ho.id
 have hws:ru [.int .i64 o.kind]=some (.str (jw o.kind)):=rfl
 have hos:qY [.agg [.int .i64 o.x,.int .i64 o.y]]=some (.bool (jN o.x o.y)):=rfl
 have hts:=apq ho.tags ho.taglen ho.key
 have hrs:=anV ho
 simp only[Obj.val,Obj.cells] at hrs
 have hpt:=pH o.x o.y 0 0
 refine dZ aiG aiF aiI aiH h54 ?_
 unfold Qc
 refine aF ?_
 unfold Qd
 simp only[dr,cZ,aw,az,aA,ai,dp,aM,iA,ak,aH,aD,bF,fv,au,bG,dj,aq,cu,cT,bW,aR,aY,bS,tA,aQ,ar,ck,cd,dT,acw,Obj.val,Obj.cells]
 refine aF ?_
 unfold Qe
 simp only[aw,az,aA,ai,dp,cJ,bU,aM,bn,bN,dc,da,ak,aD,bh,bk,bT,au,aq,cu,cT,cF,aP,dq,aR,aY,cut,bO,aZ,e7,bS,tA,aQ,ah,ar,bJ,aX,jo,xK,h84,hos]
 have last: ∀(e:bq) (lc:Ag.Loc) (b:Bool),ay e 1= .lref 1 1 0->lc.gen 1=1->lc.get 1 1=some o.cells->ay e 3= .bool b->b=xq o->
  W (QS sp) 54 (.seq (.region ER) .ret) ⟨e,35,lc⟩ s fun x fr' s1=>s1=s/\(x= .normal\/x= .ret)/\ ∃vs,gL (QS sp) [] fr' s1 [.tmp 2]=some vs/\jO vs= .bool (nw o):=by
  intro e lc b h1 g1 b1 h3 hb
  refine aF ?_
  unfold ER
  cases c1:gS o.id with
  |false=>
   simp only[aw,az,de,aA,eH,fR,ai,aG,aM,cz,bn,bN,dc,da,ak,aH,aD,bh,bk,bF,bT,cD,du,au,aq,cw,cT,cF,aP,dq,aZ,bE,bS,tA,cQ,ah,ar,aX,dv,mF,h1,g1,b1,Obj.cells,h85,hns,c1]
   refine bP ⟨rfl,.inr rfl,bV ?_ rfl⟩
   simp only[ai,ah,cT,cF, *]
   simp only[nw,c1,jR]
  |true=>
  cases c2:jw o.kind== [] with
  |true=>
   simp only[aw,az,de,aA,dQ,eH,eW,fR,ai,aG,aM,cz,bn,aU,bN,dc,da,ak,aH,aD,bh,bk,bF,iM,bT,cD,dB,du,au,qM,aq,a7,cw,cT,cF,aP,dq,aZ,bE,dg,bS,tA,aQ,cQ,ah,ar,aX,eC,dv,mF,lS,h1,g1,b1,Obj.cells,h85,hns,c1,h86,hws,c2]
   refine bP ⟨rfl,.inr rfl,bV ?_ rfl⟩
   simp only[ai,ah,cT,cF, *]
   simp only[nw,c1,c2,dg,mi,jR]
  |false=>
  cases b with
  |false=>
   simp only[aw,az,de,aA,dQ,eH,eW,fR,ai,aG,aM,cz,bn,aU,bN,dc,da,ak,aH,aD,bh,bk,bF,iM,bT,cD,dB,du,au,qM,aq,a7,cw,cT,cF,aP,dq,aZ,bE,ej,bS,tA,aQ,cQ,ah,ar,aX,eC,dv,mF,lS,h1,g1,b1,h3,Obj.cells,h85,hns,c1,h86,hws,c2]
   refine bP ⟨rfl,.inr rfl,bV ?_ rfl⟩
   simp only[ai,ah,cT,cF, *]
   simp only[nw,<-hb,mi,jR]
  |true=>
  cases c3:rh o.tags with
  |false=>
   simp only[aw,az,de,aA,dQ,eH,eW,fR,ai,aG,aM,cz,bn,aU,bN,dc,da,ak,aH,aD,bh,bk,bF,iM,bT,cD,dB,du,au,qM,aq,a7,cw,cT,cF,aP,dq,aZ,bE,ej,bS,tA,aQ,cQ,ah,ar,aX,eC,dv,mL,mF,lS,r9,h1,g1,b1,h3,Obj.cells,h85,hns,c1,h86,hws,c2,htl,h87,hts,c3]
   refine bP ⟨rfl,.inr rfl,bV ?_ rfl⟩
   simp only[ai,ah,cT,cF, *]
   simp only[nw,c3,mi,jR]
  |true=>
   simp only[aw,az,de,aA,dQ,eW,ai,aG,aM,cz,bn,aU,bN,dc,da,ak,aH,aD,bh,bk,bF,iM,bT,cD,dB,au,qM,aq,a7,cw,cu,cT,cF,aP,dq,aR,aY,cut,bO,aZ,bE,ej,bS,tA,aQ,cQ,ah,ar,bJ,aX,eC,dv,mL,kT,mF,lS,r9,h1,g1,b1,h3,Obj.cells,h85,hns,c1,h86,hws,c2,htl,h87,hts,c3,h88,hrs]
   refine bP ⟨rfl,.inr rfl,bV ?_ rfl⟩
   simp only[ai,ah,cT,cF]
   simp only[nw,c1,c2,c3,<-hb,ej,iq]
 cases k1:bz o.kind 1 with
 |true=>
  refine aV (aF ?_)
  unfold EP
  simp only[aw,az,aA,ai,dp,cJ,bU,bn,aU,bN,ak,aH,aD,bm,bT,au,pg,aq,a7,cT,cF,aP,aZ,bE,dg,bS,tA,aQ,ah,ar,aX,eC,lS,k1]
  refine bc (t:=false) (by simp only[ak,ai,ah,cT,cF]) (b7 ?_)
  simp only[aW]
  refine last _ _ (jN o.x o.y) ?_ ?_ ?_ ?_ (by simp only[xq,k1,cT])
  ·simp only[ai,ah,cT,cF, *]
  ·simp only[dp,cJ,ah,cT]
  ·simp only[bU,ah,cT,Obj.cells]
  ·simp only[ai,ah,cT,cF, *]
 |false=>
  refine aV (aF ?_)
  unfold EP
  simp only[aw,az,aA,ai,dp,cJ,bU,bn,aU,bN,ak,aH,aD,bm,bT,au,pg,aq,a7,cT,cF,aP,aZ,bE,ej,bS,tA,aQ,ah,ar,aX,eC,lS,k1]
  refine bc (t:=true) (by simp only[ak,ai,ah,cT,cF]) (cp ?_)
  unfold Qf
  simp only[aw,az,aA,ai,dp,cJ,bU,aM,lK,bn,aU,bN,ak,aD,bT,au,dj,aq,cu,cT,cF,aP,aR,aY,cut,bO,aZ,e7,bS,tA,aQ,ah,ar,bJ,aX,CH,jo,vg,xK,ee,hpt,aW]
  refine last _ _ (rz o) ?_ ?_ ?_ ?_ (by simp only[xq,k1,cF])
  ·simp only[ai,ah,cT,cF, *]
  ·simp only[dp,cJ,ah,cT]
  ·simp only[bU,ah,cT,Obj.cells]
  ·simp only[ai,ah,cT,cF,rz];cases bz o.x 0<;>cases bz o.y 0<;>rfl
def yR:Sp
 | [v]=>(mr v).bind fun o=>some (.bool (nw o))
 |_=>none
theorem apY {o:Obj} (h:o.Good):yR [o.val]=some (.bool (nw o)):=by
 show(mr o.val).bind _=_
 rw[um h];rfl
def U3:fh:=(84,qY)::(86,ru)::(87,wZ)::(88,yC)::U2
theorem Xt:fI U3:=.cons amO (.cons ap7 (.cons apr (.cons anW Cn)))
theorem apZ:ek Tryz.prog 54 yR:=by
 intro args u hv G h w xs wr hx
 unfold yR at hv
 split at hv
 ·rename_i v
  simp only[aN,bp] at hv
  obtain⟨o,ho,rfl⟩:=hv
  obtain⟨rfl,hg⟩:=rP ho
  have hw:eX [o.val]=[o.val]:=iP (by simp only[pures,hg.pure,fL])
  refine fD (Q:=QT U3) (fB Xt) (fun _=>fG 1) (args:=[o.val]) (v:=.bool (nw o)) (s':=s0) ?_ (by rw[hw];exact ap0 (sp:=fun f=>eR f U3) rfl rfl rfl rfl rfl rfl hg s0) rfl ⟨1,rfl⟩ G h w xs wr hx
  exact kZ (by simp only[pures,hg.pure,fL])
 ·cases hv
def sr (p:Option aB) (o:Obj):Bool:= !nw o||rd p o.id
def rg:Option aB->List Obj->Bool
 |_,[]=>true
 |p,o::r=>bif sr p o then false else rg (some o.id) r
def pK (l:List Obj):Bool:=bif decide (1000000<l.length) then false else rg none l
def Xi (pre:List Obj) (p:Option aB):Prop:=(pre=[]/\p=none)\/ ∃q t,pre=q++[t]/\p=some t.id
structure Ce (v:aj) (t:Nat) (e:bq) (lc:Ag.Loc):Prop where
 h:ay e t= .lref t 1 0
 g:lc.gen t=1
 b:lc.get t 1=some [v]
section
variable {sp:FuncId->Option (List aj->Option aj)} (h54:sp 54=some yR)
include h54
theorem alO {v:aj} {l:List Obj} (hl:bH 6 Obj.val v l) (hk: ∀o∈l,o.Good) (hsmall:l.length<small) {s:St} (hm:s.minw<=s.next) {lc:Ag.Loc}: ∀(rest pre:List Obj) (e:bq) (p:Option aB),l=pre++rest->Xi pre p->
 Ce v 1 e lc->ay e 3= .int .i64 (pre.length:Nat)->
 W (QS sp) 34 (.loop zZ) ⟨e,42,lc⟩ s fun x fr s'=>s'=s/\fr.size=42/\((x= .exit 0/\rg p rest=true)\/(x= .ret/\ay fr.env 2= .bool false/\rg p rest=false)):=by
 intro rest
 have hlen:=fun mk s=>hl.len qm ql mk s
 have hcl:=hl.clean
 have hsm:small=9223372036854775808:=rfl
 induction rest with
 |nil=>
  intro pre e p hpre hp I h3
  obtain⟨h1,g1,b1⟩:=I
  have hlen':l.length=pre.length:=by rw[hpre];simp
  refine cY ?_
  unfold zZ
  refine aV (aF ?_)
  unfold EC
  simp only[aw,az,aA,ai,aG,bn,aU,bN,cG,ak,aD,bh,bk,bT,au,bZ,cE,cW,bG,aq,a7,cT,cF,aP,bW,aZ,bE,cN,bS,tA,cQ,ah,ar,aX,decide_false,iG,iz,h1,g1,b1,h3,hcl,hlen,hlen',ff]
  refine bc (t:=false) (by simp only[ak,ai,ah,cT,cF, *]) ?_
  exact eL ⟨rfl,rfl,.inl ⟨rfl,rfl⟩⟩
 |cons o rest ih=>
  intro pre e p hpre hp I h3
  obtain⟨h1,g1,b1⟩:=I
  have hlt:pre.length<l.length:=by rw[hpre];simp
  have hat:l[pre.length]? =some o:=by rw[hpre];simp
  have hia:=fun lc=>hl.at qg hat lc .i64
  have hvs:=apY (hk o (kE hat))
  simp only[Obj.val,Obj.cells] at hvs
  have hwr:IntKind.i64.wrap ((pre.length:Int)+1)=((pre.length+1:Nat):Int):=by rw[eh (by omega) (by omega)];omega
  refine cY ?_
  unfold zZ
  refine aV (aF ?_)
  unfold EC
  simp only[aw,az,aA,ai,aG,bn,aU,bN,cG,ak,aD,bh,bk,bT,au,bZ,cE,cW,bG,aq,a7,cT,cF,aP,bW,aZ,bE,cN,bS,tA,cQ,ah,ar,aX,dT,iG,iz,h1,g1,b1,h3,hcl,hlen,hlt]
  refine bc (t:=true) (by simp only[ak,ai,ah,cT,cF, *]) (b7 ?_)
  simp only[aW]
  refine aV (cR (ll hm ?_))
  unfold OA
  have fin: ∀e' lc' (K:Ex->Fr->St->Prop),ay e' 41= .bool true->(∀fr,fr.size=42->ay fr.env 2= .bool false->K .ret fr s)->W (QS sp) 34 (.cond (aa 41) (.seq (.region EE) .ret) .skip) ⟨e',42,lc'⟩ s K:=by
   intro e' lc' K h hK
   refine bc (t:=true) (by simp only[ak,h]) (aF ?_)
   unfold EE
   simp only[aw,az,aA,aM,aH,bF,au,tA,ar]
   exact bP (hK _ rfl (by simp only[ai,ah,cT, *]))
  cases hb1:nw o with
  |false=>
   simp only[d8,d7,jg,ec,kD,isStore,ip,pN,ai,aG,cz,bn,fp,bN,dI,dc,da,ak,aH,aD,bh,bk,bF,bT,dR,cD,dB,au,fq,dj,aq,eJ,cu,cT,cF,aP,dq,aR,aY,cut,bO,aZ,bE,e7,ej,bS,tA,aQ,cQ,ah,ar,bJ,aX,iG,kT,iz,h1,g1,b1,h3,hia,Obj.val,Obj.cells,h54,hvs,hb1]
   refine fin _ _ _ (by simp only[ai,ah,cT,cF, *]) fun fr hs h=>?_
   exact⟨rfl,hs,.inr ⟨rfl,h,by simp only[rg,sr,hb1,ej,lh,cT]⟩⟩
  |true=>
  rcases hp with⟨rfl,rfl⟩|⟨q,u,rfl,rfl⟩
  ·have hi3:di 0 ((0:Nat):Int)=false:=rfl
   have hwr0:IntKind.i64.wrap (((0:Nat):Int)+1)=1:=rfl
   simp only[aY] at h3 hia
   simp only[d8,d7,jg,ec,kh,kD,isStore,fR,eG,ai,aG,cz,bn,aU,fp,bN,dI,dc,da,ak,aH,aD,bh,bk,bF,bm,bT,dR,cD,du,au,iT,fq,dj,aq,eJ,a7,cu,cT,cF,aP,dq,aR,aY,cut,bO,aZ,bE,e7,dg,bS,tA,aQ,cQ,ah,ar,bJ,aX,iG,kT,iz,h1,g1,b1,h3,hia,Obj.val,Obj.cells,h54,hvs,hb1,hi3]
   have hbad:sr none o=false:=by simp only[sr,hb1,rd,dg,lf]
   refine bc (t:=false) (by simp only[ak,ai,ah,cT,cF, *]) (b7 ?_)
   simp only[dM,aW]
   refine cp ?_
   unfold ED
   simp only[aw,az,aA,ai,aG,aM,aU,ak,aH,aD,bm,au,dW,aq,a7,cT,cF,aP,bS,tA,ah,ar,h3,hwr0,aW]
   refine(ih [o] _ (some o.id) (by rw[hpre];simp) (.inr ⟨[],o,rfl,rfl⟩) ⟨by simp only[ai,ah,cF, *],g1,b1⟩ (by simp only[ai,ah,cT,cF];rfl)).mono ?_
   simp only[rg,hbad,cF]
   exact fun _ _ _ h=>h
  ·have hat2:l[q.length]? =some u:=by rw[hpre];simp
   have hia2:=fun lc=>hl.at qg hat2 lc .i64
   have hws:IntKind.i64.wrap (((q++[u]).length:Int)-1)=((q.length:Nat):Int):=by
    have:(q++[u]).length=q.length+1:=by simp
    rw[this,eh (by omega) (by omega)];omega
   have hi4:di 0 ((q++[u]).length:Nat)=true:=by rw[show(0:Int)=((0:Nat):Int) from rfl,cN];simp
   simp only[d8,d7,jg,ec,kh,isStore,eW,eG,ai,aG,cz,bn,aU,fp,bN,dI,dc,da,ak,aH,aD,bh,bk,bF,bm,bT,dR,cD,dB,du,au,iT,pY,fq,dj,aq,eJ,a7,cw,cu,cT,cF,aP,dq,aR,aY,cut,bO,aZ,bE,e7,dg,bS,tA,aQ,cQ,ah,ar,bJ,aX,Ig,dv,iG,kT,iz,I4,h1,g1,b1,h3,hia,hia2,hws,Obj.val,Obj.cells,h54,hvs,hb1,hi4]
   cases hb4:iE u.id o.id with
   |false=>
    refine fin _ _ _ ?_ fun fr hs h=>?_
    ·simp only[ai,ah,cT,cF,ej]
    ·exact⟨rfl,hs,.inr ⟨rfl,h,by simp only[rg,sr,rd,hb4,ej,pQ,cT]⟩⟩
   |true=>
    have hbad:sr (some u.id) o=false:=by simp only[sr,hb1,rd,hb4,dg,lf]
    refine bc (t:=false) (by simp only[ak,ai,ah,cT,cF,dg]) (b7 ?_)
    simp only[dM,aW]
    refine cp ?_
    unfold ED
    simp only[aw,az,aA,ai,aG,aM,aU,ak,aH,aD,bm,au,dW,aq,a7,cT,cF,aP,dg,bS,tA,ah,ar,h3,hwr,aW]
    refine(ih (q++[u]++[o]) _ (some o.id) (by rw[hpre];simp) (.inr ⟨q++[u],o,rfl,rfl⟩) ⟨by simp only[ai,ah,cF, *],g1,b1⟩ (by simp only[ai,ah,cT,cF,dw,aR,aY])).mono ?_
    simp only[rg,hbad,cF]
    exact fun _ _ _ h=>h
theorem alP (h34:sp 34=none) {v:aj} {l:List Obj} (hl:bH 6 Obj.val v l) (hk: ∀o∈l,o.Good) (hsmall:l.length<small) {s:St} (hm:s.minw<=s.next):bv (QS sp) 34 [.agg [v]] s (.bool (pK l)) s:=by
 have hlen:=fun mk s=>hl.len qm ql mk s
 have hcl:=hl.clean
 have hil:di 1000000 (l.length:Nat)=decide (1000000<l.length):=cN 1000000 _
 refine dZ ahb aha ahd ahc h34 ?_
 unfold Ov
 refine aF ?_
 unfold Ow
 simp only[dr,cZ,aw,az,aA,ai,dp,aM,iA,ak,aH,aD,bF,fv,au,bG,dj,aq,cu,cT,bW,aR,aY,bS,tA,aQ,ar,ck,cd,dT,acf]
 refine aV (aF ?_)
 unfold Ox
 simp only[aw,az,aA,ai,dp,cJ,bU,bn,aU,bN,cG,ak,aH,aD,bh,bk,bm,bT,au,bZ,iT,cW,bG,aq,a7,cT,cF,aP,bW,aZ,bE,bS,tA,cQ,ah,ar,aX,iG,iz,hcl,hlen,hil]
 cases h60:decide (1000000<l.length) with
 |true=>
  refine bc (t:=true) (by simp only[ak,ai,ah,cT,cF]) (aF ?_)
  unfold Oy
  simp only[aw,az,aA,aM,aH,bF,au,tA,ar]
  refine bP ⟨rfl,.inr rfl,bV ?_ rfl⟩
  simp only[ai,ah,cT,cF,pK,h60]
 |false=>
  refine bc (t:=false) (by simp only[ak,ai,ah,cT,cF]) (b7 ?_)
  simp only[aW]
  refine aV (aF ?_)
  unfold Oz
  simp only[aw,az,aA,aM,aH,bm,au,tA,ar]
  refine cR ?_
  refine(alO h54 hl hk hsmall hm l [] _ none rfl (.inl ⟨rfl,rfl⟩) ⟨?_,?_,?_⟩ (by simp only[ai,ah,cT,cF];rfl)).mono ?_
  ·simp only[ai,ah,cT,cF, *]
  ·simp only[dp,cJ,ah,cT]
  ·simp only[bU,ah,cT]
  rintro x ⟨e,sz,lc⟩ s' ⟨rfl,hs,⟨rfl,hok⟩|⟨rfl,h2,hok⟩⟩
  ·have hs:sz=42:=hs
   subst hs
   show W (QS sp) 34 _ _ _ _
   refine aF ?_
   unfold OB
   simp only[aw,az,aA,aM,aH,bF,au,tA,ar]
   refine bP ⟨rfl,.inr rfl,bV ?_ rfl⟩
   simp only[ai,ah,cT,cF,pK,h60,hok]
  ·exact⟨rfl,.inr rfl,bV (by rw[h2];simp only[pK,h60,cF,hok]) rfl⟩
end
def wt:Sp
 | [u]=>(jK u).bind fun l=>some (.bool (pK l))
 |_=>none
theorem alM {v:aj} {l:List Obj} (hl:bH 6 Obj.val v l) (hk: ∀o∈l,o.Good) (hsmall:l.length<small):wt [.agg [v]]=some (.bool (pK l)):=by
 simp only[wt,mq hl hk hsmall,aq]
def U4:fh:=[(54,yR)]
theorem Xu:fI U4:=.cons apZ .nil
theorem alN:ek Tryz.prog 34 wt:=by
 intro args u hv G h w xs wr hx
 unfold wt at hv
 split at hv
 ·simp only[aN,bp] at hv
  obtain⟨l,h1,rfl⟩:=hv
  obtain⟨v,rfl,hl,hg,hs⟩:=kK h1
  obtain⟨ht,v',hw,hl'⟩:=kS hl hg
  have hw:eX [.agg [v]]=[.agg [v']]:=by simp only[eX,hw]
  exact fD (Q:=QT U4) (fB Xu) (fun _=>fG 1) (args:=[.agg [v]]) (v:=.bool (pK l)) (s':=s0) (by simp only[jv,ht,fL]) (by rw[hw];exact alP (sp:=fun f=>eR f U4) rfl rfl hl' hg hs (bK _)) rfl ⟨1,rfl⟩ G h w xs wr hx
 ·cases hv
def hZ (id:aB):List Obj->Nat->Option (Nat×Obj)
 | [],_=>none
 |o::l,i=>bif o.id==id then some (i,o) else hZ id l (i+1)
def nr (r:Option (Nat×Obj)):Int:=match r with|none=> -1|some (k,_)=>(k:Int)
theorem Dq {id:aB}: ∀ {l:List Obj} {i k:Nat} {o:Obj},hZ id l i=some (k,o)->i<=k/\l[k-i]? =some o/\o.id=id
 | [],_,_,_,h=>by cases h
 |a::l,i,k,o,h=>by
  simp only[hZ] at h
  cases hb:a.id==id with
  |true=>
   rw[hb] at h
   simp only[cT,bp,Prod.mk.injEq] at h
   obtain⟨rfl,rfl⟩:=h
   exact⟨bK _,by simp,by simpa using hb⟩
  |false=>
   rw[hb] at h
   obtain⟨h1,h2,h3⟩:=Dq h
   refine⟨by omega,?_,h3⟩
   rw[show k-i=(k-(i+1))+1 by omega];simpa using h2
theorem aaz {sp:FuncId->Option (List aj->Option aj)} {v:aj} {l:List Obj} {id:aB} (hl:bH 6 Obj.val v l) (hsmall:l.length<small) {s:St} {lc:Ag.Loc}: ∀(rest pre:List Obj) (e:bq),l=pre++rest->
 Ce v 2 e lc->ay e 1= .str id->ay e 5= .int .i64 (pre.length:Nat)->
 W (QS sp) 55 (.loop Am) ⟨e,22,lc⟩ s fun x fr s'=>s'=s/\fr.size=22/\((x= .exit 0/\hZ id rest pre.length=none)\/(x= .ret/\ ∃r,hZ id rest pre.length=some r/\ay fr.env 4= .int .i64 (r.1:Nat))):=by
 intro rest
 have hlen:=fun mk s=>hl.len qm ql mk s
 have hcl:=hl.clean
 have hsm:small=9223372036854775808:=rfl
 induction rest with
 |nil=>
  intro pre e hpre I h1 h5
  obtain⟨h2,g2,b2⟩:=I
  have hlen':l.length=pre.length:=by rw[hpre];simp
  refine cY ?_
  unfold Am
  refine aV (aF ?_)
  unfold ET
  simp only[aw,az,aA,ai,aG,bn,aU,bN,cG,ak,aD,bh,bk,bT,au,bZ,cE,cW,bG,aq,a7,cT,cF,aP,bW,aZ,bE,cN,bS,tA,cQ,ah,ar,aX,decide_false,iG,iz,h2,g2,b2,h5,hcl,hlen,hlen',ff]
  refine bc (t:=false) (by simp only[ak,ai,ah,cT,cF, *]) ?_
  exact eL ⟨rfl,rfl,.inl ⟨rfl,rfl⟩⟩
 |cons o rest ih=>
  intro pre e hpre I h1 h5
  obtain⟨h2,g2,b2⟩:=I
  have hlt:pre.length<l.length:=by rw[hpre];simp
  have hat:l[pre.length]? =some o:=by rw[hpre];simp
  have hia:=fun lc=>hl.at qg hat lc .i64
  have hwr:IntKind.i64.wrap ((pre.length:Int)+1)=((pre.length+1:Nat):Int):=by rw[eh (by omega) (by omega)];omega
  refine cY ?_
  unfold Am
  refine aV (aF ?_)
  unfold ET
  simp only[aw,az,aA,ai,aG,bn,aU,bN,cG,ak,aD,bh,bk,bT,au,bZ,cE,cW,bG,aq,a7,cT,cF,aP,bW,aZ,bE,cN,bS,tA,cQ,ah,ar,aX,dT,iG,iz,h2,g2,b2,h5,hcl,hlen,hlt]
  refine bc (t:=true) (by simp only[ak,ai,ah,cT,cF, *]) (b7 ?_)
  simp only[aW]
  refine aV (cR (aF ?_))
  unfold Qk
  simp only[aw,az,aA,ai,aG,bn,aU,bN,dI,ak,aD,bT,dR,au,jr,dj,aq,cw,cT,cF,aP,aZ,bE,bS,tA,cQ,ah,ar,aX,dv,iG,iz,I4,h1,h2,g2,b2,h5,hia,Obj.val,Obj.cells]
  cases hb:o.id==id with
  |true=>
   refine bc (t:=true) (by simp only[ak,ai,ah,cT,cF]) (aF ?_)
   unfold Ql
   simp only[aw,az,aA,ai,aG,aM,ak,au,cT,cF,bS,tA,ah,ar,h5]
   exact bP ⟨rfl,rfl,.inr ⟨rfl,(pre.length,o),by simp only[hZ,hb,cT],by simp only[ai,ah,cT,cF, *]⟩⟩
  |false=>
   refine bc (t:=false) (by simp only[ak,ai,ah,cT,cF]) (b7 ?_)
   simp only[dM,aW]
   refine cp ?_
   unfold Qj
   simp only[aw,az,aA,ai,aG,aM,aU,ak,aH,aD,bm,au,dW,aq,a7,cT,cF,aP,bS,tA,ah,ar,h5,hwr,aW]
   refine(ih (pre++[o]) _ (by rw[hpre];simp) ⟨by simp only[ai,ah,cF, *],g2,b2⟩ (by simp only[ai,ah,cF, *]) (by simp only[ai,ah,cT,cF,dw,aR,aY])).mono ?_
   simp only[hZ,hb,cF,dw,aR,aY]
   exact fun _ _ _ h=>h
theorem aaA {sp:FuncId->Option (List aj->Option aj)} (h55:sp 55=none) {v:aj} {l:List Obj} (id:aB) (hl:bH 6 Obj.val v l) (hsmall:l.length<small) (s:St):bv (QS sp) 55 [.agg [v],.str id] s (.int .i64 (nr (hZ id l 0))) s:=by
 have hcl:=hl.clean
 refine dZ aiK aiJ aiM aiL h55 ?_
 unfold Qg
 refine aF ?_
 unfold Qh
 simp only[dr,cZ,aw,az,aA,ai,dp,aM,iA,ak,aH,aD,bm,fv,au,bG,dj,aq,cu,cT,cF,bW,aR,aY,bS,tA,aQ,ah,ar,bJ,ck,cd,dT,acx]
 refine aV (aF ?_)
 unfold Qi
 simp only[aw,az,aA,aM,aH,bm,au,tA,ar]
 refine cR ?_
 refine(aaz (id:=id) hl hsmall l [] _ rfl ⟨?_,?_,?_⟩ ?_ (by simp only[ai,ah,cT,cF];rfl)).mono ?_
 ·simp only[ai,ah,cT,cF, *]
 ·simp only[dp,cJ,ah,cT]
 ·simp only[bU,ah,cT]
 ·simp only[ai,ah,cT,cF, *]
 rintro x ⟨e,sz,lc⟩ s' ⟨rfl,hs,⟨rfl,hok⟩|⟨rfl,r,hok,h2⟩⟩
 ·have hs:sz=22:=hs
  subst hs
  show W (QS sp) 55 _ _ _ _
  refine aF ?_
  unfold Qm
  simp only[aw,az,aA,aM,aH,bm,au,tA,ar]
  refine bP ⟨rfl,.inr rfl,bV ?_ rfl⟩
  have hok:hZ id l 0=none:=hok
  simp only[ai,ah,cT,hok,nr]
 ·have hok:hZ id l 0=some r:=hok
  exact⟨rfl,.inr rfl,bV (by rw[h2,hok];rfl) rfl⟩
def v8:Sp
 | [u,.str id]=>(jK u).bind fun l=>some (.int .i64 (nr (hZ id l 0)))
 |_=>none
theorem aax {v:aj} {l:List Obj} (id:aB) (hl:bH 6 Obj.val v l) (hk: ∀o∈l,o.Good) (hsmall:l.length<small):v8 [.agg [v],.str id]=some (.int .i64 (nr (hZ id l 0))):=by
 simp only[v8,mq hl hk hsmall,aq]
theorem aay:ek Tryz.prog 55 v8:=by
 intro args u hv G h w xs wr hx
 unfold v8 at hv
 split at hv
 ·rename_i id
  simp only[aN,bp] at hv
  obtain⟨l,h1,rfl⟩:=hv
  obtain⟨v,rfl,hl,hg,hs⟩:=kK h1
  obtain⟨ht,v',hw,hl'⟩:=kS hl hg
  have hw:eX [.agg [v],.str id]=[.agg [v'],.str id]:=by rw[eX,hw];rfl
  exact fD (Q:=QT []) (fB .nil) (fun _=>fG 1) (args:=[.agg [v],.str id]) (v:=.int .i64 (nr (hZ id l 0))) (s':=s0) (by show(iZ (.agg [v])&&(iZ (.str id)&&true))=true;rw[ht];rfl) (by rw[hw];exact aaA (sp:=fun f=>eR f []) rfl id hl' hs s0) rfl ⟨1,rfl⟩ G h w xs wr hx
 ·cases hv
def oY (kind i:Int):Int:=bif bz kind 4 then 2 else bif bz kind 5 then bif bz i 1 then 1 else 2 else 1
theorem aqc {sp:FuncId->Option (List aj->Option aj)} (h56:sp 56=none) (k i:Int) (s:St):bv (QS sp) 56 [.int .i64 k,.int .i64 i] s (.int .i64 (oY k i)) s:=by
 refine dZ aiO aiN aiQ aiP h56 ?_
 unfold Qn
 refine aF ?_
 unfold Qo
 simp only[dr,cZ,aw,az,aA,aM,aH,bm,au,cT,aR,aY,tA,aQ,ar,bJ,ck,cd,dT]
 refine aV (aF ?_)
 unfold Qp
 have fin: ∀e' lc',ay e' 14= .bool true->oY k i=2->W (QS sp) 56 (.cond (aa 14) (.seq (.region EU) .ret) .skip) ⟨e',15,lc'⟩ s fun x fr s'=>x= .ret/\s'=s/\ay fr.env 4= .int .i64 (oY k i):=by
  intro e' lc' h hw
  refine bc (t:=true) (by simp only[ak,h]) (aF ?_)
  unfold EU
  simp only[aw,az,aA,aM,aH,bm,au,tA,ar]
  exact bP ⟨rfl,rfl,by simp only[ai,ah,cT,hw]⟩
 cases h4:bz k 4 with
 |true=>
  simp only[aw,az,de,aA,eH,ip,pN,ai,aG,cz,aU,ak,aH,aD,bF,bm,cD,dB,au,gJ,aq,a7,cT,cF,aP,bS,tA,ah,ar,h4]
  refine(fin _ _ (by simp only[ai,ah,cT,cF, *]) (by simp only[oY,h4,cT])).mono ?_
  rintro x fr s' ⟨rfl,rfl,h⟩
  exact⟨rfl,.inr rfl,bV h rfl⟩
 |false=>
 cases h5:bz k 5 with
 |false=>
  simp only[aw,az,de,aA,dQ,eH,fR,eG,ai,aG,cz,aU,ak,aH,aD,bF,bm,cD,du,au,gJ,aq,a7,cT,cF,aP,bS,tA,ah,ar,h4,h5]
  refine bc (t:=false) (by simp only[ak,ai,ah,cT,cF, *]) (b7 ?_)
  simp only[aW]
  refine aF ?_
  unfold EV
  simp only[aw,az,aA,aM,aH,bm,au,tA,ar]
  refine bP ⟨rfl,.inr rfl,bV ?_ rfl⟩
  simp only[ai,ah,cT,cF,oY,h4,h5]
 |true=>
 cases h1:bz i 1 with
 |false=>
  simp only[aw,az,de,aA,dQ,eW,eG,ai,aG,cz,aU,ak,aH,aD,bF,bm,cD,dB,du,au,gJ,pg,aq,a7,cT,cF,aP,ej,bS,tA,ah,ar,h4,h5,h1]
  refine(fin _ _ (by simp only[ai,ah,cT,cF, *]) (by simp only[oY,h4,h5,h1,cT,cF])).mono ?_
  rintro x fr s' ⟨rfl,rfl,h⟩
  exact⟨rfl,.inr rfl,bV h rfl⟩
 |true=>
  simp only[aw,az,de,aA,dQ,eW,eG,ai,aG,cz,aU,ak,aH,aD,bF,bm,cD,dB,du,au,gJ,pg,aq,a7,cT,cF,aP,dg,bS,tA,ah,ar,h4,h5,h1]
  refine bc (t:=false) (by simp only[ak,ai,ah,cT,cF, *]) (b7 ?_)
  simp only[aW]
  refine aF ?_
  unfold EV
  simp only[aw,az,aA,aM,aH,bm,au,tA,ar]
  refine bP ⟨rfl,.inr rfl,bV ?_ rfl⟩
  simp only[ai,ah,cT,cF,oY,h4,h5,h1]
def yT:Sp
 | [.int .i64 k,.int .i64 i]=>some (.int .i64 (oY k i))
 |_=>none
theorem aqb:ek Tryz.prog 56 yT:=by
 intro args u hv G h w xs wr hx
 unfold yT at hv
 split at hv
 ·rename_i k i
  injection hv with hv;subst hv
  exact fD (Q:=QT []) (fB .nil) (fun _=>fG 1) (args:=[.int .i64 k,.int .i64 i]) (v:=.int .i64 (oY k i)) (s':=s0) rfl (aqc (sp:=fun f=>eR f []) rfl k i s0) rfl ⟨1,rfl⟩ G h w xs wr hx
 ·cases hv
def mM (l:List Obj) (kind:Int):Nat->List aB->Int
 |_,[]=>0
 |i,r::rest=>match hZ r l 0 with
  |none=>14
  |some (_,q)=>bif bz q.kind (oY kind (i:Nat)) then mM l kind (i+1) rest else 13
structure W9 (v:aj) (o:Obj) (e:bq) (lc:Ag.Loc):Prop where
 h2:ay e 2= .lref 2 1 0
 g2:lc.gen 2=1
 b2:lc.get 2 1=some [v]
 h3:ay e 3= .lref 3 1 0
 g3:lc.gen 3=1
 b3:lc.get 3 1=some o.cells
section
variable {sp:FuncId->Option (List aj->Option aj)} (h55:sp 55=some v8) (h56:sp 56=some yT)
include h55 h56
theorem ZF {v:aj} {l:List Obj} {o:Obj} (ho:o.Good) (hl:bH 6 Obj.val v l) (hk: ∀o∈l,o.Good) (hsmall:l.length<small) {s:St} (hm:s.minw<=s.next) {lc:Ag.Loc}: ∀(rest pre:List aB) (e:bq),o.refs=pre++rest->
 W9 v o e lc->ay e 5= .int .i64 (pre.length:Nat)->
 W (QS sp) 35 (.loop z6) ⟨e,34,lc⟩ s fun x fr s'=>s'=s/\fr.size=34/\((x= .exit 0/\mM l o.kind pre.length rest=0)\/(x= .ret/\ay fr.env 4= .int .i64 (mM l o.kind pre.length rest))):=by
 intro rest
 have hlen:=fun mk s=>ho.refs.len iV jl mk s
 have hcl:=ho.refs.clean
 have hmc:=hl.clean
 have hsm:small=9223372036854775808:=rfl
 have hrl:=ho.reflen
 induction rest with
 |nil=>
  intro pre e hpre I h5
  obtain⟨h2,g2,b2,h3,g3,b3⟩:=I
  have hlen':o.refs.length=pre.length:=by rw[hpre];simp
  refine cY ?_
  unfold z6
  refine aV (aF ?_)
  unfold EF
  simp only[aw,az,aA,ai,aG,bn,aU,bN,cG,ak,aD,bh,bk,bT,au,bZ,cE,cW,bG,aq,a7,cT,cF,aP,bW,aZ,bE,cN,bS,tA,aQ,ah,ar,aX,decide_false,fT,kx,h3,g3,b3,Obj.cells,h5,hcl,hlen,hlen',ff]
  refine bc (t:=false) (by simp only[ak,ai,ah,cT,cF, *]) ?_
  exact eL ⟨rfl,rfl,.inl ⟨rfl,rfl⟩⟩
 |cons r rest ih=>
  intro pre e hpre I h5
  obtain⟨h2,g2,b2,h3,g3,b3⟩:=I
  have hlt:pre.length<o.refs.length:=by rw[hpre];simp
  have hat:o.refs[pre.length]? =some r:=by rw[hpre];simp
  have hia:=fun lc=>ho.refs.at lF hat lc .i64
  have hfs:=aax r hl hk hsmall
  have hwr:IntKind.i64.wrap ((pre.length:Int)+1)=((pre.length+1:Nat):Int):=by rw[eh (by omega) (by omega)];omega
  refine cY ?_
  unfold z6
  refine aV (aF ?_)
  unfold EF
  simp only[aw,az,aA,ai,aG,bn,aU,bN,cG,ak,aD,bh,bk,bT,au,bZ,cE,cW,bG,aq,a7,cT,cF,aP,bW,aZ,bE,cN,bS,tA,aQ,ah,ar,aX,dT,fT,kx,h3,g3,b3,Obj.cells,h5,hcl,hlen,hlt]
  refine bc (t:=true) (by simp only[ak,ai,ah,cT,cF, *]) (b7 ?_)
  simp only[aW]
  refine aV (cR (ll hm ?_))
  unfold OH
  simp only[d8,d7,ec,isStore,ai,aG,aM,bn,bN,dI,dc,da,ak,aD,bh,bk,bT,dR,au,ji,aq,cw,cu,cT,cF,aP,dq,aR,aY,cut,bO,aZ,bE,bS,tA,aQ,ah,ar,aX,dv,iY,fT,kx,h2,b2,h3,g3,b3,Obj.cells,h5,hia,bB,h55,hfs]
  refine aV (aF ?_)
  unfold OI
  cases hf:hZ r l 0 with
  |none=>
   have hi:di (nr (none:Option (Nat×Obj))) 0=true:=rfl
   simp only[aw,az,aA,ai,aG,aU,ak,aH,aD,bm,au,cE,aq,a7,cT,cF,aP,bS,tA,ah,ar,hi]
   refine bc (t:=true) (by simp only[ak,ai,ah,cT,cF, *]) (aF ?_)
   unfold OJ
   simp only[aw,az,aA,aM,aH,bm,au,tA,ar]
   refine bP ⟨rfl,rfl,.inr ⟨rfl,?_⟩⟩
   simp only[ai,ah,cT,cF,mM,hf]
  |some kq=>
   obtain⟨k,q⟩:=kq
   obtain⟨_,hq,_⟩:=Dq hf
   rw[Nat.sub_zero] at hq
   have hia2:=fun lc=>hl.at qg hq lc .i64
   have hpv:nr (some (k,q))=((k:Nat):Int):=rfl
   have hi:di ((k:Nat):Int) 0=false:=by rw[show(0:Int)=((0:Nat):Int) from rfl,cN];simp
   have hws:yT [.int .i64 o.kind,.int .i64 (pre.length:Nat)]=some (.int .i64 (oY o.kind (pre.length:Nat))):=rfl
   simp only[aw,az,aA,ai,aG,aU,ak,aH,aD,bm,au,cE,aq,a7,cT,cF,aP,bS,tA,ah,ar,hpv,hi]
   refine bc (t:=false) (by simp only[ak,ai,ah,cT,cF, *]) (b7 ?_)
   simp only[aW]
   refine ll hm ?_
   unfold OL
   simp only[d8,d7,ec,isStore,ai,aG,bn,aU,bN,dI,dc,da,ak,aD,bh,bk,bT,dR,au,pg,dj,aq,a7,cT,cF,aP,dq,aZ,bE,bS,tA,aQ,cQ,ah,ar,aX,eC,iG,iz,lS,Z7,h2,g2,b2,h3,g3,b3,Obj.val,Obj.cells,h5,hia2,h56,hws]
   cases hw:bz q.kind (oY o.kind (pre.length:Nat)) with
   |false=>
    refine bc (t:=true) (by simp only[ak,ai,ah,cT,cF,ej]) (aF ?_)
    unfold OM
    simp only[aw,az,aA,aM,aH,bm,au,ej,tA,ar]
    refine bP ⟨rfl,rfl,.inr ⟨rfl,?_⟩⟩
    simp only[ai,ah,cT,cF,mM,hf,hw]
   |true=>
    refine bc (t:=false) (by simp only[ak,ai,ah,cT,cF,dg]) (b7 ?_)
    simp only[dM,aW]
    refine cp ?_
    unfold OG
    simp only[aw,az,aA,ai,aG,aM,aU,ak,aH,aD,bm,au,dW,aq,a7,cT,cF,aP,dg,bS,tA,ah,ar,h5,hwr,aW]
    refine(ih (pre++[r]) _ (by rw[hpre];simp) ⟨by simp only[ai,ah,cF, *],g2,b2,by simp only[ai,ah,cF, *],g3,b3⟩ (by simp only[ai,ah,cT,cF,dw,aR,aY])).mono ?_
    simp only[mM,hf,hw,cT,dw,aR,aY]
    exact fun _ _ _ h=>h
theorem ZG (h35:sp 35=none) {v:aj} {l:List Obj} {o:Obj} (ho:o.Good) (hl:bH 6 Obj.val v l) (hk: ∀o∈l,o.Good) (hsmall:l.length<small) {s:St} (hm:s.minw<=s.next):bv (QS sp) 35 [.agg [v],o.val] s (.int .i64 (mM l o.kind 0 o.refs)) s:=by
 have hmc:=hl.clean
 have hcl:=ho.refs.clean
 have htl:=ho.tags.clean
 refine dZ ahh ahg ahj ahi h35 ?_
 unfold OC
 refine aF ?_
 unfold OD
 simp only[dr,cZ,aw,az,aA,ai,dp,cJ,aM,iA,ak,aH,aD,bm,fv,au,bG,dj,aq,cu,cT,cF,bW,aR,aY,bS,tA,aQ,ah,ar,bJ,ck,cd,dT,acg,ach,Obj.val,Obj.cells]
 refine aV (aF ?_)
 unfold OE
 simp only[aw,az,aA,aM,aH,bm,au,tA,ar]
 refine cR ?_
 refine(ZF h55 h56 ho hl hk hsmall hm o.refs [] _ rfl ⟨?_,?_,?_,?_,?_,?_⟩ (by simp only[ai,ah,cT,cF];rfl)).mono ?_
 ·simp only[ai,ah,cT,cF, *]
 ·simp only[dp,cJ,ah,cT,cF]
 ·simp only[bU,ah,cT,cF]
 ·simp only[ai,ah,cT,cF, *]
 ·simp only[dp,cJ,ah,cT,cF]
 ·simp only[bU,ah,cT,cF,Obj.cells]
 rintro x ⟨e,sz,lc⟩ s' ⟨rfl,hs,⟨rfl,hok⟩|⟨rfl,h2⟩⟩
 ·have hs:sz=34:=hs
  subst hs
  show W (QS sp) 35 _ _ _ _
  refine aF ?_
  unfold ON
  simp only[aw,az,aA,aM,aH,bm,au,tA,ar]
  refine bP ⟨rfl,.inr rfl,bV ?_ rfl⟩
  have hok:mM l o.kind 0 o.refs=0:=hok
  simp only[ai,ah,cT,hok]
 ·exact⟨rfl,.inr rfl,bV h2 rfl⟩
end
def vS:Sp
 | [u,ov]=>(jK u).bind fun l=>(mr ov).bind fun o=>some (.int .i64 (mM l o.kind 0 o.refs))
 |_=>none
theorem ZD {v:aj} {l:List Obj} {o:Obj} (ho:o.Good) (hl:bH 6 Obj.val v l) (hk: ∀o∈l,o.Good) (hsmall:l.length<small):vS [.agg [v],o.val]=some (.int .i64 (mM l o.kind 0 o.refs)):=by
 simp only[vS,mq hl hk hsmall,um ho,aq]
def U5:fh:=[(55,v8),(56,yT)]
theorem Xv:fI U5:=.cons aay (.cons aqb .nil)
theorem ZE:ek Tryz.prog 35 vS:=by
 intro args u hv G h w xs wr hx
 unfold vS at hv
 split at hv
 ·simp only[aN,bp] at hv
  obtain⟨l,h1,o,h2,rfl⟩:=hv
  obtain⟨v,rfl,hl,hg,hs⟩:=kK h1
  obtain⟨rfl,ho⟩:=rP h2
  obtain⟨ht,v',hw,hl'⟩:=kS hl hg
  have ho':weak o.val=o.val:=BW ho.pure
  have hw:eX [.agg [v],o.val]=[.agg [v'],o.val]:=by rw[eX,hw,eX,ho'];rfl
  exact fD (Q:=QT U5) (fB Xv) (fun _=>fG 1) (args:=[.agg [v],o.val]) (v:=.int .i64 (mM l o.kind 0 o.refs)) (s':=s0) (by show(iZ (.agg [v])&&(iZ o.val&&true))=true;rw[ht,WK ho.pure];rfl) (by rw[hw];exact ZG (sp:=fun f=>eR f U5) rfl rfl rfl ho hl' hg hs (bK _)) rfl ⟨1,rfl⟩ G h w xs wr hx
 ·cases hv
def sW (l:List Obj):List Obj->Bool
 | []=>true
 |o::r=>bif bz (mM l o.kind 0 o.refs) 0 then sW l r else false
def pm (l:List Obj):Bool:=bif pK l then sW l l else false
section
variable {sp:FuncId->Option (List aj->Option aj)} (h35:sp 35=some vS)
include h35
theorem YV {v:aj} {l:List Obj} (hl:bH 6 Obj.val v l) (hk: ∀o∈l,o.Good) (hsmall:l.length<small) {s:St} (hm:s.minw<=s.next) {lc:Ag.Loc}: ∀(rest pre:List Obj) (e:bq),l=pre++rest->
 Ce v 1 e lc->ay e 3= .int .i64 (pre.length:Nat)->
 W (QS sp) 12 (.loop zO) ⟨e,22,lc⟩ s fun x fr s'=>s'=s/\fr.size=22/\((x= .exit 0/\sW l rest=true)\/(x= .ret/\ay fr.env 2= .bool false/\sW l rest=false)):=by
 intro rest
 have hlen:=fun mk s=>hl.len qm ql mk s
 have hcl:=hl.clean
 have hsm:small=9223372036854775808:=rfl
 induction rest with
 |nil=>
  intro pre e hpre I h3
  obtain⟨h1,g1,b1⟩:=I
  have hlen':l.length=pre.length:=by rw[hpre];simp
  refine cY ?_
  unfold zO
  refine aV (aF ?_)
  unfold Ee
  simp only[aw,az,aA,ai,aG,bn,aU,bN,cG,ak,aD,bh,bk,bT,au,bZ,cE,cW,bG,aq,a7,cT,cF,aP,bW,aZ,bE,cN,bS,tA,cQ,ah,ar,aX,decide_false,iG,iz,h1,g1,b1,h3,hcl,hlen,hlen',ff]
  refine bc (t:=false) (by simp only[ak,ai,ah,cT,cF, *]) ?_
  exact eL ⟨rfl,rfl,.inl ⟨rfl,rfl⟩⟩
 |cons o rest ih=>
  intro pre e hpre I h3
  obtain⟨h1,g1,b1⟩:=I
  have hlt:pre.length<l.length:=by rw[hpre];simp
  have hat:l[pre.length]? =some o:=by rw[hpre];simp
  have hia:=fun lc=>hl.at qg hat lc .i64
  have ho:=hk o (kE hat)
  have hes:=ZD ho hl hk hsmall
  simp only[Obj.val,Obj.cells] at hes
  have hwr:IntKind.i64.wrap ((pre.length:Int)+1)=((pre.length+1:Nat):Int):=by rw[eh (by omega) (by omega)];omega
  refine cY ?_
  unfold zO
  refine aV (aF ?_)
  unfold Ee
  simp only[aw,az,aA,ai,aG,bn,aU,bN,cG,ak,aD,bh,bk,bT,au,bZ,cE,cW,bG,aq,a7,cT,cF,aP,bW,aZ,bE,cN,bS,tA,cQ,ah,ar,aX,dT,iG,iz,h1,g1,b1,h3,hcl,hlen,hlt]
  refine bc (t:=true) (by simp only[ak,ai,ah,cT,cF, *]) (b7 ?_)
  simp only[aW]
  refine aV (cR (ll hm ?_))
  unfold LC
  simp only[d8,d7,ec,isStore,ai,aG,bn,aU,bN,dI,dc,da,ak,aH,aD,bh,bk,bm,bT,dR,au,pg,dj,aq,a7,cu,cT,cF,aP,dq,aR,aY,cut,bO,aZ,bE,e7,bS,tA,aQ,cQ,ah,ar,bJ,aX,iG,iY,kT,iz,h1,g1,b1,h3,hia,Obj.val,Obj.cells,h35,hes]
  cases hz:bz (mM l o.kind 0 o.refs) 0 with
  |false=>
   refine bc (t:=true) (by simp only[ak,ai,ah,cT,cF,ej]) (aF ?_)
   unfold LD
   simp only[aw,az,aA,aM,aH,bF,au,ej,tA,ar]
   exact bP ⟨rfl,rfl,.inr ⟨rfl,by simp only[ai,ah,cT,cF, *],by simp only[sW,hz,cF]⟩⟩
  |true=>
   refine bc (t:=false) (by simp only[ak,ai,ah,cT,cF,dg]) (b7 ?_)
   simp only[dM,aW]
   refine cp ?_
   unfold LA
   simp only[aw,az,aA,ai,aG,aM,aU,ak,aH,aD,bm,au,dW,aq,a7,cT,cF,aP,dg,bS,tA,ah,ar,h3,hwr,aW]
   refine(ih (pre++[o]) _ (by rw[hpre];simp) ⟨by simp only[ai,ah,cF, *],g1,b1⟩ (by simp only[ai,ah,cT,cF,dw,aR,aY])).mono ?_
   simp only[sW,hz,cT]
   exact fun _ _ _ h=>h
theorem YW (h34:sp 34=some wt) (h12:sp 12=none) {v:aj} {l:List Obj} (hl:bH 6 Obj.val v l) (hk: ∀o∈l,o.Good) (hsmall:l.length<small) {s:St} (hm:s.minw<=s.next):bv (QS sp) 12 [.agg [v]] s (.bool (pm l)) s:=by
 have hcl:=hl.clean
 have hms:=alM hl hk hsmall
 refine dZ afe afd afg aff h12 ?_
 unfold KJ
 refine aF ?_
 unfold Lw
 simp only[dr,cZ,aw,az,aA,ai,dp,aM,iA,ak,aH,aD,bF,fv,au,bG,dj,aq,cu,cT,bW,aR,aY,bS,tA,aQ,ar,ck,cd,dT,abH]
 refine aV (aF ?_)
 unfold Lx
 simp only[aw,az,aA,ai,bU,bn,fp,dc,da,ak,aD,bh,bk,bT,au,fq,aq,eJ,cu,cT,cF,aP,dq,aR,aY,cut,bO,aZ,bS,tA,aQ,ah,ar,aX,iY,h34,hms]
 cases hv:pK l with
 |false=>
  refine bc (t:=true) (by simp only[ak,ai,ah,cT,cF,ej]) (aF ?_)
  unfold Ly
  simp only[aw,az,aA,aM,aH,bF,au,ej,tA,ar]
  refine bP ⟨rfl,.inr rfl,bV ?_ rfl⟩
  simp only[ai,ah,cT,cF,pm,hv]
 |true=>
  refine bc (t:=false) (by simp only[ak,ai,ah,cT,cF,dg]) (b7 ?_)
  simp only[aW]
  refine aV (aF ?_)
  unfold Lz
  simp only[aw,az,aA,aM,aH,bm,au,dg,tA,ar]
  refine cR ?_
  refine(YV h35 hl hk hsmall hm l [] _ rfl ⟨?_,?_,?_⟩ (by simp only[ai,ah,cT,cF];rfl)).mono ?_
  ·simp only[ai,ah,cT,cF, *]
  ·simp only[dp,cJ,ah,cT]
  ·simp only[bU,ah,cT]
  rintro x ⟨e,sz,lc⟩ s' ⟨rfl,hs,⟨rfl,hok⟩|⟨rfl,h2,hok⟩⟩
  ·have hs:sz=22:=hs
   subst hs
   show W (QS sp) 12 _ _ _ _
   refine aF ?_
   unfold LF
   simp only[aw,az,aA,aM,aH,bF,au,tA,ar]
   refine bP ⟨rfl,.inr rfl,bV ?_ rfl⟩
   simp only[ai,ah,cT,pm,hv,hok]
  ·exact⟨rfl,.inr rfl,bV (by rw[h2];simp only[pm,hv,cT,hok]) rfl⟩
end
def vI:Sp
 | [u]=>(jK u).bind fun l=>some (.bool (pm l))
 |_=>none
theorem CQ {v:aj} {l:List Obj} (hl:bH 6 Obj.val v l) (hk: ∀o∈l,o.Good) (hsmall:l.length<small):vI [.agg [v]]=some (.bool (pm l)):=by
 simp only[vI,mq hl hk hsmall,aq]
def U6:fh:=[(35,vS),(34,wt)]
theorem Xw:fI U6:=.cons ZE (.cons alN .nil)
theorem YU:ek Tryz.prog 12 vI:=by
 intro args u hv G h w xs wr hx
 unfold vI at hv
 split at hv
 ·simp only[aN,bp] at hv
  obtain⟨l,h1,rfl⟩:=hv
  obtain⟨v,rfl,hl,hg,hs⟩:=kK h1
  obtain⟨ht,v',hw,hl'⟩:=kS hl hg
  have hw:eX [.agg [v]]=[.agg [v']]:=by simp only[eX,hw]
  exact fD (Q:=QT U6) (fB Xw) (fun _=>fG 1) (args:=[.agg [v]]) (v:=.bool (pm l)) (s':=s0) (by simp only[jv,ht,fL]) (by rw[hw];exact YW (sp:=fun f=>eR f U6) rfl rfl rfl hl' hg hs (bK _)) rfl ⟨1,rfl⟩ G h w xs wr hx
 ·cases hv
theorem Wy (o q:cM):(o==q)=(bif o.1==q.1 then bif o.2==q.2 then true else false else false):=by
 obtain⟨a,b⟩:=o
 obtain⟨c,d⟩:=q
 show((a==c)&&(b==d))=_
 cases a==c<;>cases b==d<;>rfl
theorem Zt {sp:FuncId->Option (List aj->Option aj)} {v u:aj} {l r:List aB} (hl:bH 1 bB v l) (hu:bH 1 bB u r) (hlen2:l.length=r.length) (hsmall:l.length<small) {s:St} (hm:s.minw<=s.next) {lc:Ag.Loc}: ∀(rest rest2 pre pre2:List aB) (e:bq),l=pre++rest->r=pre2++rest2->pre.length=pre2.length->
 ay e 0=v->ay e 1=u->ay e 12= .int .i64 (l.length:Nat)->ay e 13= .int .i64 (pre.length:Nat)->
 W (QS sp) 37 (.loop z7) ⟨e,26,lc⟩ s fun x fr s'=>s'=s/\fr.size=26/\((x= .exit 0/\(rest==rest2)=true)\/(x= .ret/\ay fr.env 4= .bool false/\(rest==rest2)=false)):=by
 intro rest
 have hcl:=hl.clean
 have hcu:=hu.clean
 have hsm:small=9223372036854775808:=rfl
 induction rest with
 |nil=>
  intro rest2 pre pre2 e hpre hpre2 hpp h0 h1 h12 h13
  have hl':l.length=pre.length:=by rw[hpre];simp
  have h2:rest2=[]:=by
   have:r.length=pre2.length+rest2.length:=by rw[hpre2];simp
   exact rE (by omega)
  subst h2
  refine cY ?_
  unfold z7
  refine aV (cp ?_)
  unfold EH
  simp only[aw,az,aA,aU,ak,aD,au,cE,aq,a7,cT,aP,cN,bS,and_true,tA,ar,decide_false,h12,h13,hl',ff,aW]
  refine aV (bc (t:=false) (by simp only[ak,ai,ah,cT, *]) ?_)
  exact eL ⟨rfl,rfl,.inl rfl⟩
 |cons o rest ih=>
  intro rest2 pre pre2 e hpre hpre2 hpp h0 h1 h12 h13
  have hlt:pre.length<l.length:=by rw[hpre];simp
  have hat:l[pre.length]? =some o:=by rw[hpre];simp
  cases rest2 with
  |nil=>
   have:r.length=pre2.length:=by rw[hpre2];simp
   omega
  |cons q rest2=>
  have hat2:r[pre.length]? =some q:=by rw[hpre2,hpp];simp
  have hia:=fun lc=>hl.at lF hat lc .i64
  have hiu:=fun lc=>hu.at lF hat2 lc .i64
  have hwr:IntKind.i64.wrap ((pre.length:Int)+1)=((pre.length+1:Nat):Int):=by rw[eh (by omega) (by omega)];omega
  refine cY ?_
  unfold z7
  refine aV (cp ?_)
  unfold EH
  simp only[aw,az,aA,aU,ak,aD,au,cE,aq,a7,cT,aP,cN,tA,ar,dT,h12,h13,hlt,aW]
  refine aV (bc (t:=true) (by simp only[ak,ai,ah,cT, *]) (b7 ?_))
  simp only[aW]
  refine aV (cR (aF ?_))
  unfold O8
  simp only[aw,az,aA,ai,aG,aM,ak,au,cT,cF,bS,tA,ah,ar,h13]
  refine aV (W.drawQ hm ?_)
  unfold O9
  simp only[d8,d7,ec,isStore,ai,aG,bn,aU,dI,ak,aD,dR,au,qM,ji,aq,cw,cT,cF,aP,aZ,bE,bS,tA,ah,ar,dv,h0,h1,hia,hiu,bB,aW]
  cases hb:o==q with
  |false=>
   refine bc (t:=true) (by simp only[ak,ai,ah,cT,cF,ej]) (aF ?_)
   unfold Pa
   simp only[aw,az,aA,aM,aH,bF,au,ej,tA,ar]
   refine bP ⟨rfl,rfl,.inr ⟨rfl,by simp only[ai,ah,cT,cF, *],?_⟩⟩
   simp only[B5,hb,jR]
  |true=>
   refine bc (t:=false) (by simp only[ak,ai,ah,cT,cF,dg]) (b7 ?_)
   simp only[dM,aW]
   refine cp ?_
   unfold Pb
   simp only[aw,az,aA,ai,aG,aU,ak,aH,aD,bm,au,dW,aq,a7,cT,cF,aP,dg,bS,tA,ah,ar,h13,hwr,aW]
   refine(ih rest2 (pre++[o]) (pre2++[q]) _ (by rw[hpre];simp) (by rw[hpre2];simp) (by simp[hpp]) (by simp only[ai,ah,cF, *]) (by simp only[ai,ah,cF, *]) (by simp only[ai,ah,cF, *]) (by simp only[ai,ah,cT,cF,dw,aR,aY])).mono ?_
   simp only[B5,hb,iq]
   exact fun _ _ _ h=>h
theorem Zu {sp:FuncId->Option (List aj->Option aj)} (h0:sp 37=none) {v u:aj} {l r:List aB} (hl:bH 1 bB v l) (hu:bH 1 bB u r) (hsmall:l.length<small) {s:St} (hm:s.minw<=s.next):bv (QS sp) 37 [v,u] s (.bool (l==r)) s:=by
 have hlen:=fun mk s=>hl.len iV jl mk s
 have hlen2:=fun mk s=>hu.len iV jl mk s
 have hcl:=hl.clean
 have hcu:=hu.clean
 refine dZ ahr ahq aht ahs h0 ?_
 unfold O3
 refine aF ?_
 unfold O4
 simp only[dr,cZ,aw,az,aA,aM,aH,bF,au,cT,aR,aY,tA,aQ,ar,bJ,ck,cd,dT]
 refine aV (aF ?_)
 unfold O5
 simp only[aw,az,aA,ai,aG,aU,cG,ak,aD,bh,bk,au,bZ,pg,cW,bG,aq,a7,cT,cF,aP,bW,bS,tA,ah,ar,aX,acm,acn,hcl,hcu,hlen,hlen2,qh]
 cases hb:l.length==r.length with
 |false=>
  refine bc (t:=true) (by simp only[ak,ai,ah,cT,cF,ej]) (aF ?_)
  unfold O6
  simp only[aw,az,aA,aM,aH,bF,au,ej,tA,ar]
  refine bP ⟨rfl,.inr rfl,bV ?_ rfl⟩
  have:(l==r)=false:=beq_eq_false_iff_ne.2 fun e=>by subst e;simp at hb
  simp only[ai,ah,cT,cF,this]
 |true=>
  have hll:l.length=r.length:=by simpa using hb
  refine bc (t:=false) (by simp only[ak,ai,ah,cT,cF,dg]) (b7 ?_)
  simp only[aW]
  refine aV (W.sseq (cp ?_))
  unfold O7
  simp only[aw,az,aA,ai,aG,cG,ak,aH,aD,bh,bk,bm,au,bZ,cW,bG,aq,cT,cF,aP,bW,dg,bS,tA,ah,ar,aX,acl,hcl,hlen,aW]
  refine cR ?_
  refine(Zt hl hu hll hsmall hm l r [] [] _ rfl rfl rfl (by simp only[ai,ah,cT,cF, *]) (by simp only[ai,ah,cT,cF, *]) (by simp only[ai,ah,cT,cF, *]) (by simp only[ai,ah,cT,cF];rfl)).mono ?_
  rintro x ⟨e,sz,lc⟩ s' ⟨rfl,hs,⟨rfl,hok⟩|⟨rfl,h4,hok⟩⟩
  ·have hs:sz=26:=hs
   subst hs
   show W (QS sp) 37 _ _ _ _
   refine aF ?_
   unfold Pc
   simp only[aw,az,aA,aM,aH,bF,au,tA,ar]
   refine bP ⟨rfl,.inr rfl,bV ?_ rfl⟩
   simp only[ai,ah,cT,hok]
  ·exact⟨rfl,.inr rfl,bV (by rw[h4,hok]) rfl⟩
def qc:Sp
 | [a,b]=>bif pures [a,b] then(ic 1 mw a).bind fun l=>(ic 1 mw b).bind fun r=>bif cg l.length small then some (.bool (l==r)) else none else none
 |_=>none
theorem zr {v u:aj} {l r:List aB} (hl:bH 1 bB v l) (hu:bH 1 bB u r) (hv:cx v=true) (hu2:cx u=true) (hs:l.length<small):qc [v,u]=some (.bool (l==r)):=by
 have q1:cg l.length small=true:=fe hs
 simp only[qc,pures,hv,hu2,fL,cT,ka pf hl,ka pf hu,aq,q1]
theorem I1:ek Tryz.prog 37 qc:=by
 intro args x hv G h w xs wr hx
 unfold qc at hv
 split at hv
 ·rename_i a b
  obtain⟨hp,hv⟩:=cq hv
  simp only[aN] at hv
  obtain⟨l,h1,r,h2,hv⟩:=hv
  obtain⟨hs,hv⟩:=cq hv
  injection hv with hv;subst hv
  have hl:=jA (fun v a=>pd) h1
  have hr:=jA (fun v a=>pd) h2
  exact fD (Q:=QT []) (fB .nil) (fun _=>fG 1) (args:=[a,b]) (v:=.bool (l==r)) (s':=s0) (kZ hp) (by rw[iP hp];exact Zu (sp:=fun f=>eR f []) rfl hl hr (iu hs) (bK _)) rfl ⟨1,rfl⟩ G h w xs wr hx
 ·cases hv
theorem Zx {sp:FuncId->Option (List aj->Option aj)} {v u:aj} {l r:List cM} (hl:bH 2 ep v l) (hu:bH 2 ep u r) (hlen2:l.length=r.length) (hsmall:l.length<small) {s:St} (hm:s.minw<=s.next) {lc:Ag.Loc}: ∀(rest rest2 pre pre2:List cM) (e:bq),l=pre++rest->r=pre2++rest2->pre.length=pre2.length->
 ay e 0=v->ay e 1=u->ay e 12= .int .i64 (l.length:Nat)->ay e 13= .int .i64 (pre.length:Nat)->
 W (QS sp) 38 (.loop z8) ⟨e,26,lc⟩ s fun x fr s'=>s'=s/\fr.size=26/\((x= .exit 0/\(rest==rest2)=true)\/(x= .ret/\ay fr.env 4= .bool false/\(rest==rest2)=false)):=by
 intro rest
 have hcl:=hl.clean
 have hcu:=hu.clean
 have hsm:small=9223372036854775808:=rfl
 induction rest with
 |nil=>
  intro rest2 pre pre2 e hpre hpre2 hpp h0 h1 h12 h13
  have hl':l.length=pre.length:=by rw[hpre];simp
  have h2:rest2=[]:=by
   have:r.length=pre2.length+rest2.length:=by rw[hpre2];simp
   exact rE (by omega)
  subst h2
  refine cY ?_
  unfold z8
  refine aV (cp ?_)
  unfold EJ
  simp only[aw,az,aA,aU,ak,aD,au,cE,aq,a7,cT,aP,cN,bS,and_true,tA,ar,decide_false,h12,h13,hl',ff,aW]
  refine aV (bc (t:=false) (by simp only[ak,ai,ah,cT, *]) ?_)
  exact eL ⟨rfl,rfl,.inl rfl⟩
 |cons o rest ih=>
  intro rest2 pre pre2 e hpre hpre2 hpp h0 h1 h12 h13
  have hlt:pre.length<l.length:=by rw[hpre];simp
  have hat:l[pre.length]? =some o:=by rw[hpre];simp
  cases rest2 with
  |nil=>
   have:r.length=pre2.length:=by rw[hpre2];simp
   omega
  |cons q rest2=>
  have hat2:r[pre.length]? =some q:=by rw[hpre2,hpp];simp
  have hia:=fun lc=>hl.at tt hat lc .i64
  have hiu:=fun lc=>hu.at tt hat2 lc .i64
  have hwr:IntKind.i64.wrap ((pre.length:Int)+1)=((pre.length+1:Nat):Int):=by rw[eh (by omega) (by omega)];omega
  refine cY ?_
  unfold z8
  refine aV (cp ?_)
  unfold EJ
  simp only[aw,az,aA,aU,ak,aD,au,cE,aq,a7,cT,aP,cN,tA,ar,dT,h12,h13,hlt,aW]
  refine aV (bc (t:=true) (by simp only[ak,ai,ah,cT, *]) (b7 ?_))
  simp only[aW]
  refine aV (cR (aF ?_))
  unfold Pj
  simp only[aw,az,aA,ai,aG,aM,ak,au,cT,cF,bS,tA,ah,ar,h13]
  refine aV (W.drawQ hm ?_)
  unfold Pk
  simp only[d8,d7,ec,isStore,ai,aG,bn,aU,dI,ak,aD,dR,au,dj,aq,cu,cT,cF,aP,aR,aY,cut,bO,aZ,e7,bS,tA,aQ,ah,ar,bJ,aX,Br,h0,h1,hia,hiu,ep,aW,apL]
  cases hb:(bif o.1==q.1 then bif o.2==q.2 then true else false else false) with
  |false=>
   have hq:(o==q)=false:=by rw[Wy,hb]
   refine bc (t:=true) (by simp only[ak,ai,ah,cT,cF,ej]) (aF ?_)
   unfold Pl
   simp only[aw,az,aA,aM,aH,bF,au,ej,tA,ar]
   refine bP ⟨rfl,rfl,.inr ⟨rfl,by simp only[ai,ah,cT,cF, *],?_⟩⟩
   simp only[B5,hq,jR]
  |true=>
   have hq:(o==q)=true:=by rw[Wy,hb]
   refine bc (t:=false) (by simp only[ak,ai,ah,cT,cF,dg]) (b7 ?_)
   simp only[dM,aW]
   refine cp ?_
   unfold Pm
   simp only[aw,az,aA,ai,aG,aU,ak,aH,aD,bm,au,dW,aq,a7,cT,cF,aP,dg,bS,tA,ah,ar,h13,hwr,aW]
   refine(ih rest2 (pre++[o]) (pre2++[q]) _ (by rw[hpre];simp) (by rw[hpre2];simp) (by simp[hpp]) (by simp only[ai,ah,cF, *]) (by simp only[ai,ah,cF, *]) (by simp only[ai,ah,cF, *]) (by simp only[ai,ah,cT,cF,dw,aR,aY])).mono ?_
   simp only[B5,hq,iq]
   exact fun _ _ _ h=>h
theorem Zy {sp:FuncId->Option (List aj->Option aj)} (h0:sp 38=none) {v u:aj} {l r:List cM} (hl:bH 2 ep v l) (hu:bH 2 ep u r) (hsmall:l.length<small) {s:St} (hm:s.minw<=s.next):bv (QS sp) 38 [v,u] s (.bool (l==r)) s:=by
 have hlen:=fun mk s=>hl.len qW qV mk s
 have hlen2:=fun mk s=>hu.len qW qV mk s
 have hcl:=hl.clean
 have hcu:=hu.clean
 refine dZ ahw ahv ahy ahx h0 ?_
 unfold Pd
 refine aF ?_
 unfold Pe
 simp only[dr,cZ,aw,az,aA,aM,aH,bF,au,cT,aR,aY,tA,aQ,ar,bJ,ck,cd,dT]
 refine aV (aF ?_)
 unfold Pf
 simp only[aw,az,aA,ai,aG,aU,cG,ak,aD,bh,bk,au,bZ,pg,cW,bG,aq,a7,cT,cF,aP,bW,bS,tA,ah,ar,aX,acp,acq,hcl,hcu,hlen,hlen2,qh]
 cases hb:l.length==r.length with
 |false=>
  refine bc (t:=true) (by simp only[ak,ai,ah,cT,cF,ej]) (aF ?_)
  unfold Pg
  simp only[aw,az,aA,aM,aH,bF,au,ej,tA,ar]
  refine bP ⟨rfl,.inr rfl,bV ?_ rfl⟩
  have:(l==r)=false:=beq_eq_false_iff_ne.2 fun e=>by subst e;simp at hb
  simp only[ai,ah,cT,cF,this]
 |true=>
  have hll:l.length=r.length:=by simpa using hb
  refine bc (t:=false) (by simp only[ak,ai,ah,cT,cF,dg]) (b7 ?_)
  simp only[aW]
  refine aV (W.sseq (cp ?_))
  unfold Ph
  simp only[aw,az,aA,ai,aG,cG,ak,aH,aD,bh,bk,bm,au,bZ,cW,bG,aq,cT,cF,aP,bW,dg,bS,tA,ah,ar,aX,aco,hcl,hlen,aW]
  refine cR ?_
  refine(Zx hl hu hll hsmall hm l r [] [] _ rfl rfl rfl (by simp only[ai,ah,cT,cF, *]) (by simp only[ai,ah,cT,cF, *]) (by simp only[ai,ah,cT,cF, *]) (by simp only[ai,ah,cT,cF];rfl)).mono ?_
  rintro x ⟨e,sz,lc⟩ s' ⟨rfl,hs,⟨rfl,hok⟩|⟨rfl,h4,hok⟩⟩
  ·have hs:sz=26:=hs
   subst hs
   show W (QS sp) 38 _ _ _ _
   refine aF ?_
   unfold Pn
   simp only[aw,az,aA,aM,aH,bF,au,tA,ar]
   refine bP ⟨rfl,.inr rfl,bV ?_ rfl⟩
   simp only[ai,ah,cT,hok]
  ·exact⟨rfl,.inr rfl,bV (by rw[h4,hok]) rfl⟩
def vP:Sp
 | [a,b]=>bif pures [a,b] then(ic 2 oC a).bind fun l=>(ic 2 oC b).bind fun r=>bif cg l.length small then some (.bool (l==r)) else none else none
 |_=>none
theorem Zv {v u:aj} {l r:List cM} (hl:bH 2 ep v l) (hu:bH 2 ep u r) (hv:cx v=true) (hu2:cx u=true) (hs:l.length<small):vP [v,u]=some (.bool (l==r)):=by
 have q1:cg l.length small=true:=fe hs
 simp only[vP,pures,hv,hu2,fL,cT,ka rR hl,ka rR hu,aq,q1]
theorem Zw:ek Tryz.prog 38 vP:=by
 intro args x hv G h w xs wr hx
 unfold vP at hv
 split at hv
 ·rename_i a b
  obtain⟨hp,hv⟩:=cq hv
  simp only[aN] at hv
  obtain⟨l,h1,r,h2,hv⟩:=hv
  obtain⟨hs,hv⟩:=cq hv
  injection hv with hv;subst hv
  have hl:=jA (fun v a=>rQ) h1
  have hr:=jA (fun v a=>rQ) h2
  exact fD (Q:=QT []) (fB .nil) (fun _=>fG 1) (args:=[a,b]) (v:=.bool (l==r)) (s':=s0) (kZ hp) (by rw[iP hp];exact Zy (sp:=fun f=>eR f []) rfl hl hr (iu hs) (bK _)) rfl ⟨1,rfl⟩ G h w xs wr hx
 ·cases hv
def np (o q:Obj):Bool:=bif o.id==q.id then bif bz o.kind q.kind then bif(bif bz o.x q.x then bif bz o.y q.y then true else false else false) then bif o.refs==q.refs then o.tags==q.tags else false else false else false else false
theorem amL (o q:Obj):np o q=true↔o.Eqv q:=by
 unfold np
 constructor
 ·intro h
  cases h1:o.id==q.id with
  |false=>rw[h1] at h;cases h
  |true=>
  rw[h1] at h
  cases h2:bz o.kind q.kind with
  |false=>rw[h2] at h;cases h
  |true=>
  rw[h2] at h
  cases h3:bz o.x q.x with
  |false=>rw[h3] at h;cases h
  |true=>
  rw[h3] at h
  cases h4:bz o.y q.y with
  |false=>rw[h4] at h;cases h
  |true=>
  rw[h4] at h
  cases h5:o.refs==q.refs with
  |false=>rw[h5] at h;cases h
  |true=>
  rw[h5] at h
  simp only[cT] at h
  simp only[bz,beq_iff_eq] at h1 h2 h3 h4 h5 h
  exact⟨h1.symm,h2.symm,h3.symm,h4.symm,h5.symm,h.symm⟩
 ·rintro⟨h1,h2,h3,h4,h5,h6⟩
  simp only[h1,h2,h3,h4,h5,h6,bz,bS,cT]
theorem anA {sp:FuncId->Option (List aj->Option aj)} (h16:sp 16=none) (h37:sp 37=some qc) (h38:sp 38=some vP) {o q:Obj} (ho:o.Good) (hq:q.Good) (s:St):bv (QS sp) 16 [o.val,q.val] s (.bool (np o q)) s:=by
 have rcl:=ho.refs.clean
 have tcl:=ho.tags.clean
 have rcq:=hq.refs.clean
 have tcq:=hq.tags.clean
 have e1:=zr ho.refs hq.refs ho.pr hq.pr ho.reflen
 have e2:=Zv ho.tags hq.tags ho.pt hq.pt ho.taglen
 refine dZ afu aft afw afv h16 ?_
 unfold L2
 refine aF ?_
 unfold L3
 simp only[dr,cZ,aw,az,aA,ai,dp,cJ,aM,iA,ak,aH,aD,bF,fv,au,bG,dj,aq,cu,cT,cF,bW,aR,aY,bS,tA,aQ,ah,ar,bJ,ck,cd,dT,abR,abT,Obj.val]
 refine aF ?_
 unfold L4
 have fin: ∀e' lc',ay e' 4= .bool (np o q)->W (QS sp) 16 .ret ⟨e',38,lc'⟩ s fun x fr' s1=>s1=s/\(x= .normal\/x= .ret)/\ ∃vs,gL (QS sp) [] fr' s1 [.tmp 4]=some vs/\jO vs= .bool (np o q):=fun e' lc' h=>bP ⟨rfl,.inr rfl,bV h rfl⟩
 cases h1:o.id==q.id with
 |false=>
  simp only[aw,az,de,aA,eH,fR,ai,dp,cJ,bU,aG,aM,cz,bn,aU,bN,ak,aH,aD,bF,bT,cD,du,au,jr,aq,cw,cT,cF,aP,aZ,bE,bS,tA,cQ,ah,ar,aX,dv,mF,Obj.cells,h1]
  exact fin _ _ (by simp only[ai,ah,cT,cF,np,h1])
 |true=>
 cases h2:bz o.kind q.kind with
 |false=>
  simp only[aw,az,de,aA,dQ,eH,eW,fR,ai,dp,cJ,bU,aG,aM,cz,bn,aU,bN,ak,aH,aD,bF,bT,cD,dB,du,au,gJ,jr,aq,a7,cw,cT,cF,aP,aZ,bE,bS,tA,aQ,cQ,ah,ar,aX,eC,dv,mF,lS,Obj.cells,h1,h2]
  exact fin _ _ (by simp only[ai,ah,cT,cF,np,h1,h2])
 |true=>
 cases h3:(bif bz o.x q.x then bif bz o.y q.y then true else false else false) with
 |false=>
  simp only[aw,az,de,aA,dQ,eH,eW,fR,ai,dp,cJ,bU,aG,aM,cz,bn,aU,bN,ak,aH,aD,bF,bT,cD,dB,du,au,gJ,jr,aq,a7,cw,cu,cT,cF,aP,aR,aY,cut,bO,aZ,bE,e7,bS,tA,aQ,cQ,ah,ar,bJ,aX,eC,dv,jo,mF,lS,xK,Obj.cells,h1,h2,pH,h3]
  exact fin _ _ (by simp only[ai,ah,cT,cF,np,h1,h2,h3])
 |true=>
 cases h4:o.refs==q.refs with
 |false=>
  simp only[aw,az,de,aA,dQ,eH,eW,fR,ai,dp,cJ,bU,aG,aM,cz,bn,aU,bN,dc,da,ak,aH,aD,bh,bk,bF,bT,cD,dB,du,au,gJ,jr,aq,a7,cw,cu,cT,cF,aP,dq,aR,aY,cut,bO,aZ,bE,e7,bS,tA,aQ,cQ,ah,ar,bJ,aX,eC,dv,jo,fT,mF,lS,xK,kx,Obj.cells,rcl,rcq,h1,h2,pH,h3,h37,e1,h4]
  exact fin _ _ (by simp only[ai,ah,cT,cF,np,h1,h2,h3,h4])
 |true=>
  simp only[aw,az,de,aA,dQ,eW,ai,dp,cJ,bU,aG,aM,cz,bn,aU,bN,dc,da,ak,aH,aD,bh,bk,bF,bT,cD,dB,au,gJ,jr,aq,a7,cw,cu,cT,cF,aP,dq,aR,aY,cut,bO,aZ,bE,e7,bS,tA,aQ,cQ,ah,ar,bJ,aX,eC,dv,jo,fT,mL,mF,lS,xK,kx,r9,Obj.cells,rcl,tcl,rcq,tcq,h1,h2,pH,h3,h37,e1,h4,h38,e2]
  exact fin _ _ (by simp only[ai,ah,cT,cF,np,h1,h2,h3,h4])
def rb:Sp
 | [a,b]=>(mr a).bind fun o=>(mr b).bind fun q=>some (.bool (np o q))
 |_=>none
theorem Ve {o q:Obj} (h:o.Good) (h2:q.Good):rb [o.val,q.val]=some (.bool (np o q)):=by
 simp only[rb,um h,um h2,aq]
def V1:fh:=[(37,qc),(38,vP)]
theorem Xx:fI V1:=.cons I1 (.cons Zw .nil)
theorem GA:ek Tryz.prog 16 rb:=by
 intro args u hv G h w xs wr hx
 unfold rb at hv
 split at hv
 ·simp only[aN,bp] at hv
  obtain⟨o,ho,q,hq,rfl⟩:=hv
  obtain⟨rfl,hg⟩:=rP ho
  obtain⟨rfl,hg2⟩:=rP hq
  have hp:pures [o.val,q.val]=true:=by simp only[pures,hg.pure,hg2.pure,fL]
  exact fD (Q:=QT V1) (fB Xx) (fun _=>fG 1) (args:=[o.val,q.val]) (v:=.bool (np o q)) (s':=s0) (kZ hp) (by rw[iP hp];exact anA (sp:=fun f=>eR f V1) rfl rfl rfl hg hg2 s0) rfl ⟨1,rfl⟩ G h w xs wr hx
 ·cases hv
def ky (a b:List UInt8):Bool:=decide (a<=b)
def uz (x:List UInt8):List (List UInt8)->List (List UInt8)
 | []=>[x]
 |y::l=>bif Ag.leBytes x y then x::y::l else y::uz x l
def fC:List (List UInt8)->List (List UInt8)
 | []=>[]
 |x::l=>uz x (fC l)
theorem Ag.leBytes_iff (x y:List UInt8):Ag.leBytes x y=ky x y:=by
 have h:Ag.leBytes x y=(iE x y||x==y):=rfl
 rw[h,Go.Proofs.bytesLess_eq]
 apply Bool.eq_iff_iff.2
 simp only[ky,t6,decide_eq_true_eq,beq_iff_eq]
 constructor
 ·rintro(h|rfl)
  ·exact List.le_of_lt h
  ·exact List.le_refl _
 ·intro h
  by_cases e:x=y
  ·exact .inr e
  ·exact .inl (Classical.byContradiction fun hc=>e (List.le_antisymm h (List.not_lt.1 hc)))
theorem DW (x:List UInt8): ∀l,(uz x l).Perm (x::l)
 | []=>.refl _
 |y::l=>by
  simp only[uz]
  cases Ag.leBytes x y with
  |true=>exact .refl _
  |false=>exact((DW x l).cons y).trans (.swap x y l)
theorem kU: ∀l,(fC l).Perm l
 | []=>.refl _
 |x::l=>(DW x _).trans ((kU l).cons x)
theorem AO (a b c:List UInt8) (h1:ky a b=true) (h2:ky b c=true):ky a c=true:=by
 simp only[ky,decide_eq_true_eq] at*;exact List.le_trans h1 h2
theorem AN (a b:List UInt8):(ky a b||ky b a)=true:=by
 simp only[ky,t6,decide_eq_true_eq];exact List.le_total a b
theorem JT (x:List UInt8): ∀l,l.Pairwise (fun a b=>ky a b=true)->(uz x l).Pairwise (fun a b=>ky a b=true)
 | [],_=>by simp[uz]
 |y::l,h=>by
  simp only[uz]
  cases e:Ag.leBytes x y with
  |true=>
   rw[Ag.leBytes_iff] at e
   refine List.pairwise_cons.2 ⟨fun z hz=>?_,h⟩
   rcases List.mem_cons.1 hz with rfl|hz
   ·exact e
   ·exact AO _ _ _ e ((List.pairwise_cons.1 h).1 z hz)
  |false=>
   rw[Ag.leBytes_iff] at e
   refine List.pairwise_cons.2 ⟨fun z hz=>?_,JT x l (List.pairwise_cons.1 h).2⟩
   rcases List.mem_cons.1 ((DW x l).mem_iff.1 hz) with rfl|hz
   ·have:=AN z y
    rw[e,jI] at this
    exact this
   ·exact(List.pairwise_cons.1 h).1 z hz
theorem BH: ∀l,(fC l).Pairwise (fun a b=>ky a b=true)
 | []=>.nil
 |x::l=>JT x _ (BH l)
theorem GY (l:List (List UInt8)):l.mergeSort (fun x y=>decide (x<=y))=fC l:=by
 refine List.Perm.eq_of_pairwise (le:=fun a b=>ky a b=true) (fun a b _ _ h1 h2=>?_) (Ca AO AN l) (BH l) ((B9 l _).trans (kU l).symm)
 simp only[ky,decide_eq_true_eq] at h1 h2
 exact List.le_antisymm h1 h2
theorem V9 {l r:List aB} (h:l.Perm r):fC l=fC r:=by
 rw[<-GY,<-GY]
 refine List.Perm.eq_of_pairwise (le:=fun a b=>ky a b=true) (fun a b _ _ h1 h2=>?_) (Ca AO AN l) (Ca AO AN r) (((B9 l _).trans h).trans (B9 r _).symm)
 simp only[ky,decide_eq_true_eq] at h1 h2
 exact List.le_antisymm h1 h2
def yf:List aj->aj
 | []=>.nils
 |x::l=>.list 1 (x::l) .no
def eM:List UInt8->List UInt8->Int
 | [],[]=>0
 | [],_::_=> -1
 |_::_,[]=>1
 |a::x,b::y=>bif cg a.toNat b.toNat then-1 else bif cg b.toNat a.toNat then 1 else eM x y
def nP:Sp
 | [.str a,.str b]=>some (.int .i64 (eM a b))
 |_=>none
theorem Y3: ∀(a b:List UInt8),eM a b=Lib.compareBytes a b:=by
 intro a
 induction a with
 |nil=>intro b;cases b<;>rfl
 |cons u x ih=>
  intro b
  cases b with
  |nil=>rfl
  |cons v y=>
   simp only[eM,Lib.compareBytes,UInt8.lt_iff_toNat_lt,dA,ih]
   by_cases h1:u.toNat<v.toNat
   ·simp[h1]
   ·by_cases h2:v.toNat<u.toNat<;>simp[h1,h2]
theorem CU:ek Tryz.prog 83 nP:=by
 intro args v hv G h w xs wr hx
 unfold nP at hv
 split at hv
 ·rename_i a b
  injection hv with hv;subst hv
  cases hx with
  |cons p q=>
   cases q with
   |cons q r=>
    cases r
    cases p
    cases q
    refine .inl ⟨.int .i64 (Lib.compareBytes a b),w,?_,G,wr,.refl,?_⟩
    ·have:=run_callFunc_extern (P:=Tryz.prog) (f:=83) (fn:=Tryz.f83) (e:=Extern.BytealgCompare.compare) (by kernel_rfl) (by kernel_rfl) (by kernel_rfl) (by kernel_rfl) (by kernel_rfl) #[.string ⟨⟨a⟩⟩,.string ⟨⟨b⟩⟩] w
     rw[show(⟨[fX ⟨⟨a⟩⟩,.string ⟨⟨b⟩⟩]⟩:Array Value)= #[.string ⟨⟨a⟩⟩,.string ⟨⟨b⟩⟩] from rfl,this,Lib.run_compareString]
     rfl
    ·rw[Y3];exact .int _ _
 ·cases hv
end Go.Proofs.YtbfmdojdemckbaaGreat
