/- Contracts of lexer.Name, tag.Valid, object.Valid, atlas.Valid, planisphereref13.Few, planisphereref12.Same, planisphereref11.Valid, planisphereref21.Closed, slices.Equal, object.Same. -/
import Derived.Test.YtbfmdojdemckbaaGreatZ1
import Derived.Sort.Walk0
import Derived.Lib.Bytealg
open Bool renaming and_eq_true→cZ,and_false→ww,and_self→gf,and_true→dY,false_and→qJ,false_or→jU,not_false→gU,not_true→dS,or_eq_true→tf,true_and→i9,true_or→qL
open List renaming append_nil→iA,cons_append→cH,cons_beq_cons→Bm,drop_succ_cons→gr,drop→a7,eq_nil_of_length_eq_zero→qN,getElem?_eq_getElem→js,head?_cons→bO,length_append→dp,length_cons→aP,length_nil→aW,map_cons→fw,mem_of_getElem?→lX,mergeSort_perm→Br,nil_append→cq,pairwise_mergeSort→Bs,take_succ_cons→eR,take→bN
open Nat renaming add_zero→dc,beq→be,ble_eq_true_of_le→eL,blt→bT,le_of_ble_eq_true→iL,le_refl→bB,lt_irrefl→eU,reduceAdd→bE,reduceBEq→ah,reduceLT→au,reduceLeDiff→cm,zero_add→aQ,zero_lt_succ→gV
open Go.Op renaming bytesLess→hZ
open Go.Operand renaming tmp→aa
open Option renaming bind_eq_some_iff→aG,bind_some→aq,map_some→qQ
open Option.some renaming injEq→bg
open Go.Ag.bz renaming of2→ey
open Go.Ag.W renaming block→cO,cond→bc,exit→eD,loop1→cR,region→gh,reg→b7,ret→cd,sdrawQ→lr,seq→aR,skip→ck,sreg→aF
namespace Go.Proofs.YtbfmdojdemckbaaGreat
open Go.Ag
def small:Nat:=9223372036854775808
abbrev cz:=ar×ar
def bu (s:ar):aj:=.str s
def eC (t:cz):aj:=.agg [.str t.1,.str t.2]
def lC:aj->Option ar
 | .str s=>some s
 |_=>none
def oH:aj->Option cz
 | .agg [.str a,.str b]=>some (a,b)
 |_=>none
def ku {α β:Type} (g:α->Option β):List α->Option (List β)
 | []=>some []
 |a::l=>(g a).bind fun b=>(ku g l).bind fun r=>some (b::r)
def gj {α:Type} (n:Nat) (dec:aj->Option α):aj->Option (List α)
 | .nils=>some []
 | .list m xs _=>bif be m n then ku dec xs else none
 |_=>none
theorem oE {v:aj} {s:ar} (h:lC v=some s):v=bu s:=by
 unfold lC at h;split at h
 ·injection h with h;subst h;rfl
 ·cases h
theorem rT {v:aj} {t:cz} (h:oH v=some t):v=eC t:=by
 unfold oH at h;split at h
 ·injection h with h;subst h;rfl
 ·cases h
theorem RU {α:Type} {dec:aj->Option α} {enc:α->aj} (hd: ∀v a,dec v=some a->v=enc a): ∀ {xs:List aj} {l:List α},ku dec xs=some l->xs=l.map enc
 | [],l,h=>by simp only[ku,bg] at h;subst h;rfl
 |x::xs,l,h=>by
  simp only[ku,aG,bg] at h
  obtain⟨a,h1,r,h2,rfl⟩:=h
  rw[fw,<-hd x a h1,<-RU hd h2]
theorem RY {α:Type} {dec:aj->Option α} {enc:α->aj} (hd: ∀a,dec (enc a)=some a): ∀(l:List α),ku dec (l.map enc)=some l
 | []=>rfl
 |a::l=>by simp only[fw,ku,hd,aq,RY hd l]
theorem jb {α:Type} {n:Nat} {dec:aj->Option α} {enc:α->aj} (hd: ∀v a,dec v=some a->v=enc a) {v:aj} {l:List α} (h:gj n dec v=some l):bC n enc v l:=by
 unfold gj at h
 split at h
 ·injection h with h;exact .inl ⟨rfl,h.symm⟩
 ·obtain⟨h1,h2⟩:=bX h
  have:=Nat.eq_of_beq_eq_true h1
  subst this
  rename_i xs r
  exact .inr ⟨r,by rw[RU hd h2]⟩
 ·cases h
theorem jI {α:Type} {n:Nat} {dec:aj->Option α} {enc:α->aj} (hd: ∀a,dec (enc a)=some a) {v:aj} {l:List α} (h:bC n enc v l):gj n dec v=some l:=by
 rcases h with⟨rfl,rfl⟩|⟨r,rfl⟩
 ·rfl
 ·simp only[gj,RY hd,aZ,bS,cT]
theorem x4 {α:Type} {enc:α->aj} (hp: ∀a,bP (enc a)=true) (l:List α):pures (l.map enc)=true:=by
 rw[uf]
 intro v hv
 obtain⟨a,_,rfl⟩:=List.mem_map.1 hv
 exact hp a
theorem abg {α:Type} {n:Nat} {enc:α->aj} (hp: ∀a,bP (enc a)=true) {v:aj} {l:List α} (h:bC n enc v l):jq v=true/\bC n enc (weak v) l:=by
 rcases h with⟨rfl,rfl⟩|⟨r,rfl⟩
 ·exact⟨rfl,.inl ⟨rfl,rfl⟩⟩
 ·exact⟨by simpa[jq] using x4 hp l,.inr (by
   simp only[weak,iz (x4 hp l)]
   exact⟨_,rfl⟩)⟩
theorem TP (s:ar):bP (bu s)=true:=rfl
theorem TY (t:cz):bP (eC t)=true:=rfl
theorem oG (s:ar):lC (bu s)=some s:=rfl
theorem rU (t:cz):oH (eC t)=some t:=rfl
theorem cI (s:St) (n m:Nat) (o:Option bH):(s.put n o).get [] m=bif m==n then o else s.get [] m:=by
 simp only[St.get,St.put,dJ,cF,bv.get_set]
 by_cases h:m=n
 ·subst h;simp
 ·rw[if_neg h,beq_eq_false_iff_ne.2 h];rfl
theorem df (s:St) (m:Nat) (o:bH):(s.new o).get [] m=bif m==s.next then some o else s.get [] m:=by
 simp only[St.get,St.new,dJ,cF,bv.get_set]
 by_cases h:m=s.next
 ·subst h;simp
 ·rw[if_neg h,beq_eq_false_iff_ne.2 h];rfl
theorem pH (s:St) (n:Nat) (o:Option bH):(s.put n o).next=s.next:=rfl
theorem jo (s:St) (o:bH):(s.new o).next=s.next+1:=rfl
def cP (n:Nat):List (ar×aj)->List db
 | []=>[]
 |(k,v)::l=>⟨.str k,v,n⟩::cP (n+1) l
def look (k:ar):List (ar×aj)->Option aj
 | []=>none
 |(a,v)::l=>bif k==a then some v else look k l
def n9 (k:ar):List (ar×aj)->Nat
 | []=>0
 |(a,_)::l=>bif k==a then 0 else n9 k l+1
section
variable {P:Program} {kt:TypeId} (heq: ∀a b:List UInt8,ki P 8 kt (.str a) (.str b)=some (a==b))
include heq
theorem CI: ∀(l:List (ar×aj)) (k:ar) (n i:Nat),kn P kt (.str k) (cP n l) i=some ((look k l).map fun v=>(i+n9 k l,⟨.str k,v,n+n9 k l⟩))
 | [],k,n,i=>rfl
 |(a,v)::l,k,n,i=>by
  simp only[cP,kn,heq,aq,look,n9]
  cases h:k==a with
  |true=>
   have:k=a:=by simpa using h
   subst this
   simp
  |false=>
   simp only[cF]
   rw[CI l k (n+1) (i+1)]
   cases look k l with
   |none=>rfl
   |some u=>
    simp only[qQ]
    rw[show i+1+n9 k l=i+(n9 k l+1) by omega,show n+1+n9 k l=n+(n9 k l+1) by omega]
theorem E7 {t:TypeId} {e:TypeId} {z:aj} (hk: ∀k:List UInt8,nW P t (.str k)=some (kt,e)) (hz:eY P e=some z) {s:St} {m:Nat} {l:List (ar×aj)} {c:Nat} (hs:s.get [] m=some (.map (cP 0 l) c)) (k:ar):
 lM P [] t (.map m) (.str k) false s=some ((look k l).getD z):=by
 simp only[lM,hk,aq,hz,xL,hs,CI heq l k 0 0]
 cases look k l<;>rfl
end
theorem H2: ∀(l r:List (ar×aj)) (n:Nat),cP n (l++r)=cP n l++cP (n+l.length) r
 | [],r,n=>rfl
 |(a,v)::l,r,n=>by simp only[cH,cP,H2 l r (n+1),aP];congr 3;omega
def eG (k:ar) (v:aj):List (ar×aj)->List (ar×aj)
 | []=>[(k,v)]
 |(a,u)::l=>bif k==a then(k,v)::l else(a,u)::eG k v l
theorem mm (k j:ar) (v:aj): ∀l,look j (eG k v l)=bif j==k then some v else look j l
 | []=>by
   simp only[eG,look]
 |(a,u)::l=>by
  simp only[eG]
  cases h:k==a with
  |true=>
   have:k=a:=by simpa using h
   subst this
   simp only[cT,look]
   cases j==k<;>rfl
  |false=>
   simp only[cF,look,mm k j v l]
   cases h2:j==a with
   |false=>rfl
   |true=>
    have:j=a:=by simpa using h2
    subst this
    have:(j==k)=false:=by
     cases h3:j==k with
     |false=>rfl
     |true=>have:j=k:=by simpa using h3
            subst this;simp at h
    simp[this]
theorem I7 {k:ar} {v:aj}: ∀ {l},look k l=none->eG k v l=l++[(k,v)]
 | [],_=>rfl
 |(a,u)::l,h=>by
  simp only[look] at h
  simp only[eG]
  cases h1:k==a with
  |true=>rw[h1] at h;cases h
  |false=>rw[h1] at h;simp only[cF,I7 h,cH]
theorem H4 {k:ar} {u v:aj}: ∀ {l:List (ar×aj)} {n:Nat},look k l=some u->(cP n l).set (n9 k l) ⟨.str k,v,n+n9 k l⟩=cP n (eG k v l)
 | [],_,h=>by cases h
 |(a,w)::l,n,h=>by
  simp only[look] at h
  simp only[eG,n9,cP]
  cases h1:k==a with
  |true=>simp[cP]
  |false=>
   rw[h1] at h
   simp only[cF,List.set_cons_succ,cP]
   rw[<-H4 (l:=l) (n:=n+1) h,show n+(n9 k l+1)=n+1+n9 k l by omega]
theorem yo {P:Program} {kt t e:TypeId} (heq: ∀a b:List UInt8,ki P 8 kt (.str a) (.str b)=some (a==b)) (hk: ∀k:List UInt8,nW P t (.str k)=some (kt,e)) {s:St} {m:Nat} {l:List (ar×aj)} (hs:s.get [] m=some (.map (cP 0 l) l.length)) (k:ar) (v:aj):
 lS P [] t (.map m) (.str k) v s=some (s.put m (some (.map (cP 0 (eG k v l)) (eG k v l).length))):=by
 have hlen: ∀ {l:List (ar×aj)} {u:aj},look k l=some u->(eG k v l).length=l.length:=by
  intro l
  induction l with
  |nil=>intro u h;cases h
  |cons x l ih=>
   obtain⟨a,w⟩:=x
   intro u h
   simp only[look] at h
   simp only[eG]
   cases h1:k==a with
   |true=>rfl
   |false=>rw[h1] at h;simp only[cF,aP,ih h]
 simp only[lS,hk,aq,hs,CI heq l k 0 0]
 cases h:look k l with
 |none=>
  simp only[Option.map_none,I7 h,dp,aP,aW,H2,aQ]
  rfl
 |some u=>
  have hks:su (.str k) (.str k)=true:=by simp[su,v8]
  simp only[qQ,hks,cT,hlen h]
  have:=H4 (v:=v) (n:=0) h
  rw[aQ] at this ⊢
  rw[this]
def sk (b:UInt8):Bool:=xE b.toNat
def zf (b:UInt8):Bool:=wZ b.toNat
def vE (s:ar):Bool:=s.all fun b=>sk b||zf b||be b.toNat 95
def jP (s:ar):Bool:=match s with| []=>false|b::r=>sk b&&vE r&&Nat.ble (b::r).length 24
def qv:Sp
 | [.str s]=>bif bT s.length small then some (.bool (jP s)) else none
 |_=>none
theorem Fo {s:ar} (h:s.length<small):qv [.str s]=some (.bool (jP s)):=by
 simp only[qv,dl,h,dT,cT]
def oU (i:Nat) (b:UInt8):Bool:=sk b||(!(i==0)&&(zf b||(b.toNat==95)))
def oQ:Nat->ar->Bool
 |_,[]=>true
 |i,b::r=>oU i b&&oQ (i+1) r
theorem Fm: ∀(s:ar) (i:Nat),oQ (i+1) s=vE s
 | [],_=>rfl
 |b::r,i=>by
  simp only[oQ,vE,List.all_cons]
  rw[Fm r (i+1)]
  simp[oU,vE,Bool.or_assoc,aZ]
theorem wV (b:UInt8):bD ((rY b.toNat:Nat):Int) 3=sk b:=by
 rw[show(3:Int)=((3:Nat):Int) from rfl,ra]
 unfold rY sk
 cases xE b.toNat with
 |true=>rfl
 |false=>
  simp only[cF]
  cases wZ b.toNat with
  |true=>rfl
  |false=>
   simp only[cF]
   cases xN b.toNat [32,9,10] with
   |true=>rfl
   |false=>
    simp only[cF]
    cases xN b.toNat [59,44,46,58,40,41,123,125,91,93,61,60,62,47,45] with
    |true=>rfl
    |false=>
     simp only[cF]
     cases be b.toNat 35<;>cases be b.toNat 95<;>cases be b.toNat 34<;>rfl
theorem HE:(List.range 256).all (fun n=>(be (rY n) 4==wZ n)&&(be (rY n) 5==be n 95))=true:=by decide+kernel
theorem Ca (b:UInt8):bD ((rY b.toNat:Nat):Int) 4=zf b:=by
 rw[show(4:Int)=((4:Nat):Int) from rfl,ra,<-aZ]
 have:=List.all_eq_true.1 HE b.toNat (List.mem_range.2 b.toNat_lt)
 simp only[cZ,beq_iff_eq] at this
 exact this.1
theorem HB (b:UInt8):bD ((rY b.toNat:Nat):Int) 5=(b.toNat==95):=by
 rw[<-aZ b.toNat,show(5:Int)=((5:Nat):Int) from rfl,ra,<-aZ]
 have:=List.all_eq_true.1 HE b.toNat (List.mem_range.2 b.toNat_lt)
 simp only[cZ,beq_iff_eq] at this
 exact this.2
section
variable {sp:FuncId->Option (List aj->Option aj)}
theorem aiN {str:ar} (hsmall:str.length<9223372036854775808) {s:St} {g:Nat}: ∀(rest pre:ar) (e:bj) (lc:Ag.Loc),str=pre++rest->
 ax e 0= .str str->ax e 3= .lref 3 g 0->lc.gen 3=g->lc.get 3 g=some (ph 256 0)->ax e 8= .int .i64 (str.length:Nat)->ax e 9= .int .i64 (pre.length:Nat)->
 W (QS sp) 58 (.loop zO) ⟨e,39,lc⟩ s fun x fr s'=>s'=s/\fr.size=39/\((x= .exit 0/\ax fr.env 0= .str str/\oQ pre.length rest=true)\/(x= .ret/\ax fr.env 2= .bool false/\oQ pre.length rest=false)):=by
 intro rest
 induction rest with
 |nil=>
  intro pre e lc hpre h0 h3 hg hl h8 h9
  have hlen:str.length=pre.length:=by rw[hpre];simp
  refine cR ?_
  unfold zO
  refine aF ?_
  unfold Eb
  simp only[az,aA,aB,aX,ak,aD,aw,cQ,aq,bf,cT,aV,da,tA,au,decide_false,h8,h9,hlen,eU]
  refine aR (bc (t:=false) (by simp only[ak,ai,ah,cT, *]) ?_)
  refine eD ?_
  refine⟨rfl,rfl,.inl ⟨rfl,?_,rfl⟩⟩
  simp only[ai,ah,cF, *]
 |cons b rest ih=>
  intro pre e lc hpre h0 h3 hg hl h8 h9
  have hlt:pre.length<str.length:=by rw[hpre];simp
  have hdrop:str.drop pre.length=b::rest:=by rw[hpre];simp
  have hb:b.toNat<256:=b.toNat_lt
  have hcell:=HC 256 0 b.toNat hb
  rw[aQ] at hcell
  have hwr:IntKind.i64.wrap ((pre.length:Int)+1)=((pre.length+1:Nat):Int):=by rw[ew (by omega) (by omega)];omega
  have hi0:bD (pre.length:Int) 0=(pre.length==0):=ra _ 0
  refine cR ?_
  unfold zO
  refine aF ?_
  unfold Eb
  simp only[az,aA,aB,aX,ak,aD,aw,cQ,aq,bf,cT,aV,da,tA,au,dT,h8,h9,hlt]
  refine aR (bc (t:=true) (by simp only[ak,ai,ah,cT, *]) (ck ?_))
  refine aR (cO ?_)
  refine aF ?_
  unfold O5
  simp only[az,aA,aB,ai,aH,aN,ak,aw,cT,cF,bS,tA,ah,au,h9]
  refine aF ?_
  unfold O6
  simp only[az,aA,aB,ai,aH,aN,bo,Sz,ek,ak,aD,cx,sF,aw,aq,cS,cT,cF,aV,bS,tA,aQ,ah,au,aZ,dl,dT,akh,aaZ,abn,h0,h3,hdrop,hb,hg,hl,hcell,Nat.mul_one]
  refine aF ?_
  unfold O7
  have fin: ∀e' lc',ax e' 30= .bool true->W (QS sp) 58 (.cond (aa 30) (.seq (.region Ec) .ret) .skip) ⟨e',39,lc'⟩ s fun x fr s'=>x= .ret/\s'=s/\fr.size=39/\ax fr.env 2= .bool false:=by
   intro e' lc' h
   refine bc (t:=true) (by simp only[ak,h]) (aF ?_)
   unfold Ec
   simp only[az,aA,aB,aN,aK,bW,aw,tA,au]
   exact cd ⟨rfl,rfl,rfl,by simp only[ai,ah,cT, *]⟩
  cases hL:sk b with
  |true=>
   simp only[az,aA,dB,aB,gp,jr,Bd,ai,aH,di,aX,ak,aK,aD,bW,bt,dj,d7,aw,wR,aq,bf,cT,cF,aV,dS,bS,tA,ah,au,wV,hL]
   refine bc (t:=false) (by simp only[ak,ai,ah,cT,cF, *]) (ck ?_)
   simp only[dP,aU]
   refine b7 ?_
   unfold zP
   simp only[az,aA,aB,ai,aH,aX,ak,aK,aD,bt,aw,dZ,aq,bf,cT,cF,aV,bS,tA,ah,au,h9,hwr,aU]
   refine(ih (pre++[b]) _ _ (by rw[hpre];simp) (by simp only[ai,ah,cF, *]) (by simp only[ai,ah,cF, *]) hg hl (by simp only[ai,ah,cF, *]) (by simp only[ai,ah,cT,cF,dp,aP,aW])).mono ?_
   have hok:oU pre.length b=true:=by simp[oU,hL]
   simp only[oQ,hok,i9,dp,aP,aW]
   exact fun _ _ _ h=>h
  |false=>
  cases hz:pre.length==0 with
  |true=>
   simp only[az,aA,dB,aB,eP,gp,hQ,j8,Bd,ai,aH,di,aX,ak,aK,aD,bW,bt,dj,eA,aw,jH,wR,aq,bf,cT,cF,aV,gU,bS,tA,ah,au,hi0,wV,hL,hz]
   refine(fin _ _ ?_).mono ?_
   ·simp only[ai,ah,cT,cF, *]
   ·rintro x fr s' ⟨rfl,rfl,hs,h⟩
    exact⟨rfl,hs,.inr ⟨rfl,h,by simp[oQ,oU,hL,hz]⟩⟩
  |false=>
  cases hD:zf b with
  |true=>
   simp only[az,aA,dB,aB,eP,gp,hQ,jr,gn,ai,aH,di,aX,ak,aK,aD,bW,bt,dj,eA,d7,aw,jH,wR,aq,bf,cT,cF,aV,dS,gU,bS,tA,ah,au,hi0,wV,Ca,hL,hz,hD]
   refine bc (t:=false) (by simp only[ak,ai,ah,cT,cF, *]) (ck ?_)
   simp only[dP,aU]
   refine b7 ?_
   unfold zP
   simp only[az,aA,aB,ai,aH,aX,ak,aK,aD,bt,aw,dZ,aq,bf,cT,cF,aV,bS,tA,ah,au,h9,hwr,aU]
   refine(ih (pre++[b]) _ _ (by rw[hpre];simp) (by simp only[ai,ah,cF, *]) (by simp only[ai,ah,cF, *]) hg hl (by simp only[ai,ah,cF, *]) (by simp only[ai,ah,cT,cF,dp,aP,aW])).mono ?_
   have hok:oU pre.length b=true:=by simp[oU,hL,hz,hD]
   simp only[oQ,hok,i9,dp,aP,aW]
   exact fun _ _ _ h=>h
  |false=>
  cases hU:b.toNat==95 with
  |true=>
   simp only[az,aA,dB,aB,eP,hQ,gn,ai,aH,di,aX,ak,aK,aD,bW,bt,dj,eA,d7,aw,jH,wR,aq,bf,cT,cF,aV,dS,gU,bS,tA,ah,au,hi0,wV,Ca,HB,hL,hz,hD,hU]
   refine bc (t:=false) (by simp only[ak,ai,ah,cT,cF, *]) (ck ?_)
   simp only[dP,aU]
   refine b7 ?_
   unfold zP
   simp only[az,aA,aB,ai,aH,aX,ak,aK,aD,bt,aw,dZ,aq,bf,cT,cF,aV,bS,tA,ah,au,h9,hwr,aU]
   refine(ih (pre++[b]) _ _ (by rw[hpre];simp) (by simp only[ai,ah,cF, *]) (by simp only[ai,ah,cF, *]) hg hl (by simp only[ai,ah,cF, *]) (by simp only[ai,ah,cT,cF,dp,aP,aW])).mono ?_
   have hok:oU pre.length b=true:=by simp[oU,hL,hz,hD,hU]
   simp only[oQ,hok,i9,dp,aP,aW]
   exact fun _ _ _ h=>h
  |false=>
   simp only[az,aA,dB,aB,eP,hQ,gn,ai,aH,di,aX,ak,aK,aD,bW,bt,dj,eA,d7,aw,jH,wR,aq,bf,cT,cF,aV,gU,bS,tA,ah,au,hi0,wV,Ca,HB,hL,hz,hD,hU]
   refine(fin _ _ ?_).mono ?_
   ·simp only[ai,ah,cT,cF, *]
   ·rintro x fr s' ⟨rfl,rfl,hs,h⟩
    exact⟨rfl,hs,.inr ⟨rfl,h,by simp[oQ,oU,hL,hz,hD,hU]⟩⟩
theorem aiO (h156:sp 89=some A1) (h94:sp 58=none) (str:ar) (hsmall:str.length<9223372036854775808) (s:St):bz (QS sp) 58 [.str str] s (.bool (jP str)) s:=by
 have hspec:A1 []=some (.agg (ph 256 0)):=rfl
 have hln:=HD 256 0
 refine ey afv afu afx afw h94 ?_
 unfold O1
 refine aF ?_
 unfold O2
 simp only[dt,cY,az,aA,aB,aN,aK,bW,aw,cT,aP,aW,tA,aQ,au,cm,cj,dT]
 refine aF ?_
 unfold O3
 have hz:eY Tryz.prog 151=some (.agg (gd [.int .u8 0] 256)):=by kernel_rfl
 have hrl:(gd [aj.int .u8 0] 256).length=256:=by kernel_rfl
 have hw:cV (gd [aj.int .u8 0] 256) 0 (ph 256 0)=some (ph 256 0):=by
  simp only[cV,hrl,hln,cj]
  have:a7 (0+256) (gd [aj.int .u8 0] 256)=[]:=List.drop_eq_nil_of_le (by rw[hrl];omega)
  rw[this];simp
 simp only[h156,hspec,hz,hw,hln,az,aA,ej,aB,ep,ai,dA,bR,jz,gZ,ez,dK,dI,ak,aD,bk,gl,bJ,dC,ix,aq,cK,cT,cF,aV,cg,ei,bS,tA,aQ,ah,au,dY,aZ,dl,dT,aly,Z4]
 refine aR (aF ?_)
 unfold O4
 simp only[az,aA,aB,ai,aH,cJ,ak,aK,aD,bk,bm,bt,aw,bU,cU,bJ,aq,cS,cT,cF,aV,cg,bS,tA,ah,au,aZ,sw]
 refine cO ?_
 refine(aiN hsmall (g:=1) str [] _ _ rfl (by simp only[ai,ah,cT,cF, *]) (by simp only[ai,ah,cT,cF, *]) (by simp only[dA,cM,ah,cT]) (by simp only[bR,ah,cT]) (by simp only[ai,ah,cT,cF, *]) (by simp only[ai,ah,cT,cF];rfl)).mono ?_
 rintro x ⟨e,sz,lc⟩ s' ⟨rfl,hs,⟨rfl,h0,hok⟩|⟨rfl,h2,hok⟩⟩
 ·have hs:sz=39:=hs
  subst hs
  have h0:ax e 0= .str str:=h0
  show W (QS sp) 58 _ _ _ _
  refine aF ?_
  unfold O8
  have hil:iG (str.length:Int) 24=decide (str.length<=24):=sj _ 24
  cases str with
  |nil=>
   simp only[az,aA,dB,aB,gp,jr,ai,aH,aN,di,aX,ak,aK,aD,bW,jB,dj,d7,aw,uU,aq,cS,cT,cF,aV,dS,bS,tA,ah,au,h0]
   refine cd ⟨rfl,.inr rfl,cE ?_ rfl⟩
   simp only[ai,ah,cT,cF, *]
   rfl
  |cons b r=>
   have hne:((b::r:ar)== [])=false:=rfl
   simp only[az,aA,dB,aB,eP,hQ,ai,aH,aN,di,aX,cJ,ak,aK,aD,bk,bm,bW,bt,jB,dj,eA,aw,bU,BX,uU,cU,bJ,aq,bf,cS,cT,cF,aV,cg,aP,gU,bS,tA,ah,au,aZ,sw,h0,hne]
   refine cd ⟨rfl,.inr rfl,cE ?_ rfl⟩
   simp only[ai,ah,cT,cF]
   have hn:jP (b::r)=decide ((b::r).length<=24):=by
    simp only[oQ,aW,aQ,cZ] at hok
    have h1:sk b=true:=by simpa[oU] using hok.1
    have h2:vE r=true:=by rw[<-Fm r 0];exact hok.2
    simp only[jP,h1,h2,i9,cj]
   rw[hn]
   exact congrArg aj.bool hil
 ·refine⟨rfl,.inr rfl,cE ?_ rfl⟩
  rw[h2]
  cases str with
  |nil=>cases hok
  |cons b r=>
   simp only[oQ,aW,aQ,Bool.and_eq_false_iff] at hok
   refine congrArg aj.bool ?_
   rcases hok with h|h
   ·have h1:sk b=false:=by simpa[oU] using h
    simp[jP,h1]
   ·have h2:vE r=false:=by rw[<-Fm r 0];exact h
    simp[jP,h2]
end
def T2:eV:=(89,A1)::T1
theorem GS:fT T2:=.cons aln GR
theorem aiM:eN Tryz.prog 58 qv:=by
 intro args v hv G h w xs wr hx
 unfold qv at hv
 split at hv
 ·rename_i s
  obtain⟨h1,hv⟩:=bX hv
  injection hv with hv;subst hv
  have h1:s.length<small:=iL h1
  exact gS (Q:=QT T2) (gK GS) (fun _=>gV 1) (args:=[.str s]) (v:=.bool (jP s)) (s':=s0) rfl (aiO (sp:=fun f=>fv f T2) rfl rfl s h1 s0) rfl ⟨1,rfl⟩ G h w xs wr hx
 ·cases hv
def nj (last:ar) (t:cz):Bool:= !jP t.1||Ag.leBytes t.1 last||(t.2== [])||decide (200<t.2.length)
def pU:ar->List cz->Bool
 |_,[]=>true
 |last,t::r=>bif nj last t then false else pU t.1 r
def iK (l:List cz):Bool:=pU [] l&&decide (l.length<=60)
section
variable {sp:FuncId->Option (List aj->Option aj)} (h94:sp 58=some qv)
include h94
theorem alP {v:aj} {l:List cz} (hl:bC 2 eC v l) (hk: ∀t∈l,t.1.length<small) (hsmall:l.length<small) {s:St}: ∀(rest pre:List cz) (e:bj) (lc:Ag.Loc) (last:ar),l=pre++rest->
 ax e 0=v->ax e 6=v->ax e 7= .int .i64 (l.length:Nat)->ax e 8= .int .i64 (pre.length:Nat)->ax e 3= .str last->
 W (QS sp) 59 (.loop zQ) ⟨e,39,lc⟩ s fun x fr s'=>s'=s/\fr.size=39/\((x= .exit 0/\ax fr.env 0=v/\pU last rest=true)\/(x= .ret/\ax fr.env 2= .bool false/\pU last rest=false)):=by
 intro rest
 induction rest with
 |nil=>
  intro pre e lc last hpre h0 h6 h7 h8 h3
  have hlen:l.length=pre.length:=by rw[hpre];simp
  refine cR ?_
  unfold zQ
  refine aF ?_
  unfold Ed
  simp only[az,aA,aB,aX,ak,aD,aw,cQ,aq,bf,cT,aV,da,tA,au,decide_false,h7,h8,hlen,eU,decide_false,au]
  refine aR (bc (t:=false) (by simp only[ak,Fy]) ?_)
  refine eD ?_
  refine⟨rfl,rfl,.inl ⟨rfl,?_,rfl⟩⟩
  simp only[ai,cF,ah,h0]
 |cons t rest ih=>
  intro pre e lc last hpre h0 h6 h7 h8 h3
  have hlt:pre.length<l.length:=by rw[hpre];simp
  have hat:l[pre.length]? =some t:=by rw[hpre];simp
  have hia:=fun lc=>hl.at si hat lc .i64
  have hcl:=hl.clean
  have hns:=Fo (hk t (lX hat))
  have hsm:small=9223372036854775808:=rfl
  have hwr:IntKind.i64.wrap ((pre.length:Int)+1)=((pre.length+1:Nat):Int):=by rw[ew (by omega) (by omega)];omega
  refine cR ?_
  unfold zQ
  refine aF ?_
  unfold Ed
  simp only[az,aA,aB,aX,ak,aD,aw,cQ,aq,bf,cT,aV,da,tA,au,dT,h7,h8,hlt,dT,au]
  refine aR (bc (t:=true) (by simp only[ak,Fy]) (ck ?_))
  refine aR (cO ?_)
  refine aF ?_
  unfold Pd
  simp only[az,aA,ej,aB,ep,ai,bR,jz,gZ,bo,ez,ek,ak,aD,gl,fQ,aw,bJ,dC,ix,aq,cK,cT,cF,aV,cg,aP,aW,cut,cV,bN,a7,eR,cq,cH,bS,tA,aQ,ah,au,bE,cm,dY,aZ,dl,cj,dT,x7,Gk,Bi,Z5,h6,h8,hia,eC]
  refine aR (aF ?_)
  unfold Pe
  have fin: ∀e' lc',ax e' 32= .bool true->nj last t=true->W (QS sp) 59 (.cond (aa 32) (.seq (.region Ee) .ret) .skip) ⟨e',39,lc'⟩ s fun x fr s'=>x= .ret/\s'=s/\fr.size=39/\ax fr.env 2= .bool false:=by
   intro e' lc' h _
   refine bc (t:=true) (by simp only[ak,h]) (aF ?_)
   unfold Ee
   simp only[az,aA,aB,aN,aK,bW,aw,tA,au]
   exact cd ⟨rfl,rfl,rfl,by simp only[ai,ah,cT, *]⟩
  cases hb1:jP t.1 with
  |false=>
   simp only[az,aA,dB,aB,gp,j8,ai,cM,bR,aH,di,bo,hG,bZ,dK,dI,ak,aK,aD,bk,bm,bW,cx,dj,eA,aw,hJ,aq,gI,cS,cT,cF,aV,ei,a7,bO,gU,bS,tA,dc,ah,au,aZ,dH,oN,h94,hns,hb1]
   refine(fin _ _ ?_ ?_).mono ?_
   ·simp only[ai,ah,cT,cF, *]
   ·simp[nj,hb1]
   ·rintro x fr s' ⟨rfl,rfl,hs,h⟩
    exact⟨rfl,hs,.inr ⟨rfl,h,by simp[pU,nj,hb1]⟩⟩
  |true=>
  cases hb2:Ag.leBytes t.1 last with
  |true=>
   simp only[az,aA,dB,aB,eP,gp,j8,gn,ai,cM,bR,aH,di,bo,aX,hG,bZ,dK,dI,ak,aK,aD,bk,bm,bW,cx,dj,eA,d7,aw,uT,hJ,aq,gI,cS,cT,cF,aV,ei,a7,bO,dS,bS,tA,dc,ah,au,aZ,dH,oN,h3,h94,hns,hb1,hb2]
   refine(fin _ _ ?_ ?_).mono ?_
   ·simp only[ai,ah,cT,cF, *]
   ·simp[nj,hb1,hb2]
   ·rintro x fr s' ⟨rfl,rfl,hs,h⟩
    exact⟨rfl,hs,.inr ⟨rfl,h,by simp[pU,nj,hb1,hb2]⟩⟩
  |false=>
  cases hb3:t.2== [] with
  |true=>
   simp only[az,aA,dB,aB,eP,gp,j8,gn,ai,cM,bR,aH,di,bo,aX,hG,bZ,dK,dI,ak,aK,aD,bk,bm,bW,jB,cx,dj,eA,d7,aw,jd,uT,hJ,aq,gI,cS,cT,cF,aV,ei,a7,bO,dS,bS,tA,aQ,dc,ah,au,aZ,dH,oN,vh,h3,h94,hns,hb1,hb2,hb3]
   refine(fin _ _ ?_ ?_).mono ?_
   ·simp only[ai,ah,cT,cF, *]
   ·simp[nj,hb1,hb2,hb3]
   ·rintro x fr s' ⟨rfl,rfl,hs,h⟩
    exact⟨rfl,hs,.inr ⟨rfl,h,by simp[pU,nj,hb1,hb2,hb3]⟩⟩
  |false=>
  have hil:dz 200 (t.2.length:Nat)=decide (200<t.2.length):=da 200 _
  cases hb4:decide (200<t.2.length) with
  |true=>
   simp only[az,aA,dB,aB,eP,gn,ai,cM,bR,aH,di,bo,aX,hG,bZ,cJ,dK,dI,ak,aK,aD,bk,bm,bW,bt,jB,cx,dj,d7,aw,bU,nL,jd,uT,hJ,cU,bJ,aq,gI,bf,cS,cT,cF,aV,cg,ei,a7,bO,dS,bS,tA,aQ,dc,ah,au,aZ,dH,oN,vh,sw,IK,h3,h94,hns,hb1,hb2,hb3,hil,hb4]
   refine(fin _ _ ?_ ?_).mono ?_
   ·simp only[ai,ah,cT,cF, *]
   ·simp[nj,hb1,hb2,hb3,hb4]
   ·rintro x fr s' ⟨rfl,rfl,hs,h⟩
    exact⟨rfl,hs,.inr ⟨rfl,h,by simp[pU,nj,hb1,hb2,hb3,hb4]⟩⟩
  |false=>
   simp only[az,aA,dB,aB,eP,gn,ai,cM,bR,aH,di,bo,aX,hG,bZ,cJ,dK,dI,ak,aK,aD,bk,bm,bW,bt,jB,cx,dj,d7,aw,bU,nL,jd,uT,hJ,cU,bJ,aq,gI,bf,cS,cT,cF,aV,cg,ei,a7,bO,dS,bS,tA,aQ,dc,ah,au,aZ,dH,oN,vh,sw,IK,h3,h94,hns,hb1,hb2,hb3,hil,hb4]
   refine bc (t:=false) (by simp only[ak,ai,ah,cT,cF, *]) (ck ?_)
   simp only[aU]
   refine b7 ?_
   unfold Pf
   simp only[az,aA,aB,ai,cM,bR,aN,bo,bZ,ak,cx,aw,aq,cT,cF,aV,a7,bO,bS,tA,dc,ah,au,aZ,dH,oN,aU,dP]
   refine b7 ?_
   unfold Pg
   simp only[az,aA,aB,ai,aH,aX,ak,aK,aD,bt,aw,dZ,aq,bf,cT,cF,aV,bS,tA,ah,au,h8,hwr,aU]
   refine(ih (pre++[t]) _ _ t.1 (by rw[hpre];simp) (by simp only[ai,ah,cF, *]) (by simp only[ai,ah,cF, *]) (by simp only[ai,ah,cF, *]) (by simp only[ai,ah,cT,cF,dp,aP,aW]) (by simp only[ai,ah,cT,cF, *])).mono ?_
   have hbad:nj last t=false:=by simp[nj,hb1,hb2,hb3,hb4]
   simp only[pU,hbad,cF]
   exact fun _ _ _ h=>h
theorem alQ (h95:sp 59=none) {v:aj} {l:List cz} (hl:bC 2 eC v l) (hk: ∀t∈l,t.1.length<small) (hsmall:l.length<small) (s:St):bz (QS sp) 59 [v] s (.bool (iK l)) s:=by
 have hlen:=fun mk s=>hl.len pD pC mk s
 have hcl:=hl.clean
 refine ey afz afy afB afA h95 ?_
 unfold O9
 refine aF ?_
 unfold Pa
 simp only[dt,cY,az,aA,aB,aN,aK,bW,aw,cT,aP,aW,tA,aQ,au,cm,cj,dT]
 refine aF ?_
 unfold Pb
 simp only[az,aA,aB,aN,aK,jB,aw,tA,au]
 refine aR (aF ?_)
 unfold Pc
 simp only[az,aA,aB,ai,aH,cJ,ak,aK,aD,bk,bm,bt,aw,bU,cU,bJ,aq,cT,cF,aV,cg,bS,tA,ah,au,aZ,hcl,hlen]
 refine cO ?_
 refine(alP h94 hl hk hsmall l [] _ _ [] rfl (by simp only[ai,ah,cT,cF, *]) (by simp only[ai,ah,cT,cF, *]) (by simp only[ai,ah,cT,cF, *]) (by simp only[ai,ah,cT,cF];rfl) (by simp only[ai,ah,cT,cF, *])).mono ?_
 rintro x ⟨e,sz,lc⟩ s' ⟨rfl,hs,⟨rfl,h0,hok⟩|⟨rfl,h2,hok⟩⟩
 ·have hs:sz=39:=hs
  subst hs
  have h0:ax e 0=v:=h0
  show W (QS sp) 59 _ _ _ _
  refine aF ?_
  unfold Ph
  simp only[az,aA,aB,ai,aH,aN,aX,cJ,ak,aK,aD,bk,bm,bt,aw,bU,BX,cU,bJ,aq,bf,cT,cF,aV,cg,bS,tA,ah,au,aZ,h0,hcl,hlen]
  refine cd ⟨rfl,.inr rfl,cE ?_ rfl⟩
  simp only[ai,ah,cT,cF,iK,hok,i9]
  exact congrArg aj.bool (sj l.length 60)
 ·exact⟨rfl,.inr rfl,cE (by rw[h2];simp[iK,hok]) rfl⟩
end
def qE:List cz->Bool
 | []=>true
 |t::l=>bT t.1.length small&&qE l
theorem we: ∀ {l:List cz},qE l=true-> ∀t∈l,t.1.length<small
 | [],_,_,h=>by cases h
 |a::l,h,t,ht=>by
  simp only[qE,cZ] at h
  rcases List.mem_cons.1 ht with rfl|ht
  ·exact iL h.1
  ·exact we h.2 t ht
theorem wf: ∀ {l:List cz},(∀t∈l,t.1.length<small)->qE l=true
 | [],_=>rfl
 |a::l,h=>by
  simp only[qE,cZ]
  exact⟨eL (h a (by simp)),wf fun t ht=>h t (by simp[ht])⟩
def pT:Sp
 | [v]=>(gj 2 oH v).bind fun l=>bif bT l.length small&&qE l then some (.bool (iK l)) else none
 |_=>none
theorem TW {v:aj} {l:List cz} (h:bC 2 eC v l) (h1:l.length<small) (h2: ∀t∈l,t.1.length<small):pT [v]=some (.bool (iK l)):=by
 simp only[pT,jI rU h,aq,dl,h1,dT,wf h2,gf,cT]
def T3:eV:=(58,qv)::T2
theorem BA:fT T3:=.cons aiM GS
theorem TX:eN Tryz.prog 59 pT:=by
 intro args u hv G h w xs wr hx
 unfold pT at hv
 split at hv
 ·rename_i v
  simp only[aG] at hv
  obtain⟨l,h1,hv⟩:=hv
  obtain⟨h2,hv⟩:=bX hv
  injection hv with hv;subst hv
  simp only[cZ] at h2
  have hl:bC 2 eC v l:=jb (fun _ _=>rT) h1
  obtain⟨ht,hw⟩:=abg TY hl
  exact gS (Q:=QT T3) (gK BA) (fun _=>gV 1) (args:=[v]) (v:=.bool (iK l)) (s':=s0) (by simp only[jT,ht,gf])
   (alQ (sp:=fun f=>fv f T3) rfl rfl hw (we h2.2) (iL h2.1) s0) rfl ⟨1,rfl⟩ G h w xs wr hx
 ·cases hv
def lU (k:Int):ar:=bif bD k 1 then [110,111,100,101] else bif bD k 2 then [119,97,121] else bif bD k 3 then [97,114,101,97] else bif bD k 4 then [114,111,117,116,101] else bif bD k 5 then [116,117,114,110] else []
def yq:Sp
 | [.int .i64 k]=>some (.str (lU k))
 |_=>none
theorem Xv:l9 [] 100 57 [.int .i64 0]=some (.str (lU 0),0):=by kernel_rfl
theorem Xw:l9 [] 100 57 [.int .i64 1]=some (.str (lU 1),0):=by kernel_rfl
theorem Xx:l9 [] 100 57 [.int .i64 2]=some (.str (lU 2),0):=by kernel_rfl
theorem Xy:l9 [] 100 57 [.int .i64 3]=some (.str (lU 3),0):=by kernel_rfl
theorem Xz:l9 [] 100 57 [.int .i64 4]=some (.str (lU 4),0):=by kernel_rfl
theorem XA:l9 [] 100 57 [.int .i64 5]=some (.str (lU 5),0):=by kernel_rfl
theorem amp {sp:FuncId->Option (List aj->Option aj)} (h93:sp 57=none) {k:Int} (hk:k<0\/6<=k) (s:St):bz (QS sp) 57 [.int .i64 k] s (.str []) s:=by
 refine ey afq afp aft afs h93 ?_
 unfold OX
 refine aF ?_
 unfold OY
 simp only[dt,cY,az,aA,aB,aN,aK,jB,aw,cT,aP,aW,tA,aQ,au,cm,cj,dT]
 refine aF ?_
 unfold OZ
 simp only[az,aA,ej,aB,ep,ai,dA,bR,jz,gZ,lf,ez,ak,aK,aD,jB,gl,aw,bJ,dC,kV,ix,aq,cS,cK,cT,cF,aV,cg,aP,aW,cV,bN,a7,gr,eR,cq,cH,bS,tA,aQ,ah,au,bE,Nat.reduceMul,cm,dY,aZ,dl,cj,dT,VD,alx,amB,Z3,dQ]
 refine aR (aF ?_)
 unfold O0
 have fin: ∀e' lc',ax e' 10= .bool true->W (QS sp) 57 (.cond (aa 10) (.seq (.region Ea) .ret) .skip) ⟨e',14,lc'⟩ s fun x fr s'=>x= .ret/\s'=s/\ax fr.env 2= .str []:=by
  intro e' lc' h
  refine bc (t:=true) (by simp only[ak,h]) (aF ?_)
  unfold Ea
  simp only[az,aA,aB,aN,aK,jB,aw,tA,au]
  exact cd ⟨rfl,rfl,by simp only[ai,ah,cT, *]⟩
 cases h1:dz k 0 with
 |true=>
  simp only[az,aA,dB,aB,gp,j8,ai,aH,di,aX,ak,aK,aD,bW,bt,dj,eA,aw,cQ,aq,bf,cT,cF,aV,bS,tA,ah,au,h1]
  refine(fin _ _ ?_).mono ?_
  ·simp only[ai,ah,cT,cF, *]
  ·rintro x fr s' ⟨rfl,rfl,h⟩
   exact⟨rfl,.inr rfl,cE h rfl⟩
 |false=>
  have h2:iG 6 k=true:=by
   simp only[dz,decide_eq_false_iff_not] at h1
   simp only[iG,decide_eq_true_eq];omega
  simp only[az,aA,dB,aB,eP,gn,ai,aH,di,aX,ak,aK,aD,bW,bt,dj,d7,aw,cQ,nK,aq,bf,cT,cF,aV,bS,tA,ah,au,h1,h2]
  refine(fin _ _ ?_).mono ?_
  ·simp only[ai,ah,cT,cF, *]
  ·rintro x fr s' ⟨rfl,rfl,h⟩
   exact⟨rfl,.inr rfl,cE h rfl⟩
theorem mi {a b:Int} (h:a≠b):bD a b=false:=beq_eq_false_iff_ne.2 h
theorem amn:eN Tryz.prog 57 yq:=by
 intro args u hv G h w xs wr hx
 unfold yq at hv
 split at hv
 ·rename_i k
  injection hv with hv;subst hv
  have hcase:(k<0\/6<=k)\/k=0\/k=1\/k=2\/k=3\/k=4\/k=5:=by omega
  rcases hcase with hk|rfl|rfl|rfl|rfl|rfl|rfl
  ·have hw:lU k=[]:=by
    simp only[lU,mi (show k≠1 by omega),mi (show k≠2 by omega),mi (show k≠3 by omega),mi (show k≠4 by omega),mi (show k≠5 by omega),cF]
   rw[hw]
   exact gS (Q:=QT []) (gK .nil) (fun _=>gV 1) (args:=[.int .i64 k]) (v:=.str []) (s':=s0) rfl (amp (sp:=fun f=>fv f []) rfl hk s0) rfl ⟨1,rfl⟩ G h w xs wr hx
  ·exact oe .nil Xv (args':=[.int .i64 0]) rfl rfl G h w xs wr hx
  ·exact oe .nil Xw (args':=[.int .i64 1]) rfl rfl G h w xs wr hx
  ·exact oe .nil Xx (args':=[.int .i64 2]) rfl rfl G h w xs wr hx
  ·exact oe .nil Xy (args':=[.int .i64 3]) rfl rfl G h w xs wr hx
  ·exact oe .nil Xz (args':=[.int .i64 4]) rfl rfl G h w xs wr hx
  ·exact oe .nil XA (args':=[.int .i64 5]) rfl rfl G h w xs wr hx
 ·cases hv
def qq (k:Int):Nat:=bif bD k 2 then 2 else bif bD k 3 then 3 else bif bD k 4 then 1 else bif bD k 5 then 3 else 0
def vA:Sp
 | [.int .i64 k]=>bif iG 0 k&&dz k 6 then some (.int .i64 (qq k:Nat)) else none
 |_=>none
theorem XB:l9 [] 100 60 [.int .i64 0]=some (.int .i64 (qq 0:Nat),0):=by kernel_rfl
theorem XC:l9 [] 100 60 [.int .i64 1]=some (.int .i64 (qq 1:Nat),0):=by kernel_rfl
theorem XD:l9 [] 100 60 [.int .i64 2]=some (.int .i64 (qq 2:Nat),0):=by kernel_rfl
theorem XE:l9 [] 100 60 [.int .i64 3]=some (.int .i64 (qq 3:Nat),0):=by kernel_rfl
theorem XF:l9 [] 100 60 [.int .i64 4]=some (.int .i64 (qq 4:Nat),0):=by kernel_rfl
theorem XG:l9 [] 100 60 [.int .i64 5]=some (.int .i64 (qq 5:Nat),0):=by kernel_rfl
theorem ahx:eN Tryz.prog 60 vA:=by
 intro args u hv G h w xs wr hx
 unfold vA at hv
 split at hv
 ·rename_i k
  obtain⟨hk,hv⟩:=bX hv
  injection hv with hv;subst hv
  simp only[iG,dz,cZ,decide_eq_true_eq] at hk
  have hcase:k=0\/k=1\/k=2\/k=3\/k=4\/k=5:=by omega
  rcases hcase with rfl|rfl|rfl|rfl|rfl|rfl
  ·exact oe .nil XB (args':=[.int .i64 0]) rfl rfl G h w xs wr hx
  ·exact oe .nil XC (args':=[.int .i64 1]) rfl rfl G h w xs wr hx
  ·exact oe .nil XD (args':=[.int .i64 2]) rfl rfl G h w xs wr hx
  ·exact oe .nil XE (args':=[.int .i64 3]) rfl rfl G h w xs wr hx
  ·exact oe .nil XF (args':=[.int .i64 4]) rfl rfl G h w xs wr hx
  ·exact oe .nil XG (args':=[.int .i64 5]) rfl rfl G h w xs wr hx
 ·cases hv
def pM (x y:Int):Bool:=iG 0 x&&dz x 1048576&&iG 0 y&&dz y 1048576
def xW:Sp
 | [.agg [.int .i64 x,.int .i64 y]]=>some (.bool (pM x y))
 |_=>none
theorem ai4 {sp:FuncId->Option (List aj->Option aj)} (h99:sp 63=none) (x y:Int) (s:St):bz (QS sp) 63 [.agg [.int .i64 x,.int .i64 y]] s (.bool (pM x y)) s:=by
 refine ey af7 af6 af9 af8 h99 ?_
 unfold Pp
 refine aF ?_
 unfold Pq
 simp only[dt,cY,az,aA,aB,ai,dA,aN,jC,ak,aK,aD,bW,gl,aw,bJ,dC,aq,cK,cT,cg,aP,aW,bS,tA,aQ,au,cm,cj,dT,Z6]
 refine aF ?_
 unfold Pr
 cases h1:iG 0 x with
 |false=>
  simp only[az,aA,dB,aB,gp,jr,ai,dA,cM,bR,aH,aN,di,bo,aX,bZ,ak,aK,aD,bW,bt,cx,dj,d7,aw,nK,aq,bf,cT,cF,aV,a7,bO,bS,tA,dc,ah,au,aZ,fJ,xa,h1]
  refine cd ⟨rfl,.inr rfl,cE ?_ rfl⟩
  simp only[ai,ah,cT,cF, *]
  simp only[pM,h1,qJ]
 |true=>
 cases h2:dz x 1048576 with
 |false=>
  simp only[az,aA,dB,aB,eP,gp,hQ,jr,ai,dA,cM,bR,aH,aN,di,bo,aX,bZ,ak,aK,aD,bW,bt,cx,dj,eA,d7,aw,cQ,nK,aq,bf,cT,cF,aV,a7,bO,bS,tA,dc,ah,au,aZ,fJ,xa,h1,h2]
  refine cd ⟨rfl,.inr rfl,cE ?_ rfl⟩
  simp only[ai,ah,cT,cF, *]
  simp only[pM,h1,h2,ww,qJ]
 |true=>
 cases h3:iG 0 y with
 |false=>
  simp only[az,aA,dB,aB,eP,gp,hQ,jr,ai,dA,cM,bR,aH,aN,di,bo,aX,bZ,ak,aK,aD,bW,bt,cx,dj,eA,d7,aw,cQ,nK,aq,bf,cT,cF,aV,a7,bO,bS,tA,aQ,dc,ah,au,aZ,fJ,xa,Cz,h1,h2,h3]
  refine cd ⟨rfl,.inr rfl,cE ?_ rfl⟩
  simp only[ai,ah,cT,cF, *]
  simp only[pM,h1,h2,h3,ww,qJ]
 |true=>
  simp only[az,aA,dB,aB,eP,hQ,ai,dA,cM,bR,aH,aN,di,bo,aX,bZ,ak,aK,aD,bW,bt,cx,dj,eA,aw,cQ,nK,aq,bf,cT,cF,aV,a7,bO,bS,tA,aQ,dc,ah,au,aZ,fJ,xa,Cz,h1,h2,h3]
  refine cd ⟨rfl,.inr rfl,cE ?_ rfl⟩
  simp only[ai,ah,cT,cF, *]
  simp only[pM,h1,h2,h3,i9]
theorem ai3:eN Tryz.prog 63 xW:=by
 intro args u hv G h w xs wr hx
 unfold xW at hv
 split at hv
 ·rename_i x y
  injection hv with hv;subst hv
  exact gS (Q:=QT []) (gK .nil) (fun _=>gV 1) (args:=[.agg [.int .i64 x,.int .i64 y]]) (v:=.bool (pM x y)) (s':=s0) rfl (ai4 (sp:=fun f=>fv f []) rfl x y s0) rfl ⟨1,rfl⟩ G h w xs wr hx
 ·cases hv
def T4:eV:=(57,yq)::(60,vA)::(63,xW)::(59,pT)::T3
theorem GU:fT T4:=.cons amn (.cons ahx (.cons ai3 (.cons TX BA)))
def RF (P:Program) (t:TypeId) (off:Nat):Option bH->Option aj
 |some (.cells cs)=>fg P t cs off
 |_=>none
theorem dv (P:Program) (mk:bn) (t:TypeId) (n off:Nat) (lc:Ag.Loc) (s:St):kZ P mk t (.ptr n off) lc s=RF P t off (s.get mk n):=by
 simp only[kZ]
 cases s.get mk n with
 |none=>rfl
 |some o=>cases o<;>rfl
theorem du (P:Program) (t:TypeId) (off:Nat) (cs:List aj):RF P t off (some (.cells cs))=fg P t cs off:=rfl
noncomputable def TN (lc:Ag.Loc) (s:St) (m off:Nat) (v:aj):Option bH->Option (Ag.Loc×St)
 |some (.cells cs)=>(cV cs off v.cells).bind fun cs'=>some (lc,s.put m (some (.cells cs')))
 |_=>none
theorem kz (P:Program) (mk:bn) (t:TypeId) (m off:Nat) (v:aj) (lc:Ag.Loc) (s:St):pS P mk t (.ptr m off) v lc s=(fu P t).bind fun n=>bif be v.cells.length n&&bT 0 n then TN lc s m off v (s.get mk m) else none:=by
 simp only[pS]
 cases s.get mk m with
 |none=>rfl
 |some o=>cases o<;>rfl
theorem ky (lc:Ag.Loc) (s:St) (m off:Nat) (v:aj) (cs:List aj):TN lc s m off v (some (.cells cs))=(cV cs off v.cells).bind fun cs'=>some (lc,s.put m (some (.cells cs'))):=rfl
section
variable {Q:cw} {f:FuncId}
theorem fU (n:Nat) {l:List cD} {fr:Fr} {s:St} {N:Fr->St->Prop} (h:WP Q f (l.take n) fr s fun fr s=>WL Q f (l.drop n) fr s N):WL Q f l fr s N:=by
 obtain⟨fr1,s1,h1,h2⟩:=h
 have:=WL.app h1 h2
 rwa [List.take_append_drop] at this
theorem fY {d:Tmp} {x:Operand} {av:Array Operand} {ts:Array TypeId} {l:List cD} {e:bj} {sz:Nat} {lc:Ag.Loc} {s s1:St} {g:FuncId} {args:List aj} {v:aj} {N:Fr->St->Prop}
 (hc:callee e ⟨.value x,av,ts⟩=some (g,args)) (hr:bz Q g args s v s1) (hd:d<sz) (hk:WL Q f l ⟨e.set d (some v),sz,lc⟩ s1 N):
 WL Q f (⟨some d,.call ⟨.value x,av,ts⟩,.aw⟩::l) ⟨e,sz,lc⟩ s N:=
 WL.call rfl rfl (fun b=>by simp) hc hr (iw.2 ⟨hd,rfl⟩) hk
theorem fX {l:List cD} {fr:Fr} {s:St} {N:Fr->St->Prop} (h:WP Q f l fr s N):WL Q f l fr s N:=let⟨_,_,h1,h2⟩:=h;WL.run h1 h2
end
structure Obj where
 id:ar
 kind:Int
 x:Int
 y:Int
 refsV:aj
 tagsV:aj
 refs:List ar
 tags:List cz
def Obj.cells (o:Obj):List aj:=[.str o.id,.int .i64 o.kind,.int .i64 o.x,.int .i64 o.y,o.refsV,o.tagsV]
def Obj.val (o:Obj):aj:=.agg o.cells
structure Obj.Ok (o:Obj):Prop where
 refs:bC 1 bu o.refsV o.refs
 tags:bC 2 eC o.tagsV o.tags
 id:o.id.length<small
 reflen:o.refs.length<small
 ref: ∀r∈o.refs,r.length<small
 taglen:o.tags.length<small
 key: ∀t∈o.tags,t.1.length<small
def qD (ks:List ar):List (ar×aj):=ks.map fun k=>(k,.bool true)
theorem RQ (k:ar): ∀ks,look k (qD ks)=bif ks.contains k then some (.bool true) else none
 | []=>rfl
 |a::ks=>by
  have ih:=RQ k ks
  simp only[qD,fw,look,List.contains_cons] at ih ⊢
  rw[ih]
  cases k==a<;>simp
theorem aid (k:ar) (ks:List ar):(look k (qD ks)).getD (.bool false)= .bool (ks.contains k):=by
 rw[RQ];cases ks.contains k<;>rfl
def rQ (k:ar) (ks:List ar):List ar:=bif ks.contains k then ks else ks++[k]
theorem I8 (k:ar): ∀ks,eG k (.bool true) (qD ks)=qD (rQ k ks)
 | []=>rfl
 |a::ks=>by
  have ih:=I8 k ks
  simp only[qD,fw,eG,rQ,List.contains_cons] at ih ⊢
  cases h:k==a with
  |true=>
   have:k=a:=by simpa using h
   subst this
   simp
  |false=>
   simp only[cF,jU,ih]
   cases ks.contains k<;>simp
def ws (kind:Int) (last:ar) (seen:List ar) (r:ar):Bool:=((bD kind 2&&(r==last))||(bD kind 3&&seen.contains r))|| !jP r
structure lu (s:St) (o:Obj) (po pl ps m:Nat) (last:ar) (seen:List ar):Prop where
 ho:s.get [] po=some (.cells o.cells)
 hl:s.get [] pl=some (.cells [.str last])
 hs:s.get [] ps=some (.cells [.map m])
 hm:s.get [] m=some (.map (cP 0 (qD seen)) (qD seen).length)
 d1:(pl==m)=false
 d2:(po==m)=false
 d3:(po==pl)=false
 d4:(ps==m)=false
 d5:(ps==pl)=false
 d6:(m==pl)=false
noncomputable def lu.next (s:St) (pl m:Nat) (seen:List ar) (r:ar):St:=(s.put m (some (.map (cP 0 (qD (rQ r seen))) (qD (rQ r seen)).length))).put pl (some (.cells [.str r]))
theorem lu.after {s:St} {o:Obj} {po pl ps m:Nat} {last:ar} {seen:List ar} (c:lu s o po pl ps m last seen) (r:ar):lu (lu.next s pl m seen r) o po pl ps m r (rQ r seen):=by
 refine⟨?_,?_,?_,?_,c.d1,c.d2,c.d3,c.d4,c.d5,c.d6⟩<;>simp only[lu.next,cI,c.d1,c.d2,c.d3,c.d4,c.d5,c.d6,bS,cT,cF,c.ho,c.hs]
section
variable {sp:FuncId->Option (List aj->Option aj)} (h94:sp 58=some qv)
include h94
theorem amz (h97:sp 61=none) {s:St} {o:Obj} {po pl ps m:Nat} {last:ar} {seen:List ar} (c:lu s o po pl ps m last seen) {r:ar} (hr:r.length<small):
 bz (QS sp) 61 [.str r,.ptr po 0,.ptr pl 0,.ptr ps 0] s (.bool (ws o.kind last seen r)) (lu.next s pl m seen r):=by
 have hns:=Fo hr
 have hlk:=E7 sd R9 amG c.hm r
 rw[aid] at hlk
 have hup:=yo sd R9 c.hm r (.bool true)
 rw[I8] at hup
 have ho:=c.ho
 have hl:=c.hl
 have hs:=c.hs
 have d1:=c.d1
 refine ey afX afW afZ afY h97 ?_
 unfold Pj
 refine aF ?_
 unfold Pk
 simp only[dt,cY,az,aA,aB,aN,aK,bW,aw,cT,aP,aW,tA,aQ,au,bE,cm,cj,dT]
 refine aF ?_
 unfold Pl
 have two: ∀e b,ax e 0= .str r->ax e 1= .ptr po 0->ax e 2= .ptr pl 0->ax e 3= .ptr ps 0->ax e 6= .bool b->b=((bD o.kind 2&&(r==last))||(bD o.kind 3&&seen.contains r))->W (QS sp) 61 (.seq (.region Ef) (.seq (.region Eg) .ret)) ⟨e,34,[]⟩ s fun x fr' s1=>s1=lu.next s pl m seen r/\(x= .normal\/x= .ret)/\ ∃vs,gQ (QS sp) [] fr' s1 [.tmp 5]=some vs/\jQ vs= .bool (ws o.kind last seen r):=by
  intro e b h0 h1 h2 h3 h6 hb
  refine aF ?_
  unfold Ef
  simp only[az,aA,ej,aB,ep,ai,aH,bo,ez,ua,ak,aK,aD,bW,aw,ui,kV,aq,gI,cS,fZ,cT,cF,aV,aP,aW,cV,bN,a7,bO,gr,cq,iA,bS,tA,aQ,ah,au,cm,dY,aZ,dl,cj,dT,FL,Gl,dv,du,kz,ky,cI,h0,h2,h3,hs,hl,hup,d1]
  refine aF ?_
  unfold Eg
  cases b with
  |true=>
   simp only[az,aA,dB,aB,gp,j8,ai,aH,aN,di,ak,aK,bW,dj,eA,aw,aq,cT,cF,bS,tA,ah,au,h6]
   refine cd ⟨rfl,.inr rfl,cE ?_ rfl⟩
   simp only[ai,ah,cT,cF, *]
   simp only[ws,<-hb,qL]
  |false=>
   simp only[az,aA,dB,aB,eP,gn,ai,aH,aN,di,hG,dK,dI,ak,aK,aD,bk,bm,bW,dj,d7,aw,hJ,aq,gI,cS,cT,cF,ei,bS,tA,ah,au,h0,h6,h94,hns]
   refine cd ⟨rfl,.inr rfl,cE ?_ rfl⟩
   simp only[ai,ah,cT,cF, *]
   simp only[ws,<-hb,jU]
 cases hk2:bD o.kind 2 with
 |true=>
  cases he:r==last with
  |true=>
   simp only[az,aA,dB,aB,eP,gp,hQ,j8,Bd,ai,aH,aN,di,bo,aX,bZ,ak,aK,aD,bW,bt,dj,eA,aw,jH,jd,aq,bf,cS,cT,cF,aV,a7,bO,bS,tA,aQ,ah,au,fJ,dH,lI,dv,du,ho,hl,Obj.cells,hk2,he]
   refine two _ true ?_ ?_ ?_ ?_ ?_ (by simp only[hk2,he,gf,qL])<;>simp only[ai,ah,cT,cF, *]
  |false=>
   cases hk3:bD o.kind 3 with
   |true=>
    simp only[az,aA,dB,aB,eP,hQ,gn,ai,aH,aN,di,bo,aX,bZ,lQ,ak,aK,aD,bW,bt,dj,eA,d7,aw,jH,jd,aq,bf,cS,fZ,cT,cF,aV,a7,bO,bS,tA,aQ,ah,au,fJ,dH,FL,lI,dv,du,ho,hs,hl,Obj.cells,hk2,he,hk3,hlk]
    refine two _ (seen.contains r) ?_ ?_ ?_ ?_ ?_ (by simp only[hk2,he,hk3,ww,jU,i9])<;>simp only[ai,ah,cT,cF, *]
   |false=>
    simp only[az,aA,dB,aB,eP,gp,hQ,jr,gn,ai,aH,aN,di,bo,aX,bZ,ak,aK,aD,bW,bt,dj,eA,d7,aw,jH,jd,aq,bf,cS,cT,cF,aV,a7,bO,bS,tA,aQ,ah,au,fJ,dH,lI,dv,du,ho,hl,Obj.cells,hk2,he,hk3]
    refine two _ false ?_ ?_ ?_ ?_ ?_ (by simp only[hk2,he,hk3,ww,jU,qJ])<;>simp only[ai,ah,cT,cF, *]
 |false=>
  cases hk3:bD o.kind 3 with
  |true=>
   simp only[az,aA,dB,aB,eP,gp,hQ,jr,gn,ai,aH,aN,di,bo,aX,bZ,lQ,ak,aK,aD,bW,bt,dj,eA,d7,aw,jH,aq,bf,cS,fZ,cT,cF,aV,a7,bO,bS,tA,aQ,ah,au,fJ,FL,lI,dv,du,ho,hs,Obj.cells,hk2,hk3,hlk]
   refine two _ (seen.contains r) ?_ ?_ ?_ ?_ ?_ (by simp only[hk2,hk3,qJ,jU,i9])<;>simp only[ai,ah,cT,cF, *]
  |false=>
   simp only[az,aA,dB,aB,eP,gp,jr,gn,ai,aH,aN,di,bo,aX,bZ,ak,aK,aD,bW,bt,dj,d7,aw,jH,aq,bf,cT,cF,aV,a7,bO,bS,tA,aQ,ah,au,fJ,lI,dv,du,ho,Obj.cells,hk2,hk3]
   refine two _ false ?_ ?_ ?_ ?_ ?_ (by simp only[hk2,hk3,jU,qJ])<;>simp only[ai,ah,cT,cF, *]
end
theorem bz.ofEx {Q:cw} {f:FuncId} {fn:Func} {sc:SC} {n:Nat} {rs:List ResultVar} {args:List aj} {s:St} {R:aj->St->Prop} (hf:Q.P.funcs[f]? =some fn) (hc:fn.body.map cL=some sc) (hn:fn.ntmps=n) (hr:fn.results.toList=rs) (hsp:Q.spec f=none)
 (h:W Q f sc (dt n args) s fun x fr' s1=>(x= .normal\/x= .ret)/\ ∃v,(∃vs,gQ Q [] fr' s1 rs=some vs/\jQ vs=v)/\R v s1) (hH:Q.specH f=none:=by rfl) (hW:Q.specW f=none:=by rfl): ∃v s',bz Q f args s v s'/\R v s':=by
 obtain⟨x,fr',s1,h1,h2,v,h3,h4⟩:=h
 exact⟨v,s1,ey hf hc hn hr hsp ⟨x,fr',s1,h1,rfl,h2,h3⟩ hH hW,h4⟩
def qf (kind:Int):ar->List ar->List ar->Bool
 |_,_,[]=>false
 |last,seen,r::rs=>ws kind last seen r||qf kind r (rQ r seen) rs
def uY (po pl ps:Nat):aj:=.func (.func 61) [] [.ptr po 0,.ptr pl 0,.ptr ps 0]
theorem HA (po pl ps:Nat):(uY po pl ps).clean=true:=rfl
section
variable {sp:FuncId->Option (List aj->Option aj)} (h94:sp 58=some qv) (h97:sp 61=none)
include h94 h97
theorem aa7 {v:aj} {l:List ar} (hl:bC 1 bu v l) (hk: ∀r∈l,r.length<small) (hsmall:l.length<small) {o:Obj} {po pl ps m:Nat}: ∀(rest pre:List ar) (e:bj) (lc:Ag.Loc) (s:St) (last:ar) (seen:List ar),l=pre++rest->lu s o po pl ps m last seen->
 ax e 0=v->ax e 1=uY po pl ps->ax e 7= .int .i64 (l.length:Nat)->ax e 8= .int .i64 (pre.length:Nat)->
 W (QS sp) 90 (.loop zY) ⟨e,19,lc⟩ s fun x fr s'=>(∃last' seen',lu s' o po pl ps m last' seen')/\s'.ci=s.ci/\fr.size=19/\((x= .exit 0/\qf o.kind last seen rest=false)\/(x= .ret/\(∃i:Nat,ax fr.env 4= .int .i64 (i:Int))/\qf o.kind last seen rest=true)):=by
 intro rest
 induction rest with
 |nil=>
  intro pre e lc s last seen hpre c h0 h1 h7 h8
  have hlen:l.length=pre.length:=by rw[hpre];simp
  refine cR ?_
  unfold zY
  refine aF ?_
  unfold EK
  simp only[az,aA,aB,aX,ak,aD,aw,cQ,aq,bf,cT,aV,da,tA,au,decide_false,h7,h8,hlen,eU]
  refine aR (bc (t:=false) (by simp only[ak,ai,ah,cT, *]) ?_)
  exact eD ⟨⟨last,seen,c⟩,rfl,rfl,.inl ⟨rfl,rfl⟩⟩
 |cons r rest ih=>
  intro pre e lc s last seen hpre c h0 h1 h7 h8
  have hlt:pre.length<l.length:=by rw[hpre];simp
  have hat:l[pre.length]? =some r:=by rw[hpre];simp
  have hia:=fun lc=>hl.at lJ hat lc .i64
  have hcl:=hl.clean
  have hr:=hk r (lX hat)
  have hsm:small=9223372036854775808:=rfl
  have hwr:IntKind.i64.wrap ((pre.length:Int)+1)=((pre.length+1:Nat):Int):=by rw[ew (by omega) (by omega)];omega
  refine cR ?_
  unfold zY
  refine aF ?_
  unfold EK
  simp only[az,aA,aB,aX,ak,aD,aw,cQ,aq,bf,cT,aV,da,tA,au,dT,h7,h8,hlt]
  refine aR (bc (t:=true) (by simp only[ak,ai,ah,cT, *]) (ck ?_))
  refine aR (cO ?_)
  refine aF ?_
  unfold QK
  simp only[az,aA,aB,ai,aH,aN,ak,aw,cT,cF,bS,tA,ah,au,h8]
  refine aR (gh (fU 5 ?_))
  unfold QL
  simp only[az,aA,aB,ai,aH,bo,ek,ak,fQ,aw,kV,aq,cT,cF,aV,bN,a7,bO,bS,tA,ah,au,dH,h0,h1,hia,bu]
  refine fY (g:=61) (args:=[.str r,.ptr po 0,.ptr pl 0,.ptr ps 0]) ?_ (amz h94 h97 c hr) (by decide) ?_
  ·simp only[callee,uY,ai,ak,aD,bk,bm,aq,cS,cT,cF,cq,cH,bS,ah]
  refine fX ?_
  simp only[az,aU]
  cases hw:ws o.kind last seen r with
  |true=>
   refine bc (t:=true) (by simp only[ak,ai,ah,cT,cF]) (aF ?_)
   unfold QN
   simp only[az,aA,aB,ai,aH,aN,ak,aw,cT,cF,bS,tA,ah,au]
   refine cd ⟨⟨_,_,c.after r⟩,rfl,rfl,.inr ⟨rfl,⟨pre.length,?_⟩,by simp[qf,hw]⟩⟩
   simp only[ai,ah,cT,cF, *]
  |false=>
   refine bc (t:=false) (by simp only[ak,ai,ah,cT,cF]) (ck ?_)
   simp only[dP,aU]
   refine b7 ?_
   unfold QO
   simp only[az,aA,aB,ai,aH,aX,ak,aK,aD,bt,aw,dZ,aq,bf,cT,cF,aV,bS,tA,ah,au,h8,hwr,aU]
   refine(ih (pre++[r]) _ _ _ r (rQ r seen) (by rw[hpre];simp) (c.after r) (by simp only[ai,ah,cF, *]) (by simp only[ai,ah,cF, *]) (by simp only[ai,ah,cF, *]) (by simp only[ai,ah,cT,cF,dp,aP,aW])).mono ?_
   simp only[qf,hw,jU]
   exact fun _ _ _ h=>h
theorem aa8 (h157:sp 90=none) {v:aj} {l:List ar} (hl:bC 1 bu v l) (hk: ∀r∈l,r.length<small) (hsmall:l.length<small) {o:Obj} {po pl ps m:Nat} {s:St} {last:ar} {seen:List ar} (c:lu s o po pl ps m last seen):
 ∃u s',bz (QS sp) 90 [v,uY po pl ps] s u s'/\((∃last' seen',lu s' o po pl ps m last' seen')/\s'.ci=s.ci/\ ∃z:Int,u= .int .i64 z/\iG 0 z=qf o.kind last seen l):=by
 have hlen:=fun mk s=>hl.len iI iW mk s
 have hcl:=hl.clean
 refine bz.ofEx ahc ahb ahe ahd h157 ?_
 unfold QG
 refine aF ?_
 unfold QI
 simp only[dt,cY,az,aA,aB,aN,aK,bt,aw,cT,aP,aW,tA,aQ,au,bE,cm,cj,dT]
 refine aR (aF ?_)
 unfold QJ
 simp only[az,aA,aB,ai,aH,cJ,ak,aK,aD,bk,bm,bt,aw,bU,cU,bJ,aq,cT,cF,aV,cg,bS,tA,ah,au,aZ,hcl,hlen]
 refine cO ?_
 refine(aa7 h94 h97 hl hk hsmall l [] _ _ s last seen rfl c (by simp only[ai,ah,cT,cF, *]) (by simp only[ai,ah,cT,cF, *]) (by simp only[ai,ah,cT,cF, *]) (by simp only[ai,ah,cT,cF];rfl)).mono ?_
 rintro x ⟨e,sz,lc⟩ s' ⟨hc,hci,hs,⟨rfl,hok⟩|⟨rfl,⟨i,h4⟩,hok⟩⟩
 ·have hs:sz=19:=hs
  subst hs
  show W (QS sp) 90 _ _ _ _
  refine aF ?_
  unfold QP
  simp only[az,aA,aB,aN,aK,bt,aw,tA,au]
  refine cd ⟨.inr rfl,.int .i64 (-1),cE ?_ rfl,hc,hci, -1,rfl,by rw[hok];rfl⟩
  simp only[ai,ah,cT, *]
 ·exact⟨.inr rfl,.int .i64 i,cE h4 rfl,hc,hci,i,rfl,by rw[hok];simp[iG]⟩
theorem YQ (h157:sp 90=none) (h98:sp 62=none) {v:aj} {l:List ar} (hl:bC 1 bu v l) (hk: ∀r∈l,r.length<small) (hsmall:l.length<small) {o:Obj} {po pl ps m:Nat} {s:St} {last:ar} {seen:List ar} (c:lu s o po pl ps m last seen):
 ∃u s',bz (QS sp) 62 [v,uY po pl ps] s u s'/\((∃last' seen',lu s' o po pl ps m last' seen')/\s'.ci=s.ci/\u= .bool (qf o.kind last seen l)):=by
 obtain⟨u,s1,hr,hc,hci,z,rfl,hz⟩:=aa8 h94 h97 h157 hl hk hsmall c
 have hcl:=hl.clean
 refine bz.ofEx af3 af0 af5 af4 h98 ?_
 unfold Pm
 refine aF ?_
 unfold Pn
 simp only[dt,cY,az,aA,aB,aN,aK,bW,aw,cT,aP,aW,tA,aQ,au,bE,cm,cj,dT]
 refine aR (gh (fU 2 ?_))
 unfold Po
 simp only[az,aA,aB,ai,aH,ak,aw,cT,cF,bN,a7,bS,tA,ah,au]
 refine fY (g:=90) ?_ hr (by decide) ?_
 ·simp only[callee,hcl,HA,ai,ak,ff,aD,bk,bm,aq,cT,cF,cq,cH,bS,ah]
 refine fX ?_
 simp only[az,aA,aB,ai,aN,aX,ak,aK,aD,bt,aw,nK,aq,bf,cT,cF,aV,bS,tA,ah,au,hz,aU]
 refine cd ⟨.inr rfl,_,cE (v:=.bool (qf o.kind last seen l)) ?_ rfl,hc,hci,rfl⟩
 simp only[ai,ah,cT,cF, *]
end
def qm (o:Obj):Bool:=(lU o.kind== [])|| !jP o.id|| !iK o.tags||decide (o.refs.length<qq o.kind)||decide (2000<o.refs.length)
def yw (o:Obj):Bool:=bD o.x 0&&bD o.y 0
def iO (o:Obj):Bool:=bif qm o then false else bif qf o.kind [] [] o.refs then false else bif bD o.kind 1 then(o.refs.length==0)&&pM o.x o.y else bif bD o.kind 5 then(o.refs.length==3)&&yw o else yw o
theorem Vf (P:Program) (t:TypeId) (a b:List aj):fy P .eql t (.agg a) (.agg b)=(qk P t (.agg a) (.agg b)).bind fun b=>some (.bool b):=rfl
theorem BQ (P:Program) (t:TypeId) (a b:List aj):fy P .neq t (.agg a) (.agg b)=(qk P t (.agg a) (.agg b)).bind fun b=>some (.bool !b):=rfl
theorem pP (a b c d:Int):fy Tryz.prog .eql 36 (.agg [.int .i64 a,.int .i64 b]) (.agg [.int .i64 c,.int .i64 d])=some (.bool (bif bD a c then bif bD b d then true else false else false)):=by
 have h:qk Tryz.prog 36 (.agg [.int .i64 a,.int .i64 b]) (.agg [.int .i64 c,.int .i64 d])=(some (bD a c)).bind fun r=>bif r then(some (bD b d)).bind fun r=>bif r then some true else some false else some false:=by kernel_rfl
 rw[Vf,h]
 cases bD a c<;>cases bD b d<;>rfl
theorem SJ (a b:Int):(bif bD a 0 then bif bD b 0 then true else false else false)=(bD a 0&&bD b 0):=by
 cases bD a 0<;>cases bD b 0<;>rfl
theorem amo {k:Int} (h:(lU k== [])=false):(iG 0 k&&dz k 6)=true:=by
 by_cases h1:0<=k/\k<6
 ·simp[iG,dz,h1.1,h1.2]
 ·have hw:lU k=[]:=by
   simp only[lU,mi (show k≠1 by omega),mi (show k≠2 by omega),mi (show k≠3 by omega),mi (show k≠4 by omega),mi (show k≠5 by omega),cF]
  rw[hw] at h;cases h
theorem vm (s:St) (mk:bn) (n:Nat):s.top.get mk n=s.get mk n:=rfl
theorem ahw {k:Int} (h:(iG 0 k&&dz k 6)=true):vA [.int .i64 k]=some (.int .i64 (qq k:Nat)):=by
 simp only[vA,h,cT]
section
variable {sp:FuncId->Option (List aj->Option aj)} (h93:sp 57=some yq) (h94:sp 58=some qv) (h95:sp 59=some pT) (h96:sp 60=some vA) (h99:sp 63=some xW) (h97:sp 61=none) (h98:sp 62=none) (h157:sp 90=none)
include h93 h94 h95 h96 h99 h97 h98 h157
theorem ai2 (h48:sp 36=none) {o:Obj} (ho:o.Ok): ∃v s',bz (QS sp) 36 [o.val] s0 v s'/\(v= .bool (iO o)/\s'.ci=0):=by
 have hns:=Fo ho.id
 have hts:=TW ho.tags ho.taglen ho.key
 have hws:yq [.int .i64 o.kind]=some (.str (lU o.kind)):=rfl
 have hlen:=fun mk s=>ho.refs.len iI iW mk s
 have hcr:=ho.refs.clean
 have hct:=ho.tags.clean
 refine bz.ofEx aem ael aeo aen h48 ?_
 unfold Nu
 refine aF ?_
 unfold Nv
 simp only[dt,cY,az,aA,aB,ai,aN,jC,ak,aK,aD,bW,jc,aw,bJ,dC,aq,cK,cT,cg,aP,aW,bS,tA,aQ,au,cm,cj,dT,ZM,Obj.val]
 have hn0:s0.next=0:=rfl
 have hs1: ∃s1,s0.new (.cells o.cells)=s1/\s1.get [] 0=some (.cells o.cells)/\s1.minw<=s1.next/\s1.next=1/\s1.ci=0:=⟨_,rfl,by rw[df];rfl,Nat.zero_le _,rfl,rfl⟩
 obtain⟨s1,e1,g1,m1,n1,c1⟩:=hs1
 rw[e1,hn0]
 refine aR (lr m1 ?_)
 have fin: ∀e lc,ax e 36= .bool true->W (QS sp) 36 (.cond (aa 36) (.seq (.region D1) .ret) .skip) ⟨e,72,lc⟩ s1 fun x fr s'=>x= .ret/\s'=s1/\ax fr.env 2= .bool false:=by
  intro e lc h
  refine bc (t:=true) (by simp only[ak,h]) (aF ?_)
  unfold D1
  simp only[az,aA,aB,aN,aK,bW,aw,tA,au]
  exact cd ⟨rfl,rfl,by simp only[ai,ah,cT, *]⟩
 unfold Nw
 cases hb1:lU o.kind== [] with
 |true=>
  simp only[eJ,eI,mO,eK,rz,isStore,j8,ai,aH,di,bo,aX,bZ,dK,dI,ak,aK,aD,bk,bm,bW,jB,dj,eA,aw,jd,aq,bf,cS,cT,cF,aV,ei,a7,bO,bS,tA,aQ,ah,au,fJ,lI,dv,du,vm,g1,Obj.cells,h93,hws,hb1]
  refine(fin _ _ ?_).mono ?_
  ·simp only[ai,ah,cT,cF, *]
  ·rintro x fr s' ⟨rfl,rfl,h⟩
   exact⟨.inr rfl,_,cE h rfl,by simp[iO,qm,hb1],c1⟩
 |false=>
 have hk:=amo hb1
 have hls:=ahw hk
 cases hb2:jP o.id with
 |false=>
  simp only[eJ,eI,mO,eK,oZ,rz,isStore,j8,gn,ai,aH,di,bo,aX,hG,bZ,dK,dI,ak,aK,aD,bk,bm,bW,jB,dj,eA,d7,aw,jd,hJ,aq,gI,bf,cS,cT,cF,aV,ei,a7,bO,gU,bS,tA,aQ,dc,ah,au,fJ,dH,qZ,lI,dv,du,vm,g1,Obj.cells,h93,hws,hb1,h94,hns,hb2]
  refine(fin _ _ ?_).mono ?_
  ·simp only[ai,ah,cT,cF, *]
  ·rintro x fr s' ⟨rfl,rfl,h⟩
   exact⟨.inr rfl,_,cE h rfl,by simp[iO,qm,hb2],c1⟩
 |true=>
 cases hb3:iK o.tags with
 |false=>
  simp only[eJ,eI,mO,eK,oZ,rz,isStore,j8,gn,ai,aH,di,bo,aX,hG,bZ,dK,dI,ak,aK,aD,bk,bm,bW,jB,dj,eA,d7,aw,jd,hJ,aq,gI,bf,cS,cT,cF,aV,ei,a7,bO,dS,gU,bS,tA,aQ,dc,ah,au,fJ,dH,kR,qZ,lI,tJ,dv,du,vm,g1,Obj.cells,h93,hws,hb1,h94,hns,hb2,h95,hts,hct,hb3]
  refine(fin _ _ ?_).mono ?_
  ·simp only[ai,ah,cT,cF, *]
  ·rintro x fr s' ⟨rfl,rfl,h⟩
   exact⟨.inr rfl,_,cE h rfl,by simp[iO,qm,hb3],c1⟩
 |true=>
 cases hb4:decide (o.refs.length<qq o.kind) with
 |true=>
  simp only[eJ,eI,mO,eK,oZ,rz,isStore,j8,gn,ai,aH,di,bo,aX,hG,bZ,cJ,dK,dI,ak,aK,aD,bk,bm,bW,jB,dj,eA,d7,aw,bU,cQ,jd,hJ,cU,bJ,aq,gI,bf,cS,cT,cF,aV,cg,ei,a7,bO,da,dS,bS,tA,aQ,dc,ah,au,aZ,fJ,dH,ic,kR,qZ,lI,ma,tJ,dv,du,vm,g1,Obj.cells,h93,hws,hb1,h94,hns,hb2,h95,hts,hct,hb3,hcr,hlen,h96,hls,hb4]
  refine(fin _ _ ?_).mono ?_
  ·simp only[ai,ah,cT,cF, *]
  ·rintro x fr s' ⟨rfl,rfl,h⟩
   exact⟨.inr rfl,_,cE h rfl,by simp[iO,qm,hb4],c1⟩
 |false=>
 have hil:dz 2000 (o.refs.length:Nat)=decide (2000<o.refs.length):=da 2000 _
 cases hb5:decide (2000<o.refs.length) with
 |true=>
  simp only[eJ,eI,mO,eK,oZ,isStore,gn,ai,aH,di,bo,aX,hG,bZ,cJ,dK,dI,ak,aK,aD,bk,bm,bW,bt,jB,dj,d7,aw,bU,cQ,nL,jd,hJ,cU,bJ,aq,gI,bf,cS,cT,cF,aV,cg,ei,a7,bO,da,dS,bS,tA,aQ,dc,ah,au,aZ,fJ,dH,ic,kR,qZ,lI,ma,tJ,dv,du,vm,g1,Obj.cells,h93,hws,hb1,h94,hns,hb2,h95,hts,hct,hb3,hcr,hlen,h96,hls,hb4,hil,hb5]
  refine(fin _ _ ?_).mono ?_
  ·simp only[ai,ah,cT,cF, *]
  ·rintro x fr s' ⟨rfl,rfl,h⟩
   exact⟨.inr rfl,_,cE h rfl,by simp[iO,qm,hb5],c1⟩
 |false=>
 have hgood:qm o=false:=by simp only[qm,hb1,hb2,hb3,hb4,hb5];rfl
 simp only[eJ,eI,mO,eK,oZ,isStore,gn,ai,aH,di,bo,aX,hG,bZ,cJ,dK,dI,ak,aK,aD,bk,bm,bW,bt,jB,dj,d7,aw,bU,cQ,nL,jd,hJ,cU,bJ,aq,gI,bf,cS,cT,cF,aV,cg,ei,a7,bO,da,dS,bS,tA,aQ,dc,ah,au,aZ,fJ,dH,ic,kR,qZ,lI,ma,tJ,dv,du,vm,g1,Obj.cells,h93,hws,hb1,h94,hns,hb2,h95,hts,hct,hb3,hcr,hlen,h96,hls,hb4,hil,hb5]
 refine bc (t:=false) (by simp only[ak,ai,ah,cT,cF, *]) (ck ?_)
 simp only[aU]
 refine aF ?_
 unfold NB
 simp only[az,aA,ej,aB,ep,ai,gZ,ez,vO,ak,aD,jc,bU,bJ,aq,fZ,cT,cF,aV,cg,aP,aW,cV,bN,a7,gr,cq,iA,bS,tA,aQ,ah,au,bE,cm,dY,aZ,dl,cj,dT,alw,amA,ZN,mp,kz,df,jo,n1,ky,aj.cells]
 refine aF ?_
 unfold NC
 simp only[az,aA,ej,aB,ep,ai,gZ,ez,ak,aK,aD,jB,jc,bJ,kV,aq,cS,cT,cF,aV,cg,aP,aW,cV,bN,a7,gr,cq,iA,bS,tA,aQ,ah,au,bE,cm,dY,aZ,dl,cj,dT,Gl,amJ,ZO,kz,df,cI,jo,pH,n1,ky]
 refine aF ?_
 unfold ND
 simp only[az,aA,aB,ai,aN,xY,ak,aD,bk,bm,aw,aq,dW,cT,cF,bS,tA,ah,au,pF]
 have hs2: ∃s2,((((s1.new (.map [] 0)).new (.cells [.nilm])).put 2 (some (.cells [.map 1]))).new (.cells [.str []])).put 3 (some (.cells [.str []]))=s2/\lu s2 o 0 3 2 1 [] []/\s2.ci=0:=by
  refine⟨_,rfl,⟨?_,?_,?_,?_,rfl,rfl,rfl,rfl,rfl,rfl⟩,c1⟩<;>simp only[df,cI,jo,pH,n1,g1,ah,bE,cT,cF]<;>rfl
 obtain⟨s2,e2,hclo,c2⟩:=hs2
 rw[e2]
 obtain⟨u,s3,hr,⟨last3,seen3,c3⟩,hci3,rfl⟩:=YQ h94 h97 h157 h98 ho.refs ho.ref ho.reflen hclo
 have g2:=hclo.ho
 have g3:=c3.ho
 have hci3:s3.ci=0:=hci3.trans c2
 have harg:aj.func (.func 61) [] [.ptr 0 0,.ptr 3 0,.ptr 2 0]=uY 0 3 2:=rfl
 rw[harg]
 refine aR (aR (gh (fU 3 ?_)))
 unfold NF
 simp only[az,aA,aB,ai,aH,bo,bZ,ak,aw,aq,cT,cF,aV,bN,a7,bO,bS,tA,aQ,ah,au,ic,ma,dv,du,g2,Obj.cells]
 refine fY (g:=62) ?_ hr (by decide) ?_
 ·simp only[dI,hcr,HA,ai,dI,ak,aD,bk,bm,aq,cT,cF,bS,ah]
 refine fX ?_
 simp only[az,aU]
 cases hw:qf o.kind [] [] o.refs with
 |true=>
  refine bc (t:=true) (by simp only[ak,ai,ah,cT,cF]) (aF ?_)
  unfold NG
  simp only[az,aA,aB,aN,aK,bW,aw,tA,au]
  refine cd ⟨.inr rfl,_,cE (v:=.bool false) ?_ rfl,?_,hci3⟩
  ·simp only[ai,ah,cT,cF, *]
  ·simp[iO,hgood,hw]
 |false=>
 refine bc (t:=false) (by simp only[ak,ai,ah,cT,cF]) (ck ?_)
 simp only[aU]
 refine aR (aF ?_)
 unfold NH
 simp only[az,aA,aB,ai,bo,bZ,ak,aw,aq,cT,cF,aV,a7,bO,bS,tA,aQ,ah,au,fJ,lI,dv,du,g3,Obj.cells]
 refine cO (aF ?_)
 unfold NI
 simp only[az,aA,aB,ai,aN,aX,ak,aK,aD,bt,aw,jH,aq,bf,cT,cF,aV,bS,tA,ah,au]
 have e0:bD (o.refs.length:Int) 0=(o.refs.length==0):=ra _ 0
 have e3:bD (o.refs.length:Int) 3=(o.refs.length==3):=ra _ 3
 cases hk1:bD o.kind 1 with
 |true=>
  refine bc (t:=true) (by simp only[ak,ai,ah,cT,cF, *]) (aF ?_)
  unfold Nx
  have hon:xW [.agg [.int .i64 o.x,.int .i64 o.y]]=some (.bool (pM o.x o.y)):=rfl
  cases hz:o.refs.length==0 with
  |true=>
   simp only[az,aA,dB,aB,eP,hQ,ai,aH,aN,di,bo,aX,bZ,cJ,dK,dI,ak,aK,aD,bk,bm,bW,bt,dj,eA,aw,bU,jH,cU,bJ,aq,bf,cK,cT,cF,aV,cg,ei,aP,aW,cut,bN,a7,bO,eR,bS,tA,aQ,ah,au,bE,aZ,ic,jf,vg,ma,dv,du,g3,Obj.cells,hcr,hlen,e0,hz,h99,hon]
   refine cd ⟨.inr rfl,_,cE (v:=.bool (pM o.x o.y)) ?_ rfl,?_,hci3⟩
   ·simp only[ai,ah,cT,cF, *]
   ·simp[iO,hgood,hw,hk1,hz]
  |false=>
   simp only[az,aA,dB,aB,gp,jr,ai,aH,aN,di,bo,aX,bZ,cJ,ak,aK,aD,bk,bm,bW,bt,dj,d7,aw,bU,jH,cU,bJ,aq,bf,cT,cF,aV,cg,a7,bO,bS,tA,aQ,ah,au,aZ,ic,ma,dv,du,g3,Obj.cells,hcr,hlen,e0,hz]
   refine cd ⟨.inr rfl,_,cE (v:=.bool false) ?_ rfl,?_,hci3⟩
   ·simp only[ai,ah,cT,cF, *]
   ·simp[iO,hgood,hw,hk1,hz]
 |false=>
  refine bc (t:=false) (by simp only[ak,ai,ah,cT,cF, *]) (aF ?_)
  unfold Ny
  simp only[az,aA,aB,ai,aN,aX,ak,aK,aD,bt,aw,jH,aq,bf,cT,cF,aV,bS,tA,ah,au]
  cases hk5:bD o.kind 5 with
  |true=>
   refine bc (t:=true) (by simp only[ak,ai,ah,cT,cF, *]) (aF ?_)
   unfold Nz
   cases hz:o.refs.length==3 with
   |true=>
    simp only[az,aA,dB,aB,eP,hQ,ai,aH,aN,di,lf,bo,aX,bZ,cJ,ak,aK,aD,bk,bm,bW,bt,dj,eA,aw,bU,jH,cU,bJ,dC,aq,bf,cK,cT,cF,aV,cg,aP,aW,cut,bN,a7,bO,eR,bS,tA,aQ,ah,au,bE,aZ,Hk,ic,jf,wu,vg,ma,dv,du,g3,Obj.cells,hcr,hlen,e3,hz,dQ,pP,SJ]
    refine cd ⟨.inr rfl,_,cE (v:=.bool (bD o.x 0&&bD o.y 0)) ?_ rfl,?_,hci3⟩
    ·simp only[ai,ah,cT,cF, *]
    ·simp[iO,hgood,hw,hk1,hk5,hz,yw]
   |false=>
    simp only[az,aA,dB,aB,gp,jr,ai,aH,aN,di,bo,aX,bZ,cJ,ak,aK,aD,bk,bm,bW,bt,dj,d7,aw,bU,jH,cU,bJ,aq,bf,cT,cF,aV,cg,a7,bO,bS,tA,aQ,ah,au,aZ,ic,ma,dv,du,g3,Obj.cells,hcr,hlen,e3,hz]
    refine cd ⟨.inr rfl,_,cE (v:=.bool false) ?_ rfl,?_,hci3⟩
    ·simp only[ai,ah,cT,cF, *]
    ·simp[iO,hgood,hw,hk1,hk5,hz]
  |false=>
   refine bc (t:=false) (by simp only[ak,ai,ah,cT,cF, *]) (ck ?_)
   simp only[dP,aU]
   refine aF ?_
   unfold NA
   simp only[az,aA,aB,ai,aN,lf,bo,aX,bZ,ak,aD,aw,dC,aq,cK,cT,cF,aV,aP,aW,cut,bN,a7,eR,bS,tA,aQ,ah,au,bE,aZ,Hk,jf,wu,vg,dv,du,g3,Obj.cells,dQ,pP,SJ]
   refine cd ⟨.inr rfl,_,cE (v:=.bool (bD o.x 0&&bD o.y 0)) ?_ rfl,?_,hci3⟩
   ·simp only[ai,ah,cT,cF, *]
   ·simp[iO,hgood,hw,hk1,hk5,yw]
end
def wd:List ar->Bool
 | []=>true
 |t::l=>bT t.length small&&wd l
theorem TB: ∀ {l:List ar},wd l=true-> ∀t∈l,t.length<small
 | [],_,_,h=>by cases h
 |a::l,h,t,ht=>by
  simp only[wd,cZ] at h
  rcases List.mem_cons.1 ht with rfl|ht
  ·exact iL h.1
  ·exact TB h.2 t ht
theorem TC: ∀ {l:List ar},(∀t∈l,t.length<small)->wd l=true
 | [],_=>rfl
 |a::l,h=>by
  simp only[wd,cZ]
  exact⟨eL (h a (by simp)),TC fun t ht=>h t (by simp[ht])⟩
def Ao (id:ar) (k x y:Int) (rv tv:aj) (rs:List ar) (ts:List cz):Option Obj:=
 bif bP rv&&bP tv&&bT id.length small&&bT rs.length small&&wd rs&&bT ts.length small&&qE ts then some ⟨id,k,x,y,rv,tv,rs,ts⟩ else none
def mQ:aj->Option Obj
 | .agg [.str id,.int .i64 k,.int .i64 x,.int .i64 y,rv,tv]=>(gj 1 lC rv).bind fun rs=>(gj 2 oH tv).bind fun ts=>Ao id k x y rv tv rs ts
 |_=>none
structure Obj.Good (o:Obj):Prop extends o.Ok where
 pr:bP o.refsV=true
 pt:bP o.tagsV=true
theorem tC {v:aj} {o:Obj} (h:mQ v=some o):v=o.val/\o.Good:=by
 unfold mQ at h
 split at h
 ·simp only[aG] at h
  obtain⟨rs,h1,ts,h2,h⟩:=h
  unfold Ao at h
  obtain⟨h3,h⟩:=bX h
  simp only[cZ] at h3
  obtain⟨⟨⟨⟨⟨⟨p1,p2⟩,p3⟩,p4⟩,p5⟩,p6⟩,p7⟩:=h3
  injection h with h
  subst h
  exact⟨rfl,⟨⟨jb (fun v a=>oE) h1,jb (fun v a=>rT) h2,iL p3,iL p4,TB p5,iL p6,we p7⟩,p1,p2⟩⟩
 ·cases h
theorem uO {o:Obj} (h:o.Good):mQ o.val=some o:=by
 show((gj 1 lC o.refsV).bind fun rs=>(gj 2 oH o.tagsV).bind fun ts=>Ao o.id o.kind o.x o.y o.refsV o.tagsV rs ts)=_
 rw[jI oG h.refs,aq,jI rU h.tags,aq]
 unfold Ao
 have q1:bT o.id.length small=true:=eL h.id
 have q2:bT o.refs.length small=true:=eL h.reflen
 have q3:bT o.tags.length small=true:=eL h.taglen
 rw[h.pr,h.pt,q1,q2,q3,TC h.ref,wf h.key]
 rfl
theorem Obj.Good.pure {o:Obj} (h:o.Good):bP o.val=true:=by
 simp only[Obj.val,Obj.cells,bP,pures,h.pr,h.pt,gf]
mutual
theorem al2: ∀ {v:aj},bP v=true->jq v=true
 | .agg cs,h=>by simp only[jq];exact kA (by simpa only[bP] using h)
 | .tup cs,h=>by simp only[jq];exact kA (by simpa only[bP] using h)
 | .list _ xs r,h=>by
   simp only[bP,cZ] at h
   simp only[jq];exact h.1
 | .bool _,_=>rfl
 | .int _ _,_=>rfl
 | .str _,_=>rfl
 | .nilp,_=>rfl
 | .ptr _ _,h=>by simp[bP] at h
 | .lref _ _ _,h=>by simp[bP] at h
 | .ro cs,h=>by simpa only[jq] using h
 | .nils,_=>rfl
 | .arr _ _ _ _ _,h=>by simp[bP] at h
 | .nilm,_=>rfl
 | .map _,h=>by simp[bP] at h
 | .nilf,_=>rfl
 | .func _ _ _,h=>by simpa only[jq] using h
 | .nili,_=>rfl
 | .iface _ _,h=>by simpa only[jq] using h
theorem kA: ∀ {l:List aj},pures l=true->jT l=true
 | [],_=>rfl
 |v::l,h=>by
  simp only[pures,cZ] at h
  simp only[jT,al2 h.1,kA h.2,gf]
end
def rj:Sp
 | [v]=>(mQ v).bind fun o=>some (.bool (iO o))
 |_=>none
theorem Si {o:Obj} (h:o.Good):rj [o.val]=some (.bool (iO o)):=by
 show(mQ o.val).bind _=_
 rw[uO h];rfl
theorem Sj:eN Tryz.prog 36 rj:=by
 intro args u hv G h w xs wr hx
 unfold rj at hv
 split at hv
 ·rename_i v
  simp only[aG,bg] at hv
  obtain⟨o,ho,rfl⟩:=hv
  obtain⟨rfl,hg⟩:=tC ho
  obtain⟨v,s',hr,rfl,hci⟩:=ai2 (sp:=fun f=>fv f T4) rfl rfl rfl rfl rfl rfl rfl rfl rfl hg.toOk
  have hw:ef [o.val]=[o.val]:=iz (by simp only[pures,hg.pure,gf])
  refine gS (Q:=QT T4) (gK GU) (fun _=>gV 1) (args:=[o.val]) (v:=.bool (iO o)) (s':=s') ?_ (by rw[hw];exact hr) hci ⟨1,rfl⟩ G h w xs wr hx
  exact kA (by simp only[pures,hg.pure,gf])
 ·cases hv
def pL:ar->List Obj->Bool
 |_,[]=>true
 |last,o::r=>bif !iO o||Ag.leBytes o.id last then false else pL o.id r
def iX (l:List Obj):Bool:=pL [] l&&decide (l.length<=1000000)
section
variable {sp:FuncId->Option (List aj->Option aj)} (h48:sp 36=some rj)
include h48
theorem aig {v:aj} {l:List Obj} (hl:bC 6 Obj.val v l) (hk: ∀o∈l,o.Good) (hsmall:l.length<small) {s:St}: ∀(rest pre:List Obj) (e:bj) (lc:Ag.Loc) (last:ar),l=pre++rest->
 ax e 1= .lref 1 1 0->lc.gen 1=1->lc.get 1 1=some [v]->ax e 7=v->ax e 8= .int .i64 (l.length:Nat)->ax e 9= .int .i64 (pre.length:Nat)->ax e 3= .str last->
 W (QS sp) 13 (.loop zo) ⟨e,29,lc⟩ s fun x fr s'=>s'=s/\fr.size=29/\((x= .exit 0/\ax fr.env 1= .lref 1 1 0/\fr.loc.gen 1=1/\fr.loc.get 1 1=some [v]/\pL last rest=true)\/(x= .ret/\ax fr.env 2= .bool false/\pL last rest=false)):=by
 intro rest
 induction rest with
 |nil=>
  intro pre e lc last hpre h1 hg hb h7 h8 h9 h3
  have hlen:l.length=pre.length:=by rw[hpre];simp
  refine cR ?_
  unfold zo
  refine aF ?_
  unfold DD
  simp only[az,aA,aB,aX,ak,aD,aw,cQ,aq,bf,cT,aV,da,tA,au,decide_false,h8,h9,hlen,eU]
  refine aR (bc (t:=false) (by simp only[ak,ai,ah,cT, *]) ?_)
  refine eD ⟨rfl,rfl,.inl ⟨rfl,?_,hg,hb,rfl⟩⟩
  simp only[ai,ah,cF, *]
 |cons o rest ih=>
  intro pre e lc last hpre h1 hg hb h7 h8 h9 h3
  have hlt:pre.length<l.length:=by rw[hpre];simp
  have hat:l[pre.length]? =some o:=by rw[hpre];simp
  have hia:=fun lc=>hl.at xk hat lc .i64
  have hcl:=hl.clean
  have hos:=Si (hk o (lX hat))
  have hsm:small=9223372036854775808:=rfl
  have hwr:IntKind.i64.wrap ((pre.length:Int)+1)=((pre.length+1:Nat):Int):=by rw[ew (by omega) (by omega)];omega
  simp only[Obj.val,Obj.cells] at hos
  refine cR ?_
  unfold zo
  refine aF ?_
  unfold DD
  simp only[az,aA,aB,aX,ak,aD,aw,cQ,aq,bf,cT,aV,da,tA,au,dT,h8,h9,hlt]
  refine aR (bc (t:=true) (by simp only[ak,ai,ah,cT, *]) (ck ?_))
  simp only[aU]
  refine aR (cO ?_)
  refine aF ?_
  unfold KN
  simp only[az,aA,ej,aB,ep,ai,bR,jz,gZ,bo,ez,ek,ak,aD,gl,fQ,aw,bJ,dC,ix,aq,cK,cT,cF,aV,cg,aP,aW,cut,cV,bN,a7,eR,cq,cH,bS,tA,aQ,ah,au,bE,cm,dY,aZ,dl,cj,dT,pR,A6,Bh,Zp,h7,h9,hia,Obj.val,Obj.cells]
  refine aR (aF ?_)
  unfold KO
  have fin: ∀e' lc',ax e' 21= .bool true->W (QS sp) 13 (.cond (aa 21) (.seq (.region DE) .ret) .skip) ⟨e',29,lc'⟩ s fun x fr s'=>x= .ret/\s'=s/\fr.size=29/\ax fr.env 2= .bool false:=by
   intro e' lc' h
   refine bc (t:=true) (by simp only[ak,h]) (aF ?_)
   unfold DE
   simp only[az,aA,aB,aN,aK,bW,aw,tA,au]
   exact cd ⟨rfl,rfl,rfl,by simp only[ai,ah,cT, *]⟩
  cases hb1:iO o with
  |false=>
   simp only[az,aA,dB,aB,gp,j8,ai,bR,aH,di,bo,hG,dK,dI,ak,aK,aD,bk,bm,bW,cx,dj,eA,aw,hJ,aq,gI,cK,cT,cF,aV,ei,aP,aW,cut,bN,a7,gU,bS,tA,aQ,ah,au,bE,aZ,pR,h48,hos,hb1]
   refine(fin _ _ ?_).mono ?_
   ·simp only[ai,ah,cT,cF, *]
   ·rintro x fr s' ⟨rfl,rfl,hs,h⟩
    exact⟨rfl,hs,.inr ⟨rfl,h,by simp[pL,hb1]⟩⟩
  |true=>
  cases hb2:Ag.leBytes o.id last with
  |true=>
   simp only[az,aA,dB,aB,eP,gn,ai,cM,bR,aH,di,bo,aX,hG,bZ,dK,dI,ak,aK,aD,bk,bm,bW,cx,dj,d7,aw,uT,hJ,aq,gI,cS,cK,cT,cF,aV,ei,aP,aW,cut,bN,a7,bO,dS,bS,tA,aQ,dc,ah,au,bE,aZ,dH,pR,pq,h48,hos,hb1,hb2,h3]
   refine(fin _ _ ?_).mono ?_
   ·simp only[ai,ah,cT,cF, *]
   ·rintro x fr s' ⟨rfl,rfl,hs,h⟩
    exact⟨rfl,hs,.inr ⟨rfl,h,by simp[pL,hb2]⟩⟩
  |false=>
   simp only[az,aA,dB,aB,eP,gn,ai,cM,bR,aH,di,bo,aX,hG,bZ,dK,dI,ak,aK,aD,bk,bm,bW,cx,dj,d7,aw,uT,hJ,aq,gI,cS,cK,cT,cF,aV,ei,aP,aW,cut,bN,a7,bO,dS,bS,tA,aQ,dc,ah,au,bE,aZ,dH,pR,pq,h48,hos,hb1,hb2,h3]
   refine bc (t:=false) (by simp only[ak,ai,ah,cT,cF, *]) (ck ?_)
   simp only[aU]
   refine b7 ?_
   unfold KP
   simp only[az,aA,aB,ai,cM,bR,aN,bo,bZ,ak,cx,aw,aq,cT,cF,aV,a7,bO,bS,tA,dc,ah,au,aZ,dH,pq,aU,dP]
   refine b7 ?_
   unfold KQ
   simp only[az,aA,aB,ai,aH,aX,ak,aK,aD,bt,aw,dZ,aq,bf,cT,cF,aV,bS,tA,ah,au,h9,hwr,aU]
   refine(ih (pre++[o]) _ _ o.id (by rw[hpre];simp) (by simp only[ai,ah,cF, *]) (by simp only[cM,ah,cF,hg]) (by simp only[bR,ah,cF,hb]) (by simp only[ai,ah,cF, *]) (by simp only[ai,ah,cF, *]) (by simp only[ai,ah,cT,cF,dp,aP,aW]) (by simp only[ai,ah,cT,cF, *])).mono ?_
   simp only[pL,hb1,hb2,dS,jU,cF]
   exact fun _ _ _ h=>h
theorem aii (h23:sp 13=none) {v:aj} {l:List Obj} (hl:bC 6 Obj.val v l) (hk: ∀o∈l,o.Good) (hsmall:l.length<small) (s:St):bz (QS sp) 13 [.agg [v]] s (.bool (iX l)) s:=by
 have hlen:=fun mk s=>hl.len tW tU mk s
 have hcl:=hl.clean
 refine ey acz acy acB acA h23 ?_
 unfold KH
 refine aF ?_
 unfold KI
 simp only[dt,cY,az,aA,aB,ai,dA,aN,jC,ak,aK,aD,bW,gl,aw,bJ,dC,aq,cK,cT,cg,aP,aW,bS,tA,aQ,au,cm,cj,dT,Zo]
 refine aF ?_
 unfold KJ
 simp only[az,aA,aB,aN,aK,jB,aw,tA,au]
 refine aR (aF ?_)
 unfold KM
 simp only[az,aA,aB,ai,dA,cM,bR,aH,bo,bZ,cJ,ak,aK,aD,bk,bm,bt,cx,aw,bU,cU,bJ,aq,cT,cF,aV,cg,a7,bO,bS,tA,dc,ah,au,aZ,oc,mU,hcl,hlen]
 refine cO ?_
 refine(aig h48 hl hk hsmall l [] _ _ [] rfl (by simp only[ai,ah,cT,cF, *]) (by simp only[dA,cM,ah,cT]) (by simp only[bR,ah,cT]) (by simp only[ai,ah,cT,cF, *]) (by simp only[ai,ah,cT,cF, *]) (by simp only[ai,ah,cT,cF];rfl) (by simp only[ai,ah,cT,cF, *])).mono ?_
 rintro x ⟨e,sz,lc⟩ s' ⟨rfl,hs,⟨rfl,h1,hg,hb,hok⟩|⟨rfl,h2,hok⟩⟩
 ·have hs:sz=29:=hs
  subst hs
  have h1:ax e 1= .lref 1 1 0:=h1
  have hg:lc.gen 1=1:=hg
  have hb:lc.get 1 1=some [v]:=hb
  show W (QS sp) 13 _ _ _ _
  refine aF ?_
  unfold KR
  simp only[az,aA,aB,ai,aN,bo,aX,bZ,cJ,ak,aK,aD,bk,bm,bt,cx,aw,bU,BX,cU,bJ,aq,bf,cT,cF,aV,cg,a7,bO,bS,tA,dc,ah,au,aZ,oc,mU,h1,hg,hb,hcl,hlen]
  refine cd ⟨rfl,.inr rfl,cE ?_ rfl⟩
  simp only[ai,ah,cT,cF,iX,hok,i9]
  exact congrArg aj.bool (sj l.length 1000000)
 ·exact⟨rfl,.inr rfl,cE (by rw[h2];simp[iX,hok]) rfl⟩
end
def jw:aj->Option (List Obj)
 | .agg [v]=>(gj 6 mQ v).bind fun l=>bif bT l.length small then some l else none
 |_=>none
theorem RV: ∀ {xs:List aj} {l:List Obj},ku mQ xs=some l->(∀o∈l,o.Good)
 | [],l,h=>by simp only[ku,bg] at h;subst h;intro o ho;cases ho
 |x::xs,l,h=>by
  simp only[ku,aG,bg] at h
  obtain⟨a,h1,r,h2,rfl⟩:=h
  intro o ho
  rcases List.mem_cons.1 ho with rfl|ho
  ·exact(tC h1).2
  ·exact RV h2 o ho
theorem RX: ∀ {l:List Obj},(∀o∈l,o.Good)->ku mQ (l.map Obj.val)=some l
 | [],_=>rfl
 |o::l,h=>by
  have ih:=RX (l:=l) fun o ho=>h o (List.mem_cons_of_mem _ ho)
  simp only[fw,ku,uO (h o List.mem_cons_self),aq,ih]
theorem lB {u:aj} {l:List Obj} (h:jw u=some l): ∃v,u= .agg [v]/\bC 6 Obj.val v l/\(∀o∈l,o.Good)/\l.length<small:=by
 unfold jw at h
 split at h
 ·rename_i v
  simp only[aG] at h
  obtain⟨l',h1,h⟩:=h
  obtain⟨h2,h⟩:=bX h
  injection h with h;subst h
  refine⟨v,rfl,jb (fun v a h=>(tC h).1) h1,?_,iL h2⟩
  unfold gj at h1
  split at h1
  ·injection h1 with h1;subst h1;intro o ho;cases ho
  ·obtain⟨_,h1⟩:=bX h1
   exact RV h1
  ·cases h1
 ·cases h
theorem kh {v:aj} {l:List Obj} (h:bC 6 Obj.val v l) (hg: ∀o∈l,o.Good) (hs:l.length<small):jw (.agg [v])=some l:=by
 have:gj 6 mQ v=some l:=by
  rcases h with⟨rfl,rfl⟩|⟨r,rfl⟩
  ·rfl
  ·simp only[gj,RX hg,aZ,bS,cT]
 have q:bT l.length small=true:=eL hs
 simp only[jw,this,aq,q,cT]
theorem SM {l:List Obj} (hg: ∀o∈l,o.Good):pures (l.map Obj.val)=true:=by
 rw[uf]
 intro v hv
 obtain⟨o,ho,rfl⟩:=List.mem_map.1 hv
 exact(hg o ho).pure
theorem lP {v:aj} {l:List Obj} (h:bC 6 Obj.val v l) (hg: ∀o∈l,o.Good):jq (.agg [v])=true/\ ∃v',weak (.agg [v])= .agg [v']/\bC 6 Obj.val v' l:=by
 rcases h with⟨rfl,rfl⟩|⟨r,rfl⟩
 ·exact⟨rfl,.nils,rfl,.inl ⟨rfl,rfl⟩⟩
 ·refine⟨by simp only[jq,jT,SM hg,gf],.list 6 (l.map Obj.val) (match r with| .own _=>.no|r=>r),?_,.inr ⟨_,rfl⟩⟩
  simp only[weak,ef,iz (SM hg)]
  cases r<;>rfl
def qr:Sp
 | [v]=>(jw v).bind fun l=>some (.bool (iX l))
 |_=>none
theorem vB {v:aj} {l:List Obj} (h:bC 6 Obj.val v l) (hg: ∀o∈l,o.Good) (hs:l.length<small):qr [.agg [v]]=some (.bool (iX l)):=by
 simp only[qr,kh h hg hs,aq]
def T5:eV:=(36,rj)::T4
theorem GV:fT T5:=.cons Sj GU
theorem E8:eN Tryz.prog 13 qr:=by
 intro args u hv G h w xs wr hx
 unfold qr at hv
 split at hv
 ·rename_i v
  simp only[aG,bg] at hv
  obtain⟨l,hl,rfl⟩:=hv
  obtain⟨v,rfl,hl,hg,hs⟩:=lB hl
  obtain⟨ht,v',hw,hl'⟩:=lP hl hg
  have hw:ef [.agg [v]]=[.agg [v']]:=by simp only[ef,hw]
  exact gS (Q:=QT T5) (gK GV) (fun _=>gV 1) (args:=[.agg [v]]) (v:=.bool (iX l)) (s':=s0) (by simp only[jT,ht,gf]) (by rw[hw];exact aii (sp:=fun f=>fv f T5) rfl rfl hl' hg hs s0) rfl ⟨1,rfl⟩ G h w xs wr hx
 ·cases hv
def sP:List ar->Bool
 | []=>true
 |r::l=>bif decide (60<r.length) then false else sP l
def TU (t:cz):Bool:=dz 300 (IntKind.i64.wrap ((t.1.length:Int)+(t.2.length:Int)))
def sY:List cz->Bool
 | []=>true
 |t::l=>bif TU t then false else sY l
def vJ (o:Obj):Bool:=decide (12<o.refs.length)||decide (20<o.tags.length)||decide (60<o.id.length)
def oT:List Obj->Bool
 | []=>true
 |o::l=>bif vJ o then false else bif sP o.refs then bif sY o.tags then oT l else false else false
def kj (l:List Obj) (n:Int):Bool:=bif dz n (l.length:Nat) then false else oT l
structure yD (v:aj) (o:Obj) (i g:Nat) (e:bj) (lc:Ag.Loc):Prop where
 h2:ax e 2= .lref 2 1 0
 g2:lc.gen 2=1
 b2:lc.get 2 1=some [v]
 h6:ax e 6= .lref 6 g 0
 g6:lc.gen 6=g
 b6:lc.get 6 g=some o.cells
 h5:ax e 5= .int .i64 (i:Nat)
section
variable {sp:FuncId->Option (List aj->Option aj)}
theorem X5 {v:aj} {o:Obj} (ho:o.Ok) {i g:Nat} {s:St} {lc:Ag.Loc}: ∀(rest pre:List ar) (e:bj),o.refs=pre++rest->yD v o i g e lc->ax e 7= .int .i64 (pre.length:Nat)->
 W (QS sp) 22 (.loop zt) ⟨e,79,lc⟩ s fun x fr s'=>s'=s/\ ∃e',fr=⟨e',79,lc⟩/\((x= .exit 2/\yD v o i g e' lc/\sP rest=true)\/(x= .ret/\ax e' 4= .bool false/\sP rest=false)):=by
 intro rest
 have hlen:=fun mk s=>ho.refs.len iI iW mk s
 have hcl:=ho.refs.clean
 have hsm:small=9223372036854775808:=rfl
 induction rest with
 |nil=>
  intro pre e hpre F h7
  obtain⟨h2,g2,b2,h6,g6,b6,h5⟩:=F
  have hl:o.refs.length=pre.length:=by rw[hpre];simp
  refine cR ?_
  unfold zt
  refine aR (aF ?_)
  unfold DH
  simp only[az,aA,aB,ai,aH,bo,aX,bZ,cJ,ak,aD,bk,bm,cx,aw,bU,cQ,cU,bJ,aq,bf,cT,cF,aV,cg,a7,bO,da,bS,tA,aQ,ah,au,aZ,decide_false,ic,nU,h7,h6,g6,b6,Obj.cells,hcl,hlen,hl,eU]
  refine bc (t:=false) (by simp only[ak,ai,ah,cT,cF, *]) ?_
  refine eD ⟨rfl,_,rfl,.inl ⟨rfl,⟨?_,g2,b2,?_,g6,b6,?_⟩,rfl⟩⟩<;>simp only[ai,ah,cF, *]
 |cons r rest ih=>
  intro pre e hpre F h7
  have F0:=F
  obtain⟨h2,g2,b2,h6,g6,b6,h5⟩:=F
  have hlt:pre.length<o.refs.length:=by rw[hpre];simp
  have hat:o.refs[pre.length]? =some r:=by rw[hpre];simp
  have hia:=fun lc=>ho.refs.at lJ hat lc .i64
  have hrl:=ho.reflen
  have hwr:IntKind.i64.wrap ((pre.length:Int)+1)=((pre.length+1:Nat):Int):=by rw[ew (by omega) (by omega)];omega
  have hil:dz 60 (r.length:Nat)=decide (60<r.length):=da 60 _
  refine cR ?_
  unfold zt
  refine aR (aF ?_)
  unfold DH
  simp only[az,aA,aB,ai,aH,bo,aX,bZ,cJ,ak,aD,bk,bm,cx,aw,bU,cQ,cU,bJ,aq,bf,cT,cF,aV,cg,a7,bO,da,bS,tA,aQ,ah,au,aZ,dT,ic,nU,h7,h6,g6,b6,Obj.cells,hcl,hlen,hlt]
  refine bc (t:=true) (by simp only[ak,ai,ah,cT,cF, *]) (ck ?_)
  simp only[aU]
  refine aR (cO (aF ?_))
  unfold LU
  simp only[az,aA,aB,ai,aH,bo,aX,bZ,ek,cJ,ak,aK,aD,bk,bm,bt,cx,fQ,aw,bU,nL,cU,bJ,kV,aq,bf,cS,cT,cF,aV,cg,a7,bO,bS,tA,aQ,ah,au,aZ,dH,ic,nU,sw,h7,h6,g6,b6,Obj.cells,hia,bu,hil]
  cases hb:decide (60<r.length) with
  |true=>
   refine bc (t:=true) (by simp only[ak,ai,ah,cT,cF]) (aF ?_)
   unfold LW
   simp only[az,aA,aB,aN,aK,bW,aw,tA,au]
   refine cd ⟨rfl,_,rfl,.inr ⟨rfl,?_,by simp only[sP,hb,cT]⟩⟩
   simp only[ai,ah,cT,cF, *]
  |false=>
   refine bc (t:=false) (by simp only[ak,ai,ah,cT,cF]) (ck ?_)
   simp only[dP,aU]
   refine b7 ?_
   unfold LS
   simp only[az,aA,aB,ai,aH,aN,aX,ak,aK,aD,bt,aw,dZ,aq,bf,cT,cF,aV,bS,tA,ah,au,h7,hwr,aU]
   have hr:sP (r::rest)=sP rest:=by simp only[sP,hb,cF]
   rw[hr]
   refine ih (pre++[r]) _ (by rw[hpre];simp) ⟨?_,g2,b2,?_,g6,b6,?_⟩ ?_
   ·simp only[ai,ah,cF, *]
   ·simp only[ai,ah,cF, *]
   ·simp only[ai,ah,cF, *]
   ·simp only[ai,ah,cT,cF,dp,aP,aW]
theorem X8 {v:aj} {o:Obj} (ho:o.Ok) {i g:Nat} {s:St} (hm:s.minw<=s.next) {lc:Ag.Loc}: ∀(rest pre:List cz) (e:bj),o.tags=pre++rest->yD v o i g e lc->ax e 8= .int .i64 (pre.length:Nat)->
 W (QS sp) 22 (.loop zu) ⟨e,79,lc⟩ s fun x fr s'=>s'=s/\ ∃e',fr=⟨e',79,lc⟩/\((x= .exit 4/\yD v o i g e' lc/\sY rest=true)\/(x= .ret/\ax e' 4= .bool false/\sY rest=false)):=by
 intro rest
 have hlen:=fun mk s=>ho.tags.len pD pC mk s
 have hcl:=ho.tags.clean
 have hsm:small=9223372036854775808:=rfl
 induction rest with
 |nil=>
  intro pre e hpre F h8
  obtain⟨h2,g2,b2,h6,g6,b6,h5⟩:=F
  have hl:o.tags.length=pre.length:=by rw[hpre];simp
  refine cR ?_
  unfold zu
  refine aR (aF ?_)
  unfold DI
  simp only[az,aA,aB,ai,aH,bo,aX,bZ,cJ,ak,aD,bk,bm,cx,aw,bU,cQ,cU,bJ,aq,bf,cT,cF,aV,cg,a7,bO,da,bS,tA,aQ,ah,au,aZ,decide_false,kR,pu,h8,h6,g6,b6,Obj.cells,hcl,hlen,hl,eU]
  refine bc (t:=false) (by simp only[ak,ai,ah,cT,cF, *]) ?_
  refine eD ⟨rfl,_,rfl,.inl ⟨rfl,⟨?_,g2,b2,?_,g6,b6,?_⟩,rfl⟩⟩<;>simp only[ai,ah,cF, *]
 |cons r rest ih=>
  intro pre e hpre F h8
  obtain⟨h2,g2,b2,h6,g6,b6,h5⟩:=F
  have hlt:pre.length<o.tags.length:=by rw[hpre];simp
  have hat:o.tags[pre.length]? =some r:=by rw[hpre];simp
  have hia:=fun lc=>ho.tags.at si hat lc .i64
  have hrl:=ho.taglen
  have hwr:IntKind.i64.wrap ((pre.length:Int)+1)=((pre.length+1:Nat):Int):=by rw[ew (by omega) (by omega)];omega
  refine cR ?_
  unfold zu
  refine aR (aF ?_)
  unfold DI
  simp only[az,aA,aB,ai,aH,bo,aX,bZ,cJ,ak,aD,bk,bm,cx,aw,bU,cQ,cU,bJ,aq,bf,cT,cF,aV,cg,a7,bO,da,bS,tA,aQ,ah,au,aZ,dT,kR,pu,h8,h6,g6,b6,Obj.cells,hcl,hlen,hlt]
  refine bc (t:=true) (by simp only[ak,ai,ah,cT,cF, *]) (ck ?_)
  simp only[aU]
  refine aR (cO (lr hm ?_))
  unfold LZ
  simp only[eJ,eI,eK,isStore,ai,aH,bo,aX,bZ,ek,cJ,ak,aK,aD,bk,bm,bt,cx,fQ,aw,bU,nL,dZ,cU,bJ,dC,aq,bf,cS,cT,cF,aV,cg,a7,bO,bS,tA,aQ,ah,au,aZ,dH,kR,pu,XO,XP,sw,h8,h6,g6,b6,Obj.cells,hia,eC]
  cases hb:TU r with
  |true=>
   have hb':dz 300 (IntKind.i64.wrap ((r.1.length:Int)+(r.2.length:Int)))=true:=hb
   refine bc (t:=true) (by simp only[ak,ai,ah,cT,cF,hb']) (aF ?_)
   unfold L0
   simp only[az,aA,aB,aN,aK,bW,aw,tA,au]
   refine cd ⟨rfl,_,rfl,.inr ⟨rfl,?_,by simp only[sY,hb,cT]⟩⟩
   simp only[ai,ah,cT,cF, *]
  |false=>
   have hb':dz 300 (IntKind.i64.wrap ((r.1.length:Int)+(r.2.length:Int)))=false:=hb
   refine bc (t:=false) (by simp only[ak,ai,ah,cT,cF,hb']) (ck ?_)
   simp only[dP,aU]
   refine b7 ?_
   unfold LY
   simp only[az,aA,aB,ai,aH,aN,aX,ak,aK,aD,bt,aw,dZ,aq,bf,cT,cF,aV,bS,tA,ah,au,h8,hwr,aU]
   have hr:sY (r::rest)=sY rest:=by simp only[sY,hb,cF]
   rw[hr]
   refine ih (pre++[r]) _ (by rw[hpre];simp) ⟨?_,g2,b2,?_,g6,b6,?_⟩ ?_
   ·simp only[ai,ah,cF, *]
   ·simp only[ai,ah,cF, *]
   ·simp only[ai,ah,cF, *]
   ·simp only[ai,ah,cT,cF,dp,aP,aW]
theorem X4 {v:aj} {l:List Obj} (hl:bC 6 Obj.val v l) (hk: ∀o∈l,o.Good) (hsmall:l.length<small) {s:St} (hm:s.minw<=s.next): ∀(rest pre:List Obj) (e:bj) (lc:Ag.Loc),l=pre++rest->
 ax e 2= .lref 2 1 0->lc.gen 2=1->lc.get 2 1=some [v]->ax e 5= .int .i64 (pre.length:Nat)->
 W (QS sp) 22 (.loop zw) ⟨e,79,lc⟩ s fun x fr s'=>s'=s/\fr.size=79/\((x= .exit 0/\oT rest=true)\/(x= .ret/\ax fr.env 4= .bool false/\oT rest=false)):=by
 intro rest
 have hlen:=fun mk s=>hl.len tW tU mk s
 have hcl:=hl.clean
 have hsm:small=9223372036854775808:=rfl
 induction rest with
 |nil=>
  intro pre e lc hpre h2 g2 b2 h5
  have hl:l.length=pre.length:=by rw[hpre];simp
  refine cR ?_
  unfold zw
  refine aR (aF ?_)
  unfold DJ
  simp only[az,aA,aB,ai,aH,bo,aX,bZ,cJ,ak,aD,bk,bm,cx,aw,bU,cQ,cU,bJ,aq,bf,cT,cF,aV,cg,a7,bO,da,bS,tA,dc,ah,au,aZ,decide_false,oc,mU,h2,g2,b2,h5,hcl,hlen,hl,eU]
  refine bc (t:=false) (by simp only[ak,ai,ah,cT,cF, *]) ?_
  exact eD ⟨rfl,rfl,.inl ⟨rfl,rfl⟩⟩
 |cons o rest ih=>
  intro pre e lc hpre h2 g2 b2 h5
  have hlt:pre.length<l.length:=by rw[hpre];simp
  have hat:l[pre.length]? =some o:=by rw[hpre];simp
  have hia:=fun lc=>hl.at xk hat lc .i64
  have ho:=(hk o (lX hat)).toOk
  have hwr:IntKind.i64.wrap ((pre.length:Int)+1)=((pre.length+1:Nat):Int):=by rw[ew (by omega) (by omega)];omega
  have rlen:=fun mk s=>ho.refs.len iI iW mk s
  have rcl:=ho.refs.clean
  have tlen:=fun mk s=>ho.tags.len pD pC mk s
  have tcl:=ho.tags.clean
  have i1:dz 12 (o.refs.length:Nat)=decide (12<o.refs.length):=da 12 _
  have i2:dz 20 (o.tags.length:Nat)=decide (20<o.tags.length):=da 20 _
  have i3:dz 60 (o.id.length:Nat)=decide (60<o.id.length):=da 60 _
  refine cR ?_
  unfold zw
  refine aR (aF ?_)
  unfold DJ
  simp only[az,aA,aB,ai,aH,bo,aX,bZ,cJ,ak,aD,bk,bm,cx,aw,bU,cQ,cU,bJ,aq,bf,cT,cF,aV,cg,a7,bO,da,bS,tA,dc,ah,au,aZ,dT,oc,mU,h2,g2,b2,h5,hcl,hlen,hlt]
  refine bc (t:=true) (by simp only[ak,ai,ah,cT,cF, *]) (ck ?_)
  simp only[aU]
  refine aR (cO (aF ?_))
  unfold L7
  simp only[az,aA,ej,aB,ep,ai,bR,jz,aH,gZ,bo,ez,bZ,ek,ak,aD,gl,cx,fQ,aw,bJ,dC,ix,aq,cK,cT,cF,aV,cg,aP,aW,cut,cV,bN,a7,bO,eR,cq,cH,bS,tA,aQ,dc,ah,au,bE,cm,dY,aZ,dl,cj,dT,oc,pR,A6,Bh,mU,Zx,h2,g2,b2,h5,hia,Obj.val,Obj.cells]
  refine aR (aF ?_)
  unfold L8
  have fin: ∀e' lc',ax e' 41= .bool true->W (QS sp) 22 (.cond (aa 41) (.seq (.region DK) .ret) .skip) ⟨e',79,lc'⟩ s fun x fr s'=>x= .ret/\s'=s/\fr.size=79/\ax fr.env 4= .bool false:=by
   intro e' lc' h
   refine bc (t:=true) (by simp only[ak,h]) (aF ?_)
   unfold DK
   simp only[az,aA,aB,aN,aK,bW,aw,tA,au]
   exact cd ⟨rfl,rfl,rfl,by simp only[ai,ah,cT, *]⟩
  cases q1:decide (12<o.refs.length) with
  |true=>
   simp only[az,aA,dB,aB,gp,j8,ai,cM,bR,aH,di,bo,aX,bZ,cJ,ak,aK,aD,bk,bm,bW,bt,cx,dj,eA,aw,bU,nL,cU,bJ,aq,bf,cT,cF,aV,cg,a7,bO,bS,tA,aQ,ah,au,aZ,ic,nU,rcl,rlen,i1,q1]
   refine(fin _ _ ?_).mono ?_
   ·simp only[ai,ah,cT,cF, *]
   ·rintro x fr s' ⟨rfl,rfl,hs,h⟩
    exact⟨rfl,hs,.inr ⟨rfl,h,by simp only[oT,vJ,q1,qL,cT]⟩⟩
  |false=>
  cases q2:decide (20<o.tags.length) with
  |true=>
   simp only[az,aA,dB,aB,eP,gp,j8,gn,ai,cM,bR,aH,di,bo,aX,bZ,cJ,ak,aK,aD,bk,bm,bW,bt,cx,dj,eA,d7,aw,bU,nL,cU,bJ,aq,bf,cT,cF,aV,cg,a7,bO,bS,tA,aQ,ah,au,aZ,ic,kR,nU,pu,rcl,rlen,i1,q1,tcl,tlen,i2,q2]
   refine(fin _ _ ?_).mono ?_
   ·simp only[ai,ah,cT,cF, *]
   ·rintro x fr s' ⟨rfl,rfl,hs,h⟩
    exact⟨rfl,hs,.inr ⟨rfl,h,by simp only[oT,vJ,q1,q2,qL,Bool.or_true,cT]⟩⟩
  |false=>
  cases q3:decide (60<o.id.length) with
  |true=>
   simp only[az,aA,dB,aB,eP,gn,ai,cM,bR,aH,di,bo,aX,bZ,cJ,ak,aK,aD,bk,bm,bW,bt,cx,dj,d7,aw,bU,nL,cU,bJ,aq,bf,cS,cT,cF,aV,cg,a7,bO,bS,tA,aQ,dc,ah,au,aZ,dH,ic,kR,pq,nU,pu,sw,rcl,rlen,i1,q1,tcl,tlen,i2,q2,i3,q3]
   refine(fin _ _ ?_).mono ?_
   ·simp only[ai,ah,cT,cF, *]
   ·rintro x fr s' ⟨rfl,rfl,hs,h⟩
    exact⟨rfl,hs,.inr ⟨rfl,h,by simp only[oT,vJ,q1,q2,q3,Bool.or_true,cT]⟩⟩
  |false=>
  have hmany:vJ o=false:=by simp only[vJ,q1,q2,q3,Bool.or_false]
  simp only[az,aA,dB,aB,eP,gn,ai,cM,bR,aH,di,bo,aX,bZ,cJ,ak,aK,aD,bk,bm,bW,bt,cx,dj,d7,aw,bU,nL,cU,bJ,aq,bf,cS,cT,cF,aV,cg,a7,bO,bS,tA,aQ,dc,ah,au,aZ,dH,ic,kR,pq,nU,pu,sw,rcl,rlen,i1,q1,tcl,tlen,i2,q2,i3,q3]
  refine bc (t:=false) (by simp only[ak,ai,ah,cT,cF, *]) (ck ?_)
  simp only[aU]
  refine aR (aF ?_)
  unfold L9
  simp only[az,aA,aB,aN,aK,bt,aw,tA,au]
  refine cO ?_
  refine(X5 (v:=v) ho (i:=pre.length) (g:=lc.gen 6+1) o.refs [] _ rfl ⟨?_,?_,?_,?_,?_,?_,?_⟩ ?_).mono ?_
  ·simp only[ai,ah,cF, *]
  ·simp only[cM,ah,cF,g2]
  ·simp only[bR,ah,cF,b2]
  ·simp only[ai,ah,cT,cF, *]
  ·simp only[cM,ah,cT]
  ·simp only[bR,bS,cT,Obj.cells]
  ·simp only[ai,ah,cF, *]
  ·simp only[ai,ah,cT,cF];rfl
  rintro x fr s' ⟨rfl,e',rfl,⟨rfl,F,hok⟩|⟨rfl,h4,hok⟩⟩
  ·show W (QS sp) 22 _ _ _ _
   refine aF ?_
   unfold LX
   obtain⟨f2,fg2,fb2,f6,fg6,fb6,f5⟩:=F
   simp only[az,aA,aB,aN,aK,bt,aw,tA,au]
   refine cO ?_
   refine(X8 (v:=v) ho hm (i:=pre.length) (g:=lc.gen 6+1) o.tags [] _ rfl ⟨?_,fg2,fb2,?_,fg6,fb6,?_⟩ ?_).mono ?_
   ·simp only[ai,ah,cF, *]
   ·simp only[ai,ah,cF, *]
   ·simp only[ai,ah,cF, *]
   ·simp only[ai,ah,cT];rfl
   rintro x fr s' ⟨rfl,e'',rfl,⟨rfl,F,hok2⟩|⟨rfl,h4,hok2⟩⟩
   ·show W (QS sp) 22 _ _ _ _
    refine b7 ?_
    unfold L6
    obtain⟨f2,fg2,fb2,f6,fg6,fb6,f5⟩:=F
    simp only[az,aA,aB,ai,aH,aN,aX,ak,aK,aD,bt,aw,dZ,aq,bf,cT,cF,aV,bS,tA,ah,au,f5,hwr,aU]
    have hr:oT (o::rest)=oT rest:=by simp only[oT,hmany,hok,hok2,cT,cF]
    rw[hr]
    refine ih (pre++[o]) _ _ (by rw[hpre];simp) ?_ fg2 fb2 ?_
    ·simp only[ai,ah,cF, *]
    ·simp only[ai,ah,cT,cF,dp,aP,aW]
   ·exact⟨rfl,rfl,.inr ⟨rfl,h4,by simp only[oT,hmany,hok,hok2,cT,cF]⟩⟩
  ·exact⟨rfl,rfl,.inr ⟨rfl,h4,by simp only[oT,hmany,hok,cF]⟩⟩
theorem X6 (h22:sp 22=none) {v:aj} {l:List Obj} (hl:bC 6 Obj.val v l) (hk: ∀o∈l,o.Good) (hsmall:l.length<small) (n:Int) {s:St} (hm:s.minw<=s.next):bz (QS sp) 22 [.agg [v],.int .i64 n] s (.bool (kj l n)) s:=by
 have hlen:=fun mk s=>hl.len tW tU mk s
 have hcl:=hl.clean
 refine ey adn adm adp ado h22 ?_
 unfold LP
 refine aF ?_
 unfold LQ
 simp only[dt,cY,az,aA,aB,ai,dA,aN,jC,ak,aK,aD,bW,gl,aw,bJ,dC,aq,cK,cT,cF,cg,aP,aW,bS,tA,aQ,ah,au,bE,cm,cj,dT,Zw]
 refine aR (aF ?_)
 unfold LR
 simp only[az,aA,aB,ai,dA,cM,bR,aH,bo,aX,bZ,cJ,ak,aD,bk,bm,cx,aw,bU,nL,cU,bJ,aq,bf,cT,cF,aV,cg,a7,bO,bS,tA,dc,ah,au,aZ,oc,mU,hcl,hlen]
 cases hb:dz n (l.length:Nat) with
 |true=>
  refine bc (t:=true) (by simp only[ak,ai,ah,cT,cF]) (aF ?_)
  unfold L2
  simp only[az,aA,aB,aN,aK,bW,aw,tA,au]
  refine cd ⟨rfl,.inr rfl,cE ?_ rfl⟩
  simp only[ai,ah,cT,kj,hb]
 |false=>
  refine bc (t:=false) (by simp only[ak,ai,ah,cT,cF]) (ck ?_)
  simp only[aU]
  refine aR (aF ?_)
  unfold L4
  simp only[az,aA,aB,aN,aK,bt,aw,tA,au]
  refine cO ?_
  refine(X4 hl hk hsmall hm l [] _ _ rfl (by simp only[ai,ah,cT,cF, *]) (by simp only[dA,cM,ah,cT]) (by simp only[bR,ah,cT]) (by simp only[ai,ah,cT,cF];rfl)).mono ?_
  rintro x ⟨e,sz,lc⟩ s' ⟨rfl,hs,⟨rfl,hok⟩|⟨rfl,h4,hok⟩⟩
  ·have hs:sz=79:=hs
   subst hs
   show W (QS sp) 22 _ _ _ _
   refine aF ?_
   unfold L1
   simp only[az,aA,aB,aN,aK,bW,aw,tA,au]
   refine cd ⟨rfl,.inr rfl,cE ?_ rfl⟩
   simp only[ai,ah,cT,kj,hb,cF,hok]
  ·exact⟨rfl,.inr rfl,cE (by rw[h4];simp only[kj,hb,cF,hok]) rfl⟩
end
def vi:Sp
 | [v,.int .i64 n]=>(jw v).bind fun l=>some (.bool (kj l n))
 |_=>none
theorem CE {v:aj} {l:List Obj} (h:bC 6 Obj.val v l) (hg: ∀o∈l,o.Good) (hs:l.length<small) (n:Int):vi [.agg [v],.int .i64 n]=some (.bool (kj l n)):=by
 simp only[vi,kh h hg hs,aq]
theorem X3:eN Tryz.prog 22 vi:=by
 intro args u hv G h w xs wr hx
 unfold vi at hv
 split at hv
 ·rename_i v n
  simp only[aG,bg] at hv
  obtain⟨l,hl,rfl⟩:=hv
  obtain⟨v,rfl,hl,hg,hs⟩:=lB hl
  obtain⟨ht,v',hw,hl'⟩:=lP hl hg
  have hw:ef [.agg [v],.int .i64 n]=[.agg [v'],.int .i64 n]:=by simp only[ef,hw];rfl
  exact gS (Q:=QT []) (gK .nil) (fun _=>gV 1) (args:=[.agg [v],.int .i64 n]) (v:=.bool (kj l n)) (s':=s0) (by simp only[jT,ht];rfl) (by rw[hw];exact X6 (sp:=fun f=>fv f []) rfl hl' hg hs n (bB _)) rfl ⟨1,rfl⟩ G h w xs wr hx
 ·cases hv
theorem aj3 (a b c d:Int):fy Tryz.prog .neq 36 (.agg [.int .i64 a,.int .i64 b]) (.agg [.int .i64 c,.int .i64 d])=some (.bool !(bif bD a c then bif bD b d then true else false else false)):=by
 have h:qk Tryz.prog 36 (.agg [.int .i64 a,.int .i64 b]) (.agg [.int .i64 c,.int .i64 d])=(some (bD a c)).bind fun r=>bif r then(some (bD b d)).bind fun r=>bif r then some true else some false else some false:=by kernel_rfl
 rw[BQ,h]
 cases bD a c<;>cases bD b d<;>rfl
theorem Uf (a b c d:ar):fy Tryz.prog .neq 51 (.agg [.str a,.str b]) (.agg [.str c,.str d])=some (.bool !(bif a==c then bif b==d then true else false else false)):=by
 have h:qk Tryz.prog 51 (.agg [.str a,.str b]) (.agg [.str c,.str d])=(some (a==c)).bind fun r=>bif r then(some (b==d)).bind fun r=>bif r then some true else some false else some false:=by kernel_rfl
 rw[BQ,h]
 cases a==c<;>cases b==d<;>rfl
theorem vp (a:Int):bD a a=true:=bS a
structure Obj.Eqv (o q:Obj):Prop where
 id:q.id=o.id
 kind:q.kind=o.kind
 x:q.x=o.x
 y:q.y=o.y
 refs:q.refs=o.refs
 tags:q.tags=o.tags
theorem Obj.Eqv.rfl {o:Obj}:o.Eqv o:=⟨Eq.refl _,Eq.refl _,Eq.refl _,Eq.refl _,Eq.refl _,Eq.refl _⟩
structure yI (o q:Obj) (e:bj) (lc:Ag.Loc):Prop where
 h2:ax e 2= .lref 2 1 0
 g2:lc.gen 2=1
 b2:lc.get 2 1=some o.cells
 h3:ax e 3= .lref 3 1 0
 g3:lc.gen 3=1
 b3:lc.get 3 1=some q.cells
section
variable {sp:FuncId->Option (List aj->Option aj)}
theorem akY {o q:Obj} (ho:o.Ok) (hq:q.Ok) (hoq:o.Eqv q) {s:St} (hm:s.minw<=s.next) {lc:Ag.Loc}: ∀(rest pre:List ar) (e:bj),o.refs=pre++rest->yI o q e lc->ax e 5= .int .i64 (pre.length:Nat)->
 W (QS sp) 33 (.loop zA) ⟨e,80,lc⟩ s fun x fr s'=>s'=s/\ ∃e',fr=⟨e',80,lc⟩/\x= .exit 0/\yI o q e' lc:=by
 intro rest
 have hlen:=fun mk s=>ho.refs.len iI iW mk s
 have hcl:=ho.refs.clean
 have hcq:=hq.refs.clean
 have hsm:small=9223372036854775808:=rfl
 induction rest with
 |nil=>
  intro pre e hpre F h5
  obtain⟨h2,g2,b2,h3,g3,b3⟩:=F
  have hl:o.refs.length=pre.length:=by rw[hpre];simp
  refine cR ?_
  unfold zA
  refine aR (aF ?_)
  unfold DZ
  simp only[az,aA,aB,ai,aH,bo,aX,bZ,cJ,ak,aD,bk,bm,cx,aw,bU,cQ,cU,bJ,aq,bf,cT,cF,aV,cg,a7,bO,da,bS,tA,aQ,ah,au,aZ,decide_false,ic,nU,h5,h2,g2,b2,Obj.cells,hcl,hlen,hl,eU]
  refine bc (t:=false) (by simp only[ak,ai,ah,cT,cF, *]) ?_
  refine eD ⟨rfl,_,rfl,rfl,⟨?_,g2,b2,?_,g3,b3⟩⟩<;>simp only[ai,ah,cF, *]
 |cons r rest ih=>
  intro pre e hpre F h5
  obtain⟨h2,g2,b2,h3,g3,b3⟩:=F
  have hlt:pre.length<o.refs.length:=by rw[hpre];simp
  have hat:o.refs[pre.length]? =some r:=by rw[hpre];simp
  have hia:=fun lc=>ho.refs.at lJ hat lc .i64
  have hib:=fun lc=>hq.refs.at lJ (hoq.refs▸hat) lc .i64
  have hrl:=ho.reflen
  have hwr:IntKind.i64.wrap ((pre.length:Int)+1)=((pre.length+1:Nat):Int):=by rw[ew (by omega) (by omega)];omega
  refine cR ?_
  unfold zA
  refine aR (aF ?_)
  unfold DZ
  simp only[az,aA,aB,ai,aH,bo,aX,bZ,cJ,ak,aD,bk,bm,cx,aw,bU,cQ,cU,bJ,aq,bf,cT,cF,aV,cg,a7,bO,da,bS,tA,aQ,ah,au,aZ,dT,ic,nU,h5,h2,g2,b2,Obj.cells,hcl,hlen,hlt]
  refine bc (t:=true) (by simp only[ak,ai,ah,cT,cF, *]) (ck ?_)
  simp only[aU]
  refine aR (cO (lr hm ?_))
  unfold Ns
  simp only[eJ,eI,eK,isStore,ai,aH,bo,aX,bZ,ek,ak,aD,cx,fQ,aw,uU,kV,aq,cS,cT,cF,aV,a7,bO,dS,bS,tA,aQ,ah,au,aZ,dH,ic,nU,h5,h2,g2,b2,h3,g3,b3,Obj.cells,hia,hib,bu]
  refine bc (t:=false) (by simp only[ak,ai,ah,cT,cF, *]) (ck ?_)
  simp only[dP,aU]
  refine b7 ?_
  unfold Nr
  simp only[az,aA,aB,ai,aH,aN,aX,ak,aK,aD,bt,aw,dZ,aq,bf,cT,cF,aV,bS,tA,ah,au,h5,hwr,aU]
  refine ih (pre++[r]) _ (by rw[hpre];simp) ⟨?_,g2,b2,?_,g3,b3⟩ ?_
  ·simp only[ai,ah,cF, *]
  ·simp only[ai,ah,cF, *]
  ·simp only[ai,ah,cT,cF,dp,aP,aW]
theorem ak0 {o q:Obj} (ho:o.Ok) (hq:q.Ok) (hoq:o.Eqv q) {s:St} (hm:s.minw<=s.next) {lc:Ag.Loc}: ∀(rest pre:List cz) (e:bj),o.tags=pre++rest->yI o q e lc->ax e 6= .int .i64 (pre.length:Nat)->
 W (QS sp) 33 (.loop zB) ⟨e,80,lc⟩ s fun x fr s'=>s'=s/\ ∃e',fr=⟨e',80,lc⟩/\x= .exit 2/\yI o q e' lc:=by
 intro rest
 have hlen:=fun mk s=>ho.tags.len pD pC mk s
 have hcl:=ho.tags.clean
 have hcq:=hq.tags.clean
 have hsm:small=9223372036854775808:=rfl
 induction rest with
 |nil=>
  intro pre e hpre F h6
  obtain⟨h2,g2,b2,h3,g3,b3⟩:=F
  have hl:o.tags.length=pre.length:=by rw[hpre];simp
  refine cR ?_
  unfold zB
  refine aR (aF ?_)
  unfold D0
  simp only[az,aA,aB,ai,aH,bo,aX,bZ,cJ,ak,aD,bk,bm,cx,aw,bU,cQ,cU,bJ,aq,bf,cT,cF,aV,cg,a7,bO,da,bS,tA,aQ,ah,au,aZ,decide_false,kR,pu,h6,h2,g2,b2,Obj.cells,hcl,hlen,hl,eU]
  refine bc (t:=false) (by simp only[ak,ai,ah,cT,cF, *]) ?_
  refine eD ⟨rfl,_,rfl,rfl,⟨?_,g2,b2,?_,g3,b3⟩⟩<;>simp only[ai,ah,cF, *]
 |cons r rest ih=>
  intro pre e hpre F h6
  obtain⟨h2,g2,b2,h3,g3,b3⟩:=F
  have hlt:pre.length<o.tags.length:=by rw[hpre];simp
  have hat:o.tags[pre.length]? =some r:=by rw[hpre];simp
  have hia:=fun lc=>ho.tags.at si hat lc .i64
  have hib:=fun lc=>hq.tags.at si (hoq.tags▸hat) lc .i64
  have hrl:=ho.taglen
  have hwr:IntKind.i64.wrap ((pre.length:Int)+1)=((pre.length+1:Nat):Int):=by rw[ew (by omega) (by omega)];omega
  refine cR ?_
  unfold zB
  refine aR (aF ?_)
  unfold D0
  simp only[az,aA,aB,ai,aH,bo,aX,bZ,cJ,ak,aD,bk,bm,cx,aw,bU,cQ,cU,bJ,aq,bf,cT,cF,aV,cg,a7,bO,da,bS,tA,aQ,ah,au,aZ,dT,kR,pu,h6,h2,g2,b2,Obj.cells,hcl,hlen,hlt]
  refine bc (t:=true) (by simp only[ak,ai,ah,cT,cF, *]) (ck ?_)
  simp only[aU]
  refine aR (cO (lr hm ?_))
  unfold Nn
  simp only[eJ,eI,eK,isStore,ai,aH,bo,aX,bZ,ek,ak,aD,cx,fQ,aw,dC,aq,cK,cT,cF,aV,aP,aW,cut,bN,a7,bO,eR,dS,bS,tA,aQ,ah,au,bE,aZ,kR,x7,pu,h6,h2,g2,b2,h3,g3,b3,Obj.cells,hia,hib,eC,Uf]
  refine bc (t:=false) (by simp only[ak,ai,ah,cT,cF, *]) (ck ?_)
  simp only[dP,aU]
  refine b7 ?_
  unfold Nm
  simp only[az,aA,aB,ai,aH,aN,aX,ak,aK,aD,bt,aw,dZ,aq,bf,cT,cF,aV,bS,tA,ah,au,h6,hwr,aU]
  refine ih (pre++[r]) _ (by rw[hpre];simp) ⟨?_,g2,b2,?_,g3,b3⟩ ?_
  ·simp only[ai,ah,cF, *]
  ·simp only[ai,ah,cF, *]
  ·simp only[ai,ah,cT,cF,dp,aP,aW]
theorem akZ (h40:sp 33=none) {o q:Obj} (ho:o.Ok) (hq:q.Ok) (hoq:o.Eqv q) {s:St} (hm:s.minw<=s.next):bz (QS sp) 33 [o.val,q.val] s (.bool true) s:=by
 have rlen:=fun mk s=>ho.refs.len iI iW mk s
 have rcl:=ho.refs.clean
 have rlq:=fun mk s=>hq.refs.len iI iW mk s
 have rcq:=hq.refs.clean
 have tlq:=fun mk s=>hq.tags.len pD pC mk s
 have tcq:=hq.tags.clean
 obtain⟨e1,e2,e3,e4,e5,e6⟩:=id hoq
 have tlen:=fun mk s=>ho.tags.len pD pC mk s
 have tcl:=ho.tags.clean
 refine ey aee aed aej aei h40 ?_
 unfold Nj
 refine aF ?_
 unfold Nk
 simp only[dt,cY,az,aA,aB,ai,dA,cM,aN,jC,ak,aK,aD,bW,gl,aw,bJ,dC,aq,cK,cT,cF,cg,aP,aW,bS,tA,aQ,ah,au,bE,cm,cj,dT,ZK,ZL,Obj.val]
 refine aR (aF ?_)
 unfold Nl
 simp only[az,aA,dB,aB,eP,gn,ai,dA,cM,bR,aH,di,bo,aX,bZ,cJ,ak,aK,aD,bk,bm,bW,cx,dj,d7,aw,bU,qg,uU,cU,bJ,aq,bf,cS,cK,cT,cF,aV,cg,aP,aW,cut,bN,a7,bO,eR,dS,bS,tA,aQ,dc,ah,au,bE,aZ,fJ,dH,ic,jf,kR,pq,xb,yY,nU,pu,Obj.cells,rcl,rlen,tcl,tlen,rcq,rlq,tcq,tlq,e1,e2,e3,e4,e5,e6,aj3,vp]
 refine bc (t:=false) (by simp only[ak,ai,ah,cT,cF, *]) (ck ?_)
 simp only[aU]
 refine aR (aF ?_)
 unfold Nq
 simp only[az,aA,aB,aN,aK,bt,aw,tA,au]
 refine cO ?_
 refine(akY ho hq hoq hm o.refs [] _ rfl ⟨?_,?_,?_,?_,?_,?_⟩ ?_).mono ?_
 ·simp only[ai,ah,cT,cF, *]
 ·simp only[dA,cM,ah,cT,cF]
 ·simp only[bR,ah,cT,cF,Obj.cells]
 ·simp only[ai,ah,cT,cF, *]
 ·simp only[dA,cM,ah,cT,cF]
 ·simp only[bR,ah,cT,cF,Obj.cells,e1,e2,e3,e4]
 ·simp only[ai,ah,cT,cF];rfl
 rintro x fr s' ⟨rfl,e',rfl,rfl,F⟩
 show W (QS sp) 33 _ _ _ _
 obtain⟨h2,g2,b2,h3,g3,b3⟩:=F
 refine aR (aF ?_)
 unfold Nt
 simp only[az,aA,aB,aN,aK,bt,aw,tA,au]
 refine cO ?_
 refine(ak0 ho hq hoq hm o.tags [] _ rfl ⟨?_,g2,b2,?_,g3,b3⟩ ?_).mono ?_
 ·simp only[ai,ah,cF, *]
 ·simp only[ai,ah,cF, *]
 ·simp only[ai,ah,cT];rfl
 rintro x fr s' ⟨rfl,e',rfl,rfl,F⟩
 show W (QS sp) 33 _ _ _ _
 refine aF ?_
 unfold Np
 simp only[az,aA,aB,aN,aK,bW,aw,tA,au]
 refine cd ⟨rfl,.inr rfl,cE ?_ rfl⟩
 simp only[ai,ah,cT, *]
end
open Classical in
noncomputable def v6:Sp
 | [a,b]=>(mQ a).bind fun o=>(mQ b).bind fun q=>if o.Eqv q then some (.bool true) else none
 |_=>none
theorem akR {o q:Obj} (h:o.Good) (h2:q.Good) (e:o.Eqv q):v6 [o.val,q.val]=some (.bool true):=by
 simp only[v6,if_pos e,uO h,uO h2,aq]
theorem akS:eN Tryz.prog 33 v6:=by
 intro args u hv G h w xs wr hx
 unfold v6 at hv
 split at hv
 ·rename_i a b
  simp only[aG] at hv
  obtain⟨o,ho,q,hq,hv⟩:=hv
  split at hv
  ·rename_i e
   injection hv with hv;subst hv
   obtain⟨rfl,hg⟩:=tC ho
   obtain⟨rfl,hg2⟩:=tC hq
   have hp:pures [o.val,q.val]=true:=by simp only[pures,hg.pure,hg2.pure,gf]
   exact gS (Q:=QT []) (gK .nil) (fun _=>gV 1) (args:=[o.val,q.val]) (v:=.bool true) (s':=s0) (kA hp) (by rw[iz hp];exact akZ (sp:=fun f=>fv f []) rfl hg.toOk hg2.toOk e (bB _)) rfl ⟨1,rfl⟩ G h w xs wr hx
  ·cases hv
 ·cases hv
structure qc (l r:List Obj):Prop where
 len:r.length=l.length
 at_: ∀(i:Nat) (o q:Obj),l[i]? =some o->r[i]? =some q->o.Eqv q
theorem qc.rfl {l:List Obj}:qc l l:=⟨Eq.refl _,fun i o q h1 h2=>by rw[h1] at h2;injection h2 with h2;subst h2;exact .rfl⟩
theorem qc.some {l r:List Obj} (h:qc l r) {i:Nat} {o:Obj} (ho:l[i]? =some o): ∃q,r[i]? =some q/\o.Eqv q:=by
 have hlt:i<r.length:=by
  rw[h.len]
  rcases Nat.lt_or_ge i l.length with h1|h1
  ·exact h1
  ·rw[List.getElem?_eq_none h1] at ho;cases ho
 exact⟨_,js hlt,h.at_ _ _ _ ho (js hlt)⟩
structure UJ (v u:aj) (e:bj) (lc:Ag.Loc):Prop where
 h2:ax e 2= .lref 2 1 0
 g2:lc.gen 2=1
 b2:lc.get 2 1=some [v]
 h3:ax e 3= .lref 3 1 0
 g3:lc.gen 3=1
 b3:lc.get 3 1=some [u]
section
variable {sp:FuncId->Option (List aj->Option aj)} (h40:sp 33=some v6)
include h40
theorem akX {v u:aj} {l r:List Obj} (hl:bC 6 Obj.val v l) (hu:bC 6 Obj.val u r) (hlr:qc l r) (hk: ∀o∈l,o.Good) (hk2: ∀o∈r,o.Good) (hsmall:l.length<small) {s:St} (hm:s.minw<=s.next) {lc:Ag.Loc}: ∀(rest pre:List Obj) (e:bj),l=pre++rest->UJ v u e lc->ax e 5= .int .i64 (pre.length:Nat)->
 W (QS sp) 10 (.loop zh) ⟨e,32,lc⟩ s fun x fr s'=>s'=s/\ ∃e',fr=⟨e',32,lc⟩/\x= .exit 0:=by
 intro rest
 have hlen:=fun mk s=>hl.len tW tU mk s
 have hcl:=hl.clean
 have hcu:=hu.clean
 have hsm:small=9223372036854775808:=rfl
 induction rest with
 |nil=>
  intro pre e hpre F h5
  obtain⟨h2,g2,b2,h3,g3,b3⟩:=F
  have hl:l.length=pre.length:=by rw[hpre];simp
  refine cR ?_
  unfold zh
  refine aR (aF ?_)
  unfold Ds
  simp only[az,aA,aB,ai,aH,bo,aX,bZ,cJ,ak,aD,bk,bm,cx,aw,bU,cQ,cU,bJ,aq,bf,cT,cF,aV,cg,a7,bO,da,bS,tA,dc,ah,au,aZ,decide_false,oc,mU,h5,h2,g2,b2,hcl,hlen,hl,eU]
  refine bc (t:=false) (by simp only[ak,ai,ah,cT,cF, *]) ?_
  exact eD ⟨rfl,_,rfl,rfl⟩
 |cons o rest ih=>
  intro pre e hpre F h5
  obtain⟨h2,g2,b2,h3,g3,b3⟩:=F
  have hlt:pre.length<l.length:=by rw[hpre];simp
  have hat:l[pre.length]? =some o:=by rw[hpre];simp
  have hia:=fun lc=>hl.at xk hat lc .i64
  obtain⟨q,hqt,hoq⟩:=hlr.some hat
  have hiu:=fun lc=>hu.at xk hqt lc .i64
  have hos:=akR (hk o (lX hat)) (hk2 q (lX hqt)) hoq
  simp only[Obj.val,Obj.cells] at hos
  have hwr:IntKind.i64.wrap ((pre.length:Int)+1)=((pre.length+1:Nat):Int):=by rw[ew (by omega) (by omega)];omega
  refine cR ?_
  unfold zh
  refine aR (aF ?_)
  unfold Ds
  simp only[az,aA,aB,ai,aH,bo,aX,bZ,cJ,ak,aD,bk,bm,cx,aw,bU,cQ,cU,bJ,aq,bf,cT,cF,aV,cg,a7,bO,da,bS,tA,dc,ah,au,aZ,dT,oc,mU,h5,h2,g2,b2,hcl,hlen,hlt]
  refine bc (t:=true) (by simp only[ak,ai,ah,cT,cF, *]) (ck ?_)
  simp only[aU]
  refine aR (cO (lr hm ?_))
  unfold Jg
  simp only[eJ,eI,eK,isStore,ai,aH,bo,hG,bZ,ek,dK,dI,ak,aD,bk,bm,cx,fQ,aw,hJ,dC,aq,gI,cK,cT,cF,aV,ei,aP,aW,cut,bN,a7,bO,eR,dS,bS,tA,aQ,dc,ah,au,bE,aZ,oc,pR,mU,h5,h2,g2,b2,h3,g3,b3,hia,hiu,Obj.val,Obj.cells,h40,hos]
  refine bc (t:=false) (by simp only[ak,ai,ah,cT,cF, *]) (ck ?_)
  simp only[dP,aU]
  refine b7 ?_
  unfold Jf
  simp only[az,aA,aB,ai,aH,aN,aX,ak,aK,aD,bt,aw,dZ,aq,bf,cT,cF,aV,bS,tA,ah,au,h5,hwr,aU]
  refine ih (pre++[o]) _ (by rw[hpre];simp) ⟨?_,g2,b2,?_,g3,b3⟩ ?_
  ·simp only[ai,ah,cF, *]
  ·simp only[ai,ah,cF, *]
  ·simp only[ai,ah,cT,cF,dp,aP,aW]
theorem akV (h14:sp 10=none) {v u:aj} {l r:List Obj} (hl:bC 6 Obj.val v l) (hu:bC 6 Obj.val u r) (hlr:qc l r) (hk: ∀o∈l,o.Good) (hk2: ∀o∈r,o.Good) (hsmall:l.length<small) {s:St} (hm:s.minw<=s.next):bz (QS sp) 10 [.agg [v],.agg [u]] s (.bool true) s:=by
 have hlen:=fun mk s=>hl.len tW tU mk s
 have hlen2:=fun mk s=>hu.len tW tU mk s
 have hrl:=hlr.len
 have hcl:=hl.clean
 have hcu:=hu.clean
 refine ey abq abp abv abu h14 ?_
 unfold zg
 refine aF ?_
 unfold Jc
 simp only[dt,cY,az,aA,aB,ai,dA,cM,aN,jC,ak,aK,aD,bW,gl,aw,bJ,dC,aq,cK,cT,cF,cg,aP,aW,bS,tA,aQ,ah,au,bE,cm,cj,dT,YV,YW]
 refine aR (aF ?_)
 unfold Jd
 simp only[az,aA,aB,ai,dA,cM,bR,bo,aX,bZ,cJ,ak,aD,bk,bm,cx,aw,bU,qg,cU,bJ,aq,bf,cT,cF,aV,cg,a7,bO,dS,bS,tA,dc,ah,au,aZ,oc,mU,hcl,hlen,hcu,hlen2,hrl,vp]
 refine bc (t:=false) (by simp only[ak,ai,ah,cT,cF, *]) (ck ?_)
 simp only[aU]
 refine aR (aF ?_)
 unfold Je
 simp only[az,aA,aB,aN,aK,bt,aw,tA,au]
 refine cO ?_
 refine(akX h40 hl hu hlr hk hk2 hsmall hm l [] _ rfl ⟨?_,?_,?_,?_,?_,?_⟩ ?_).mono ?_
 ·simp only[ai,ah,cT,cF, *]
 ·simp only[dA,cM,ah,cT,cF]
 ·simp only[bR,ah,cT,cF]
 ·simp only[ai,ah,cT,cF, *]
 ·simp only[dA,cM,ah,cT,cF]
 ·simp only[bR,ah,cT,cF]
 ·simp only[ai,ah,cT,cF];rfl
 rintro x fr s' ⟨rfl,e',rfl,rfl⟩
 show W (QS sp) 10 _ _ _ _
 refine aF ?_
 unfold Jh
 simp only[az,aA,aB,aN,aK,bW,aw,tA,au]
 refine cd ⟨rfl,.inr rfl,cE ?_ rfl⟩
 simp only[ai,ah,cT, *]
end
open Classical in
noncomputable def v7:Sp
 | [a,b]=>(jw a).bind fun l=>(jw b).bind fun r=>if qc l r then some (.bool true) else none
 |_=>none
theorem akT {v u:aj} {l r:List Obj} (h:bC 6 Obj.val v l) (h2:bC 6 Obj.val u r) (hlr:qc l r) (hg: ∀o∈l,o.Good) (hg2: ∀o∈r,o.Good) (hs:l.length<small):v7 [.agg [v],.agg [u]]=some (.bool true):=by
 simp only[v7,kh h hg hs,kh h2 hg2 (by rw[hlr.len];exact hs),aq,if_pos hlr]
noncomputable def T6:eV:=[(33,v6)]
theorem UO:fT T6:=.cons akS .nil
theorem akU:eN Tryz.prog 10 v7:=by
 intro args x hv G h w xs wr hx
 unfold v7 at hv
 split at hv
 ·rename_i a b
  simp only[aG] at hv
  obtain⟨l,h1,r,h2,hv⟩:=hv
  split at hv
  ·rename_i e
   injection hv with hv;subst hv
   obtain⟨v,rfl,hl,hg,hs⟩:=lB h1
   obtain⟨u,rfl,hu,hg2,_⟩:=lB h2
   obtain⟨ht,v',hw,hl'⟩:=lP hl hg
   obtain⟨ht2,u',hw2,hu'⟩:=lP hu hg2
   have hw:ef [.agg [v],.agg [u]]=[.agg [v'],.agg [u']]:=by simp only[ef,hw,hw2]
   exact gS (Q:=QT T6) (gK UO) (fun _=>gV 1) (args:=[.agg [v],.agg [u]]) (v:=.bool true) (s':=s0) (by simp only[jT,ht,ht2,gf]) (by rw[hw];exact akV (sp:=fun f=>fv f T6) rfl rfl hl' hu' e hg hg2 hs (bB _)) rfl ⟨1,rfl⟩ G h w xs wr hx
  ·cases hv
 ·cases hv
def ahD:Sp
 | [.int .u8 (.ofNat n)]=>bif bT n 256 then some (.bool (xE n)) else none
 |_=>none
def amg:Sp
 | [.int .u8 (.ofNat n)]=>bif bT n 256 then some (.bool (xE n||wZ n||be n 95)) else none
 |_=>none
def U1:eV:=[(144,amg),(145,ahD)]
theorem V3 (P:Program) (t:TypeId) (a b:List UInt8):fy P .geq t (.str a) (.str b)=some (.bool (!hZ a b)):=rfl
def ajZ (p:Option ar) (k:ar):Bool:=match p with|none=>false|some p=> !hZ p k
def alH (p:Option ar) (t:cz):Bool:= !jP t.1||decide (t.2.length<1)||decide (200<t.2.length)||ajZ p t.1
def SW:Option ar->List cz->Bool
 |_,[]=>true
 |p,t::r=>bif alH p t then false else SW (some t.1) r
def akk (l:List cz):Bool:=bif decide (60<l.length) then false else SW none l
def U2:eV:=(85,qv)::U1
def aj0 (p:Option ar) (k:ar):Bool:=match p with|none=>false|some p=>p==k
def akb (kind:Int) (p:Option ar) (seen:List ar) (r:ar):Bool:= !jP r||(bD kind 2&&aj0 p r)||(bD kind 3&&seen.contains r)
def SV (kind:Int):Option ar->List ar->List ar->Bool
 |_,_,[]=>true
 |p,seen,r::l=>bif akb kind p seen r then false else SV kind (some r) (rQ r seen) l
def W9 (kind:Int) (n:Nat):Bool:=bif bD kind 1 then n==0 else bif bD kind 2 then decide (2<=n) else bif bD kind 3 then decide (3<=n) else bif bD kind 4 then decide (1<=n) else n==3
def akn (o:Obj):Bool:=bif decide (2000<o.refs.length) then false else bif SV o.kind none [] o.refs then W9 o.kind o.refs.length else false
structure amN (o:Obj) (n m:Nat) (e:bj) (lc:Ag.Loc):Prop where
 h1:ax e 1= .lref 1 1 0
 g1:lc.gen 1=1
 b1:lc.get 1 1=some o.cells
 h3:ax e 3= .int .i64 (n:Nat)
 h4:ax e 4= .map m
theorem Fi (P:Program) (t:TypeId) (e:bj) (s:St):mp P t e none s=some (.map s.next,s.new (.map [] 0)):=rfl
def Vv (o:Obj):Bool:=bif bD o.kind 1 then pM o.x o.y else yw o
def akj (o:Obj):Bool:=jP o.id&& !(lU o.kind== [])&&Vv o&&akk o.tags&&akn o
def amc:Sp
 | [v]=>(mQ v).bind fun o=>some (.bool (akj o))
 |_=>none
structure amM (v:aj) (t:Nat) (e:bj) (lc:Ag.Loc):Prop where
 h:ax e t= .lref t 1 0
 g:lc.gen t=1
 b:lc.get t 1=some [v]
def U4:eV:=[(54,amc)]
structure amK (v:aj) (o:Obj) (e:bj) (lc:Ag.Loc):Prop where
 h2:ax e 2= .lref 2 1 0
 g2:lc.gen 2=1
 b2:lc.get 2 1=some [v]
 h3:ax e 3= .lref 3 1 0
 g3:lc.gen 3=1
 b3:lc.get 3 1=some o.cells
theorem TZ (o q:cz):(o==q)=(bif o.1==q.1 then bif o.2==q.2 then true else false else false):=by
 obtain⟨a,b⟩:=o
 obtain⟨c,d⟩:=q
 show((a==c)&&(b==d))=_
 cases a==c<;>cases b==d<;>rfl
theorem Xm {sp:FuncId->Option (List aj->Option aj)} {v u:aj} {l r:List ar} (hl:bC 1 bu v l) (hu:bC 1 bu u r) (hlen2:l.length=r.length) (hsmall:l.length<small) {s:St} (hm:s.minw<=s.next) {lc:Ag.Loc}: ∀(rest rest2 pre pre2:List ar) (e:bj),l=pre++rest->r=pre2++rest2->pre.length=pre2.length->
 ax e 0=v->ax e 1=u->ax e 12= .int .i64 (l.length:Nat)->ax e 13= .int .i64 (pre.length:Nat)->
 W (QS sp) 37 (.loop zC) ⟨e,26,lc⟩ s fun x fr s'=>s'=s/\fr.size=26/\((x= .exit 0/\(rest==rest2)=true)\/(x= .ret/\ax fr.env 4= .bool false/\(rest==rest2)=false)):=by
 intro rest
 have hcl:=hl.clean
 have hcu:=hu.clean
 have hsm:small=9223372036854775808:=rfl
 induction rest with
 |nil=>
  intro rest2 pre pre2 e hpre hpre2 hpp h0 h1 h12 h13
  have hl':l.length=pre.length:=by rw[hpre];simp
  have h2:rest2=[]:=by
   have:r.length=pre2.length+rest2.length:=by rw[hpre2];simp
   exact qN (by omega)
  subst h2
  refine cR ?_
  unfold zC
  refine aR (b7 ?_)
  unfold D2
  simp only[az,aA,aB,aX,ak,aD,aw,cQ,aq,bf,cT,aV,da,bS,and_true,tA,au,decide_false,h12,h13,hl',eU,aU]
  refine aR (bc (t:=false) (by simp only[ak,ai,ah,cT, *]) ?_)
  exact eD ⟨rfl,rfl,.inl rfl⟩
 |cons o rest ih=>
  intro rest2 pre pre2 e hpre hpre2 hpp h0 h1 h12 h13
  have hlt:pre.length<l.length:=by rw[hpre];simp
  have hat:l[pre.length]? =some o:=by rw[hpre];simp
  cases rest2 with
  |nil=>
   have:r.length=pre2.length:=by rw[hpre2];simp
   omega
  |cons q rest2=>
  have hat2:r[pre.length]? =some q:=by rw[hpre2,hpp];simp
  have hia:=fun lc=>hl.at lJ hat lc .i64
  have hiu:=fun lc=>hu.at lJ hat2 lc .i64
  have hwr:IntKind.i64.wrap ((pre.length:Int)+1)=((pre.length+1:Nat):Int):=by rw[ew (by omega) (by omega)];omega
  refine cR ?_
  unfold zC
  refine aR (b7 ?_)
  unfold D2
  simp only[az,aA,aB,aX,ak,aD,aw,cQ,aq,bf,cT,aV,da,tA,au,dT,h12,h13,hlt,aU]
  refine aR (bc (t:=true) (by simp only[ak,ai,ah,cT, *]) (ck ?_))
  simp only[aU]
  refine aR (cO (aF ?_))
  unfold NP
  simp only[az,aA,aB,ai,aH,aN,ak,aw,cT,cF,bS,tA,ah,au,h13]
  refine aR (W.drawQ hm ?_)
  unfold NQ
  simp only[eJ,eI,eK,isStore,ai,aH,bo,aX,ek,ak,aD,fQ,aw,uU,kV,aq,cS,cT,cF,aV,a7,bO,bS,tA,ah,au,dH,h0,h1,hia,hiu,bu,aU]
  cases hb:o==q with
  |false=>
   refine bc (t:=true) (by simp only[ak,ai,ah,cT,cF,gU]) (aF ?_)
   unfold NR
   simp only[az,aA,aB,aN,aK,bW,aw,gU,tA,au]
   refine cd ⟨rfl,rfl,.inr ⟨rfl,by simp only[ai,ah,cT,cF, *],?_⟩⟩
   simp only[Bm,hb,qJ]
  |true=>
   refine bc (t:=false) (by simp only[ak,ai,ah,cT,cF,dS]) (ck ?_)
   simp only[dP,aU]
   refine b7 ?_
   unfold NS
   simp only[az,aA,aB,ai,aH,aX,ak,aK,aD,bt,aw,dZ,aq,bf,cT,cF,aV,dS,bS,tA,ah,au,h13,hwr,aU]
   refine(ih rest2 (pre++[o]) (pre2++[q]) _ (by rw[hpre];simp) (by rw[hpre2];simp) (by simp[hpp]) (by simp only[ai,ah,cF, *]) (by simp only[ai,ah,cF, *]) (by simp only[ai,ah,cF, *]) (by simp only[ai,ah,cT,cF,dp,aP,aW])).mono ?_
   simp only[Bm,hb,i9]
   exact fun _ _ _ h=>h
theorem Xn {sp:FuncId->Option (List aj->Option aj)} (h0:sp 37=none) {v u:aj} {l r:List ar} (hl:bC 1 bu v l) (hu:bC 1 bu u r) (hsmall:l.length<small) {s:St} (hm:s.minw<=s.next):bz (QS sp) 37 [v,u] s (.bool (l==r)) s:=by
 have hlen:=fun mk s=>hl.len iI iW mk s
 have hlen2:=fun mk s=>hu.len iI iW mk s
 have hcl:=hl.clean
 have hcu:=hu.clean
 refine ey aer aeq aet aes h0 ?_
 unfold NJ
 refine aF ?_
 unfold NK
 simp only[dt,cY,az,aA,aB,aN,aK,bW,aw,cT,aP,aW,tA,aQ,au,bE,cm,cj,dT]
 refine aR (aF ?_)
 unfold NL
 simp only[az,aA,aB,ai,aH,aX,cJ,ak,aD,bk,bm,aw,bU,qg,cU,bJ,aq,bf,cT,cF,aV,cg,bS,tA,ah,au,aZ,ZQ,ZR,hcl,hcu,hlen,hlen2,ra]
 cases hb:l.length==r.length with
 |false=>
  refine bc (t:=true) (by simp only[ak,ai,ah,cT,cF,gU]) (aF ?_)
  unfold NM
  simp only[az,aA,aB,aN,aK,bW,aw,gU,tA,au]
  refine cd ⟨rfl,.inr rfl,cE ?_ rfl⟩
  have:(l==r)=false:=beq_eq_false_iff_ne.2 fun e=>by subst e;simp at hb
  simp only[ai,ah,cT,cF,this]
 |true=>
  have hll:l.length=r.length:=by simpa using hb
  refine bc (t:=false) (by simp only[ak,ai,ah,cT,cF,dS]) (ck ?_)
  simp only[aU]
  refine aR (W.sseq (b7 ?_))
  unfold NN
  simp only[az,aA,aB,ai,aH,cJ,ak,aK,aD,bk,bm,bt,aw,bU,cU,bJ,aq,cT,cF,aV,cg,dS,bS,tA,ah,au,aZ,ZP,hcl,hlen,aU]
  refine cO ?_
  refine(Xm hl hu hll hsmall hm l r [] [] _ rfl rfl rfl (by simp only[ai,ah,cT,cF, *]) (by simp only[ai,ah,cT,cF, *]) (by simp only[ai,ah,cT,cF, *]) (by simp only[ai,ah,cT,cF];rfl)).mono ?_
  rintro x ⟨e,sz,lc⟩ s' ⟨rfl,hs,⟨rfl,hok⟩|⟨rfl,h4,hok⟩⟩
  ·have hs:sz=26:=hs
   subst hs
   show W (QS sp) 37 _ _ _ _
   refine aF ?_
   unfold NT
   simp only[az,aA,aB,aN,aK,bW,aw,tA,au]
   refine cd ⟨rfl,.inr rfl,cE ?_ rfl⟩
   simp only[ai,ah,cT,hok]
  ·exact⟨rfl,.inr rfl,cE (by rw[h4,hok]) rfl⟩
def pn:Sp
 | [a,b]=>bif pures [a,b] then(gj 1 lC a).bind fun l=>(gj 1 lC b).bind fun r=>bif bT l.length small then some (.bool (l==r)) else none else none
 |_=>none
theorem yW {v u:aj} {l r:List ar} (hl:bC 1 bu v l) (hu:bC 1 bu u r) (hv:bP v=true) (hu2:bP u=true) (hs:l.length<small):pn [v,u]=some (.bool (l==r)):=by
 have q1:bT l.length small=true:=eL hs
 simp only[pn,pures,hv,hu2,gf,cT,jI oG hl,jI oG hu,aq,q1]
theorem H5:eN Tryz.prog 37 pn:=by
 intro args x hv G h w xs wr hx
 unfold pn at hv
 split at hv
 ·rename_i a b
  obtain⟨hp,hv⟩:=bX hv
  simp only[aG] at hv
  obtain⟨l,h1,r,h2,hv⟩:=hv
  obtain⟨hs,hv⟩:=bX hv
  injection hv with hv;subst hv
  have hl:=jb (fun v a=>oE) h1
  have hr:=jb (fun v a=>oE) h2
  exact gS (Q:=QT []) (gK .nil) (fun _=>gV 1) (args:=[a,b]) (v:=.bool (l==r)) (s':=s0) (kA hp) (by rw[iz hp];exact Xn (sp:=fun f=>fv f []) rfl hl hr (iL hs) (bB _)) rfl ⟨1,rfl⟩ G h w xs wr hx
 ·cases hv
theorem Xq {sp:FuncId->Option (List aj->Option aj)} {v u:aj} {l r:List cz} (hl:bC 2 eC v l) (hu:bC 2 eC u r) (hlen2:l.length=r.length) (hsmall:l.length<small) {s:St} (hm:s.minw<=s.next) {lc:Ag.Loc}: ∀(rest rest2 pre pre2:List cz) (e:bj),l=pre++rest->r=pre2++rest2->pre.length=pre2.length->
 ax e 0=v->ax e 1=u->ax e 12= .int .i64 (l.length:Nat)->ax e 13= .int .i64 (pre.length:Nat)->
 W (QS sp) 38 (.loop zD) ⟨e,26,lc⟩ s fun x fr s'=>s'=s/\fr.size=26/\((x= .exit 0/\(rest==rest2)=true)\/(x= .ret/\ax fr.env 4= .bool false/\(rest==rest2)=false)):=by
 intro rest
 have hcl:=hl.clean
 have hcu:=hu.clean
 have hsm:small=9223372036854775808:=rfl
 induction rest with
 |nil=>
  intro rest2 pre pre2 e hpre hpre2 hpp h0 h1 h12 h13
  have hl':l.length=pre.length:=by rw[hpre];simp
  have h2:rest2=[]:=by
   have:r.length=pre2.length+rest2.length:=by rw[hpre2];simp
   exact qN (by omega)
  subst h2
  refine cR ?_
  unfold zD
  refine aR (b7 ?_)
  unfold D3
  simp only[az,aA,aB,aX,ak,aD,aw,cQ,aq,bf,cT,aV,da,bS,and_true,tA,au,decide_false,h12,h13,hl',eU,aU]
  refine aR (bc (t:=false) (by simp only[ak,ai,ah,cT, *]) ?_)
  exact eD ⟨rfl,rfl,.inl rfl⟩
 |cons o rest ih=>
  intro rest2 pre pre2 e hpre hpre2 hpp h0 h1 h12 h13
  have hlt:pre.length<l.length:=by rw[hpre];simp
  have hat:l[pre.length]? =some o:=by rw[hpre];simp
  cases rest2 with
  |nil=>
   have:r.length=pre2.length:=by rw[hpre2];simp
   omega
  |cons q rest2=>
  have hat2:r[pre.length]? =some q:=by rw[hpre2,hpp];simp
  have hia:=fun lc=>hl.at si hat lc .i64
  have hiu:=fun lc=>hu.at si hat2 lc .i64
  have hwr:IntKind.i64.wrap ((pre.length:Int)+1)=((pre.length+1:Nat):Int):=by rw[ew (by omega) (by omega)];omega
  refine cR ?_
  unfold zD
  refine aR (b7 ?_)
  unfold D3
  simp only[az,aA,aB,aX,ak,aD,aw,cQ,aq,bf,cT,aV,da,tA,au,dT,h12,h13,hlt,aU]
  refine aR (bc (t:=true) (by simp only[ak,ai,ah,cT, *]) (ck ?_))
  simp only[aU]
  refine aR (cO (aF ?_))
  unfold NZ
  simp only[az,aA,aB,ai,aH,aN,ak,aw,cT,cF,bS,tA,ah,au,h13]
  refine aR (W.drawQ hm ?_)
  unfold N0
  simp only[eJ,eI,eK,isStore,ai,aH,bo,aX,ek,ak,aD,fQ,aw,dC,aq,cK,cT,cF,aV,aP,aW,cut,bN,a7,eR,bS,tA,aQ,ah,au,bE,aZ,x7,h0,h1,hia,hiu,eC,aU,Uf]
  cases hb:(bif o.1==q.1 then bif o.2==q.2 then true else false else false) with
  |false=>
   have hq:(o==q)=false:=by rw[TZ,hb]
   refine bc (t:=true) (by simp only[ak,ai,ah,cT,cF,gU]) (aF ?_)
   unfold N4
   simp only[az,aA,aB,aN,aK,bW,aw,gU,tA,au]
   refine cd ⟨rfl,rfl,.inr ⟨rfl,by simp only[ai,ah,cT,cF, *],?_⟩⟩
   simp only[Bm,hq,qJ]
  |true=>
   have hq:(o==q)=true:=by rw[TZ,hb]
   refine bc (t:=false) (by simp only[ak,ai,ah,cT,cF,dS]) (ck ?_)
   simp only[dP,aU]
   refine b7 ?_
   unfold N5
   simp only[az,aA,aB,ai,aH,aX,ak,aK,aD,bt,aw,dZ,aq,bf,cT,cF,aV,dS,bS,tA,ah,au,h13,hwr,aU]
   refine(ih rest2 (pre++[o]) (pre2++[q]) _ (by rw[hpre];simp) (by rw[hpre2];simp) (by simp[hpp]) (by simp only[ai,ah,cF, *]) (by simp only[ai,ah,cF, *]) (by simp only[ai,ah,cF, *]) (by simp only[ai,ah,cT,cF,dp,aP,aW])).mono ?_
   simp only[Bm,hq,i9]
   exact fun _ _ _ h=>h
theorem Xr {sp:FuncId->Option (List aj->Option aj)} (h0:sp 38=none) {v u:aj} {l r:List cz} (hl:bC 2 eC v l) (hu:bC 2 eC u r) (hsmall:l.length<small) {s:St} (hm:s.minw<=s.next):bz (QS sp) 38 [v,u] s (.bool (l==r)) s:=by
 have hlen:=fun mk s=>hl.len pD pC mk s
 have hlen2:=fun mk s=>hu.len pD pC mk s
 have hcl:=hl.clean
 have hcu:=hu.clean
 refine ey aew aev aey aex h0 ?_
 unfold NU
 refine aF ?_
 unfold NV
 simp only[dt,cY,az,aA,aB,aN,aK,bW,aw,cT,aP,aW,tA,aQ,au,bE,cm,cj,dT]
 refine aR (aF ?_)
 unfold NW
 simp only[az,aA,aB,ai,aH,aX,cJ,ak,aD,bk,bm,aw,bU,qg,cU,bJ,aq,bf,cT,cF,aV,cg,bS,tA,ah,au,aZ,ZT,ZU,hcl,hcu,hlen,hlen2,ra]
 cases hb:l.length==r.length with
 |false=>
  refine bc (t:=true) (by simp only[ak,ai,ah,cT,cF,gU]) (aF ?_)
  unfold NX
  simp only[az,aA,aB,aN,aK,bW,aw,gU,tA,au]
  refine cd ⟨rfl,.inr rfl,cE ?_ rfl⟩
  have:(l==r)=false:=beq_eq_false_iff_ne.2 fun e=>by subst e;simp at hb
  simp only[ai,ah,cT,cF,this]
 |true=>
  have hll:l.length=r.length:=by simpa using hb
  refine bc (t:=false) (by simp only[ak,ai,ah,cT,cF,dS]) (ck ?_)
  simp only[aU]
  refine aR (W.sseq (b7 ?_))
  unfold NY
  simp only[az,aA,aB,ai,aH,cJ,ak,aK,aD,bk,bm,bt,aw,bU,cU,bJ,aq,cT,cF,aV,cg,dS,bS,tA,ah,au,aZ,ZS,hcl,hlen,aU]
  refine cO ?_
  refine(Xq hl hu hll hsmall hm l r [] [] _ rfl rfl rfl (by simp only[ai,ah,cT,cF, *]) (by simp only[ai,ah,cT,cF, *]) (by simp only[ai,ah,cT,cF, *]) (by simp only[ai,ah,cT,cF];rfl)).mono ?_
  rintro x ⟨e,sz,lc⟩ s' ⟨rfl,hs,⟨rfl,hok⟩|⟨rfl,h4,hok⟩⟩
  ·have hs:sz=26:=hs
   subst hs
   show W (QS sp) 38 _ _ _ _
   refine aF ?_
   unfold N6
   simp only[az,aA,aB,aN,aK,bW,aw,tA,au]
   refine cd ⟨rfl,.inr rfl,cE ?_ rfl⟩
   simp only[ai,ah,cT,hok]
  ·exact⟨rfl,.inr rfl,cE (by rw[h4,hok]) rfl⟩
def u7:Sp
 | [a,b]=>bif pures [a,b] then(gj 2 oH a).bind fun l=>(gj 2 oH b).bind fun r=>bif bT l.length small then some (.bool (l==r)) else none else none
 |_=>none
theorem Xo {v u:aj} {l r:List cz} (hl:bC 2 eC v l) (hu:bC 2 eC u r) (hv:bP v=true) (hu2:bP u=true) (hs:l.length<small):u7 [v,u]=some (.bool (l==r)):=by
 have q1:bT l.length small=true:=eL hs
 simp only[u7,pures,hv,hu2,gf,cT,jI rU hl,jI rU hu,aq,q1]
theorem Xp:eN Tryz.prog 38 u7:=by
 intro args x hv G h w xs wr hx
 unfold u7 at hv
 split at hv
 ·rename_i a b
  obtain⟨hp,hv⟩:=bX hv
  simp only[aG] at hv
  obtain⟨l,h1,r,h2,hv⟩:=hv
  obtain⟨hs,hv⟩:=bX hv
  injection hv with hv;subst hv
  have hl:=jb (fun v a=>rT) h1
  have hr:=jb (fun v a=>rT) h2
  exact gS (Q:=QT []) (gK .nil) (fun _=>gV 1) (args:=[a,b]) (v:=.bool (l==r)) (s':=s0) (kA hp) (by rw[iz hp];exact Xr (sp:=fun f=>fv f []) rfl hl hr (iL hs) (bB _)) rfl ⟨1,rfl⟩ G h w xs wr hx
 ·cases hv
def na (o q:Obj):Bool:=bif o.id==q.id then bif bD o.kind q.kind then bif(bif bD o.x q.x then bif bD o.y q.y then true else false else false) then bif o.refs==q.refs then o.tags==q.tags else false else false else false else false
theorem ai0 (o q:Obj):na o q=true↔o.Eqv q:=by
 unfold na
 constructor
 ·intro h
  cases h1:o.id==q.id with
  |false=>rw[h1] at h;cases h
  |true=>
  rw[h1] at h
  cases h2:bD o.kind q.kind with
  |false=>rw[h2] at h;cases h
  |true=>
  rw[h2] at h
  cases h3:bD o.x q.x with
  |false=>rw[h3] at h;cases h
  |true=>
  rw[h3] at h
  cases h4:bD o.y q.y with
  |false=>rw[h4] at h;cases h
  |true=>
  rw[h4] at h
  cases h5:o.refs==q.refs with
  |false=>rw[h5] at h;cases h
  |true=>
  rw[h5] at h
  simp only[cT] at h
  simp only[bD,beq_iff_eq] at h1 h2 h3 h4 h5 h
  exact⟨h1.symm,h2.symm,h3.symm,h4.symm,h5.symm,h.symm⟩
 ·rintro⟨h1,h2,h3,h4,h5,h6⟩
  simp only[h1,h2,h3,h4,h5,h6,bD,bS,cT]
theorem ajL {sp:FuncId->Option (List aj->Option aj)} (h16:sp 16=none) (h37:sp 37=some pn) (h38:sp 38=some u7) {o q:Obj} (ho:o.Good) (hq:q.Good) (s:St):bz (QS sp) 16 [o.val,q.val] s (.bool (na o q)) s:=by
 have rcl:=ho.refs.clean
 have tcl:=ho.tags.clean
 have rcq:=hq.refs.clean
 have tcq:=hq.tags.clean
 have e1:=yW ho.refs hq.refs ho.pr hq.pr ho.reflen
 have e2:=Xo ho.tags hq.tags ho.pt hq.pt ho.taglen
 refine ey acD acC acF acE h16 ?_
 unfold KS
 refine aF ?_
 unfold KT
 simp only[dt,cY,az,aA,aB,ai,dA,cM,aN,jC,ak,aK,aD,bW,gl,aw,bJ,dC,aq,cK,cT,cF,cg,aP,aW,bS,tA,aQ,ah,au,bE,cm,cj,dT,Zq,Zr,Obj.val]
 refine aF ?_
 unfold KU
 have fin: ∀e' lc',ax e' 4= .bool (na o q)->W (QS sp) 16 .ret ⟨e',38,lc'⟩ s fun x fr' s1=>s1=s/\(x= .normal\/x= .ret)/\ ∃vs,gQ (QS sp) [] fr' s1 [.tmp 4]=some vs/\jQ vs= .bool (na o q):=fun e' lc' h=>cd ⟨rfl,.inr rfl,cE h rfl⟩
 cases h1:o.id==q.id with
 |false=>
  simp only[az,aA,dB,aB,gp,jr,ai,dA,cM,bR,aH,aN,di,bo,aX,bZ,ak,aK,aD,bW,cx,dj,d7,aw,jd,aq,cS,cT,cF,aV,a7,bO,bS,tA,dc,ah,au,aZ,dH,pq,Obj.cells,h1]
  exact fin _ _ (by simp only[ai,ah,cT,cF,na,h1])
 |true=>
 cases h2:bD o.kind q.kind with
 |false=>
  simp only[az,aA,dB,aB,eP,gp,hQ,jr,ai,dA,cM,bR,aH,aN,di,bo,aX,bZ,ak,aK,aD,bW,cx,dj,eA,d7,aw,jH,jd,aq,bf,cS,cT,cF,aV,a7,bO,bS,tA,aQ,dc,ah,au,aZ,fJ,dH,pq,xb,Obj.cells,h1,h2]
  exact fin _ _ (by simp only[ai,ah,cT,cF,na,h1,h2])
 |true=>
 cases h3:(bif bD o.x q.x then bif bD o.y q.y then true else false else false) with
 |false=>
  simp only[az,aA,dB,aB,eP,gp,hQ,jr,ai,dA,cM,bR,aH,aN,di,bo,aX,bZ,ak,aK,aD,bW,cx,dj,eA,d7,aw,jH,jd,aq,bf,cS,cK,cT,cF,aV,aP,aW,cut,bN,a7,bO,eR,bS,tA,aQ,dc,ah,au,bE,aZ,fJ,dH,jf,pq,xb,yY,Obj.cells,h1,h2,pP,h3]
  exact fin _ _ (by simp only[ai,ah,cT,cF,na,h1,h2,h3])
 |true=>
 cases h4:o.refs==q.refs with
 |false=>
  simp only[az,aA,dB,aB,eP,gp,hQ,jr,ai,dA,cM,bR,aH,aN,di,bo,aX,bZ,dK,dI,ak,aK,aD,bk,bm,bW,cx,dj,eA,d7,aw,jH,jd,aq,bf,cS,cK,cT,cF,aV,ei,aP,aW,cut,bN,a7,bO,eR,bS,tA,aQ,dc,ah,au,bE,aZ,fJ,dH,jf,ic,pq,xb,yY,nU,Obj.cells,rcl,rcq,h1,h2,pP,h3,h37,e1,h4]
  exact fin _ _ (by simp only[ai,ah,cT,cF,na,h1,h2,h3,h4])
 |true=>
  simp only[az,aA,dB,aB,eP,hQ,ai,dA,cM,bR,aH,aN,di,bo,aX,bZ,dK,dI,ak,aK,aD,bk,bm,bW,cx,dj,eA,aw,jH,jd,aq,bf,cS,cK,cT,cF,aV,ei,aP,aW,cut,bN,a7,bO,eR,bS,tA,aQ,dc,ah,au,bE,aZ,fJ,dH,jf,ic,kR,pq,xb,yY,nU,pu,Obj.cells,rcl,tcl,rcq,tcq,h1,h2,pP,h3,h37,e1,h4,h38,e2]
  exact fin _ _ (by simp only[ai,ah,cT,cF,na,h1,h2,h3,h4])
def rm:Sp
 | [a,b]=>(mQ a).bind fun o=>(mQ b).bind fun q=>some (.bool (na o q))
 |_=>none
theorem ajK {o q:Obj} (h:o.Good) (h2:q.Good):rm [o.val,q.val]=some (.bool (na o q)):=by
 simp only[rm,uO h,uO h2,aq]
def V1:eV:=[(37,pn),(38,u7)]
theorem UV:fT V1:=.cons H5 (.cons Xp .nil)
theorem Sy:eN Tryz.prog 16 rm:=by
 intro args u hv G h w xs wr hx
 unfold rm at hv
 split at hv
 ·simp only[aG,bg] at hv
  obtain⟨o,ho,q,hq,rfl⟩:=hv
  obtain⟨rfl,hg⟩:=tC ho
  obtain⟨rfl,hg2⟩:=tC hq
  have hp:pures [o.val,q.val]=true:=by simp only[pures,hg.pure,hg2.pure,gf]
  exact gS (Q:=QT V1) (gK UV) (fun _=>gV 1) (args:=[o.val,q.val]) (v:=.bool (na o q)) (s':=s0) (kA hp) (by rw[iz hp];exact ajL (sp:=fun f=>fv f V1) rfl rfl rfl hg hg2 s0) rfl ⟨1,rfl⟩ G h w xs wr hx
 ·cases hv
def kM (a b:List UInt8):Bool:=decide (a<=b)
def tP (x:List UInt8):List (List UInt8)->List (List UInt8)
 | []=>[x]
 |y::l=>bif Ag.leBytes x y then x::y::l else y::tP x l
def fh:List (List UInt8)->List (List UInt8)
 | []=>[]
 |x::l=>tP x (fh l)
theorem Ag.leBytes_iff (x y:List UInt8):Ag.leBytes x y=kM x y:=by
 have h:Ag.leBytes x y=(hZ x y||x==y):=rfl
 rw[h,Go.Proofs.bytesLess_eq]
 apply Bool.eq_iff_iff.2
 simp only[kM,tf,decide_eq_true_eq,beq_iff_eq]
 constructor
 ·rintro(h|rfl)
  ·exact List.le_of_lt h
  ·exact List.le_refl _
 ·intro h
  by_cases e:x=y
  ·exact .inr e
  ·exact .inl (Classical.byContradiction fun hc=>e (List.le_antisymm h (List.not_lt.1 hc)))
theorem Dk (x:List UInt8): ∀l,(tP x l).Perm (x::l)
 | []=>.refl _
 |y::l=>by
  simp only[tP]
  cases Ag.leBytes x y with
  |true=>exact .refl _
  |false=>exact((Dk x l).cons y).trans (.swap x y l)
theorem mz: ∀l,(fh l).Perm l
 | []=>.refl _
 |x::l=>(Dk x _).trans ((mz l).cons x)
theorem Ab (a b c:List UInt8) (h1:kM a b=true) (h2:kM b c=true):kM a c=true:=by
 simp only[kM,decide_eq_true_eq] at*;exact List.le_trans h1 h2
theorem Aa (a b:List UInt8):(kM a b||kM b a)=true:=by
 simp only[kM,tf,decide_eq_true_eq];exact List.le_total a b
theorem I4 (x:List UInt8): ∀l,l.Pairwise (fun a b=>kM a b=true)->(tP x l).Pairwise (fun a b=>kM a b=true)
 | [],_=>by simp[tP]
 |y::l,h=>by
  simp only[tP]
  cases e:Ag.leBytes x y with
  |true=>
   rw[Ag.leBytes_iff] at e
   refine List.pairwise_cons.2 ⟨fun z hz=>?_,h⟩
   rcases List.mem_cons.1 hz with rfl|hz
   ·exact e
   ·exact Ab _ _ _ e ((List.pairwise_cons.1 h).1 z hz)
  |false=>
   rw[Ag.leBytes_iff] at e
   refine List.pairwise_cons.2 ⟨fun z hz=>?_,I4 x l (List.pairwise_cons.1 h).2⟩
   rcases List.mem_cons.1 ((Dk x l).mem_iff.1 hz) with rfl|hz
   ·have:=Aa z y
    rw[e,jU] at this
    exact this
   ·exact(List.pairwise_cons.1 h).1 z hz
theorem TD: ∀l,(fh l).Pairwise (fun a b=>kM a b=true)
 | []=>.nil
 |x::l=>I4 x _ (TD l)
theorem F6 (l:List (List UInt8)):l.mergeSort (fun x y=>decide (x<=y))=fh l:=by
 refine List.Perm.eq_of_pairwise (le:=fun a b=>kM a b=true) (fun a b _ _ h1 h2=>?_) (Bs Ab Aa l) (TD l) ((Br l _).trans (mz l).symm)
 simp only[kM,decide_eq_true_eq] at h1 h2
 exact List.le_antisymm h1 h2
theorem A0 {l r:List ar} (h:l.Perm r):fh l=fh r:=by
 rw[<-F6,<-F6]
 refine List.Perm.eq_of_pairwise (le:=fun a b=>kM a b=true) (fun a b _ _ h1 h2=>?_) (Bs Ab Aa l) (Bs Ab Aa r) (((Br l _).trans h).trans (Br r _).symm)
 simp only[kM,decide_eq_true_eq] at h1 h2
 exact List.le_antisymm h1 h2
def xF:List aj->aj
 | []=>.nils
 |x::l=>.list 1 (x::l) .no
def dM:List UInt8->List UInt8->Int
 | [],[]=>0
 | [],_::_=> -1
 |_::_,[]=>1
 |a::x,b::y=>bif bT a.toNat b.toNat then-1 else bif bT b.toNat a.toNat then 1 else dM x y
def mS:Sp
 | [.str a,.str b]=>some (.int .i64 (dM a b))
 |_=>none
theorem WO: ∀(a b:List UInt8),dM a b=Lib.compareBytes a b:=by
 intro a
 induction a with
 |nil=>intro b;cases b<;>rfl
 |cons u x ih=>
  intro b
  cases b with
  |nil=>rfl
  |cons v y=>
   simp only[dM,Lib.compareBytes,UInt8.lt_iff_toNat_lt,dl,ih]
   by_cases h1:u.toNat<v.toNat
   ·simp[h1]
   ·by_cases h2:v.toNat<u.toNat<;>simp[h1,h2]
theorem Cg:eN Tryz.prog 83 mS:=by
 intro args v hv G h w xs wr hx
 unfold mS at hv
 split at hv
 ·rename_i a b
  injection hv with hv;subst hv
  cases hx with
  |cons p q=>
   cases q with
   |cons q r=>
    cases r
    cases p
    cases q
    refine .inl ⟨.int .i64 (Lib.compareBytes a b),w,?_,G,wr,.refl,?_⟩
    ·have:=run_callFunc_extern (P:=Tryz.prog) (f:=83) (fn:=Tryz.f83) (e:=Extern.BytealgCompare.compare) (by kernel_rfl) (by kernel_rfl) (by kernel_rfl) (by kernel_rfl) (by kernel_rfl) #[.string ⟨⟨a⟩⟩,.string ⟨⟨b⟩⟩] w
     rw[show(⟨[Value.string ⟨⟨a⟩⟩,.string ⟨⟨b⟩⟩]⟩:Array Value)= #[.string ⟨⟨a⟩⟩,.string ⟨⟨b⟩⟩] from rfl,this,Lib.run_compareString]
     rfl
    ·rw[WO];exact .int _ _
 ·cases hv
end Go.Proofs.YtbfmdojdemckbaaGreat
