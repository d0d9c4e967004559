/- Contracts of lexer.Name, tag.Valid, object.word, least, on. -/
import Derived.Test.YtbfmdojdemckbaaGreatZ2
import Derived.Test.YtbfmdojdemckbaaGreatZ1
namespace Go.Proofs.YtbfmdojdemckbaaGreat
open _root_.Bool renaming and_eq_true→cU,and_false→uf,and_self→gK,and_true→dB,false_and→pB,not_false→ff,not_true→dP,true_and→iP
open _root_.List renaming cons_append→cq,drop→aR,head?_cons→bN,length_append→dn,length_cons→aK,length_nil→aQ,map_cons→fw,nil_append→bT,take_succ_cons→eP
open _root_.Nat renaming add_zero→cY,beq→aY,blt→bP,le_of_ble_eq_true→io,lt_irrefl→fL,reduceAdd→bt,reduceBEq→ae,reduceLT→ar,reduceLeDiff→bR,zero_add→aM,zero_lt_succ→gL
open Operand renaming tmp→aa
open _root_.Option renaming bind_eq_some_iff→aF,bind_some→ak,map_some→qr
open _root_.Option.some renaming injEq→a7
open Go.Ag
def small:Nat:=9223372036854775808
abbrev cH:=ax×ax
def bp (s:ax):ai:=.str s
def ek (t:cH):ai:=.agg [.str t.1,.str t.2]
def kZ:ai→Option ax
 | .str s=>some s
 |_=>none
def nY:ai→Option cH
 | .agg [.str a,.str b]=>some (a,b)
 |_=>none
def j3 {α β:Type} (g:α→Option β):List α→Option (List β)
 | []=>some []
 |a::l=>(g a).bind fun b=>(j3 g l).bind fun r=>some (b::r)
def gN {α:Type} (n:Nat) (dec:ai→Option α):ai→Option (List α)
 | .nils=>some []
 | .list m xs _=>bif aY m n then j3 dec xs else none
 |_=>none
theorem nW {v:ai} {s:ax} (h:kZ v=some s):v=bp s:=by
 unfold kZ at h;split at h
 ·injection h with h;subst h;rfl
 ·cases h
theorem rB {v:ai} {t:cH} (h:nY v=some t):v=ek t:=by
 unfold nY at h;split at h
 ·injection h with h;subst h;rfl
 ·cases h
theorem Rh {α:Type} {dec:ai→Option α} {enc:α→ai} (hd: ∀v a,dec v=some a→v=enc a): ∀ {xs:List ai} {l:List α},j3 dec xs=some l→xs=l.map enc
 | [],l,h=>by simp only [j3,a7] at h;subst h;rfl
 |x::xs,l,h=>by
  simp only [j3,aF,a7] at h
  obtain⟨a,h1,r,h2,rfl⟩:=h
  rw [fw,←hd x a h1,←Rh hd h2]
theorem Rk {α:Type} {dec:ai→Option α} {enc:α→ai} (hd: ∀a,dec (enc a)=some a): ∀(l:List α),j3 dec (l.map enc)=some l
 | []=>rfl
 |a::l=>by simp only [fw,j3,hd,ak,Rk hd l]
theorem iX {α:Type} {n:Nat} {dec:ai→Option α} {enc:α→ai} (hd: ∀v a,dec v=some a→v=enc a) {v:ai} {l:List α} (h:gN n dec v=some l):bu n enc v l:=by
 unfold gN at h
 split at h
 ·injection h with h;exact .inl ⟨rfl,h.symm⟩
 ·obtain⟨h1,h2⟩:=bW h
  have:=Nat.eq_of_beq_eq_true h1
  subst this
  rename_i xs r
  exact .inr ⟨r,by rw [Rh hd h2]⟩
 ·cases h
theorem jE {α:Type} {n:Nat} {dec:ai→Option α} {enc:α→ai} (hd: ∀a,dec (enc a)=some a) {v:ai} {l:List α} (h:bu n enc v l):gN n dec v=some l:=by
 rcases h with⟨rfl,rfl⟩|⟨r,rfl⟩
 ·rfl
 ·simp only [gN,Rk hd,aU,bS,cT]
theorem xK {α:Type} {enc:α→ai} (hp: ∀a,bM (enc a)=true) (l:List α):pures (l.map enc)=true:=by
 rw [tQ]
 intro v hv
 obtain⟨a,_,rfl⟩:=List.mem_map.1 hv
 exact hp a
theorem aaC {α:Type} {n:Nat} {enc:α→ai} (hp: ∀a,bM (enc a)=true) {v:ai} {l:List α} (h:bu n enc v l):jd v=true∧bu n enc (weak v) l:=by
 rcases h with⟨rfl,rfl⟩|⟨r,rfl⟩
 ·exact⟨rfl,.inl ⟨rfl,rfl⟩⟩
 ·exact⟨by simpa [jd] using xK hp l,.inr (by
   simp only [weak,iw (xK hp l)]
   exact⟨_,rfl⟩)⟩
theorem SZ (s:ax):bM (bp s)=true:=rfl
theorem Ta (t:cH):bM (ek t)=true:=rfl
theorem nX (s:ax):kZ (bp s)=some s:=rfl
theorem rC (t:cH):nY (ek t)=some t:=rfl
theorem cD (s:St) (n m:Nat) (o:Option bE):(s.put n o).get [] m=bif m==n then o else s.get [] m:=by
 simp only [St.get,St.put,dF,cF,bq.get_set]
 by_cases h:m=n
 ·subst h;simp
 ·rw [if_neg h,beq_eq_false_iff_ne.2 h];rfl
theorem cW (s:St) (m:Nat) (o:bE):(s.new o).get [] m=bif m==s.next then some o else s.get [] m:=by
 simp only [St.get,St.new,dF,cF,bq.get_set]
 by_cases h:m=s.next
 ·subst h;simp
 ·rw [if_neg h,beq_eq_false_iff_ne.2 h];rfl
theorem o9 (s:St) (n:Nat) (o:Option bE):(s.put n o).next=s.next:=rfl
theorem i9 (s:St) (o:bE):(s.new o).next=s.next+1:=rfl
def cK (n:Nat):List (ax×ai)→List cV
 | []=>[]
 |(k,v)::l=>⟨.str k,v,n⟩::cK (n+1) l
def look (k:ax):List (ax×ai)→Option ai
 | []=>none
 |(a,v)::l=>bif k==a then some v else look k l
def ns (k:ax):List (ax×ai)→Nat
 | []=>0
 |(a,_)::l=>bif k==a then 0 else ns k l+1
section
variable {P:Program} {kt:TypeId} (heq: ∀a b:List UInt8,jX P 8 kt (.str a) (.str b)=some (a==b))
include heq
theorem Ci: ∀(l:List (ax×ai)) (k:ax) (n i:Nat),jZ P kt (.str k) (cK n l) i=some ((look k l).map fun v=>(i+ns k l,⟨.str k,v,n+ns k l⟩))
 | [],k,n,i=>rfl
 |(a,v)::l,k,n,i=>by
  simp only [cK,jZ,heq,ak,look,ns]
  cases h:k==a with
  |true=>
   have:k=a:=by simpa using h
   subst this
   simp
  |false=>
   simp only [cF]
   rw [Ci l k (n+1) (i+1)]
   cases look k l with
   |none=>rfl
   |some u=>
    simp only [qr]
    rw [show i+1+ns k l=i+(ns k l+1) by omega,show n+1+ns k l=n+(ns k l+1) by omega]
theorem EA {t:TypeId} {e:TypeId} {z:ai} (hk: ∀k:List UInt8,nl P t (.str k)=some (kt,e)) (hz:eK P e=some z) {s:St} {m:Nat} {l:List (ax×ai)} {c:Nat} (hs:s.get [] m=some (.map (cK 0 l) c)) (k:ax):
 lk P [] t (.map m) (.str k) false s=some ((look k l).getD z):=by
 simp only [lk,hk,ak,hz,xu,hs,Ci heq l k 0 0]
 cases look k l<;>rfl
end
theorem Hp: ∀(l r:List (ax×ai)) (n:Nat),cK n (l++r)=cK n l++cK (n+l.length) r
 | [],r,n=>rfl
 |(a,v)::l,r,n=>by simp only [cq,cK,Hp l r (n+1),aK];congr 3;omega
def ej (k:ax) (v:ai):List (ax×ai)→List (ax×ai)
 | []=>[(k,v)]
 |(a,u)::l=>bif k==a then(k,v)::l else(a,u)::ej k v l
theorem lV (k j:ax) (v:ai): ∀l,look j (ej k v l)=bif j==k then some v else look j l
 | []=>by
   simp only [ej,look]
 |(a,u)::l=>by
  simp only [ej]
  cases h:k==a with
  |true=>
   have:k=a:=by simpa using h
   subst this
   simp only [cT,look]
   cases j==k<;>rfl
  |false=>
   simp only [cF,look,lV k j v l]
   cases h2:j==a with
   |false=>rfl
   |true=>
    have:j=a:=by simpa using h2
    subst this
    have:(j==k)=false:=by
     cases h3:j==k with
     |false=>rfl
     |true=>have:j=k:=by simpa using h3
            subst this;simp at h
    simp [this]
theorem Im {k:ax} {v:ai}: ∀ {l},look k l=none→ej k v l=l++[(k,v)]
 | [],_=>rfl
 |(a,u)::l,h=>by
  simp only [look] at h
  simp only [ej]
  cases h1:k==a with
  |true=>rw [h1] at h;cases h
  |false=>rw [h1] at h;simp only [cF,Im h,cq]
theorem Hr {k:ax} {u v:ai}: ∀ {l:List (ax×ai)} {n:Nat},look k l=some u→(cK n l).set (ns k l) ⟨.str k,v,n+ns k l⟩=cK n (ej k v l)
 | [],_,h=>by cases h
 |(a,w)::l,n,h=>by
  simp only [look] at h
  simp only [ej,ns,cK]
  cases h1:k==a with
  |true=>simp [cK]
  |false=>
   rw [h1] at h
   simp only [cF,List.set_cons_succ,cK]
   rw [←Hr (l:=l) (n:=n+1) h,show n+(ns k l+1)=n+1+ns k l by omega]
theorem x4 {P:Program} {kt t e:TypeId} (heq: ∀a b:List UInt8,jX P 8 kt (.str a) (.str b)=some (a==b)) (hk: ∀k:List UInt8,nl P t (.str k)=some (kt,e)) {s:St} {m:Nat} {l:List (ax×ai)} (hs:s.get [] m=some (.map (cK 0 l) l.length)) (k:ax) (v:ai):
 lB P [] t (.map m) (.str k) v s=some (s.put m (some (.map (cK 0 (ej k v l)) (ej k v l).length))):=by
 have hlen: ∀ {l:List (ax×ai)} {u:ai},look k l=some u→(ej k v l).length=l.length:=by
  intro l
  induction l with
  |nil=>intro u h;cases h
  |cons x l ih=>
   obtain⟨a,w⟩:=x
   intro u h
   simp only [look] at h
   simp only [ej]
   cases h1:k==a with
   |true=>rfl
   |false=>rw [h1] at h;simp only [cF,aK,ih h]
 simp only [lB,hk,ak,hs,Ci heq l k 0 0]
 cases h:look k l with
 |none=>
  simp only [Option.map_none,Im h,dn,aK,aQ,Hp,aM]
  rfl
 |some u=>
  have hks:r9 (.str k) (.str k)=true:=by simp [r9,vV]
  simp only [qr,hks,cT,hlen h]
  have:=Hr (v:=v) (n:=0) h
  rw [aM] at this ⊢
  rw [this]
def rQ (b:UInt8):Bool:=xo b.toNat
def yV (b:UInt8):Bool:=wM b.toNat
def vp (s:ax):Bool:=s.all fun b=>rQ b||yV b||aY b.toNat 95
def jF (s:ax):Bool:=match s with| []=>false|b::r=>rQ b&&vp r&&Nat.ble (b::r).length 24
def pX:Sp
 | [.str s]=>bif bP s.length small then some (.bool (jF s)) else none
 |_=>none
theorem ER {s:ax} (h:s.length<small):pX [.str s]=some (.bool (jF s)):=by
 simp only [pX,cP,h,dT,cT]
def oq (i:Nat) (b:UInt8):Bool:=rQ b||(!(i==0)&&(yV b||(b.toNat==95)))
def oh:Nat→ax→Bool
 |_,[]=>true
 |i,b::r=>oq i b&&oh (i+1) r
theorem EP: ∀(s:ax) (i:Nat),oh (i+1) s=vp s
 | [],_=>rfl
 |b::r,i=>by
  simp only [oh,vp,List.all_cons]
  rw [EP r (i+1)]
  simp [oq,vp,Bool.or_assoc,aU]
theorem wI (b:UInt8):bL ((rF b.toNat:Nat):Int) 3=rQ b:=by
 rw [show(3:Int)=((3:Nat):Int) from rfl,qJ]
 unfold rF rQ
 cases xo b.toNat with
 |true=>rfl
 |false=>
  simp only [cF]
  cases wM b.toNat with
  |true=>rfl
  |false=>
   simp only [cF]
   cases xy b.toNat [32,9,10] with
   |true=>rfl
   |false=>
    simp only [cF]
    cases xy b.toNat [59,44,46,58,40,41,123,125,91,93,61,60,62,47,45] with
    |true=>rfl
    |false=>
     simp only [cF]
     cases aY b.toNat 35<;>cases aY b.toNat 95<;>cases aY b.toNat 34<;>rfl
theorem G3:(List.range 256).all (fun n=>(aY (rF n) 4==wM n)&&(aY (rF n) 5==aY n 95))=true:=by decide+kernel
theorem BL (b:UInt8):bL ((rF b.toNat:Nat):Int) 4=yV b:=by
 rw [show(4:Int)=((4:Nat):Int) from rfl,qJ,←aU]
 have:=List.all_eq_true.1 G3 b.toNat (List.mem_range.2 b.toNat_lt)
 simp only [cU,beq_iff_eq] at this
 exact this.1
theorem GX (b:UInt8):bL ((rF b.toNat:Nat):Int) 5=(b.toNat==95):=by
 rw [←aU b.toNat,show(5:Int)=((5:Nat):Int) from rfl,qJ,←aU]
 have:=List.all_eq_true.1 G3 b.toNat (List.mem_range.2 b.toNat_lt)
 simp only [cU,beq_iff_eq] at this
 exact this.2
section
variable {sp:FuncId→Option (List ai→Option ai)}
theorem aiv {str:ax} (hsmall:str.length<9223372036854775808) {s:St} {g:Nat}: ∀(rest pre:ax) (e:bc) (lc:Ag.Loc),str=pre++rest→
 aq e 0= .str str→aq e 3= .lref 3 g 0→lc.gen 3=g→lc.get 3 g=some (oP 256 0)→aq e 8= .int .i64 (str.length:Nat)→aq e 9= .int .i64 (pre.length:Nat)→
 W (QS sp) 58 (.loop zu) ⟨e,39,lc⟩ s fun x fr s'=>s'=s∧fr.size=39∧((x= .exit 0∧aq fr.env 0= .str str∧oh pre.length rest=true)∨(x= .ret∧aq fr.env 2= .bool false∧oh pre.length rest=false)):=by
 intro rest
 induction rest with
 |nil=>
  intro pre e lc hpre h0 h3 hg hl h8 h9
  have hlen:str.length=pre.length:=by rw [hpre];simp
  refine W.loop1 ?_
  unfold zu
  refine W.sreg ?_
  unfold DI
  simp only [az,aA,aB,aW,aj,aC,aw,cQ,ak,aZ,cT,aP,cZ,tA,ar,decide_false,h8,h9,hlen,fL]
  refine W.seq (W.cond (t:=false) (by simp only [aj,ah,ae,cT, *]) ?_)
  refine W.exit ?_
  refine⟨rfl,rfl,.inl ⟨rfl,?_,rfl⟩⟩
  simp only [ah,ae,cF, *]
 |cons b rest ih=>
  intro pre e lc hpre h0 h3 hg hl h8 h9
  have hlt:pre.length<str.length:=by rw [hpre];simp
  have hdrop:str.drop pre.length=b::rest:=by rw [hpre];simp
  have hb:b.toNat<256:=b.toNat_lt
  have hcell:=GY 256 0 b.toNat hb
  rw [aM] at hcell
  have hwr:IntKind.i64.wrap ((pre.length:Int)+1)=((pre.length+1:Nat):Int):=by rw [eC (by omega) (by omega)];omega
  have hi0:bL (pre.length:Int) 0=(pre.length==0):=qJ _ 0
  refine W.loop1 ?_
  unfold zu
  refine W.sreg ?_
  unfold DI
  simp only [az,aA,aB,aW,aj,aC,aw,cQ,ak,aZ,cT,aP,cZ,tA,ar,dT,h8,h9,hlt]
  refine W.seq (W.cond (t:=true) (by simp only [aj,ah,ae,cT, *]) (W.skip ?_))
  refine W.seq (W.block ?_)
  refine W.sreg ?_
  unfold Ol
  simp only [az,aA,aB,ah,aE,aJ,aj,aw,cT,cF,bS,tA,ae,ar,h9]
  refine W.sreg ?_
  unfold Om
  simp only [az,aA,aB,ah,aE,aJ,bf,RV,ec,aj,aC,bU,sh,aw,ak,cu,cT,cF,aP,bS,tA,aM,ae,ar,aU,cP,dT,ajX,aai,aaJ,h0,h3,hdrop,hb,hg,hl,hcell,Nat.mul_one]
  refine W.sreg ?_
  unfold On
  have fin: ∀e' lc',aq e' 30= .bool true→W (QS sp) 58 (.cond (aa 30) (.seq (.region DJ) .ret) .skip) ⟨e',39,lc'⟩ s fun x fr s'=>x= .ret∧s'=s∧fr.size=39∧aq fr.env 2= .bool false:=by
   intro e' lc' h
   refine W.cond (t:=true) (by simp only [aj,h]) (W.sreg ?_)
   unfold DJ
   simp only [az,aA,aB,aJ,aI,bJ,aw,tA,ar]
   exact W.ret ⟨rfl,rfl,rfl,by simp only [ah,ae,cT, *]⟩
  cases hL:rQ b with
  |true=>
   simp only [az,aA,cJ,aB,ee,ia,x6,ah,aE,cw,aW,aj,aI,aC,bJ,bo,cx,dv,aw,wE,ak,aZ,cT,cF,aP,dP,bS,tA,ae,ar,wI,hL]
   refine W.cond (t:=false) (by simp only [aj,ah,ae,cT,cF, *]) (W.skip ?_)
   simp only [dS,aN]
   refine W.reg ?_
   unfold zw
   simp only [az,aA,aB,ah,aE,aW,aj,aI,aC,bo,aw,d8,ak,aZ,cT,cF,aP,bS,tA,ae,ar,h9,hwr,aN]
   refine(ih (pre++[b]) _ _ (by rw [hpre];simp) (by simp only [ah,ae,cF, *]) (by simp only [ah,ae,cF, *]) hg hl (by simp only [ah,ae,cF, *]) (by simp only [ah,ae,cT,cF,dn,aK,aQ])).mono ?_
   have hok:oq pre.length b=true:=by simp [oq,hL]
   simp only [oh,hok,iP,dn,aK,aQ]
   exact fun _ _ _ h=>h
  |false=>
  cases hz:pre.length==0 with
  |true=>
   simp only [az,aA,cJ,aB,dz,ee,eA,iG,x6,ah,aE,cw,aW,aj,aI,aC,bJ,bo,cx,dy,aw,jr,wE,ak,aZ,cT,cF,aP,ff,bS,tA,ae,ar,hi0,wI,hL,hz]
   refine(fin _ _ ?_).mono ?_
   ·simp only [ah,ae,cT,cF, *]
   ·rintro x fr s' ⟨rfl,rfl,hs,h⟩
    exact⟨rfl,hs,.inr ⟨rfl,h,by simp [oh,oq,hL,hz]⟩⟩
  |false=>
  cases hD:yV b with
  |true=>
   simp only [az,aA,cJ,aB,dz,ee,eA,ia,e7,ah,aE,cw,aW,aj,aI,aC,bJ,bo,cx,dy,dv,aw,jr,wE,ak,aZ,cT,cF,aP,dP,ff,bS,tA,ae,ar,hi0,wI,BL,hL,hz,hD]
   refine W.cond (t:=false) (by simp only [aj,ah,ae,cT,cF, *]) (W.skip ?_)
   simp only [dS,aN]
   refine W.reg ?_
   unfold zw
   simp only [az,aA,aB,ah,aE,aW,aj,aI,aC,bo,aw,d8,ak,aZ,cT,cF,aP,bS,tA,ae,ar,h9,hwr,aN]
   refine(ih (pre++[b]) _ _ (by rw [hpre];simp) (by simp only [ah,ae,cF, *]) (by simp only [ah,ae,cF, *]) hg hl (by simp only [ah,ae,cF, *]) (by simp only [ah,ae,cT,cF,dn,aK,aQ])).mono ?_
   have hok:oq pre.length b=true:=by simp [oq,hL,hz,hD]
   simp only [oh,hok,iP,dn,aK,aQ]
   exact fun _ _ _ h=>h
  |false=>
  cases hU:b.toNat==95 with
  |true=>
   simp only [az,aA,cJ,aB,dz,eA,e7,ah,aE,cw,aW,aj,aI,aC,bJ,bo,cx,dy,dv,aw,jr,wE,ak,aZ,cT,cF,aP,dP,ff,bS,tA,ae,ar,hi0,wI,BL,GX,hL,hz,hD,hU]
   refine W.cond (t:=false) (by simp only [aj,ah,ae,cT,cF, *]) (W.skip ?_)
   simp only [dS,aN]
   refine W.reg ?_
   unfold zw
   simp only [az,aA,aB,ah,aE,aW,aj,aI,aC,bo,aw,d8,ak,aZ,cT,cF,aP,bS,tA,ae,ar,h9,hwr,aN]
   refine(ih (pre++[b]) _ _ (by rw [hpre];simp) (by simp only [ah,ae,cF, *]) (by simp only [ah,ae,cF, *]) hg hl (by simp only [ah,ae,cF, *]) (by simp only [ah,ae,cT,cF,dn,aK,aQ])).mono ?_
   have hok:oq pre.length b=true:=by simp [oq,hL,hz,hD,hU]
   simp only [oh,hok,iP,dn,aK,aQ]
   exact fun _ _ _ h=>h
  |false=>
   simp only [az,aA,cJ,aB,dz,eA,e7,ah,aE,cw,aW,aj,aI,aC,bJ,bo,cx,dy,dv,aw,jr,wE,ak,aZ,cT,cF,aP,ff,bS,tA,ae,ar,hi0,wI,BL,GX,hL,hz,hD,hU]
   refine(fin _ _ ?_).mono ?_
   ·simp only [ah,ae,cT,cF, *]
   ·rintro x fr s' ⟨rfl,rfl,hs,h⟩
    exact⟨rfl,hs,.inr ⟨rfl,h,by simp [oh,oq,hL,hz,hD,hU]⟩⟩
theorem aiw (h156:sp 89=some AF) (h94:sp 58=none) (str:ax) (hsmall:str.length<9223372036854775808) (s:St):br (QS sp) 58 [.str str] s (.bool (jF str)) s:=by
 have hspec:AF []=some (.agg (oP 256 0)):=rfl
 have hln:=GZ 256 0
 refine br.of2 afm afl afo afn h94 ?_
 unfold Og
 refine W.sreg ?_
 unfold Oh
 simp only [dg,cM,az,aA,aB,aJ,aI,bJ,aw,cT,aK,aQ,tA,aM,ar,bR,bQ,dT]
 refine W.sreg ?_
 unfold Oi
 have hz:eK Tryz.prog 151=some (.agg (gg [.int .u8 0] 256)):=by kernel_rfl
 have hrl:(gg [ai.int .u8 0] 256).length=256:=by kernel_rfl
 have hw:cI (gg [ai.int .u8 0] 256) 0 (oP 256 0)=some (oP 256 0):=by
  simp only [cI,hrl,hln,bQ]
  have:aR (0+256) (gg [ai.int .u8 0] 256)=[]:=List.drop_eq_nil_of_le (by rw [hrl];omega)
  rw [this];simp
 simp only [h156,hspec,hz,hw,hln,az,aA,dH,aB,dI,ah,dx,bI,gQ,fH,dJ,dc,db,aj,aC,be,eM,bH,di,fU,ak,bZ,cT,cF,aP,bX,dt,bS,tA,aM,ae,ar,dB,aU,cP,dT,ak5,Y9]
 refine W.seq (W.sreg ?_)
 unfold Oj
 simp only [az,aA,aB,ah,aE,cL,aj,aI,aC,be,bh,bo,aw,cd,da,bH,ak,cu,cT,cF,aP,bX,bS,tA,ae,ar,aU,qM]
 refine W.block ?_
 refine(aiv hsmall (g:=1) str [] _ _ rfl (by simp only [ah,ae,cT,cF, *]) (by simp only [ah,ae,cT,cF, *]) (by simp only [dx,cz,ae,cT]) (by simp only [bI,ae,cT]) (by simp only [ah,ae,cT,cF, *]) (by simp only [ah,ae,cT,cF];rfl)).mono ?_
 rintro x ⟨e,sz,lc⟩ s' ⟨rfl,hs,⟨rfl,h0,hok⟩|⟨rfl,h2,hok⟩⟩
 ·have hs:sz=39:=hs
  subst hs
  have h0:aq e 0= .str str:=h0
  show W (QS sp) 58 _ _ _ _
  refine W.sreg ?_
  unfold Oo
  have hil:ig (str.length:Int) 24=decide (str.length≤24):=qK _ 24
  cases str with
  |nil=>
   simp only [az,aA,cJ,aB,ee,ia,ah,aE,aJ,cw,aW,aj,aI,aC,bJ,hQ,cx,dv,aw,yA,ak,cu,cT,cF,aP,dP,bS,tA,ae,ar,h0]
   refine W.ret ⟨rfl,.inr rfl,cp ?_ rfl⟩
   simp only [ah,ae,cT,cF, *]
   rfl
  |cons b r=>
   have hne:((b::r:ax)== [])=false:=rfl
   simp only [az,aA,cJ,aB,dz,eA,ah,aE,aJ,cw,aW,cL,aj,aI,aC,be,bh,bJ,bo,hQ,cx,dy,aw,cd,BC,yA,da,bH,ak,aZ,cu,cT,cF,aP,bX,aK,ff,bS,tA,ae,ar,aU,qM,h0,hne]
   refine W.ret ⟨rfl,.inr rfl,cp ?_ rfl⟩
   simp only [ah,ae,cT,cF]
   have hn:jF (b::r)=decide ((b::r).length≤24):=by
    simp only [oh,aQ,aM,cU] at hok
    have h1:rQ b=true:=by simpa [oq] using hok.1
    have h2:vp r=true:=by rw [←EP r 0];exact hok.2
    simp only [jF,h1,h2,iP,bQ]
   rw [hn]
   exact congrArg ai.bool hil
 ·refine⟨rfl,.inr rfl,cp ?_ rfl⟩
  rw [h2]
  cases str with
  |nil=>cases hok
  |cons b r=>
   simp only [oh,aQ,aM,Bool.and_eq_false_iff] at hok
   refine congrArg ai.bool ?_
   rcases hok with h|h
   ·have h1:rQ b=false:=by simpa [oq] using h
    simp [jF,h1]
   ·have h2:vp r=false:=by rw [←EP r 0];exact h
    simp [jF,h2]
end
def T2:eE:=(89,AF)::T1
theorem Gg:fV T2:=.cons akU Gf
theorem aiu:eD Tryz.prog 58 pX:=by
 intro args v hv G h w xs wr hx
 unfold pX at hv
 split at hv
 ·rename_i s
  obtain⟨h1,hv⟩:=bW hv
  injection hv with hv;subst hv
  have h1:s.length<small:=io h1
  exact gJ (Q:=QT T2) (gD Gg) (fun _=>gL 1) (args:=[.str s]) (v:=.bool (jF s)) (s':=s0) rfl (aiw (sp:=fun f=>eY f T2) rfl rfl s h1 s0) rfl ⟨1,rfl⟩ G h w xs wr hx
 ·cases hv
def mJ (last:ax) (t:cH):Bool:= !jF t.1||Ag.leBytes t.1 last||(t.2== [])||decide (200<t.2.length)
def pz:ax→List cH→Bool
 |_,[]=>true
 |last,t::r=>bif mJ last t then false else pz t.1 r
def iv (l:List cH):Bool:=pz [] l&&decide (l.length≤60)
section
variable {sp:FuncId→Option (List ai→Option ai)} (h94:sp 58=some pX)
include h94
theorem alk {v:ai} {l:List cH} (hl:bu 2 ek v l) (hk: ∀t∈l,t.1.length<small) (hsmall:l.length<small) {s:St}: ∀(rest pre:List cH) (e:bc) (lc:Ag.Loc) (last:ax),l=pre++rest→
 aq e 0=v→aq e 6=v→aq e 7= .int .i64 (l.length:Nat)→aq e 8= .int .i64 (pre.length:Nat)→aq e 3= .str last→
 W (QS sp) 59 (.loop zx) ⟨e,39,lc⟩ s fun x fr s'=>s'=s∧fr.size=39∧((x= .exit 0∧aq fr.env 0=v∧pz last rest=true)∨(x= .ret∧aq fr.env 2= .bool false∧pz last rest=false)):=by
 intro rest
 induction rest with
 |nil=>
  intro pre e lc last hpre h0 h6 h7 h8 h3
  have hlen:l.length=pre.length:=by rw [hpre];simp
  refine W.loop1 ?_
  unfold zx
  refine W.sreg ?_
  unfold DK
  simp only [az,aA,aB,aW,aj,aC,aw,cQ,ak,aZ,cT,aP,cZ,tA,ar,decide_false,h7,h8,hlen,fL,decide_false,ar]
  refine W.seq (W.cond (t:=false) (by simp only [aj,E0]) ?_)
  refine W.exit ?_
  refine⟨rfl,rfl,.inl ⟨rfl,?_,rfl⟩⟩
  simp only [ah,cF,ae,h0]
 |cons t rest ih=>
  intro pre e lc last hpre h0 h6 h7 h8 h3
  have hlt:pre.length<l.length:=by rw [hpre];simp
  have hat:l[pre.length]? =some t:=by rw [hpre];simp
  have hia:=fun lc=>hl.at u4 hat lc .i64
  have hcl:=hl.clean
  have hns:=ER (hk t (List.mem_of_getElem? hat))
  have hsm:small=9223372036854775808:=rfl
  have hwr:IntKind.i64.wrap ((pre.length:Int)+1)=((pre.length+1:Nat):Int):=by rw [eC (by omega) (by omega)];omega
  refine W.loop1 ?_
  unfold zx
  refine W.sreg ?_
  unfold DK
  simp only [az,aA,aB,aW,aj,aC,aw,cQ,ak,aZ,cT,aP,cZ,tA,ar,dT,h7,h8,hlt,dT,ar]
  refine W.seq (W.cond (t:=true) (by simp only [aj,E0]) (W.skip ?_))
  refine W.seq (W.block ?_)
  refine W.sreg ?_
  unfold Ow
  simp only [az,aA,dH,aB,dI,ah,bI,gQ,fH,bf,dJ,ec,aj,aC,eM,eI,aw,bH,di,fU,ak,bZ,cT,cF,aP,bX,aK,aQ,cut,cI,List.take,aR,eP,bT,cq,bS,tA,aM,ae,ar,bt,bR,dB,aU,cP,bQ,dT,Ao,FG,AX,Za,h6,h8,hia,ek]
  refine W.seq (W.sreg ?_)
  unfold Ox
  have fin: ∀e' lc',aq e' 32= .bool true→mJ last t=true→W (QS sp) 59 (.cond (aa 32) (.seq (.region DL) .ret) .skip) ⟨e',39,lc'⟩ s fun x fr s'=>x= .ret∧s'=s∧fr.size=39∧aq fr.env 2= .bool false:=by
   intro e' lc' h _
   refine W.cond (t:=true) (by simp only [aj,h]) (W.sreg ?_)
   unfold DL
   simp only [az,aA,aB,aJ,aI,bJ,aw,tA,ar]
   exact W.ret ⟨rfl,rfl,rfl,by simp only [ah,ae,cT, *]⟩
  cases hb1:jF t.1 with
  |false=>
   simp only [az,aA,cJ,aB,ee,iG,ah,cz,bI,aE,cw,bf,eW,b7,dc,db,aj,aI,aC,be,bh,bJ,bU,cx,dy,aw,eZ,ak,ei,cu,cT,cF,aP,dt,aR,bN,ff,bS,tA,cY,ae,ar,aU,dD,oc,h94,hns,hb1]
   refine(fin _ _ ?_ ?_).mono ?_
   ·simp only [ah,ae,cT,cF, *]
   ·simp [mJ,hb1]
   ·rintro x fr s' ⟨rfl,rfl,hs,h⟩
    exact⟨rfl,hs,.inr ⟨rfl,h,by simp [pz,mJ,hb1]⟩⟩
  |true=>
  cases hb2:Ag.leBytes t.1 last with
  |true=>
   simp only [az,aA,cJ,aB,dz,ee,iG,e7,ah,cz,bI,aE,cw,bf,aW,eW,b7,dc,db,aj,aI,aC,be,bh,bJ,bU,cx,dy,dv,aw,uD,eZ,ak,ei,cu,cT,cF,aP,dt,aR,bN,dP,bS,tA,cY,ae,ar,aU,dD,oc,h3,h94,hns,hb1,hb2]
   refine(fin _ _ ?_ ?_).mono ?_
   ·simp only [ah,ae,cT,cF, *]
   ·simp [mJ,hb1,hb2]
   ·rintro x fr s' ⟨rfl,rfl,hs,h⟩
    exact⟨rfl,hs,.inr ⟨rfl,h,by simp [pz,mJ,hb1,hb2]⟩⟩
  |false=>
  cases hb3:t.2== [] with
  |true=>
   simp only [az,aA,cJ,aB,dz,ee,iG,e7,ah,cz,bI,aE,cw,bf,aW,eW,b7,dc,db,aj,aI,aC,be,bh,bJ,hQ,bU,cx,dy,dv,aw,iJ,uD,eZ,ak,ei,cu,cT,cF,aP,dt,aR,bN,dP,bS,tA,aM,cY,ae,ar,aU,dD,oc,uT,h3,h94,hns,hb1,hb2,hb3]
   refine(fin _ _ ?_ ?_).mono ?_
   ·simp only [ah,ae,cT,cF, *]
   ·simp [mJ,hb1,hb2,hb3]
   ·rintro x fr s' ⟨rfl,rfl,hs,h⟩
    exact⟨rfl,hs,.inr ⟨rfl,h,by simp [pz,mJ,hb1,hb2,hb3]⟩⟩
  |false=>
  have hil:du 200 (t.2.length:Nat)=decide (200<t.2.length):=cZ 200 _
  cases hb4:decide (200<t.2.length) with
  |true=>
   simp only [az,aA,cJ,aB,dz,e7,ah,cz,bI,aE,cw,bf,aW,eW,b7,cL,dc,db,aj,aI,aC,be,bh,bJ,bo,hQ,bU,cx,dv,aw,cd,lL,iJ,uD,eZ,da,bH,ak,ei,aZ,cu,cT,cF,aP,bX,dt,aR,bN,dP,bS,tA,aM,cY,ae,ar,aU,dD,oc,uT,qM,H4,h3,h94,hns,hb1,hb2,hb3,hil,hb4]
   refine(fin _ _ ?_ ?_).mono ?_
   ·simp only [ah,ae,cT,cF, *]
   ·simp [mJ,hb1,hb2,hb3,hb4]
   ·rintro x fr s' ⟨rfl,rfl,hs,h⟩
    exact⟨rfl,hs,.inr ⟨rfl,h,by simp [pz,mJ,hb1,hb2,hb3,hb4]⟩⟩
  |false=>
   simp only [az,aA,cJ,aB,dz,e7,ah,cz,bI,aE,cw,bf,aW,eW,b7,cL,dc,db,aj,aI,aC,be,bh,bJ,bo,hQ,bU,cx,dv,aw,cd,lL,iJ,uD,eZ,da,bH,ak,ei,aZ,cu,cT,cF,aP,bX,dt,aR,bN,dP,bS,tA,aM,cY,ae,ar,aU,dD,oc,uT,qM,H4,h3,h94,hns,hb1,hb2,hb3,hil,hb4]
   refine W.cond (t:=false) (by simp only [aj,ah,ae,cT,cF, *]) (W.skip ?_)
   simp only [aN]
   refine W.reg ?_
   unfold Oy
   simp only [az,aA,aB,ah,cz,bI,aJ,bf,b7,aj,bU,aw,ak,cT,cF,aP,aR,bN,bS,tA,cY,ae,ar,aU,dD,oc,aN,dS]
   refine W.reg ?_
   unfold Oz
   simp only [az,aA,aB,ah,aE,aW,aj,aI,aC,bo,aw,d8,ak,aZ,cT,cF,aP,bS,tA,ae,ar,h8,hwr,aN]
   refine(ih (pre++[t]) _ _ t.1 (by rw [hpre];simp) (by simp only [ah,ae,cF, *]) (by simp only [ah,ae,cF, *]) (by simp only [ah,ae,cF, *]) (by simp only [ah,ae,cT,cF,dn,aK,aQ]) (by simp only [ah,ae,cT,cF, *])).mono ?_
   have hbad:mJ last t=false:=by simp [mJ,hb1,hb2,hb3,hb4]
   simp only [pz,hbad,cF]
   exact fun _ _ _ h=>h
theorem alm (h95:sp 59=none) {v:ai} {l:List cH} (hl:bu 2 ek v l) (hk: ∀t∈l,t.1.length<small) (hsmall:l.length<small) (s:St):br (QS sp) 59 [v] s (.bool (iv l)) s:=by
 have hlen:=fun mk s=>hl.len se sd mk s
 have hcl:=hl.clean
 refine br.of2 afq afp afs afr h95 ?_
 unfold Oq
 refine W.sreg ?_
 unfold Ot
 simp only [dg,cM,az,aA,aB,aJ,aI,bJ,aw,cT,aK,aQ,tA,aM,ar,bR,bQ,dT]
 refine W.sreg ?_
 unfold Ou
 simp only [az,aA,aB,aJ,aI,hQ,aw,tA,ar]
 refine W.seq (W.sreg ?_)
 unfold Ov
 simp only [az,aA,aB,ah,aE,cL,aj,aI,aC,be,bh,bo,aw,cd,da,bH,ak,cT,cF,aP,bX,bS,tA,ae,ar,aU,hcl,hlen]
 refine W.block ?_
 refine(alk h94 hl hk hsmall l [] _ _ [] rfl (by simp only [ah,ae,cT,cF, *]) (by simp only [ah,ae,cT,cF, *]) (by simp only [ah,ae,cT,cF, *]) (by simp only [ah,ae,cT,cF];rfl) (by simp only [ah,ae,cT,cF, *])).mono ?_
 rintro x ⟨e,sz,lc⟩ s' ⟨rfl,hs,⟨rfl,h0,hok⟩|⟨rfl,h2,hok⟩⟩
 ·have hs:sz=39:=hs
  subst hs
  have h0:aq e 0=v:=h0
  show W (QS sp) 59 _ _ _ _
  refine W.sreg ?_
  unfold OA
  simp only [az,aA,aB,ah,aE,aJ,aW,cL,aj,aI,aC,be,bh,bo,aw,cd,BC,da,bH,ak,aZ,cT,cF,aP,bX,bS,tA,ae,ar,aU,h0,hcl,hlen]
  refine W.ret ⟨rfl,.inr rfl,cp ?_ rfl⟩
  simp only [ah,ae,cT,cF,iv,hok,iP]
  exact congrArg ai.bool (qK l.length 60)
 ·exact⟨rfl,.inr rfl,cp (by rw [h2];simp [iv,hok]) rfl⟩
end
def qf:List cH→Bool
 | []=>true
 |t::l=>bP t.1.length small&&qf l
theorem v6: ∀ {l:List cH},qf l=true→ ∀t∈l,t.1.length<small
 | [],_,_,h=>by cases h
 |a::l,h,t,ht=>by
  simp only [qf,cU] at h
  rcases List.mem_cons.1 ht with rfl|ht
  ·exact io h.1
  ·exact v6 h.2 t ht
theorem v7: ∀ {l:List cH},(∀t∈l,t.1.length<small)→qf l=true
 | [],_=>rfl
 |a::l,h=>by
  simp only [qf,cU]
  exact⟨Nat.ble_eq_true_of_le (h a (by simp)),v7 fun t ht=>h t (by simp [ht])⟩
def pu:Sp
 | [v]=>(gN 2 nY v).bind fun l=>bif bP l.length small&&qf l then some (.bool (iv l)) else none
 |_=>none
theorem S8 {v:ai} {l:List cH} (h:bu 2 ek v l) (h1:l.length<small) (h2: ∀t∈l,t.1.length<small):pu [v]=some (.bool (iv l)):=by
 simp only [pu,jE rC h,ak,cP,h1,dT,v7 h2,gK,cT]
def T3:eE:=(58,pX)::T2
theorem Bc:fV T3:=.cons aiu Gg
theorem S9:eD Tryz.prog 59 pu:=by
 intro args u hv G h w xs wr hx
 unfold pu at hv
 split at hv
 ·rename_i v
  simp only [aF] at hv
  obtain⟨l,h1,hv⟩:=hv
  obtain⟨h2,hv⟩:=bW hv
  injection hv with hv;subst hv
  simp only [cU] at h2
  have hl:bu 2 ek v l:=iX (fun _ _=>rB) h1
  obtain⟨ht,hw⟩:=aaC Ta hl
  exact gJ (Q:=QT T3) (gD Bc) (fun _=>gL 1) (args:=[v]) (v:=.bool (iv l)) (s':=s0) (by simp only [jy,ht,gK])
   (alm (sp:=fun f=>eY f T3) rfl rfl hw (v6 h2.2) (io h2.1) s0) rfl ⟨1,rfl⟩ G h w xs wr hx
 ·cases hv
def lC (k:Int):ax:=bif bL k 1 then [110,111,100,101] else bif bL k 2 then [119,97,121] else bif bL k 3 then [97,114,101,97] else bif bL k 4 then [114,111,117,116,101] else bif bL k 5 then [116,117,114,110] else []
def x8:Sp
 | [.int .i64 k]=>some (.str (lC k))
 |_=>none
theorem Wu:lO [] 100 57 [.int .i64 0]=some (.str (lC 0),0):=by kernel_rfl
theorem Wv:lO [] 100 57 [.int .i64 1]=some (.str (lC 1),0):=by kernel_rfl
theorem Ww:lO [] 100 57 [.int .i64 2]=some (.str (lC 2),0):=by kernel_rfl
theorem Wx:lO [] 100 57 [.int .i64 3]=some (.str (lC 3),0):=by kernel_rfl
theorem Wy:lO [] 100 57 [.int .i64 4]=some (.str (lC 4),0):=by kernel_rfl
theorem Wz:lO [] 100 57 [.int .i64 5]=some (.str (lC 5),0):=by kernel_rfl
theorem alX {sp:FuncId→Option (List ai→Option ai)} (h93:sp 57=none) {k:Int} (hk:k<0∨6≤k) (s:St):br (QS sp) 57 [.int .i64 k] s (.str []) s:=by
 refine br.of2 afh afg afk afj h93 ?_
 unfold Ob
 refine W.sreg ?_
 unfold Oc
 simp only [dg,cM,az,aA,aB,aJ,aI,hQ,aw,cT,aK,aQ,tA,aM,ar,bR,bQ,dT]
 refine W.sreg ?_
 unfold Od
 simp only [az,aA,dH,aB,dI,ah,dx,bI,gQ,fH,kL,dJ,aj,aI,aC,hQ,eM,aw,bH,di,kF,fU,ak,cu,bZ,cT,cF,aP,bX,aK,aQ,cI,List.take,aR,List.drop_succ_cons,eP,bT,cq,bS,tA,aM,ae,ar,bt,Nat.reduceMul,bR,dB,aU,cP,bQ,dT,UJ,ak4,al9,Y8,dL]
 refine W.seq (W.sreg ?_)
 unfold Oe
 have fin: ∀e' lc',aq e' 10= .bool true→W (QS sp) 57 (.cond (aa 10) (.seq (.region DH) .ret) .skip) ⟨e',14,lc'⟩ s fun x fr s'=>x= .ret∧s'=s∧aq fr.env 2= .str []:=by
  intro e' lc' h
  refine W.cond (t:=true) (by simp only [aj,h]) (W.sreg ?_)
  unfold DH
  simp only [az,aA,aB,aJ,aI,hQ,aw,tA,ar]
  exact W.ret ⟨rfl,rfl,by simp only [ah,ae,cT, *]⟩
 cases h1:du k 0 with
 |true=>
  simp only [az,aA,cJ,aB,ee,iG,ah,aE,cw,aW,aj,aI,aC,bJ,bo,cx,dy,aw,cQ,ak,aZ,cT,cF,aP,bS,tA,ae,ar,h1]
  refine(fin _ _ ?_).mono ?_
  ·simp only [ah,ae,cT,cF, *]
  ·rintro x fr s' ⟨rfl,rfl,h⟩
   exact⟨rfl,.inr rfl,cp h rfl⟩
 |false=>
  have h2:ig 6 k=true:=by
   simp only [du,decide_eq_false_iff_not] at h1
   simp only [ig,decide_eq_true_eq];omega
  simp only [az,aA,cJ,aB,dz,e7,ah,aE,cw,aW,aj,aI,aC,bJ,bo,cx,dv,aw,cQ,mh,ak,aZ,cT,cF,aP,bS,tA,ae,ar,h1,h2]
  refine(fin _ _ ?_).mono ?_
  ·simp only [ah,ae,cT,cF, *]
  ·rintro x fr s' ⟨rfl,rfl,h⟩
   exact⟨rfl,.inr rfl,cp h rfl⟩
theorem pQ {a b:Int} (h:a≠b):bL a b=false:=beq_eq_false_iff_ne.2 h
theorem alV:eD Tryz.prog 57 x8:=by
 intro args u hv G h w xs wr hx
 unfold x8 at hv
 split at hv
 ·rename_i k
  injection hv with hv;subst hv
  have hcase:(k<0∨6≤k)∨k=0∨k=1∨k=2∨k=3∨k=4∨k=5:=by omega
  rcases hcase with hk|rfl|rfl|rfl|rfl|rfl|rfl
  ·have hw:lC k=[]:=by
    simp only [lC,pQ (show k≠1 by omega),pQ (show k≠2 by omega),pQ (show k≠3 by omega),pQ (show k≠4 by omega),pQ (show k≠5 by omega),cF]
   rw [hw]
   exact gJ (Q:=QT []) (gD .nil) (fun _=>gL 1) (args:=[.int .i64 k]) (v:=.str []) (s':=s0) rfl (alX (sp:=fun f=>eY f []) rfl hk s0) rfl ⟨1,rfl⟩ G h w xs wr hx
  ·exact nD .nil Wu (args':=[.int .i64 0]) rfl rfl G h w xs wr hx
  ·exact nD .nil Wv (args':=[.int .i64 1]) rfl rfl G h w xs wr hx
  ·exact nD .nil Ww (args':=[.int .i64 2]) rfl rfl G h w xs wr hx
  ·exact nD .nil Wx (args':=[.int .i64 3]) rfl rfl G h w xs wr hx
  ·exact nD .nil Wy (args':=[.int .i64 4]) rfl rfl G h w xs wr hx
  ·exact nD .nil Wz (args':=[.int .i64 5]) rfl rfl G h w xs wr hx
 ·cases hv
def pT (k:Int):Nat:=bif bL k 2 then 2 else bif bL k 3 then 3 else bif bL k 4 then 1 else bif bL k 5 then 3 else 0
def vh:Sp
 | [.int .i64 k]=>bif ig 0 k&&du k 6 then some (.int .i64 (pT k:Nat)) else none
 |_=>none
theorem WA:lO [] 100 60 [.int .i64 0]=some (.int .i64 (pT 0:Nat),0):=by kernel_rfl
theorem WB:lO [] 100 60 [.int .i64 1]=some (.int .i64 (pT 1:Nat),0):=by kernel_rfl
theorem WC:lO [] 100 60 [.int .i64 2]=some (.int .i64 (pT 2:Nat),0):=by kernel_rfl
theorem WE:lO [] 100 60 [.int .i64 3]=some (.int .i64 (pT 3:Nat),0):=by kernel_rfl
theorem WF:lO [] 100 60 [.int .i64 4]=some (.int .i64 (pT 4:Nat),0):=by kernel_rfl
theorem WG:lO [] 100 60 [.int .i64 5]=some (.int .i64 (pT 5:Nat),0):=by kernel_rfl
theorem ahh:eD Tryz.prog 60 vh:=by
 intro args u hv G h w xs wr hx
 unfold vh at hv
 split at hv
 ·rename_i k
  obtain⟨hk,hv⟩:=bW hv
  injection hv with hv;subst hv
  simp only [ig,du,cU,decide_eq_true_eq] at hk
  have hcase:k=0∨k=1∨k=2∨k=3∨k=4∨k=5:=by omega
  rcases hcase with rfl|rfl|rfl|rfl|rfl|rfl
  ·exact nD .nil WA (args':=[.int .i64 0]) rfl rfl G h w xs wr hx
  ·exact nD .nil WB (args':=[.int .i64 1]) rfl rfl G h w xs wr hx
  ·exact nD .nil WC (args':=[.int .i64 2]) rfl rfl G h w xs wr hx
  ·exact nD .nil WE (args':=[.int .i64 3]) rfl rfl G h w xs wr hx
  ·exact nD .nil WF (args':=[.int .i64 4]) rfl rfl G h w xs wr hx
  ·exact nD .nil WG (args':=[.int .i64 5]) rfl rfl G h w xs wr hx
 ·cases hv
def pg (x y:Int):Bool:=ig 0 x&&du x 1048576&&ig 0 y&&du y 1048576
def xG:Sp
 | [.agg [.int .i64 x,.int .i64 y]]=>some (.bool (pg x y))
 |_=>none
theorem aiM {sp:FuncId→Option (List ai→Option ai)} (h99:sp 63=none) (x y:Int) (s:St):br (QS sp) 63 [.agg [.int .i64 x,.int .i64 y]] s (.bool (pg x y)) s:=by
 refine br.of2 afG afF afI afH h99 ?_
 unfold OS
 refine W.sreg ?_
 unfold OT
 simp only [dg,cM,az,aA,aB,ah,dx,aJ,ja,aj,aI,aC,bJ,eM,aw,bH,di,ak,bZ,cT,bX,aK,aQ,bS,tA,aM,ar,bR,bQ,dT,Zl]
 refine W.sreg ?_
 unfold OU
 cases h1:ig 0 x with
 |false=>
  simp only [az,aA,cJ,aB,ee,ia,ah,dx,cz,bI,aE,aJ,cw,bf,aW,b7,aj,aI,aC,bJ,bo,bU,cx,dv,aw,mh,ak,aZ,cT,cF,aP,aR,bN,bS,tA,cY,ae,ar,aU,fT,wR,h1]
  refine W.ret ⟨rfl,.inr rfl,cp ?_ rfl⟩
  simp only [ah,ae,cT,cF, *]
  simp only [pg,h1,pB]
 |true=>
 cases h2:du x 1048576 with
 |false=>
  simp only [az,aA,cJ,aB,dz,ee,eA,ia,ah,dx,cz,bI,aE,aJ,cw,bf,aW,b7,aj,aI,aC,bJ,bo,bU,cx,dy,dv,aw,cQ,mh,ak,aZ,cT,cF,aP,aR,bN,bS,tA,cY,ae,ar,aU,fT,wR,h1,h2]
  refine W.ret ⟨rfl,.inr rfl,cp ?_ rfl⟩
  simp only [ah,ae,cT,cF, *]
  simp only [pg,h1,h2,uf,pB]
 |true=>
 cases h3:ig 0 y with
 |false=>
  simp only [az,aA,cJ,aB,dz,ee,eA,ia,ah,dx,cz,bI,aE,aJ,cw,bf,aW,b7,aj,aI,aC,bJ,bo,bU,cx,dy,dv,aw,cQ,mh,ak,aZ,cT,cF,aP,aR,bN,bS,tA,aM,cY,ae,ar,aU,fT,wR,B7,h1,h2,h3]
  refine W.ret ⟨rfl,.inr rfl,cp ?_ rfl⟩
  simp only [ah,ae,cT,cF, *]
  simp only [pg,h1,h2,h3,uf,pB]
 |true=>
  simp only [az,aA,cJ,aB,dz,eA,ah,dx,cz,bI,aE,aJ,cw,bf,aW,b7,aj,aI,aC,bJ,bo,bU,cx,dy,aw,cQ,mh,ak,aZ,cT,cF,aP,aR,bN,bS,tA,aM,cY,ae,ar,aU,fT,wR,B7,h1,h2,h3]
  refine W.ret ⟨rfl,.inr rfl,cp ?_ rfl⟩
  simp only [ah,ae,cT,cF, *]
  simp only [pg,h1,h2,h3,iP]
theorem aiL:eD Tryz.prog 63 xG:=by
 intro args u hv G h w xs wr hx
 unfold xG at hv
 split at hv
 ·rename_i x y
  injection hv with hv;subst hv
  exact gJ (Q:=QT []) (gD .nil) (fun _=>gL 1) (args:=[.agg [.int .i64 x,.int .i64 y]]) (v:=.bool (pg x y)) (s':=s0) rfl (aiM (sp:=fun f=>eY f []) rfl x y s0) rfl ⟨1,rfl⟩ G h w xs wr hx
 ·cases hv
def T4:eE:=(57,x8)::(60,vh)::(63,xG)::(59,pu)::T3
theorem Gi:fV T4:=.cons alV (.cons ahh (.cons aiL (.cons S9 Bc)))
def QY (P:Program) (t:TypeId) (off:Nat):Option bE→Option ai
 |some (.cells cs)=>eN P t cs off
 |_=>none
theorem dl (P:Program) (mk:bj) (t:TypeId) (n off:Nat) (lc:Ag.Loc) (s:St):kK P mk t (.ptr n off) lc s=QY P t off (s.get mk n):=by
 simp only [kK]
 cases s.get mk n with
 |none=>rfl
 |some o=>cases o<;>rfl
theorem dj (P:Program) (t:TypeId) (off:Nat) (cs:List ai):QY P t off (some (.cells cs))=eN P t cs off:=rfl
noncomputable def SY (lc:Ag.Loc) (s:St) (m off:Nat) (v:ai):Option bE→Option (Ag.Loc×St)
 |some (.cells cs)=>(cI cs off v.cells).bind fun cs'=>some (lc,s.put m (some (.cells cs')))
 |_=>none
theorem j7 (P:Program) (mk:bj) (t:TypeId) (m off:Nat) (v:ai) (lc:Ag.Loc) (s:St):pq P mk t (.ptr m off) v lc s=(eX P t).bind fun n=>bif aY v.cells.length n&&bP 0 n then SY lc s m off v (s.get mk m) else none:=by
 simp only [pq]
 cases s.get mk m with
 |none=>rfl
 |some o=>cases o<;>rfl
theorem j6 (lc:Ag.Loc) (s:St) (m off:Nat) (v:ai) (cs:List ai):SY lc s m off v (some (.cells cs))=(cI cs off v.cells).bind fun cs'=>some (lc,s.put m (some (.cells cs'))):=rfl
section
variable {Q:ck} {f:FuncId}
theorem fD (n:Nat) {l:List au} {fr:Fr} {s:St} {N:Fr→St→Prop} (h:WP Q f (l.take n) fr s fun fr s=>WL Q f (l.drop n) fr s N):WL Q f l fr s N:=by
 obtain⟨fr1,s1,h1,h2⟩:=h
 have:=WL.app h1 h2
 rwa [List.take_append_drop] at this
theorem fQ {d:Tmp} {x:Operand} {av:Array Operand} {ts:Array TypeId} {l:List au} {e:bc} {sz:Nat} {lc:Ag.Loc} {s s1:St} {g:FuncId} {args:List ai} {v:ai} {N:Fr→St→Prop}
 (hc:callee e ⟨.value x,av,ts⟩=some (g,args)) (hr:br Q g args s v s1) (hd:d<sz) (hk:WL Q f l ⟨e.set d (some v),sz,lc⟩ s1 N):
 WL Q f (⟨some d,.call ⟨.value x,av,ts⟩,.aw⟩::l) ⟨e,sz,lc⟩ s N:=
 WL.call rfl rfl (fun b=>by simp) hc hr (ij.2 ⟨hd,rfl⟩) hk
theorem fP {l:List au} {fr:Fr} {s:St} {N:Fr→St→Prop} (h:WP Q f l fr s N):WL Q f l fr s N:=let⟨_,_,h1,h2⟩:=h;WL.run h1 h2
end
structure Obj where
 id:ax
 kind:Int
 x:Int
 y:Int
 refsV:ai
 tagsV:ai
 refs:List ax
 tags:List cH
def Obj.cells (o:Obj):List ai:=[.str o.id,.int .i64 o.kind,.int .i64 o.x,.int .i64 o.y,o.refsV,o.tagsV]
def Obj.val (o:Obj):ai:=.agg o.cells
structure Obj.Ok (o:Obj):Prop where
 refs:bu 1 bp o.refsV o.refs
 tags:bu 2 ek o.tagsV o.tags
 id:o.id.length<small
 reflen:o.refs.length<small
 ref: ∀r∈o.refs,r.length<small
 taglen:o.tags.length<small
 key: ∀t∈o.tags,t.1.length<small
def qe (ks:List ax):List (ax×ai):=ks.map fun k=>(k,.bool true)
theorem Rc (k:ax): ∀ks,look k (qe ks)=bif ks.contains k then some (.bool true) else none
 | []=>rfl
 |a::ks=>by
  have ih:=Rc k ks
  simp only [qe,fw,look,List.contains_cons] at ih ⊢
  rw [ih]
  cases k==a<;>simp
theorem ahZ (k:ax) (ks:List ax):(look k (qe ks)).getD (.bool false)= .bool (ks.contains k):=by
 rw [Rc];cases ks.contains k<;>rfl
def rz (k:ax) (ks:List ax):List ax:=bif ks.contains k then ks else ks++[k]
theorem Io (k:ax): ∀ks,ej k (.bool true) (qe ks)=qe (rz k ks)
 | []=>rfl
 |a::ks=>by
  have ih:=Io k ks
  simp only [qe,fw,ej,rz,List.contains_cons] at ih ⊢
  cases h:k==a with
  |true=>
   have:k=a:=by simpa using h
   subst this
   simp
  |false=>
   simp only [cF,Bool.false_or,ih]
   cases ks.contains k<;>simp
end Go.Proofs.YtbfmdojdemckbaaGreat
