/- Lemmas for ValidShown. -/
import Derived.Test.YtnnppcoplinajaaGreatZ1
set_option linter.all false
open List renaming length_cons→cX,length_nil→ct
open Option renaming bind_some→bk
namespace Go.Proofs.YtnnppcoplinajaaGreat
open Go.Ag
def aR:=(⟨⟨⟨@Uj, @Ui, @Uk, @adN, @aeH, @aeG, @Eh, @LK⟩,⟨@Ud, @afO, @Uh, @afQ, @Sb, @adM, @aeF, @aeE⟩,⟨@aeD, @aeC, @aeA, @aez, @aey, @aex, @aeB, @abo⟩,⟨@abn, @iQ, @uY, @fQ, @f7, @aaj, @aci, @QZ⟩,⟨@ack, @ab1, @ab3, @ab4, @ab5, @ace, @acm, @ab2⟩,⟨@acn, @ab9, @aca, @acb, @acd, @Q7, @acf, @Q8⟩,⟨@ach, @acg, @acj, @ab8, @ab6, @ab7, @Vn, @dA⟩,⟨@Nf, @Wl, @Wm, @Wo, @Wn, @pd, @nH, @FV⟩⟩,⟨⟨@Va, @U9, @aab, @Jy, @acw, @acv, @acu, @pO⟩,⟨@RC, @acW, @acV, @U1, @U0, @UZ, @ni, @UY⟩,⟨@U2, @UX, @U3, @Vf, @Vh, @Vg, @Vb, @Ve⟩,⟨@Vc, @Vd, @aen, @U5, @U4, @Xh, @lO, @Vt⟩,⟨@Vs, @Vr, @ME, @adR, @bk.{0,0}, @Option.bind_none.{0,0}, @VF, @VH⟩,⟨@VP, @VD, @VI, @VO, @VN, @VJ, @VM, @VL⟩,⟨@VK, @Ar, @cT.{1}, @cF.{1}, @Tu, @Tv, @Tw, @cX.{0}⟩,⟨@ct.{0}, @List.head?_cons.{0}, @List.drop_succ_cons.{0}, @List.drop_zero.{0}, @List.take_succ_cons.{0}, @List.take_zero.{0}, @List.nil_append.{0}, @List.cons_append.{0}⟩⟩,⟨⟨@List.append_nil.{0}, @yG, @Bool.not_true, @Bool.not_false, @bS.{0}, @Nat.beq_eq_true_eq, @aT, @tA⟩,⟨@Nat.zero_add, @Nat.add_zero, @Bool.true_and, @Bool.and_true, @Bool.false_and, @Bool.and_false, @Bool.not_not, @ja⟩,⟨@ol, @JG, @dT, @dF⟩⟩⟩:(((_/\_/\_/\_/\_/\_/\_/\_)/\(_/\_/\_/\_/\_/\_/\_/\_)/\(_/\_/\_/\_/\_/\_/\_/\_)/\(_/\_/\_/\_/\_/\_/\_/\_)/\(_/\_/\_/\_/\_/\_/\_/\_)/\(_/\_/\_/\_/\_/\_/\_/\_)/\(_/\_/\_/\_/\_/\_/\_/\_)/\(_/\_/\_/\_/\_/\_/\_/\_))/\((_/\_/\_/\_/\_/\_/\_/\_)/\(_/\_/\_/\_/\_/\_/\_/\_)/\(_/\_/\_/\_/\_/\_/\_/\_)/\(_/\_/\_/\_/\_/\_/\_/\_)/\(_/\_/\_/\_/\_/\_/\_/\_)/\(_/\_/\_/\_/\_/\_/\_/\_)/\(_/\_/\_/\_/\_/\_/\_/\_)/\(_/\_/\_/\_/\_/\_/\_/\_))/\((_/\_/\_/\_/\_/\_/\_/\_)/\(_/\_/\_/\_/\_/\_/\_/\_)/\(_/\_/\_/\_))))
def jM:=(⟨⟨@XA, @XC, @XV, @vf, @wX, @adX, @ayh, @adZ⟩,⟨@ad0, @ad1, @ad3, @ad4, @ad5, @ad6, @ad7, @ayk⟩,⟨@ayl, @ad8, @aym, @ad9, @aea, @aeQ, @aeR, @KV⟩,⟨@aeS, @D1, @aeT, @KW, @BF, @aeU, @aeV⟩⟩:((_/\_/\_/\_/\_/\_/\_/\_)/\(_/\_/\_/\_/\_/\_/\_/\_)/\(_/\_/\_/\_/\_/\_/\_/\_)/\(_/\_/\_/\_/\_/\_/\_)))
def ie:=(⟨⟨@Tq, @Tk, @Td, @Tp, @Tb, @Ta, @Tn, @Tg⟩,⟨@Tc, @Tf, @Wa, @V9, @aaW, @Qy, @fe, @qA⟩,⟨@U8, @Mr, @LL, @Ul, @Um, @Un, @aeJ, @aeI⟩,⟨@adQ, @adP, @oT, @true_or, @false_or, @nA, @aef, @eq_self.{1}⟩,⟨@Bool.true_or, @Bool.false_or, @Bool.or_true, @Bool.or_false, @aco, @acp, @acq, @acr⟩,⟨@Option.map_some.{0,0}, @Option.some.injEq.{0}⟩⟩:((_/\_/\_/\_/\_/\_/\_/\_)/\(_/\_/\_/\_/\_/\_/\_/\_)/\(_/\_/\_/\_/\_/\_/\_/\_)/\(_/\_/\_/\_/\_/\_/\_/\_)/\(_/\_/\_/\_/\_/\_/\_/\_)/\(_/\_)))
def aV:=(⟨@cF.{1}, @cT.{1}, @iQ⟩:_/\_/\_)
def gY:=(⟨@LK, @Eh, @Nf, @QZ, @RC, @Sb, @tA⟩:_/\_/\_/\_/\_/\_/\_)
def fc:=(⟨@bS.{0}, @cT.{1}, @ja⟩:_/\_/\_)
def dc:=(⟨@cF.{1}, @iQ⟩:_/\_)
def dX:=(⟨@bk.{0,0}, @cT.{1}⟩:_/\_)
def nY:=(⟨@bS.{0}, @uY, @fQ, @f7⟩:_/\_/\_/\_)
def kS:=(⟨@List.length_append.{0}, @cX.{0}, @ct.{0}⟩:_/\_/\_)
