/- Lemmas for ValidParts. -/
import Derived.Test.YtnnppcoplinajaaGreatZ1
set_option linter.all false
open List renaming length_cons→dM,length_nil→cV
open Option renaming bind_some→bg
namespace Go.Proofs.YtnnppcoplinajaaGreat
open Go.Ag
def aU:=(⟨⟨⟨@Tg, @Tf, @Tk, @acI, @adF, @adE, @DZ, @KZ⟩,⟨@S9, @aeG, @Td, @aeI, @Rn, @acH, @adC, @adB⟩,⟨@adA, @adz, @adx, @adw, @adv, @adu, @ady, @aal⟩,⟨@aak, @iV, @uM, @gw, @gI, @Zf, @abf, @P9⟩,⟨@abh, @aaZ, @aa1, @aa2, @aa3, @abb, @abi, @aa0⟩,⟨@abj, @aa7, @aa8, @aa9, @aba, @Qd, @abc, @Qe⟩,⟨@abe, @abd, @abg, @aa6, @aa4, @aa5, @Uv, @dR⟩,⟨@My, @Vr, @Vs, @Vu, @Vt, @rR, @ni, @FE⟩⟩,⟨⟨@Uh, @Ug, @Y7, @I6, @abt, @abr, @abq, @pE⟩,⟨@QF, @abV, @abU, @T8, @T7, @T6, @nP, @T0⟩,⟨@T9, @TZ, @Ua, @Um, @Uo, @Un, @Ui, @Ul⟩,⟨@Uj, @Uk, @adk, @Uc, @Ub, @Wf, @lK, @UB⟩,⟨@UA, @Uz, @L1, @acM, @bg.{0,0}, @Option.bind_none.{0,0}, @UN, @UQ⟩,⟨@UY, @UM, @UR, @UX, @UW, @US, @UV, @UU⟩,⟨@UT, @zW, @cT.{1}, @cF.{1}, @Sv, @Sw, @Sx, @dM.{0}⟩,⟨@cV.{0}, @List.head?_cons.{0}, @List.drop_succ_cons.{0}, @List.drop_zero.{0}, @List.take_succ_cons.{0}, @List.take_zero.{0}, @List.nil_append.{0}, @List.cons_append.{0}⟩⟩,⟨⟨@List.append_nil.{0}, @yj, @Bool.not_true, @Bool.not_false, @bS.{0}, @Nat.beq_eq_true_eq, @aT, @tA⟩,⟨@Nat.zero_add, @Nat.add_zero, @Bool.true_and, @Bool.and_true, @Bool.false_and, @Bool.and_false, @Bool.not_not, @iU⟩,⟨@oc, @Je, @dT, @dF⟩⟩⟩:(((_/\_/\_/\_/\_/\_/\_/\_)/\(_/\_/\_/\_/\_/\_/\_/\_)/\(_/\_/\_/\_/\_/\_/\_/\_)/\(_/\_/\_/\_/\_/\_/\_/\_)/\(_/\_/\_/\_/\_/\_/\_/\_)/\(_/\_/\_/\_/\_/\_/\_/\_)/\(_/\_/\_/\_/\_/\_/\_/\_)/\(_/\_/\_/\_/\_/\_/\_/\_))/\((_/\_/\_/\_/\_/\_/\_/\_)/\(_/\_/\_/\_/\_/\_/\_/\_)/\(_/\_/\_/\_/\_/\_/\_/\_)/\(_/\_/\_/\_/\_/\_/\_/\_)/\(_/\_/\_/\_/\_/\_/\_/\_)/\(_/\_/\_/\_/\_/\_/\_/\_)/\(_/\_/\_/\_/\_/\_/\_/\_)/\(_/\_/\_/\_/\_/\_/\_/\_))/\((_/\_/\_/\_/\_/\_/\_/\_)/\(_/\_/\_/\_/\_/\_/\_/\_)/\(_/\_/\_/\_))))
def jK:=(⟨⟨@Ww, @Wy, @W2, @uW, @wN, @acS, @aww, @acU⟩,⟨@acV, @acW, @acY, @acZ, @ac0, @ac1, @ac2, @awz⟩,⟨@awA, @ac3, @awB, @ac4, @ac5, @adO, @adP, @Kk⟩,⟨@adQ, @DE, @adR, @Kl, @Bg, @adS, @adT⟩⟩:((_/\_/\_/\_/\_/\_/\_/\_)/\(_/\_/\_/\_/\_/\_/\_/\_)/\(_/\_/\_/\_/\_/\_/\_/\_)/\(_/\_/\_/\_/\_/\_/\_)))
def js:=(⟨⟨@So, @Sl, @Si, @Sn, @Sg, @Sf, @Sm, @Sk⟩,⟨@Sh, @Sj, @Vf, @Ve, @ZS, @PO, @fJ, @rq⟩,⟨@Uf, @LN, @K4, @Tn, @Tp, @Tq, @adH, @adG⟩,⟨@acL, @acK, @oT, @true_or, @false_or, @m8, @ada, @eq_self.{1}⟩,⟨@Bool.true_or, @Bool.false_or, @Bool.or_true, @Bool.or_false, @abk, @abl, @abm, @abn⟩,⟨@Option.map_some.{0,0}, @Option.some.injEq.{0}⟩⟩:((_/\_/\_/\_/\_/\_/\_/\_)/\(_/\_/\_/\_/\_/\_/\_/\_)/\(_/\_/\_/\_/\_/\_/\_/\_)/\(_/\_/\_/\_/\_/\_/\_/\_)/\(_/\_/\_/\_/\_/\_/\_/\_)/\(_/\_)))
def aW:=(⟨@cF.{1}, @cT.{1}, @iV⟩:_/\_/\_)
def iA:=(⟨@KZ, @DZ, @My, @P9, @QF, @Rn, @tA⟩:_/\_/\_/\_/\_/\_/\_)
def fH:=(⟨@bS.{0}, @cT.{1}, @iU⟩:_/\_/\_)
def dh:=(⟨@cF.{1}, @iV⟩:_/\_)
def dW:=(⟨@bg.{0,0}, @cT.{1}⟩:_/\_)
def nQ:=(⟨@bS.{0}, @uM, @gw, @gI⟩:_/\_/\_/\_)
def fh:=(⟨@dM.{0}, @cV.{0}⟩:_/\_)
