/- Lemmas for ValidApart. -/
import Derived.Test.YtnnppcoplinajaaGreatZ1
set_option linter.all false
open List renaming length_cons→bH,length_nil→bn
open Option renaming bind_some→au
namespace Go.Proofs.YtnnppcoplinajaaGreat
open Go.Ag
def dJ:=(⟨⟨⟨@sU, @azN, @xZ, @uh, @Bt, @DI, @aN, @aO⟩,⟨@sS, @RU, @eW, @RZ, @aP, @ug, @iu, @jF⟩,⟨@abq, @abp, @lg, @oL, @nX, @ka, @GU, @Yx⟩,⟨@Yw, @aj, @gw, @dj, @cY, @yV, @bJ, @bW⟩,⟨@ek, @vB, @Ba, @Df, @Pu, @aAq, @tX, @cj⟩,⟨@mA, @Zb, @eC, @Ga, @nf, @PA, @J7, @J8⟩,⟨@Px, @Pw, @Zc, @Za, @eN, @iX, @iM, @aA⟩,⟨@bC, @MF, @bq, @da, @azU, @dl, @cC, @my⟩⟩,⟨⟨@rB, @Eh, @gS, @mZ, @em, @iq, @gJ, @oz⟩,⟨@aM, @eG, @PT, @fG, @Aj, @nG, @kE, @nF⟩,⟨@BT, @mP, @SM, @SQ, @An, @SR, @oe, @Am⟩,⟨@ye, @HB, @mE, @eM, @SN, @dA, @gD, @td⟩,⟨@HG, @S9, @L8, @zH, @au.{0,0}, @Option.bind_none.{0,0}, @lM, @cm⟩,⟨@eU, @mq, @Mf, @Ts, @Mg, @B3, @Tr, @Tq⟩,⟨@Tp, @Aq, @cT.{1}, @cF.{1}, @bF, @dC, @iY, @bH.{0}⟩,⟨@bn.{0}, @List.head?_cons.{0}, @List.drop_succ_cons.{0}, @List.drop_zero.{0}, @List.take_succ_cons.{0}, @List.take_zero.{0}, @List.nil_append.{0}, @List.cons_append.{0}⟩⟩,⟨⟨@List.append_nil.{0}, @fB, @Bool.not_true, @Bool.not_false, @bS.{0}, @Nat.beq_eq_true_eq, @aT, @tA⟩,⟨@Nat.zero_add, @Nat.add_zero, @Bool.true_and, @Bool.and_true, @Bool.false_and, @Bool.and_false, @Bool.not_not, @bD⟩,⟨@jC, @gG, @dT, @dF⟩⟩⟩:(((_/\_/\_/\_/\_/\_/\_/\_)/\(_/\_/\_/\_/\_/\_/\_/\_)/\(_/\_/\_/\_/\_/\_/\_/\_)/\(_/\_/\_/\_/\_/\_/\_/\_)/\(_/\_/\_/\_/\_/\_/\_/\_)/\(_/\_/\_/\_/\_/\_/\_/\_)/\(_/\_/\_/\_/\_/\_/\_/\_)/\(_/\_/\_/\_/\_/\_/\_/\_))/\((_/\_/\_/\_/\_/\_/\_/\_)/\(_/\_/\_/\_/\_/\_/\_/\_)/\(_/\_/\_/\_/\_/\_/\_/\_)/\(_/\_/\_/\_/\_/\_/\_/\_)/\(_/\_/\_/\_/\_/\_/\_/\_)/\(_/\_/\_/\_/\_/\_/\_/\_)/\(_/\_/\_/\_/\_/\_/\_/\_)/\(_/\_/\_/\_/\_/\_/\_/\_))/\((_/\_/\_/\_/\_/\_/\_/\_)/\(_/\_/\_/\_/\_/\_/\_/\_)/\(_/\_/\_/\_))))
def FbZ:=(⟨⟨@agV, @agW, @Nl, @lC, @yZ, @art, @aaK, @aaL⟩,⟨@aaM, @aaN, @aaR, @arv, @arw, @Qu, @aaY, @aaZ⟩,⟨@aa0, @KP, @aa1, @aa2, @Qv, @abA, @abB, @KX⟩,⟨@as4, @GY, @QU, @DL, @zP, @as5, @QV⟩⟩:((_/\_/\_/\_/\_/\_/\_/\_)/\(_/\_/\_/\_/\_/\_/\_/\_)/\(_/\_/\_/\_/\_/\_/\_/\_)/\(_/\_/\_/\_/\_/\_/\_)))
def FlZ:=(⟨⟨@BG, @zZ, @D3, @qt, @wu, @zY, @Rj, @qs⟩,⟨@Hf, @Li, @B9, @Ar, @FP, @FQ, @dq, @nH⟩,⟨@L0, @Eg, @D9, @Hp, @azO, @R1, @abt, @abr⟩,⟨@KK, @aaC, @oT, @true_or, @false_or, @kZ, @KR, @eq_self.{1}⟩,⟨@Bool.true_or, @Bool.false_or, @Bool.or_true, @Bool.or_false, @Zd, @Ze, @Zf, @Zg⟩,⟨@Option.map_some.{0,0}, @Option.some.injEq.{0}⟩⟩:((_/\_/\_/\_/\_/\_/\_/\_)/\(_/\_/\_/\_/\_/\_/\_/\_)/\(_/\_/\_/\_/\_/\_/\_/\_)/\(_/\_/\_/\_/\_/\_/\_/\_)/\(_/\_/\_/\_/\_/\_/\_/\_)/\(_/\_)))
def abc:=(⟨@cF.{1}, @cT.{1}, @aj⟩:_/\_/\_)
def agI:=(⟨@aO, @aN, @bC, @bW, @aM, @aP, @tA⟩:_/\_/\_/\_/\_/\_/\_)
def afo:=(⟨@bS.{0}, @cT.{1}, @bD⟩:_/\_/\_)
def abK:=(⟨@cF.{1}, @aj⟩:_/\_)
def adz:=(⟨@List.length_append.{0}, @bH.{0}, @bn.{0}⟩:_/\_/\_)
def akZ:=(⟨@au.{0,0}, @cT.{1}⟩:_/\_)
def alb:=(⟨@bn.{0}, @bS.{0}, @gw, @dj, @cY⟩:_/\_/\_/\_/\_)
