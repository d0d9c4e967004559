/- Lists of equations. -/
import Derived.Test.YtnnppcoplinajaaGreatZ1
set_option linter.defProp false
open List renaming length_cons→cP,length_nil→fJ
open Option renaming bind_some→bn
namespace Go.Proofs.YtnnppcoplinajaaGreat
open Go.Ag
def ai:=(⟨⟨⟨@Xi, @Xh, @Xj, @an8, @apC, @apB, @nV, @Db⟩,⟨@Xd, @Xg, @Hk, @an7, @apA, @apz, @VU, @apw⟩,⟨@apv, @apu, @apx, @ye, @gi, @eZ, @ew, @aiD⟩,⟨@TV, @GQ, @alH, @alu, @alw, @alx, @aly, @alE⟩,⟨@alJ, @alv, @alK, @TU, @alC, @alD, @alI, @alF⟩,⟨@alM, @LQ, @alG, @TW, @alB, @alz, @alA, @YM⟩,⟨@bq, @OV, @aaE, @aaG, @aaI, @aaH, @gV, @hQ⟩,⟨@Ci, @Yn, @Ym, @aif, @aig, @alV, @alU, @alT⟩⟩,⟨⟨@Gn, @yy, @L1, @amO, @Yf, @Ye, @Yd, @Yc⟩,⟨@Yb, @Yg, @Ya, @Yh, @YC, @Yx, @YB, @Yz⟩,⟨@YA, @ao7, @Yj, @Yi, @ac3, @Y4, @Y6, @Dn⟩,⟨@Y5, @aoc, @bn.{0,0}, @Option.bind_none.{0,0}, @Zq, @Ba, @Bb, @Zp⟩,⟨@Zs, @Zv, @Zt, @Zu, @Zr, @cT.{1}, @cF.{1}, @WA⟩,⟨@WB, @WC, @cP.{0}, @fJ.{0}, @List.head?_cons.{0}, @List.drop_succ_cons.{0}, @List.drop_zero.{0}, @List.take_succ_cons.{0}⟩,⟨@List.take_zero.{0}, @List.nil_append.{0}, @List.cons_append.{0}, @List.append_nil.{0}, @im, @Bool.not_true, @Bool.not_false, @bS.{0}⟩,⟨@Nat.beq_eq_true_eq, @aT, @tA, @Nat.zero_add, @Nat.add_zero, @Bool.true_and, @Bool.and_true, @Bool.false_and⟩⟩,⟨@Bool.and_false, @Bool.not_not, @fe, @jU, @Gp, @dT, @dF⟩⟩:(((_/\_/\_/\_/\_/\_/\_/\_)/\(_/\_/\_/\_/\_/\_/\_/\_)/\(_/\_/\_/\_/\_/\_/\_/\_)/\(_/\_/\_/\_/\_/\_/\_/\_)/\(_/\_/\_/\_/\_/\_/\_/\_)/\(_/\_/\_/\_/\_/\_/\_/\_)/\(_/\_/\_/\_/\_/\_/\_/\_)/\(_/\_/\_/\_/\_/\_/\_/\_))/\((_/\_/\_/\_/\_/\_/\_/\_)/\(_/\_/\_/\_/\_/\_/\_/\_)/\(_/\_/\_/\_/\_/\_/\_/\_)/\(_/\_/\_/\_/\_/\_/\_/\_)/\(_/\_/\_/\_/\_/\_/\_/\_)/\(_/\_/\_/\_/\_/\_/\_/\_)/\(_/\_/\_/\_/\_/\_/\_/\_)/\(_/\_/\_/\_/\_/\_/\_/\_))/\(_/\_/\_/\_/\_/\_/\_)))
def ax:=(⟨⟨⟨@NZ, @XZ, @X0, @N0, @X1, @X5, @aaJ, @aaK⟩,⟨@aaL, @aaM, @aaN, @aaO, @aaP, @aaQ, @aaR, @aaS⟩,⟨@aaT, @aaU, @aaV, @aaW, @aaX, @aaY, @aaZ, @aa0⟩,⟨@aa1, @aa2, @aa3, @aa4, @aa5, @aa6, @OW, @aa7⟩,⟨@aa8, @aa9, @aba, @abb, @abc, @abd, @abe, @abf⟩,⟨@adu, @adv, @adw, @PR, @adx, @ady, @adA, @adB⟩,⟨@adT, @adU, @adV, @adW, @adX, @adY, @ad0, @ah5⟩,⟨@ah6, @dB, @aib, @aie, @amj, @amk, @aml, @amm⟩⟩,⟨⟨@amn, @amo, @amp, @amq, @Um, @amr, @ams, @amt⟩,⟨@amu, @amv, @amw, @amx, @amy, @Un, @amz, @amA⟩,⟨@amB, @amC, @amD, @aoj, @aok, @aol, @aom, @aon⟩,⟨@aoo, @Mt, @aor, @aos, @aot, @aou, @aov, @aow⟩,⟨@aox, @aoy, @aoz, @aoA, @aoB, @aoC, @aoD, @aoE⟩,⟨@Wb, @aqa, @aqc, @Wc, @aqd, @aqf, @We, @HB⟩,⟨@aqg, @Wf, @Wg, @aqi, @aqj, @aqk, @aql, @MS⟩⟩⟩:(((_/\_/\_/\_/\_/\_/\_/\_)/\(_/\_/\_/\_/\_/\_/\_/\_)/\(_/\_/\_/\_/\_/\_/\_/\_)/\(_/\_/\_/\_/\_/\_/\_/\_)/\(_/\_/\_/\_/\_/\_/\_/\_)/\(_/\_/\_/\_/\_/\_/\_/\_)/\(_/\_/\_/\_/\_/\_/\_/\_)/\(_/\_/\_/\_/\_/\_/\_/\_))/\((_/\_/\_/\_/\_/\_/\_/\_)/\(_/\_/\_/\_/\_/\_/\_/\_)/\(_/\_/\_/\_/\_/\_/\_/\_)/\(_/\_/\_/\_/\_/\_/\_/\_)/\(_/\_/\_/\_/\_/\_/\_/\_)/\(_/\_/\_/\_/\_/\_/\_/\_)/\(_/\_/\_/\_/\_/\_/\_/\_))))
def aA:=(⟨⟨@Wq, @Wo, @Wm, @Wp, @Wj, @Wi, @HR, @Wk⟩,⟨@Wn, @ZT, @ZS, @aj6, @u7, @bM, @N7, @Dj⟩,⟨@uA, @Nz, @Xk, @Xl, @Xm, @apE, @apD, @aob⟩,⟨@aoa, @oT, @true_or, @false_or, @lQ, @ao0, @eq_self.{1}, @Bool.true_or⟩,⟨@Bool.false_or, @Bool.or_true, @Bool.or_false, @alN, @alO, @alP, @Option.map_some.{0,0}, @Option.some.injEq.{0}⟩⟩:((_/\_/\_/\_/\_/\_/\_/\_)/\(_/\_/\_/\_/\_/\_/\_/\_)/\(_/\_/\_/\_/\_/\_/\_/\_)/\(_/\_/\_/\_/\_/\_/\_/\_)/\(_/\_/\_/\_/\_/\_/\_/\_)))
def HU:=(⟨⟨@Xb, @Xa, @anZ, @an0, @an1, @an2, @an3, @an4⟩,⟨@an5, @an6, @akf, @ake, @akh, @akg, @acF, @aj8⟩,⟨@XE, @aix, @aiy, @ao1, @Nat.le_refl, @acU, @acW, @acS⟩,⟨@acT, @acV, @acO, @acP, @acR, @acM, @acQ, @acN⟩,⟨@acI, @acL, @acG, @acJ, @acH, @acK, @YZ, @Y1⟩,⟨@YR, @YX, @YY, @Y0, @YT, @YU, @YW, @YV⟩,⟨@YS, @Bool.or_self, @Bool.and_self⟩⟩:((_/\_/\_/\_/\_/\_/\_/\_)/\(_/\_/\_/\_/\_/\_/\_/\_)/\(_/\_/\_/\_/\_/\_/\_/\_)/\(_/\_/\_/\_/\_/\_/\_/\_)/\(_/\_/\_/\_/\_/\_/\_/\_)/\(_/\_/\_/\_/\_/\_/\_/\_)/\(_/\_/\_)))
def aq:=(⟨@cF.{1}, @cT.{1}, @ye⟩:_/\_/\_)
def au:=(⟨@cF.{1}, @ye⟩:_/\_)
def cG:=(⟨@Db, @nV, @OV, @GQ, @yy, @Hk, @tA⟩:_/\_/\_/\_/\_/\_/\_)
def cK:=(⟨@List.length_append.{0}, @cP.{0}, @fJ.{0}⟩:_/\_/\_)
def ce:=(⟨@bn.{0,0}, @cT.{1}⟩:_/\_)
def cz:=(⟨@cF.{1}, @cT.{1}⟩:_/\_)
def dA:=(⟨@N7, @bM⟩:_/\_)
def iX:=(⟨@bS.{0}, @eZ, @ew⟩:_/\_/\_)
def jR:=(⟨@cP.{0}, @fJ.{0}, @Nat.zero_add⟩:_/\_/\_)
def fG:=(⟨@List.getElem?_cons_succ.{0}, @List.getElem?_cons_zero.{0}⟩:_/\_)
def vS:=(⟨@Db, @nV, @bq, @TV, @yy, @Hk, @tA⟩:_/\_/\_/\_/\_/\_/\_)
def ik:=(⟨@cT.{1}, @ye⟩:_/\_)
