/- lemmas -/
import Derived.Test.YthhhehllmdfhiaaGreatMdMA
set_option linter.all false
set_option linter.unusedSectionVars false
set_option linter.unusedVariables false
set_option linter.unusedSimpArgs false
noncomputable section
variable {ρ : Type}
set_option maxRecDepth 100000
namespace Go.Proofs.ZzM
open Go Go.Am
theorem J0 (x : Val bp) (k : Bool → Option ρ) :
    dE (D6 ρ) 29 (dl [bp] x) (fun h v => bf (dw [.bool] h v) k) = Cn x k := by kernel_rfl
theorem JZ : (zH ρ).Ok (Cm ρ) := ⟨by kernel_rfl, fun p v kn kx => by kernel_rfl⟩
theorem QP (x : Val bg) (k : Bool → Option ρ) :
    dE (Cm ρ) 13 (dl [bg] x) (fun h v => bf (dw [.bool] h v) k) = Nq x k := by kernel_rfl
theorem KU : (A6 ρ).Ok (vR ρ) := ⟨by kernel_rfl, fun p v kn kx => by kernel_rfl⟩
theorem KT : (A5 ρ).Ok (vR ρ) := ⟨by kernel_rfl, fun p v kn kx => by kernel_rfl⟩
theorem Rv (x : Val (.pair bg (.pair br bc))) (k : Int → Option ρ) :
    dE (vR ρ) 54 (dl [bg, br, tI, tI] x) (fun h v => bf (dw [tI] h v) k) = Oy x.1 x.2.1 x.2.2.1 x.2.2.2 k := by kernel_rfl
theorem jH : (fZ ρ).Ok (eG ρ) := ⟨by kernel_rfl, fun p v kn kx => by kernel_rfl⟩
theorem kq (x : Val aW) (k : Int → Option ρ) :
    dE (eG ρ) 130 (dl [aa, bc] x) (fun h v => bf (dw [tI] h v) k) = fe x.1 x.2 k := by kernel_rfl
theorem FG (x : Val (.pair aC aA)) (k : Int → Option ρ) :
    dE (xp ρ) 87 (dl [aC, ae, tI] x) (fun h v => bf (dw [tI] h v) k) = uQ x.1 x.2.1 x.2.2 k := by kernel_rfl
theorem wA (x : Val (.pair ao ae)) (k : Val bc → Option ρ) :
    dE (oG ρ) 224 (dl [ao, ae] x) (fun h v => bf (dw [bc] h v) k) = lY x.1 x.2 k := by kernel_rfl
theorem H4 : (xl ρ).Ok (yr ρ) := ⟨by kernel_rfl, fun p v kn kx => by kernel_rfl⟩
theorem Oa (x : Val aa) (k : Int → Option ρ) :
    dE (yr ρ) 227 (dl [aa] x) (fun h v => bf (dw [tI] h v) k) = H5 x k := by kernel_rfl
theorem H6 (x : Val bc) (k : Val jy → Option ρ) :
    dE (AO ρ) 277 (dl [tI, tI] x) (fun h v => bf (dw [bc, tI] h v) k) = yu x.1 x.2 k := by kernel_rfl
theorem TO (x : Val ci) (k : Val jy → Option ρ) :
    dE (Rl ρ) 262 (dl [bc, bc] x) (fun h v => bf (dw [bc, tI] h v) k) = TP x.1 x.2 k := by kernel_rfl
theorem C4 (x : Val ci) (k : Val bc → Option ρ) :
    dE (uN ρ) 225 (dl [bc, bc] x) (fun h v => bf (dw [bc] h v) k) = rG x.1 x.2 k := by kernel_rfl
theorem TM (x : Val ci) (k : Int → Option ρ) :
    dE (Rj ρ) 287 (dl [bc, bc] x) (fun h v => bf (dw [tI] h v) k) = TN x.1 x.2 k := by kernel_rfl
theorem AR (x : Val ci) (k : Bool → Option ρ) :
    dE (s7 ρ) 278 (dl [ci] x) (fun h v => bf (dw [.bool] h v) k) = pq x k := by kernel_rfl
theorem TQ (x : Val ci) (k : Val jy → Option ρ) :
    dE (Rn ρ) 281 (dl [bc, bc] x) (fun h v => bf (dw [bc, tI] h v) k) = TR x.1 x.2 k := by kernel_rfl
theorem Og (x : Val (.pair ci bc)) (k : Val XB → Option ρ) :
    dE (yv ρ) 263 (dl [ci, bc] x) (fun h v => bf (dw [ci, tI] h v) k) = If x.1 x.2 k := by kernel_rfl
theorem C3 (x : Val ci) (k : Val ci → Option ρ) :
    dE (uM ρ) 226 (dl [bc, bc] x) (fun h v => bf (dw [ci] h v) k) = rE x.1 x.2 k := by kernel_rfl
theorem K3 (x : Val aH) (k : Val ci → Option ρ) :
    dE (EC ρ) 171 (dl [bg, bp] x) (fun h v => bf (dw [ci] h v) k) = C8 x.1 x.2 k := by kernel_rfl
theorem OH (x : Val aH) (k : Val bc → Option ρ) :
    dE (IA ρ) 172 (dl [bg, bp] x) (fun h v => bf (dw [bc] h v) k) = IB x.1 x.2 k := by kernel_rfl
theorem Od (x : Val bc) (k : Int → Option ρ) :
    dE (H9 ρ) 228 (dl [tI, tI] x) (fun h v => bf (dw [tI] h v) k) = Ia x.1 x.2 k := by kernel_rfl
theorem Rp (x : Val bc) (k : Val bc → Option ρ) :
    dE (L3 ρ) 173 (dl [bc] x) (fun h v => bf (dw [tI, tI] h v) k) = Oi x k := by kernel_rfl
theorem Oh (x : Val bc) (k : Val bc → Option ρ) :
    dE (Ih ρ) 174 (dl [bc] x) (fun h v => bf (dw [tI, tI] h v) k) = Ii x k := by kernel_rfl
theorem Rs (x : Val aH) (k : Val bc → Option ρ) :
    dE (L4 ρ) 200 (dl [bg, bp] x) (fun h v => bf (dw [bc] h v) k) = On x.1 x.2 k := by kernel_rfl
theorem KR : (A3 ρ).Ok (qo ρ) := ⟨by kernel_rfl, fun p v kn kx => by kernel_rfl⟩
theorem KS : (A4 ρ).Ok (qo ρ) := ⟨by kernel_rfl, fun p v kn kx => by kernel_rfl⟩
theorem KQ : (A2 ρ).Ok (qo ρ) := ⟨by kernel_rfl, fun p v kn kx => by kernel_rfl⟩
theorem Ru (x : Val bg) (k : (Val aC) → Option ρ) :
    dE (qo ρ) 62 (dl [bg] x) (fun h v => bf (dw [aC] h v) k) = Ov x k := by kernel_rfl
theorem K8 (x : Val bg) (k : (Val (.pair bq (.pair aa tI))) → Option ρ) :
    dE (EG ρ) 20 (dl [bg] x) (fun h v => bf (dw [bq, aa, tI] h v) k) = Dc x k := by kernel_rfl
theorem OV (x : Val aJ) (k : Val bc → Option ρ) :
    dE (IE ρ) 60 (dl [bg, bc] x) (fun h v => bf (dw [tI, tI] h v) k) = IF x.1 x.2 k := by kernel_rfl
theorem Hb (x : Val aQ) (k : Int → Option ρ) :
    dE (zP ρ) 55 (dl [au, bc] x) (fun h v => bf (dw [tI] h v) k) = ye x.1 x.2 k := by kernel_rfl
theorem Q6 (x : Val (.pair bq tI)) (k : Bool → Option ρ) :
    dE (LW ρ) 134 (dl [bq, tI] x) (fun h v => bf (dw [.bool] h v) k) = NY x.1 x.2 k := by kernel_rfl
theorem HS : (xg ρ).Ok (yq ρ) := ⟨by kernel_rfl, fun p v kn kx => by kernel_rfl⟩
theorem N7 (x : Val bq) (k : Val bc → Option ρ) :
    dE (yq ρ) 133 (dl [bq] x) (fun h v => bf (dw [tI, tI] h v) k) = HT x k := by kernel_rfl
theorem Ax : (ql ρ).Ok (fR ρ) := ⟨by kernel_rfl, fun p v kn kx => by kernel_rfl⟩
theorem Aw : (qk ρ).Ok (fR ρ) := ⟨by kernel_rfl, fun p v kn kx => by kernel_rfl⟩
theorem At : (qi ρ).Ok (fR ρ) := ⟨by kernel_rfl, fun p v kn kx => by kernel_rfl⟩
theorem Au : (qj ρ).Ok (fR ρ) := ⟨by kernel_rfl, fun p v kn kx => by kernel_rfl⟩
theorem As : (qg ρ).Ok (fR ρ) := ⟨by kernel_rfl, fun p v kn kx => by kernel_rfl⟩
theorem Fw (x : Val (.pair bq aj)) (k : (Val (.pair ae .bool)) → Option ρ) :
    dE (fR ρ) 135 (dl [bq, aj] x) (fun h v => bf (dw [ae, .bool] h v) k) = uD x.1 x.2 k := by kernel_rfl
theorem HH : (xa ρ).Ok (yp ρ) := ⟨by kernel_rfl, fun p v kn kx => by kernel_rfl⟩
theorem N1 (x : Val aS) (k : Int → Option ρ) :
    dE (yp ρ) 63 (dl [bq, ae] x) (fun h v => bf (dw [tI] h v) k) = HI x.1 x.2 k := by kernel_rfl
theorem FC : (uJ ρ).Ok (ip ρ) := ⟨by kernel_rfl, fun p v kn kx => by kernel_rfl⟩
theorem FB : (uI ρ).Ok (ip ρ) := ⟨by kernel_rfl, fun p v kn kx => by kernel_rfl⟩
theorem FA : (uH ρ).Ok (ip ρ) := ⟨by kernel_rfl, fun p v kn kx => by kernel_rfl⟩
theorem Fy : (uF ρ).Ok (ip ρ) := ⟨by kernel_rfl, fun p v kn kx => by kernel_rfl⟩
theorem Fz : (uG ρ).Ok (ip ρ) := ⟨by kernel_rfl, fun p v kn kx => by kernel_rfl⟩
theorem Kv (x : Val (.pair bq (.pair aj tI))) (k : (Val ae) → Option ρ) :
    dE (ip ρ) 64 (dl [bq, aj, tI] x) (fun h v => bf (dw [ae] h v) k) = CV x.1 x.2.1 x.2.2 k := by kernel_rfl
theorem N9 (x : Val aM) (k : Val bc → Option ρ) :
    dE (HY ρ) 89 (dl [bq, tI, tI] x) (fun h v => bf (dw [tI, tI] h v) k) = HZ x.1 x.2.1 x.2.2 k := by kernel_rfl
theorem zO (x : Val aQ) (k : Int → Option ρ) :
    dE (sM ρ) 56 (dl [au, tI, tI] x) (fun h v => bf (dw [tI] h v) k) = o9 x.1 x.2.1 x.2.2 k := by kernel_rfl
theorem zN (x : Val aQ) (k : Int → Option ρ) :
    dE (sL ρ) 121 (dl [au, bc] x) (fun h v => bf (dw [tI] h v) k) = o8 x.1 x.2 k := by kernel_rfl
theorem ud (x : Val aQ) (k : Int → Option ρ) :
    dE (nk ρ) 122 (dl [au, bc] x) (fun h v => bf (dw [tI] h v) k) = kw x.1 x.2 k := by kernel_rfl
theorem t8 (x : Val aQ) (k : Val bc → Option ρ) :
    dE (ja ρ) 51 (dl [au, bc] x) (fun h v => bf (dw [bc] h v) k) = kv x.1 x.2 k := by kernel_rfl
theorem La : (Bl ρ).Ok (De ρ) := ⟨by kernel_rfl, fun p v kn kx => by kernel_rfl⟩
theorem RD (x : Val aJ) (k : (Val aP) → Option ρ) :
    dE (De ρ) 61 (dl [bg, bc] x) (fun h v => bf (dw [bg, tI] h v) k) = OU x.1 x.2 k := by kernel_rfl
theorem AE (x : Val bq) (k : (Val aE) → Option ρ) :
    dE (sX ρ) 123 (dl [bq] x) (fun h v => bf (dw [.bool, tI] h v) k) = pn x k := by kernel_rfl
theorem Ao : (qd ρ).Ok (pf ρ) := ⟨by kernel_rfl, fun p v kn kx => by kernel_rfl⟩
theorem Fp (x : Val aJ) (k : Val jy → Option ρ) :
    dE (pf ρ) 15 (dl [bg, bc] x) (fun h v => bf (dw [bc, tI] h v) k) = ut x.1 x.2 k := by kernel_rfl
theorem CL : (sU ρ).Ok (rq ρ) := ⟨by kernel_rfl, fun p v kn kx => by kernel_rfl⟩
theorem Hy (x : Val (.pair bg ci)) (k : Val jy → Option ρ) :
    dE (rq ρ) 17 (dl [bg, bc, bc] x) (fun h v => bf (dw [bc, tI] h v) k) = yn x.1 x.2.1 x.2.2 k := by kernel_rfl
theorem Lb (x : Val (.pair ae ae)) (k : (Val (.pair ae aA)) → Option ρ) :
    dE (EK ρ) 129 (dl [ae, ae] x) (fun h v => bf (dw [ae, ae, tI] h v) k) = Df x.1 x.2 k := by kernel_rfl
theorem QQ (x : Val aA) (k : Bool → Option ρ) :
    dE (LV ρ) 57 (dl [ae, tI] x) (fun h v => bf (dw [.bool] h v) k) = Ns x.1 x.2 k := by kernel_rfl
theorem NG (x : Val tI) (k : Bool → Option ρ) :
    dE (Hk ρ) 58 (dl [tI] x) (fun h v => bf (dw [.bool] h v) k) = Hl x k := by kernel_rfl
theorem Hc : (wT ρ).Ok (yf ρ) := ⟨by kernel_rfl, fun p v kn kx => by kernel_rfl⟩
theorem NE (x : Val (.pair tI am)) (k : (Val aa) → Option ρ) :
    dE (yf ρ) 59 (dl [tI, am] x) (fun h v => bf (dw [aa] h v) k) = He x.1 x.2 k := by kernel_rfl
theorem Kn : (Ak ρ).Ok (vN ρ) := ⟨by kernel_rfl, fun p v kn kx => by kernel_rfl⟩
theorem Km : (Aj ρ).Ok (vN ρ) := ⟨by kernel_rfl, fun p v kn kx => by kernel_rfl⟩
theorem Q2 (x : Val (.pair bg ax)) (k : Val jy → Option ρ) :
    dE (vN ρ) 18 (dl [bg, tI, ae] x) (fun h v => bf (dw [bc, tI] h v) k) = NT x.1 x.2.1 x.2.2 k := by kernel_rfl
theorem G9 (x : Val ci) (k : Int → Option ρ) :
    dE (zM ρ) 69 (dl [bc, bc] x) (fun h v => bf (dw [tI] h v) k) = yc x.1 x.2 k := by kernel_rfl
theorem Hr : (w8 ρ).Ok (yk ρ) := ⟨by kernel_rfl, fun p v kn kx => by kernel_rfl⟩
theorem NU (x : Val (.pair bg ci)) (k : Val bc → Option ρ) :
    dE (yk ρ) 25 (dl [bg, bc, bc] x) (fun h v => bf (dw [tI, tI] h v) k) = Hs x.1 x.2.1 x.2.2 k := by kernel_rfl
theorem K7 : (Bj ρ).Ok (Db ρ) := ⟨by kernel_rfl, fun p v kn kx => by kernel_rfl⟩
theorem RB (x : Val aH) (k : (Val aP) → Option ρ) :
    dE (Db ρ) 41 (dl [bg, bp] x) (fun h v => bf (dw [bg, tI] h v) k) = OP x.1 x.2 k := by kernel_rfl
theorem Om (x : Val (.pair bg (.pair bp bc))) (k : Val jy → Option ρ) :
    dE (Il ρ) 90 (dl [bg, bp, bc] x) (fun h v => bf (dw [bc, tI] h v) k) = Im x.1 x.2.1 x.2.2 k := by kernel_rfl
theorem IC (x : Val aH) (k : Val jy → Option ρ) :
    dE (Bk ρ) 40 (dl [bg, bp] x) (fun h v => bf (dw [bc, tI] h v) k) = yE x.1 x.2 k := by kernel_rfl
theorem Ol (x : Val aP) (k : (Val (.pair bp tI)) → Option ρ) :
    dE (Ij ρ) 205 (dl [bg, tI] x) (fun h v => bf (dw [bp, tI] h v) k) = Ik x.1 x.2 k := by kernel_rfl
theorem RC (x : Val aP) (k : Val jy → Option ρ) :
    dE (L5 ρ) 142 (dl [bg, tI] x) (fun h v => bf (dw [bc, tI] h v) k) = OS x.1 x.2 k := by kernel_rfl
theorem Fk (x : Val (.pair ae (.pair au (.ptr bp)))) (k : Int → Option ρ) :
    dE (wW ρ) 143 (dl [ae, au, (.ptr bp)] x) (fun h v => bf (dw [tI] h v) k) = uh x.1 x.2.1 x.2.2 k := by kernel_rfl
theorem Fh (x : Val (.pair tI (.pair tI (.pair au (.pair (.ptr tI) (.pair aR (.ptr tI))))))) (k : Val cw → Option ρ) :
    dE (wV ρ) 144 (dl [tI, tI, au, (.ptr tI), aR, (.ptr tI)] x) (fun h v => bf (dw [cw] h v) k) = ug x.1 x.2.1 x.2.2.1 x.2.2.2.1 x.2.2.2.2.1 x.2.2.2.2.2 k := by kernel_rfl
theorem Fg : (uf ρ).Ok (om ρ) := ⟨by kernel_rfl, fun p v kn kx => by kernel_rfl⟩
theorem Kf (x : Val (.pair au aU)) (k : (Val (.pair eX tI)) → Option ρ) :
    dE (om ρ) 71 (dl [au, bc, bp] x) (fun h v => bf (dw [eX, tI] h v) k) = Ct x.1 x.2.1 x.2.2 k := by kernel_rfl
theorem Cu (x : Val cw) (k : (Val ae) → Option ρ) :
    dE (uj ρ) 95 (dl [cw] x) (fun h v => bf (dw [ae] h v) k) = rd x k := by kernel_rfl
theorem Kg (x : Val (.pair cw tI)) (k : Int → Option ρ) :
    dE (D9 ρ) 177 (dl [cw, tI] x) (fun h v => bf (dw [tI] h v) k) = Cw x.1 x.2 k := by kernel_rfl
theorem zK (x : Val (.pair eX tI)) (k : Val bc → Option ρ) :
    dE (sJ ρ) 99 (dl [eX, tI] x) (fun h v => bf (dw [bc] h v) k) = oY x.1 x.2 k := by kernel_rfl
theorem ww : (ni ρ).Ok (iY ρ) := ⟨by kernel_rfl, fun p v kn kx => by kernel_rfl⟩
theorem wx : (nj ρ).Ok (iY ρ) := ⟨by kernel_rfl, fun p v kn kx => by kernel_rfl⟩
theorem zL (x : Val (.pair eX ae)) (k : (Val ae) → Option ρ) :
    dE (iY ρ) 101 (dl [eX, ae] x) (fun h v => bf (dw [ae] h v) k) = oZ x.1 x.2 k := by kernel_rfl
theorem tY : (me ρ).Ok (ku ρ) := ⟨by kernel_rfl, fun p v kn kx => by kernel_rfl⟩
theorem xZ (x : Val eX) (k : Int → Option ρ) :
    dE (ku ρ) 72 (dl [eX] x) (fun h v => bf (dw [tI] h v) k) = nh x k := by kernel_rfl
theorem Ho : (wY ρ).Ok (yi ρ) := ⟨by kernel_rfl, fun p v kn kx => by kernel_rfl⟩
theorem NP (x : Val (.pair bg aU)) (k : Val bc → Option ρ) :
    dE (yi ρ) 31 (dl [bg, bc, bp] x) (fun h v => bf (dw [tI, tI] h v) k) = Hp x.1 x.2.1 x.2.2 k := by kernel_rfl
theorem CT : (sW ρ).Ok (rt ρ) := ⟨by kernel_rfl, fun p v kn kx => by kernel_rfl⟩
theorem HA (x : Val aS) (k : Int → Option ρ) :
    dE (rt ρ) 145 (dl [bq, ae] x) (fun h v => bf (dw [tI] h v) k) = yo x.1 x.2 k := by kernel_rfl
theorem Kt : (Ar ρ).Ok (CM ρ) := ⟨by kernel_rfl, fun p v kn kx => by kernel_rfl⟩
theorem Q5 (x : Val (.pair bq ax)) (k : (Val (.pair tI (.pair tI .bool))) → Option ρ) :
    dE (CM ρ) 146 (dl [bq, tI, ae] x) (fun h v => bf (dw [tI, tI, .bool] h v) k) = NX x.1 x.2.1 x.2.2 k := by kernel_rfl
theorem AI (x : Val (.pair bq (.pair tI ax))) (k : Val bc → Option ρ) :
    dE (sZ ρ) 76 (dl [bq, tI, tI, ae] x) (fun h v => bf (dw [tI, tI] h v) k) = pp x.1 x.2.1 x.2.2.1 x.2.2.2 k := by kernel_rfl
theorem CF (x : Val fW) (k : Int → Option ρ) :
    dE (uz ρ) 33 (dl [fW] x) (fun h v => bf (dw [tI] h v) k) = rl x k := by kernel_rfl
theorem AH (x : Val aS) (k : Int → Option ρ) :
    dE (sY ρ) 86 (dl [bq, ae] x) (fun h v => bf (dw [tI] h v) k) = po x.1 x.2 k := by kernel_rfl
theorem Aq (x : Val fW) (k : Int → Option ρ) :
    dE (sR ρ) 39 (dl [fW] x) (fun h v => bf (dw [tI] h v) k) = pj x k := by kernel_rfl
theorem i8 : (fq ρ).Ok (dT ρ) := ⟨by kernel_rfl, fun p v kn kx => by kernel_rfl⟩
theorem jJ (x : Val (.pair ac br)) (k : Int → Option ρ) :
    dE (dT ρ) 254 (dl [ac, br] x) (fun h v => bf (dw [tI] h v) k) = eJ x.1 x.2 k := by kernel_rfl
theorem iS (x : Val (.pair ac br)) (k : Bool → Option ρ) :
    dE (fu ρ) 210 (dl [ac, br] x) (fun h v => bf (dw [.bool] h v) k) = dM x.1 x.2 k := by kernel_rfl
theorem kp : (gA ρ).Ok (fc ρ) := ⟨by kernel_rfl, fun p v kn kx => by kernel_rfl⟩
theorem lV (x : Val aW) (k : Int → Option ρ) :
    dE (fc ρ) 256 (dl [aa, bc] x) (fun h v => bf (dw [tI] h v) k) = fQ x.1 x.2 k := by kernel_rfl
theorem j5 (x : Val aW) (k : Bool → Option ρ) :
    dE (gB ρ) 213 (dl [aa, bc] x) (fun h v => bf (dw [.bool] h v) k) = eP x.1 x.2 k := by kernel_rfl
theorem jI : (f0 ρ).Ok (eI ρ) := ⟨by kernel_rfl, fun p v kn kx => by kernel_rfl⟩
theorem kr (x : Val (.pair af dG)) (k : Int → Option ρ) :
    dE (eI ρ) 258 (dl [af, dG] x) (fun h v => bf (dw [tI] h v) k) = ff x.1 x.2 k := by kernel_rfl
theorem jw (x : Val (.pair af dG)) (k : Bool → Option ρ) :
    dE (f6 ρ) 216 (dl [af, dG] x) (fun h v => bf (dw [.bool] h v) k) = ee x.1 x.2 k := by kernel_rfl
theorem Kd : (zZ ρ).Ok (fC ρ) := ⟨by kernel_rfl, fun p v kn kx => by kernel_rfl⟩
theorem Ka : (zW ρ).Ok (fC ρ) := ⟨by kernel_rfl, fun p v kn kx => by kernel_rfl⟩
theorem J9 : (zV ρ).Ok (fC ρ) := ⟨by kernel_rfl, fun p v kn kx => by kernel_rfl⟩
theorem Kb : (zX ρ).Ok (fC ρ) := ⟨by kernel_rfl, fun p v kn kx => by kernel_rfl⟩
theorem Kc : (zY ρ).Ok (fC ρ) := ⟨by kernel_rfl, fun p v kn kx => by kernel_rfl⟩
theorem J8 : (zU ρ).Ok (fC ρ) := ⟨by kernel_rfl, fun p v kn kx => by kernel_rfl⟩
theorem J7 : (zT ρ).Ok (fC ρ) := ⟨by kernel_rfl, fun p v kn kx => by kernel_rfl⟩
theorem J6 : (zS ρ).Ok (fC ρ) := ⟨by kernel_rfl, fun p v kn kx => by kernel_rfl⟩
theorem J5 : (zR ρ).Ok (fC ρ) := ⟨by kernel_rfl, fun p v kn kx => by kernel_rfl⟩
theorem J4 : (zQ ρ).Ok (fC ρ) := ⟨by kernel_rfl, fun p v kn kx => by kernel_rfl⟩
theorem QR (x : Val (.pair bg bg)) (k : Bool → Option ρ) :
    dE (fC ρ) 77 (dl [bg, bg] x) (fun h v => bf (dw [.bool] h v) k) = ND x.1 x.2 k := by kernel_rfl
theorem Kl (x : Val (.pair bg fW)) (k : (Val aE) → Option ρ) :
    dE (Ee ρ) 35 (dl [bg, fW] x) (fun h v => bf (dw [.bool, tI] h v) k) = Cy x.1 x.2 k := by kernel_rfl
theorem TH : (L1 ρ).Ok (CU ρ) := ⟨by kernel_rfl, fun p v kn kx => by kernel_rfl⟩
theorem TF : (LY ρ).Ok (CU ρ) := ⟨by kernel_rfl, fun p v kn kx => by kernel_rfl⟩
theorem TE : (LX ρ).Ok (CU ρ) := ⟨by kernel_rfl, fun p v kn kx => by kernel_rfl⟩
theorem TG : (LZ ρ).Ok (CU ρ) := ⟨by kernel_rfl, fun p v kn kx => by kernel_rfl⟩
theorem Ym (x : Val aM) (k : (Val am) → Option ρ) :
    dE (CU ρ) 156 (dl [bq, tI, tI] x) (fun h v => bf (dw [am] h v) k) = HB x.1 x.2.1 x.2.2 k := by kernel_rfl
theorem HP : (xf ρ).Ok (jc ρ) := ⟨by kernel_rfl, fun p v kn kx => by kernel_rfl⟩
theorem HL : (xb ρ).Ok (jc ρ) := ⟨by kernel_rfl, fun p v kn kx => by kernel_rfl⟩
theorem HM : (xc ρ).Ok (jc ρ) := ⟨by kernel_rfl, fun p v kn kx => by kernel_rfl⟩
theorem HN : (xd ρ).Ok (jc ρ) := ⟨by kernel_rfl, fun p v kn kx => by kernel_rfl⟩
theorem HO : (xe ρ).Ok (jc ρ) := ⟨by kernel_rfl, fun p v kn kx => by kernel_rfl⟩
theorem N6 (x : Val bq) (k : (Val aA) → Option ρ) :
    dE (jc ρ) 78 (dl [bq] x) (fun h v => bf (dw [ae, tI] h v) k) = HQ x k := by kernel_rfl
theorem Cq : (sK ρ).Ok (qY ρ) := ⟨by kernel_rfl, fun p v kn kx => by kernel_rfl⟩
theorem Ha (x : Val (.pair bg ae)) (k : (Val aa) → Option ρ) :
    dE (qY ρ) 80 (dl [bg, ae] x) (fun h v => bf (dw [aa] h v) k) = yd x.1 x.2 k := by kernel_rfl
theorem NV (x : Val bg) (k : (Val (.pair fW tI)) → Option ρ) :
    dE (Hv ρ) 36 (dl [bg] x) (fun h v => bf (dw [fW, tI] h v) k) = Hw x k := by kernel_rfl
theorem CB (x : Val tI) (k : Int → Option ρ) :
    dE (uq ρ) 96 (dl [tI] x) (fun h v => bf (dw [tI] h v) k) = rh x k := by kernel_rfl
theorem Cv (x : Val (.pair cw tI)) (k : (Val ae) → Option ρ) :
    dE (uk ρ) 97 (dl [cw, tI] x) (fun h v => bf (dw [ae] h v) k) = re x.1 x.2 k := by kernel_rfl
theorem Ah : (((oT (cA ρ).P 50).elim [] (bS 0)).filter fun y => Nat.beq y.1 0).length = 1 := by kernel_rfl
theorem Ai (p : Val aq) (v : Val az) (kn : Val aq → Val az → Option ρ) (kx : (i : Nat) → Val aq → Val (tyL (fE.zs i)) → Option ρ) :
    goC (cA ρ) (iX (cA ρ) (10 - 2 / 2)) 50 [1, 3] 5 0 (EL (oT (cA ρ).P 50) 0) (ig fE.head fE.cs fE.vs p v) (PR fE kn kx) = (lX ρ).bF p v (kn p) (fun i => kx i p) := by kernel_rfl
theorem CA : (lX ρ).Ok (cA ρ) := ⟨Ah, Ai⟩
theorem Af : (((oT (cA ρ).P 178).elim [] (bS 0)).filter fun y => Nat.beq y.1 0).length = 1 := by kernel_rfl
theorem Ag (p : Val ak) (v : Val tI) (kn : Val ak → Val tI → Option ρ) (kx : (i : Nat) → Val ak → Val (tyL (fD.zs i)) → Option ρ) :
    goC (cA ρ) (iX (cA ρ) (10 - 4 / 2)) 178 [18, 4, 1, 2] 12 0 (EL (oT (cA ρ).P 178) 0) (ig fD.head fD.cs fD.vs p v) (PR fD kn kx) = (lW ρ).bF p v (kn p) (fun i => kx i p) := by kernel_rfl
theorem Cz : (lW ρ).Ok (cA ρ) := ⟨Af, Ag⟩
theorem Hq (x : Val (.pair bg (.pair bc aU))) (k : (Val aE) → Option ρ) :
    dE (rg ρ) 42 (dl [bg, bc, bc, bp] x) (fun h v => bf (dw [.bool, tI] h v) k) = yj x.1 x.2.1 x.2.2.1 x.2.2.2 k := by kernel_rfl
theorem Fe (x : Unit) (k : Val bg → Option ρ) :
    dE (wR ρ) 48 (dl [] x) (fun h v => bf (dw [bg] h v) k) = tU k := by kernel_rfl
theorem HW : (xj ρ).Ok (nu ρ) := ⟨by kernel_rfl, fun p v kn kx => by kernel_rfl⟩
theorem HU : (xh ρ).Ok (nu ρ) := ⟨by kernel_rfl, fun p v kn kx => by kernel_rfl⟩
theorem HV : (xi ρ).Ok (nu ρ) := ⟨by kernel_rfl, fun p v kn kx => by kernel_rfl⟩
theorem N8 (x : Val aM) (k : (Val aA) → Option ρ) :
    dE (nu ρ) 120 (dl [bq, tI, tI] x) (fun h v => bf (dw [ae, tI] h v) k) = HX x.1 x.2.1 x.2.2 k := by kernel_rfl
theorem CJ (x : Val (.pair au (.pair aR (.ptr .bool)))) (k : (Val ae) → Option ρ) :
    dE (uB ρ) 119 (dl [au, aR, (.ptr .bool)] x) (fun h v => bf (dw [ae] h v) k) = ro x.1 x.2.1 x.2.2 k := by kernel_rfl
theorem CH : (sT ρ).Ok (jO ρ) := ⟨by kernel_rfl, fun p v kn kx => by kernel_rfl⟩
theorem CG : (sS ρ).Ok (jO ρ) := ⟨by kernel_rfl, fun p v kn kx => by kernel_rfl⟩
theorem Hx (x : Val aV) (k : (Val (.pair fW tI)) → Option ρ) :
    dE (jO ρ) 49 (dl [bg, bc, .bool] x) (fun h v => bf (dw [fW, tI] h v) k) = ym x.1 x.2.1 x.2.2 k := by kernel_rfl
theorem G6 (x : Unit) (k : Bool → Option ρ) :
    dE (zF ρ) 14 (dl [] x) (fun h v => bf (dw [.bool] h v) k) = xW k := by kernel_rfl
theorem G5 : (wP ρ).Ok (xV ρ) := ⟨by kernel_rfl, fun p v kn kx => by kernel_rfl⟩
theorem Nn (x : Val (.pair bg aa)) (k : (Val (.pair bg .bool)) → Option ρ) :
    dE (xV ρ) 19 (dl [bg, aa] x) (fun h v => bf (dw [bg, .bool] h v) k) = zE x.1 x.2 k := by kernel_rfl
theorem rI : (kd ρ).Ok (jd ρ) := ⟨by kernel_rfl, fun p v kn kx => by kernel_rfl⟩
theorem uP (x : Val (.pair aC ae)) (k : Int → Option ρ) :
    dE (jd ρ) 67 (dl [aC, ae] x) (fun h v => bf (dw [tI] h v) k) = kE x.1 x.2 k := by kernel_rfl
theorem Ky : (AD ρ).Ok (vP ρ) := ⟨by kernel_rfl, fun p v kn kx => by kernel_rfl⟩
theorem Kx : (AC ρ).Ok (vP ρ) := ⟨by kernel_rfl, fun p v kn kx => by kernel_rfl⟩
theorem Ra (x : Val aS) (k : (Val aE) → Option ρ) :
    dE (vP ρ) 138 (dl [bq, ae] x) (fun h v => bf (dw [.bool, tI] h v) k) = N5 x.1 x.2 k := by kernel_rfl
theorem A1 (x : Val (.pair aC ae)) (k : Bool → Option ρ) :
    dE (ta ρ) 68 (dl [aC, ae] x) (fun h v => bf (dw [.bool] h v) k) = pu x.1 x.2 k := by kernel_rfl
theorem RF (x : Val (.pair bg ae)) (k : (Val aE) → Option ρ) :
    dE (L6 ρ) 23 (dl [bg, ae] x) (fun h v => bf (dw [.bool, tI] h v) k) = OW x.1 x.2 k := by kernel_rfl
theorem JX (x : Val aJ) (k : Int → Option ρ) :
    dE (D4 ρ) 27 (dl [bg, bc] x) (fun h v => bf (dw [tI] h v) k) = Cl x.1 x.2 k := by kernel_rfl
theorem G7 (x : Val cw) (k : Bool → Option ρ) :
    dE (zG ρ) 28 (dl [tI, bc] x) (fun h v => bf (dw [.bool] h v) k) = xX x.1 x.2 k := by kernel_rfl
theorem N2 (x : Val aM) (k : (Val aA) → Option ρ) :
    dE (HJ ρ) 75 (dl [bq, tI, tI] x) (fun h v => bf (dw [ae, tI] h v) k) = HK x.1 x.2.1 x.2.2 k := by kernel_rfl
theorem CD : (sQ ρ).Ok (rk ρ) := ⟨by kernel_rfl, fun p v kn kx => by kernel_rfl⟩
theorem Hu (x : Val aV) (k : (Val aA) → Option ρ) :
    dE (rk ρ) 32 (dl [bg, bc, .bool] x) (fun h v => bf (dw [ae, tI] h v) k) = yl x.1 x.2.1 x.2.2 k := by kernel_rfl
theorem tV : (md ρ).Ok (kj ρ) := ⟨by kernel_rfl, fun p v kn kx => by kernel_rfl⟩
theorem xY (x : Val (.pair bg (.pair bc (.pair bc ae)))) (k : Bool → Option ρ) :
    dE (kj ρ) 7 (dl [bg, bc, bc, ae] x) (fun h v => bf (dw [.bool] h v) k) = nf x.1 x.2.1 x.2.2.1 x.2.2.2 k := by kernel_rfl
end Go.Proofs.ZzM
end

noncomputable section
variable {ρ : Type}
set_option maxRecDepth 100000
namespace Go.Proofs.ZzM
open Go Go.Am
theorem C1 : (s8 ρ).Ok (rD ρ) := ⟨by kernel_rfl, fun p v kn kx => by kernel_rfl⟩
theorem Io (x : Val bg) (k : (Val ao) → Option ρ) :
    dE (rD ρ) 53 (dl [bg] x) (fun h v => bf (dw [ao] h v) k) = yw x k := by kernel_rfl
theorem KZ (x : Val ci) (k : Bool → Option ρ) :
    dE (EB ρ) 82 (dl [bc, tI, tI] x) (fun h v => bf (dw [.bool] h v) k) = C7 x.1 x.2.1 x.2.2 k := by kernel_rfl
theorem KL (x : Val cw) (k : Bool → Option ρ) :
    dE (Ew ρ) 126 (dl [tI, tI, tI] x) (fun h v => bf (dw [.bool] h v) k) = C0 x.1 x.2.1 x.2.2 k := by kernel_rfl
theorem OD (x : Val tI) (k : Bool → Option ρ) :
    dE (Iy ρ) 125 (dl [tI] x) (fun h v => bf (dw [.bool] h v) k) = Iz x k := by kernel_rfl
theorem Rg (x : Val tI) (k : Int → Option ρ) :
    dE (L2 ρ) 259 (dl [tI] x) (fun h v => bf (dw [(.int .u64)] h v) k) = Ob x k := by kernel_rfl
theorem Oc : (Er ρ).Ok (H8 ρ) := ⟨by kernel_rfl, fun p v kn kx => by kernel_rfl⟩
theorem TK (x : Val aX) (k : Int → Option ρ) :
    dE (H8 ρ) 260 (dl [(.int .u64), (.int .u64)] x) (fun h v => bf (dw [(.int .u64)] h v) k) = TL x.1 x.2 k := by kernel_rfl
theorem Oe (x : Val bc) (k : Bool → Option ρ) :
    dE (Ic ρ) 219 (dl [bc] x) (fun h v => bf (dw [.bool] h v) k) = Id x k := by kernel_rfl
theorem Ix (x : Val br) (k : Bool → Option ρ) :
    dE (A9 ρ) 162 (dl [br] x) (fun h v => bf (dw [.bool] h v) k) = yz x k := by kernel_rfl
theorem uU : (mg ρ).Ok (kF ρ) := ⟨by kernel_rfl, fun p v kn kx => by kernel_rfl⟩
theorem yC (x : Val bg) (k : Int → Option ρ) :
    dE (kF ρ) 83 (dl [bg] x) (fun h v => bf (dw [tI] h v) k) = nw x k := by kernel_rfl
theorem qU : (j8 ρ).Ok (i7 ρ) := ⟨by kernel_rfl, fun p v kn kx => by kernel_rfl⟩
theorem tW (x : Val aA) (k : Int → Option ρ) :
    dE (i7 ρ) 73 (dl [ae, tI] x) (fun h v => bf (dw [tI] h v) k) = km x.1 x.2 k := by kernel_rfl
theorem pQ (x : Val aA) (k : Bool → Option ρ) :
    dE (j9 ρ) 65 (dl [ae, tI] x) (fun h v => bf (dw [.bool] h v) k) = iO x.1 x.2 k := by kernel_rfl
theorem K5 : (Be ρ).Ok (vT ρ) := ⟨by kernel_rfl, fun p v kn kx => by kernel_rfl⟩
theorem K4 : (Bc ρ).Ok (vT ρ) := ⟨by kernel_rfl, fun p v kn kx => by kernel_rfl⟩
theorem Rz (x : Val (.pair bg br)) (k : (Val ae) → Option ρ) :
    dE (vT ρ) 168 (dl [bg, br] x) (fun h v => bf (dw [ae] h v) k) = OK x.1 x.2 k := by kernel_rfl
theorem Iq : (xn ρ).Ok (rH ρ) := ⟨by kernel_rfl, fun p v kn kx => by kernel_rfl⟩
theorem Ir : (xo ρ).Ok (rH ρ) := ⟨by kernel_rfl, fun p v kn kx => by kernel_rfl⟩
theorem Oo (x : Val bg) (k : (Val aa) → Option ρ) :
    dE (rH ρ) 85 (dl [bg] x) (fun h v => bf (dw [aa] h v) k) = Iu x k := by kernel_rfl
theorem AY (x : Val (.pair ao bc)) (k : Int → Option ρ) :
    dE (s9 ρ) 164 (dl [ao, tI, tI] x) (fun h v => bf (dw [tI] h v) k) = pr x.1 x.2.1 x.2.2 k := by kernel_rfl
theorem Ip (x : Val (.pair tI (.pair tI (.ptr ao)))) (k : Int → Option ρ) :
    dE (AZ ρ) 163 (dl [tI, tI, (.ptr ao)] x) (fun h v => bf (dw [tI] h v) k) = yy x.1 x.2.1 x.2.2 k := by kernel_rfl
theorem yB : (oM ρ).Ok (jP ρ) := ⟨by kernel_rfl, fun p v kn kx => by kernel_rfl⟩
theorem yA : (oL ρ).Ok (jP ρ) := ⟨by kernel_rfl, fun p v kn kx => by kernel_rfl⟩
theorem C9 (x : Val aY) (k : Int → Option ρ) :
    dE (jP ρ) 166 (dl [bg, ao, tI] x) (fun h v => bf (dw [tI] h v) k) = rR x.1 x.2.1 x.2.2 k := by kernel_rfl
theorem KW : (A8 ρ).Ok (vS ρ) := ⟨by kernel_rfl, fun p v kn kx => by kernel_rfl⟩
theorem KV : (A7 ρ).Ok (vS ρ) := ⟨by kernel_rfl, fun p v kn kx => by kernel_rfl⟩
theorem Rw (x : Val (.pair ae ae)) (k : (Val ae) → Option ρ) :
    dE (vS ρ) 88 (dl [ae, ae] x) (fun h v => bf (dw [ae] h v) k) = OB x.1 x.2 k := by kernel_rfl
theorem pS : (jM ρ).Ok (gc ρ) := ⟨by kernel_rfl, fun p v kn kx => by kernel_rfl⟩
theorem pR : (jL ρ).Ok (gc ρ) := ⟨by kernel_rfl, fun p v kn kx => by kernel_rfl⟩
theorem tj (x : Val am) (k : (Val ae) → Option ρ) :
    dE (gc ρ) 94 (dl [am] x) (fun h v => bf (dw [ae] h v) k) = g9 x k := by kernel_rfl
theorem FH : (uR ρ).Ok (uS ρ) := ⟨by kernel_rfl, fun p v kn kx => by kernel_rfl⟩
theorem KX (x : Val ae) (k : Bool → Option ρ) :
    dE (uS ρ) 198 (dl [ae] x) (fun h v => bf (dw [.bool] h v) k) = C6 x k := by kernel_rfl
theorem K6 : (Bi ρ).Ok (Da ρ) := ⟨by kernel_rfl, fun p v kn kx => by kernel_rfl⟩
theorem RA (x : Val aJ) (k : (Val (.pair dG .bool)) → Option ρ) :
    dE (Da ρ) 223 (dl [bg, tI, tI] x) (fun h v => bf (dw [dG, .bool] h v) k) = OM x.1 x.2.1 x.2.2 k := by kernel_rfl
theorem tr : (lG ρ).Ok (eA ρ) := ⟨by kernel_rfl, fun p v kn kx => by kernel_rfl⟩
theorem tp : (lE ρ).Ok (eA ρ) := ⟨by kernel_rfl, fun p v kn kx => by kernel_rfl⟩
theorem tq : (lF ρ).Ok (eA ρ) := ⟨by kernel_rfl, fun p v kn kx => by kernel_rfl⟩
theorem tm : (lC ρ).Ok (eA ρ) := ⟨by kernel_rfl, fun p v kn kx => by kernel_rfl⟩
theorem wD (x : Val aY) (k : Int → Option ρ) :
    dE (eA ρ) 167 (dl [bg, ao, tI] x) (fun h v => bf (dw [tI] h v) k) = lZ x.1 x.2.1 x.2.2 k := by kernel_rfl
theorem NM : (Ec ρ).Ok (fg ρ) := ⟨by kernel_rfl, fun p v kn kx => by kernel_rfl⟩
theorem NN : (Ed ρ).Ok (fg ρ) := ⟨by kernel_rfl, fun p v kn kx => by kernel_rfl⟩
theorem NL : (Eb ρ).Ok (fg ρ) := ⟨by kernel_rfl, fun p v kn kx => by kernel_rfl⟩
theorem NK : (ov ρ).Ok (fg ρ) := ⟨by kernel_rfl, fun p v kn kx => by kernel_rfl⟩
theorem NJ : (ou ρ).Ok (fg ρ) := ⟨by kernel_rfl, fun p v kn kx => by kernel_rfl⟩
theorem NI : (ot ρ).Ok (fg ρ) := ⟨by kernel_rfl, fun p v kn kx => by kernel_rfl⟩
theorem Tz (x : Val (.pair bg (.pair aa aa))) (kA : Val aB → Val ag → Option ρ) : goC (fg ρ) (iX (fg ρ) 10) 79 [] 0 0 (preC 7 cZ) { t := dl [bg, aa, aa] x ++ List.replicate 127 .any, h := [] } (matK pV 0 gV kB kA) = Ad x.1 x.2.1 x.2.2 kA := by kernel_rfl
theorem Wt (p : Val aB) (v : Val ag) (x : Val br) (kk : Val aB → Val (.pair tI (.pair tI (.pair ac (.pair aa (.pair af (.pair ab (.pair aa (.pair tI (.pair tI (.pair ac (.pair aa (.pair af (.pair ab (.pair aa (.pair tI (.pair tI (.pair ac (.pair aa (.pair af (.pair ab (.pair aa (.pair aj (.pair aj (.pair ac ar)))))))))))))))))))))))) → Option ρ) : goC (cR ρ) (iX (cR ρ) 10) 79 [] 9 4 (rfA (rfC 7 cZ)) { t := upd (ig pV gV kB p v).t 60 (.agg (flat br x)), h := (ig pV gV kB p v).h } (matK Hn 9 gV vL kk) = kk p (yh v x) := by kernel_rfl
theorem Ws (p : Val aB) (v : Val ag) (x : Val br) (kk : Val aB → Val ag → Option ρ) : goC (cR ρ) (iX (cR ρ) 10) 79 [] 9 4 (rfB (rfC 7 cZ)) (ig Hn gV vL p (yh v x)) (matK pV 9 gV kB kk) = ca (bZ ((List.length (rf v)) + (List.length [x]))) (kk p (cY v (rf v ++ [x]))) := by kernel_rfl
theorem QU (p : Val aB) (v : Val ag) (k : Val ai → Option ρ) : goC (cR ρ) (iX (cR ρ) 10) 79 [] 0 0 (postC 7 cZ) (ig pV gV kB p v) (matR nr 0 iD k) = lv p v (fun y => k (jm y)) := by kernel_rfl
theorem Tx (y : Val bg) : m5 Tryz.prog Tryz.f79 (ig nr [] iD () (jm y)) = some (enc bg y) := by kernel_rfl
theorem Wr : rfC 7 cZ = Code.block 4 (Code.rangeFunc (.tmp 59) #[60] (rfA (rfC 7 cZ)) (rfB (rfC 7 cZ))) := by kernel_rfl
theorem Ac : MQ 7 cZ = true := by kernel_rfl
theorem oq : Tryz.f79.body = some cZ := by kernel_rfl
theorem Kj : (ov ρ).Ok (cR ρ) := ⟨by kernel_rfl, fun p v kn kx => by kernel_rfl⟩
theorem Ki : (ou ρ).Ok (cR ρ) := ⟨by kernel_rfl, fun p v kn kx => by kernel_rfl⟩
theorem Kh : (ot ρ).Ok (cR ρ) := ⟨by kernel_rfl, fun p v kn kx => by kernel_rfl⟩
end Go.Proofs.ZzM
end
