/- lemmas -/
import Derived.Test.YthhhehllmdfhiaaGreatMdMA
set_option linter.all false
set_option linter.unusedSectionVars false
set_option linter.unusedVariables false
set_option linter.unusedSimpArgs false
noncomputable section
variable {ρ : Type}
set_option maxRecDepth 100000
namespace Go.Proofs.ZzM
open Go Go.Am
theorem IP (x : Val bm) (k : Bool → Option ρ) :
    dJ (C9 ρ) 29 (dj [bm] x) (fun h v => aZ (dz [.bool] h v) k) = Bt x k := by kernel_rfl
theorem IO : (yJ ρ).Ok (Bs ρ) := ⟨by kernel_rfl, fun p v kn kx => by kernel_rfl⟩
theorem Pm (x : Val ba) (k : Bool → Option ρ) :
    dJ (Bs ρ) 13 (dj [ba] x) (fun h v => aZ (dz [.bool] h v) k) = L3 x k := by kernel_rfl
theorem JG : (zX ρ).Ok (vh ρ) := ⟨by kernel_rfl, fun p v kn kx => by kernel_rfl⟩
theorem JF : (zW ρ).Ok (vh ρ) := ⟨by kernel_rfl, fun p v kn kx => by kernel_rfl⟩
theorem P1 (x : Val (.pair ba (.pair bj aY))) (k : Int → Option ρ) :
    dJ (vh ρ) 54 (dj [ba, bj, tI, tI] x) (fun h v => aZ (dz [tI] h v) k) = M6 x.1 x.2.1 x.2.2.1 x.2.2.2 k := by kernel_rfl
theorem ju : (fN ρ).Ok (ee ρ) := ⟨by kernel_rfl, fun p v kn kx => by kernel_rfl⟩
theorem kd (x : Val aS) (k : Int → Option ρ) :
    dJ (ee ρ) 130 (dj [aa, aY] x) (fun h v => aZ (dz [tI] h v) k) = eV x.1 x.2 k := by kernel_rfl
theorem EA (x : Val (.pair aO aB)) (k : Int → Option ρ) :
    dJ (wA ρ) 87 (dj [aO, ae, tI] x) (fun h v => aZ (dz [tI] h v) k) = tU x.1 x.2.1 x.2.2 k := by kernel_rfl
theorem vJ (x : Val (.pair ao ae)) (k : Val aY → Option ρ) :
    dJ (od ρ) 224 (dj [ao, ae] x) (fun h v => aZ (dz [aY] h v) k) = lI x.1 x.2 k := by kernel_rfl
theorem GM : (ww ρ).Ok (xz ρ) := ⟨by kernel_rfl, fun p v kn kx => by kernel_rfl⟩
theorem MK (x : Val aa) (k : Int → Option ρ) :
    dJ (xz ρ) 227 (dj [aa] x) (fun h v => aZ (dz [tI] h v) k) = GN x k := by kernel_rfl
theorem GO (x : Val aY) (k : Val jk → Option ρ) :
    dJ (zJ ρ) 277 (dj [tI, tI] x) (fun h v => aZ (dz [aY, tI] h v) k) = xA x.1 x.2 k := by kernel_rfl
theorem R3 (x : Val cd) (k : Val jk → Option ρ) :
    dJ (PR ρ) 262 (dj [aY, aY] x) (fun h v => aZ (dz [aY, tI] h v) k) = R4 x.1 x.2 k := by kernel_rfl
theorem Cc (x : Val cd) (k : Val aY → Option ρ) :
    dJ (tS ρ) 225 (dj [aY, aY] x) (fun h v => aZ (dz [aY] h v) k) = qS x.1 x.2 k := by kernel_rfl
theorem R1 (x : Val cd) (k : Int → Option ρ) :
    dJ (PP ρ) 287 (dj [aY, aY] x) (fun h v => aZ (dz [tI] h v) k) = R2 x.1 x.2 k := by kernel_rfl
theorem zM (x : Val cd) (k : Bool → Option ρ) :
    dJ (sh ρ) 278 (dj [cd] x) (fun h v => aZ (dz [.bool] h v) k) = oO x k := by kernel_rfl
theorem R5 (x : Val cd) (k : Val jk → Option ρ) :
    dJ (PT ρ) 281 (dj [aY, aY] x) (fun h v => aZ (dz [aY, tI] h v) k) = R6 x.1 x.2 k := by kernel_rfl
theorem MP (x : Val (.pair cd aY)) (k : Val VP → Option ρ) :
    dJ (xB ρ) 263 (dj [cd, aY] x) (fun h v => aZ (dz [cd, tI] h v) k) = GX x.1 x.2 k := by kernel_rfl
theorem Cb (x : Val cd) (k : Val cd → Option ρ) :
    dJ (tR ρ) 226 (dj [aY, aY] x) (fun h v => aZ (dz [cd] h v) k) = qR x.1 x.2 k := by kernel_rfl
theorem JM (x : Val aC) (k : Val cd → Option ρ) :
    dJ (DE ρ) 171 (dj [ba, bm] x) (fun h v => aZ (dz [cd] h v) k) = Cf x.1 x.2 k := by kernel_rfl
theorem Ng (x : Val aC) (k : Val aY → Option ρ) :
    dJ (Hg ρ) 172 (dj [ba, bm] x) (fun h v => aZ (dz [aY] h v) k) = Hj x.1 x.2 k := by kernel_rfl
theorem MN (x : Val aY) (k : Int → Option ρ) :
    dJ (GR ρ) 228 (dj [tI, tI] x) (fun h v => aZ (dz [tI] h v) k) = GS x.1 x.2 k := by kernel_rfl
theorem PV (x : Val aY) (k : Val aY → Option ρ) :
    dJ (KI ρ) 173 (dj [aY] x) (fun h v => aZ (dz [tI, tI] h v) k) = MR x k := by kernel_rfl
theorem MQ (x : Val aY) (k : Val aY → Option ρ) :
    dJ (GZ ρ) 174 (dj [aY] x) (fun h v => aZ (dz [tI, tI] h v) k) = G0 x k := by kernel_rfl
theorem PY (x : Val aC) (k : Val aY → Option ρ) :
    dJ (KJ ρ) 200 (dj [ba, bm] x) (fun h v => aZ (dz [aY] h v) k) = MV x.1 x.2 k := by kernel_rfl
theorem JD : (zU ρ).Ok (pO ρ) := ⟨by kernel_rfl, fun p v kn kx => by kernel_rfl⟩
theorem JE : (zV ρ).Ok (pO ρ) := ⟨by kernel_rfl, fun p v kn kx => by kernel_rfl⟩
theorem JC : (zT ρ).Ok (pO ρ) := ⟨by kernel_rfl, fun p v kn kx => by kernel_rfl⟩
theorem P0 (x : Val ba) (k : (Val aO) → Option ρ) :
    dJ (pO ρ) 62 (dj [ba] x) (fun h v => aZ (dz [aO] h v) k) = M3 x k := by kernel_rfl
theorem JS (x : Val ba) (k : (Val (.pair bo (.pair aa tI))) → Option ρ) :
    dJ (DI ρ) 20 (dj [ba] x) (fun h v => aZ (dz [bo, aa, tI] h v) k) = Cj x k := by kernel_rfl
theorem Nu (x : Val aK) (k : Val aY → Option ρ) :
    dJ (Hn ρ) 60 (dj [ba, aY] x) (fun h v => aZ (dz [tI, tI] h v) k) = Ho x.1 x.2 k := by kernel_rfl
theorem F2 (x : Val aJ) (k : Int → Option ρ) :
    dJ (yR ρ) 55 (dj [au, aY] x) (fun h v => aZ (dz [tI] h v) k) = xm x.1 x.2 k := by kernel_rfl
theorem PE (x : Val (.pair bo tI)) (k : Bool → Option ρ) :
    dJ (KB ρ) 134 (dj [bo, tI] x) (fun h v => aZ (dz [.bool] h v) k) = MC x.1 x.2 k := by kernel_rfl
theorem GD : (wp ρ).Ok (xy ρ) := ⟨by kernel_rfl, fun p v kn kx => by kernel_rfl⟩
theorem MH (x : Val bo) (k : Val aY → Option ρ) :
    dJ (xy ρ) 133 (dj [bo] x) (fun h v => aZ (dz [tI, tI] h v) k) = GE x k := by kernel_rfl
theorem zx : (pL ρ).Ok (fF ρ) := ⟨by kernel_rfl, fun p v kn kx => by kernel_rfl⟩
theorem zw : (pK ρ).Ok (fF ρ) := ⟨by kernel_rfl, fun p v kn kx => by kernel_rfl⟩
theorem zt : (pI ρ).Ok (fF ρ) := ⟨by kernel_rfl, fun p v kn kx => by kernel_rfl⟩
theorem zu : (pJ ρ).Ok (fF ρ) := ⟨by kernel_rfl, fun p v kn kx => by kernel_rfl⟩
theorem zr : (pH ρ).Ok (fF ρ) := ⟨by kernel_rfl, fun p v kn kx => by kernel_rfl⟩
theorem Eo (x : Val (.pair bo aj)) (k : (Val (.pair ae .bool)) → Option ρ) :
    dJ (fF ρ) 135 (dj [bo, aj] x) (fun h v => aZ (dz [ae, .bool] h v) k) = tF x.1 x.2 k := by kernel_rfl
theorem Gv : (wj ρ).Ok (xx ρ) := ⟨by kernel_rfl, fun p v kn kx => by kernel_rfl⟩
theorem MF (x : Val aU) (k : Int → Option ρ) :
    dJ (xx ρ) 63 (dj [bo, ae] x) (fun h v => aZ (dz [tI] h v) k) = Gw x.1 x.2 k := by kernel_rfl
theorem Ew : (tO ρ).Ok (g9 ρ) := ⟨by kernel_rfl, fun p v kn kx => by kernel_rfl⟩
theorem Eu : (tN ρ).Ok (g9 ρ) := ⟨by kernel_rfl, fun p v kn kx => by kernel_rfl⟩
theorem Et : (tM ρ).Ok (g9 ρ) := ⟨by kernel_rfl, fun p v kn kx => by kernel_rfl⟩
theorem Er : (tJ ρ).Ok (g9 ρ) := ⟨by kernel_rfl, fun p v kn kx => by kernel_rfl⟩
theorem Es : (tK ρ).Ok (g9 ρ) := ⟨by kernel_rfl, fun p v kn kx => by kernel_rfl⟩
theorem Jj (x : Val (.pair bo (.pair aj tI))) (k : (Val ae) → Option ρ) :
    dJ (g9 ρ) 64 (dj [bo, aj, tI] x) (fun h v => aZ (dz [ae] h v) k) = B0 x.1 x.2.1 x.2.2 k := by kernel_rfl
theorem MJ (x : Val aR) (k : Val aY → Option ρ) :
    dJ (GJ ρ) 89 (dj [bo, tI, tI] x) (fun h v => aZ (dz [tI, tI] h v) k) = GK x.1 x.2.1 x.2.2 k := by kernel_rfl
theorem yQ (x : Val aJ) (k : Int → Option ρ) :
    dJ (rS ρ) 56 (dj [au, tI, tI] x) (fun h v => aZ (dz [tI] h v) k) = oD x.1 x.2.1 x.2.2 k := by kernel_rfl
theorem yP (x : Val aJ) (k : Int → Option ρ) :
    dJ (rR ρ) 121 (dj [au, aY] x) (fun h v => aZ (dz [tI] h v) k) = oC x.1 x.2 k := by kernel_rfl
theorem tg (x : Val aJ) (k : Int → Option ρ) :
    dJ (mR ρ) 122 (dj [au, aY] x) (fun h v => aZ (dz [tI] h v) k) = ki x.1 x.2 k := by kernel_rfl
theorem tf (x : Val aJ) (k : Val aY → Option ρ) :
    dJ (iX ρ) 51 (dj [au, aY] x) (fun h v => aZ (dz [aY] h v) k) = kh x.1 x.2 k := by kernel_rfl
theorem JU : (Ao ρ).Ok (Ck ρ) := ⟨by kernel_rfl, fun p v kn kx => by kernel_rfl⟩
theorem Qb (x : Val aK) (k : (Val aI) → Option ρ) :
    dJ (Ck ρ) 61 (dj [ba, aY] x) (fun h v => aZ (dz [ba, tI] h v) k) = Nt x.1 x.2 k := by kernel_rfl
theorem zB (x : Val bo) (k : (Val aP) → Option ρ) :
    dJ (se ρ) 123 (dj [bo] x) (fun h v => aZ (dz [.bool, tI] h v) k) = oL x k := by kernel_rfl
theorem zn : (pE ρ).Ok (oG ρ) := ⟨by kernel_rfl, fun p v kn kx => by kernel_rfl⟩
theorem Ei (x : Val aK) (k : Val jk → Option ρ) :
    dJ (oG ρ) 15 (dj [ba, aY] x) (fun h v => aZ (dz [aY, tI] h v) k) = tz x.1 x.2 k := by kernel_rfl
theorem BP : (sa ρ).Ok (qJ ρ) := ⟨by kernel_rfl, fun p v kn kx => by kernel_rfl⟩
theorem Gl (x : Val (.pair ba cd)) (k : Val jk → Option ρ) :
    dJ (qJ ρ) 17 (dj [ba, aY, aY] x) (fun h v => aZ (dz [aY, tI] h v) k) = xv x.1 x.2.1 x.2.2 k := by kernel_rfl
theorem JV (x : Val (.pair ae ae)) (k : (Val (.pair ae aB)) → Option ρ) :
    dJ (DM ρ) 129 (dj [ae, ae] x) (fun h v => aZ (dz [ae, ae, tI] h v) k) = Cl x.1 x.2 k := by kernel_rfl
theorem Pn (x : Val aB) (k : Bool → Option ρ) :
    dJ (KA ρ) 57 (dj [ae, tI] x) (fun h v => aZ (dz [.bool] h v) k) = L5 x.1 x.2 k := by kernel_rfl
theorem Mk (x : Val tI) (k : Bool → Option ρ) :
    dJ (F8 ρ) 58 (dj [tI] x) (fun h v => aZ (dz [.bool] h v) k) = F9 x k := by kernel_rfl
theorem F3 : (vX ρ).Ok (xn ρ) := ⟨by kernel_rfl, fun p v kn kx => by kernel_rfl⟩
theorem Mi (x : Val (.pair tI am)) (k : (Val aa) → Option ρ) :
    dJ (xn ρ) 59 (dj [tI, am] x) (fun h v => aZ (dz [aa] h v) k) = F4 x.1 x.2 k := by kernel_rfl
theorem Jd : (zl ρ).Ok (ve ρ) := ⟨by kernel_rfl, fun p v kn kx => by kernel_rfl⟩
theorem Jc : (zk ρ).Ok (ve ρ) := ⟨by kernel_rfl, fun p v kn kx => by kernel_rfl⟩
theorem PA (x : Val (.pair ba ax)) (k : Val jk → Option ρ) :
    dJ (ve ρ) 18 (dj [ba, tI, ae] x) (fun h v => aZ (dz [aY, tI] h v) k) = Mx x.1 x.2.1 x.2.2 k := by kernel_rfl
theorem F0 (x : Val cd) (k : Int → Option ρ) :
    dJ (yO ρ) 69 (dj [aY, aY] x) (fun h v => aZ (dz [tI] h v) k) = xj x.1 x.2 k := by kernel_rfl
theorem Gf : (wh ρ).Ok (xt ρ) := ⟨by kernel_rfl, fun p v kn kx => by kernel_rfl⟩
theorem My (x : Val (.pair ba cd)) (k : Val aY → Option ρ) :
    dJ (xt ρ) 25 (dj [ba, aY, aY] x) (fun h v => aZ (dz [tI, tI] h v) k) = Gg x.1 x.2.1 x.2.2 k := by kernel_rfl
theorem JR : (Ak ρ).Ok (Ci ρ) := ⟨by kernel_rfl, fun p v kn kx => by kernel_rfl⟩
theorem P8 (x : Val aC) (k : (Val aI) → Option ρ) :
    dJ (Ci ρ) 41 (dj [ba, bm] x) (fun h v => aZ (dz [ba, tI] h v) k) = No x.1 x.2 k := by kernel_rfl
theorem MU (x : Val (.pair ba (.pair bm aY))) (k : Val jk → Option ρ) :
    dJ (G3 ρ) 90 (dj [ba, bm, aY] x) (fun h v => aZ (dz [aY, tI] h v) k) = G4 x.1 x.2.1 x.2.2 k := by kernel_rfl
theorem Hm (x : Val aC) (k : Val jk → Option ρ) :
    dJ (Al ρ) 40 (dj [ba, bm] x) (fun h v => aZ (dz [aY, tI] h v) k) = xL x.1 x.2 k := by kernel_rfl
theorem MT (x : Val aI) (k : (Val (.pair bm tI)) → Option ρ) :
    dJ (G1 ρ) 205 (dj [ba, tI] x) (fun h v => aZ (dz [bm, tI] h v) k) = G2 x.1 x.2 k := by kernel_rfl
theorem P9 (x : Val aI) (k : Val jk → Option ρ) :
    dJ (KK ρ) 142 (dj [ba, tI] x) (fun h v => aZ (dz [aY, tI] h v) k) = Nq x.1 x.2 k := by kernel_rfl
theorem Ee (x : Val (.pair ae (.pair au (.ptr bm)))) (k : Int → Option ρ) :
    dJ (wa ρ) 143 (dj [ae, au, (.ptr bm)] x) (fun h v => aZ (dz [tI] h v) k) = tm x.1 x.2.1 x.2.2 k := by kernel_rfl
theorem Ed (x : Val (.pair tI (.pair tI (.pair au (.pair (.ptr tI) (.pair aM (.ptr tI))))))) (k : Val ci → Option ρ) :
    dJ (vZ ρ) 144 (dj [tI, tI, au, (.ptr tI), aM, (.ptr tI)] x) (fun h v => aZ (dz [ci] h v) k) = tk x.1 x.2.1 x.2.2.1 x.2.2.2.1 x.2.2.2.2.1 x.2.2.2.2.2 k := by kernel_rfl
theorem Ec : (tj ρ).Ok (nN ρ) := ⟨by kernel_rfl, fun p v kn kx => by kernel_rfl⟩
theorem I5 (x : Val (.pair au aQ)) (k : (Val (.pair eP tI)) → Option ρ) :
    dJ (nN ρ) 71 (dj [au, aY, bm] x) (fun h v => aZ (dz [eP, tI] h v) k) = Bz x.1 x.2.1 x.2.2 k := by kernel_rfl
theorem BA (x : Val ci) (k : (Val ae) → Option ρ) :
    dJ (tp ρ) 95 (dj [ci] x) (fun h v => aZ (dz [ae] h v) k) = qA x k := by kernel_rfl
theorem I6 (x : Val (.pair ci tI)) (k : Int → Option ρ) :
    dJ (Dc ρ) 177 (dj [ci, tI] x) (fun h v => aZ (dz [tI] h v) k) = BC x.1 x.2 k := by kernel_rfl
theorem yM (x : Val (.pair eP tI)) (k : Val aY → Option ρ) :
    dJ (rP ρ) 99 (dj [eP, tI] x) (fun h v => aZ (dz [aY] h v) k) = oA x.1 x.2 k := by kernel_rfl
theorem vF : (mP ρ).Ok (iN ρ) := ⟨by kernel_rfl, fun p v kn kx => by kernel_rfl⟩
theorem vG : (mQ ρ).Ok (iN ρ) := ⟨by kernel_rfl, fun p v kn kx => by kernel_rfl⟩
theorem yN (x : Val (.pair eP ae)) (k : (Val ae) → Option ρ) :
    dJ (iN ρ) 101 (dj [eP, ae] x) (fun h v => aZ (dz [ae] h v) k) = oB x.1 x.2 k := by kernel_rfl
theorem ta : (lP ρ).Ok (kg ρ) := ⟨by kernel_rfl, fun p v kn kx => by kernel_rfl⟩
theorem xg (x : Val eP) (k : Int → Option ρ) :
    dJ (kg ρ) 72 (dj [eP] x) (fun h v => aZ (dz [tI] h v) k) = mO x k := by kernel_rfl
theorem Gc : (wd ρ).Ok (xq ρ) := ⟨by kernel_rfl, fun p v kn kx => by kernel_rfl⟩
theorem Ms (x : Val (.pair ba aQ)) (k : Val aY → Option ρ) :
    dJ (xq ρ) 31 (dj [ba, aY, bm] x) (fun h v => aZ (dz [tI, tI] h v) k) = Gd x.1 x.2.1 x.2.2 k := by kernel_rfl
theorem BX : (sd ρ).Ok (qL ρ) := ⟨by kernel_rfl, fun p v kn kx => by kernel_rfl⟩
theorem Gn (x : Val aU) (k : Int → Option ρ) :
    dJ (qL ρ) 145 (dj [bo, ae] x) (fun h v => aZ (dz [tI] h v) k) = xw x.1 x.2 k := by kernel_rfl
theorem Jh : (zq ρ).Ok (BQ ρ) := ⟨by kernel_rfl, fun p v kn kx => by kernel_rfl⟩
theorem PD (x : Val (.pair bo ax)) (k : (Val (.pair tI (.pair tI .bool))) → Option ρ) :
    dJ (BQ ρ) 146 (dj [bo, tI, ae] x) (fun h v => aZ (dz [tI, tI, .bool] h v) k) = MB x.1 x.2.1 x.2.2 k := by kernel_rfl
theorem zF (x : Val (.pair bo (.pair tI ax))) (k : Val aY → Option ρ) :
    dJ (sg ρ) 76 (dj [bo, tI, tI, ae] x) (fun h v => aZ (dz [tI, tI] h v) k) = oN x.1 x.2.1 x.2.2.1 x.2.2.2 k := by kernel_rfl
theorem BL (x : Val fK) (k : Int → Option ρ) :
    dJ (tB ρ) 33 (dj [fK] x) (fun h v => aZ (dz [tI] h v) k) = qH x k := by kernel_rfl
theorem zE (x : Val aU) (k : Int → Option ρ) :
    dJ (sf ρ) 86 (dj [bo, ae] x) (fun h v => aZ (dz [tI] h v) k) = oM x.1 x.2 k := by kernel_rfl
theorem zp (x : Val fK) (k : Int → Option ρ) :
    dJ (rX ρ) 39 (dj [fK] x) (fun h v => aZ (dz [tI] h v) k) = oH x k := by kernel_rfl
theorem iV : (fh ρ).Ok (dK ρ) := ⟨by kernel_rfl, fun p v kn kx => by kernel_rfl⟩
theorem jw (x : Val (.pair ac bj)) (k : Int → Option ρ) :
    dJ (dK ρ) 254 (dj [ac, bj] x) (fun h v => aZ (dz [tI] h v) k) = ej x.1 x.2 k := by kernel_rfl
theorem iG (x : Val (.pair ac bj)) (k : Bool → Option ρ) :
    dJ (fj ρ) 210 (dj [ac, bj] x) (fun h v => aZ (dz [.bool] h v) k) = dF x.1 x.2 k := by kernel_rfl
theorem ka : (gh ρ).Ok (eT ρ) := ⟨by kernel_rfl, fun p v kn kx => by kernel_rfl⟩
theorem lF (x : Val aS) (k : Int → Option ρ) :
    dJ (eT ρ) 256 (dj [aa, aY] x) (fun h v => aZ (dz [tI] h v) k) = fE x.1 x.2 k := by kernel_rfl
theorem jT (x : Val aS) (k : Bool → Option ρ) :
    dJ (gi ρ) 213 (dj [aa, aY] x) (fun h v => aZ (dz [.bool] h v) k) = ew x.1 x.2 k := by kernel_rfl
theorem jv : (fO ρ).Ok (eh ρ) := ⟨by kernel_rfl, fun p v kn kx => by kernel_rfl⟩
theorem ke (x : Val (.pair af dr)) (k : Int → Option ρ) :
    dJ (eh ρ) 258 (dj [af, dr] x) (fun h v => aZ (dz [tI] h v) k) = eW x.1 x.2 k := by kernel_rfl
theorem jj (x : Val (.pair af dr)) (k : Bool → Option ρ) :
    dJ (fQ ρ) 216 (dj [af, dr] x) (fun h v => aZ (dz [.bool] h v) k) = dR x.1 x.2 k := by kernel_rfl
theorem I3 : (za ρ).Ok (fo ρ) := ⟨by kernel_rfl, fun p v kn kx => by kernel_rfl⟩
theorem I0 : (yY ρ).Ok (fo ρ) := ⟨by kernel_rfl, fun p v kn kx => by kernel_rfl⟩
theorem IZ : (yX ρ).Ok (fo ρ) := ⟨by kernel_rfl, fun p v kn kx => by kernel_rfl⟩
theorem I1 : (yZ ρ).Ok (fo ρ) := ⟨by kernel_rfl, fun p v kn kx => by kernel_rfl⟩
theorem I2 : (y0 ρ).Ok (fo ρ) := ⟨by kernel_rfl, fun p v kn kx => by kernel_rfl⟩
theorem IY : (yW ρ).Ok (fo ρ) := ⟨by kernel_rfl, fun p v kn kx => by kernel_rfl⟩
theorem IX : (yV ρ).Ok (fo ρ) := ⟨by kernel_rfl, fun p v kn kx => by kernel_rfl⟩
theorem IW : (yU ρ).Ok (fo ρ) := ⟨by kernel_rfl, fun p v kn kx => by kernel_rfl⟩
theorem IV : (yT ρ).Ok (fo ρ) := ⟨by kernel_rfl, fun p v kn kx => by kernel_rfl⟩
theorem IU : (yS ρ).Ok (fo ρ) := ⟨by kernel_rfl, fun p v kn kx => by kernel_rfl⟩
theorem Po (x : Val (.pair ba ba)) (k : Bool → Option ρ) :
    dJ (fo ρ) 77 (dj [ba, ba] x) (fun h v => aZ (dz [.bool] h v) k) = Mh x.1 x.2 k := by kernel_rfl
theorem Jb (x : Val (.pair ba fK)) (k : (Val aP) → Option ρ) :
    dJ (Di ρ) 35 (dj [ba, fK] x) (fun h v => aZ (dz [.bool, tI] h v) k) = BF x.1 x.2 k := by kernel_rfl
theorem RX : (KG ρ).Ok (BZ ρ) := ⟨by kernel_rfl, fun p v kn kx => by kernel_rfl⟩
theorem RV : (KD ρ).Ok (BZ ρ) := ⟨by kernel_rfl, fun p v kn kx => by kernel_rfl⟩
theorem RU : (KC ρ).Ok (BZ ρ) := ⟨by kernel_rfl, fun p v kn kx => by kernel_rfl⟩
theorem RW : (KE ρ).Ok (BZ ρ) := ⟨by kernel_rfl, fun p v kn kx => by kernel_rfl⟩
theorem WF (x : Val aR) (k : (Val am) → Option ρ) :
    dJ (BZ ρ) 156 (dj [bo, tI, tI] x) (fun h v => aZ (dz [am] h v) k) = Gp x.1 x.2.1 x.2.2 k := by kernel_rfl
theorem GB : (wo ρ).Ok (iZ ρ) := ⟨by kernel_rfl, fun p v kn kx => by kernel_rfl⟩
theorem Gx : (wk ρ).Ok (iZ ρ) := ⟨by kernel_rfl, fun p v kn kx => by kernel_rfl⟩
theorem Gy : (wl ρ).Ok (iZ ρ) := ⟨by kernel_rfl, fun p v kn kx => by kernel_rfl⟩
theorem Gz : (wm ρ).Ok (iZ ρ) := ⟨by kernel_rfl, fun p v kn kx => by kernel_rfl⟩
theorem GA : (wn ρ).Ok (iZ ρ) := ⟨by kernel_rfl, fun p v kn kx => by kernel_rfl⟩
theorem MG (x : Val bo) (k : (Val aB) → Option ρ) :
    dJ (iZ ρ) 78 (dj [bo] x) (fun h v => aZ (dz [ae, tI] h v) k) = GC x k := by kernel_rfl
theorem Bw : (rQ ρ).Ok (qx ρ) := ⟨by kernel_rfl, fun p v kn kx => by kernel_rfl⟩
theorem F1 (x : Val (.pair ba ae)) (k : (Val aa) → Option ρ) :
    dJ (qx ρ) 80 (dj [ba, ae] x) (fun h v => aZ (dz [aa] h v) k) = xl x.1 x.2 k := by kernel_rfl
theorem Mz (x : Val ba) (k : (Val (.pair fK tI)) → Option ρ) :
    dJ (Gi ρ) 36 (dj [ba] x) (fun h v => aZ (dz [fK, tI] h v) k) = Gj x k := by kernel_rfl
theorem BI (x : Val tI) (k : Int → Option ρ) :
    dJ (tv ρ) 96 (dj [tI] x) (fun h v => aZ (dz [tI] h v) k) = qE x k := by kernel_rfl
theorem BB (x : Val (.pair ci tI)) (k : (Val ae) → Option ρ) :
    dJ (tq ρ) 97 (dj [ci, tI] x) (fun h v => aZ (dz [ae] h v) k) = qB x.1 x.2 k := by kernel_rfl
theorem zi : (((ov (cu ρ).P 50).elim [] (bM 0)).filter fun y => Nat.beq y.1 0).length = 1 := by kernel_rfl
theorem zj (p : Val aq) (v : Val ay) (kn : Val aq → Val ay → Option ρ) (kx : (i : Nat) → Val aq → Val (tyL (fq.zs i)) → Option ρ) :
    goC (cu ρ) (iL (cu ρ) (10 - 2 / 2)) 50 [1, 3] 5 0 (DN (ov (cu ρ).P 50) 0) (gX fq.head fq.cs fq.vs p v) (Oo fq kn kx) = (lH ρ).bF p v (kn p) (fun i => kx i p) := by kernel_rfl
theorem BH : (lH ρ).Ok (cu ρ) := ⟨zi, zj⟩
theorem zg : (((ov (cu ρ).P 178).elim [] (bM 0)).filter fun y => Nat.beq y.1 0).length = 1 := by kernel_rfl
theorem zh (p : Val ak) (v : Val tI) (kn : Val ak → Val tI → Option ρ) (kx : (i : Nat) → Val ak → Val (tyL (fp.zs i)) → Option ρ) :
    goC (cu ρ) (iL (cu ρ) (10 - 4 / 2)) 178 [18, 4, 1, 2] 12 0 (DN (ov (cu ρ).P 178) 0) (gX fp.head fp.cs fp.vs p v) (Oo fp kn kx) = (lG ρ).bF p v (kn p) (fun i => kx i p) := by kernel_rfl
theorem BG : (lG ρ).Ok (cu ρ) := ⟨zg, zh⟩
theorem Ge (x : Val (.pair ba (.pair aY aQ))) (k : (Val aP) → Option ρ) :
    dJ (qD ρ) 42 (dj [ba, aY, aY, bm] x) (fun h v => aZ (dz [.bool, tI] h v) k) = xr x.1 x.2.1 x.2.2.1 x.2.2.2 k := by kernel_rfl
theorem Ea (x : Unit) (k : Val ba → Option ρ) :
    dJ (vV ρ) 48 (dj [] x) (fun h v => aZ (dz [ba] h v) k) = s7 k := by kernel_rfl
theorem GH : (wu ρ).Ok (mX ρ) := ⟨by kernel_rfl, fun p v kn kx => by kernel_rfl⟩
theorem GF : (wq ρ).Ok (mX ρ) := ⟨by kernel_rfl, fun p v kn kx => by kernel_rfl⟩
theorem GG : (wt ρ).Ok (mX ρ) := ⟨by kernel_rfl, fun p v kn kx => by kernel_rfl⟩
theorem MI (x : Val aR) (k : (Val aB) → Option ρ) :
    dJ (mX ρ) 120 (dj [bo, tI, tI] x) (fun h v => aZ (dz [ae, tI] h v) k) = GI x.1 x.2.1 x.2.2 k := by kernel_rfl
theorem BO (x : Val (.pair au (.pair aM (.ptr .bool)))) (k : (Val ae) → Option ρ) :
    dJ (tD ρ) 119 (dj [au, aM, (.ptr .bool)] x) (fun h v => aZ (dz [ae] h v) k) = qI x.1 x.2.1 x.2.2 k := by kernel_rfl
theorem BN : (rZ ρ).Ok (jB ρ) := ⟨by kernel_rfl, fun p v kn kx => by kernel_rfl⟩
theorem BM : (rY ρ).Ok (jB ρ) := ⟨by kernel_rfl, fun p v kn kx => by kernel_rfl⟩
theorem Gk (x : Val (.pair ba (.pair aY .bool))) (k : (Val (.pair fK tI)) → Option ρ) :
    dJ (jB ρ) 49 (dj [ba, aY, .bool] x) (fun h v => aZ (dz [fK, tI] h v) k) = xu x.1 x.2.1 x.2.2 k := by kernel_rfl
theorem FY (x : Unit) (k : Bool → Option ρ) :
    dJ (yI ρ) 14 (dj [] x) (fun h v => aZ (dz [.bool] h v) k) = xe k := by kernel_rfl
theorem Hk : (wE ρ).Ok (xK ρ) := ⟨by kernel_rfl, fun p v kn kx => by kernel_rfl⟩
theorem Nm (x : Val (.pair ba ax)) (k : Int → Option ρ) :
    dJ (xK ρ) 52 (dj [ba, tI, ae] x) (fun h v => aZ (dz [tI] h v) k) = Hl x.1 x.2.1 x.2.2 k := by kernel_rfl
theorem Qa (x : Val (.pair ba ci)) (k : Val aY → Option ρ) :
    dJ (KL ρ) 16 (dj [ba, tI, tI, tI] x) (fun h v => aZ (dz [tI, tI] h v) k) = Nr x.1 x.2.1 x.2.2.1 x.2.2.2 k := by kernel_rfl
theorem xf (x : Val (.pair ba (.pair tI (.pair tI (.int .u16))))) (k : Bool → Option ρ) :
    dJ (pn ρ) 3 (dj [ba, tI, tI, (.int .u16)] x) (fun h v => aZ (dz [.bool] h v) k) = mM x.1 x.2.1 x.2.2.1 x.2.2.2 k := by kernel_rfl
end Go.Proofs.ZzM
end

noncomputable section
variable {ρ : Type}
set_option maxRecDepth 100000
namespace Go.Proofs.ZzM
open Go Go.Am
theorem B9 : (si ρ).Ok (qQ ρ) := ⟨by kernel_rfl, fun p v kn kx => by kernel_rfl⟩
theorem G5 (x : Val ba) (k : (Val ao) → Option ρ) :
    dJ (qQ ρ) 53 (dj [ba] x) (fun h v => aZ (dz [ao] h v) k) = xC x k := by kernel_rfl
theorem JL (x : Val cd) (k : Bool → Option ρ) :
    dJ (DD ρ) 82 (dj [aY, tI, tI] x) (fun h v => aZ (dz [.bool] h v) k) = Ce x.1 x.2.1 x.2.2 k := by kernel_rfl
theorem Jw (x : Val ci) (k : Bool → Option ρ) :
    dJ (Dy ρ) 126 (dj [tI, tI, tI] x) (fun h v => aZ (dz [.bool] h v) k) = B8 x.1 x.2.1 x.2.2 k := by kernel_rfl
theorem Nb (x : Val tI) (k : Bool → Option ρ) :
    dJ (He ρ) 125 (dj [tI] x) (fun h v => aZ (dz [.bool] h v) k) = Hf x k := by kernel_rfl
theorem PM (x : Val tI) (k : Int → Option ρ) :
    dJ (KH ρ) 259 (dj [tI] x) (fun h v => aZ (dz [(.int .u64)] h v) k) = ML x k := by kernel_rfl
theorem MM : (Du ρ).Ok (GQ ρ) := ⟨by kernel_rfl, fun p v kn kx => by kernel_rfl⟩
theorem RZ (x : Val aT) (k : Int → Option ρ) :
    dJ (GQ ρ) 260 (dj [(.int .u64), (.int .u64)] x) (fun h v => aZ (dz [(.int .u64)] h v) k) = R0 x.1 x.2 k := by kernel_rfl
theorem MO (x : Val aY) (k : Bool → Option ρ) :
    dJ (GU ρ) 219 (dj [aY] x) (fun h v => aZ (dz [.bool] h v) k) = GV x k := by kernel_rfl
theorem Hc (x : Val bj) (k : Bool → Option ρ) :
    dJ (Aa ρ) 162 (dj [bj] x) (fun h v => aZ (dz [.bool] h v) k) = xF x k := by kernel_rfl
theorem tY : (lR ρ).Ok (kq ρ) := ⟨by kernel_rfl, fun p v kn kx => by kernel_rfl⟩
theorem xI (x : Val ba) (k : Int → Option ρ) :
    dJ (kq ρ) 83 (dj [ba] x) (fun h v => aZ (dz [tI] h v) k) = mZ x k := by kernel_rfl
theorem qt : (jW ρ).Ok (iU ρ) := ⟨by kernel_rfl, fun p v kn kx => by kernel_rfl⟩
theorem s8 (x : Val aB) (k : Int → Option ρ) :
    dJ (iU ρ) 73 (dj [ae, tI] x) (fun h v => aZ (dz [tI] h v) k) = j9 x.1 x.2 k := by kernel_rfl
theorem po (x : Val aB) (k : Bool → Option ρ) :
    dJ (jX ρ) 65 (dj [ae, tI] x) (fun h v => aZ (dz [.bool] h v) k) = iA x.1 x.2 k := by kernel_rfl
theorem JO : (Ae ρ).Ok (vj ρ) := ⟨by kernel_rfl, fun p v kn kx => by kernel_rfl⟩
theorem JN : (Ad ρ).Ok (vj ρ) := ⟨by kernel_rfl, fun p v kn kx => by kernel_rfl⟩
theorem P5 (x : Val (.pair ba bj)) (k : (Val ae) → Option ρ) :
    dJ (vj ρ) 168 (dj [ba, bj] x) (fun h v => aZ (dz [ae] h v) k) = Nj x.1 x.2 k := by kernel_rfl
theorem G7 : (wy ρ).Ok (qT ρ) := ⟨by kernel_rfl, fun p v kn kx => by kernel_rfl⟩
theorem G8 : (wz ρ).Ok (qT ρ) := ⟨by kernel_rfl, fun p v kn kx => by kernel_rfl⟩
theorem MW (x : Val ba) (k : (Val aa) → Option ρ) :
    dJ (qT ρ) 85 (dj [ba] x) (fun h v => aZ (dz [aa] h v) k) = G9 x k := by kernel_rfl
theorem zQ (x : Val (.pair ao aY)) (k : Int → Option ρ) :
    dJ (sj ρ) 164 (dj [ao, tI, tI] x) (fun h v => aZ (dz [tI] h v) k) = oP x.1 x.2.1 x.2.2 k := by kernel_rfl
theorem G6 (x : Val (.pair tI (.pair tI (.ptr ao)))) (k : Int → Option ρ) :
    dJ (zR ρ) 163 (dj [tI, tI, (.ptr ao)] x) (fun h v => aZ (dz [tI] h v) k) = xE x.1 x.2.1 x.2.2 k := by kernel_rfl
theorem xH : (oj ρ).Ok (jC ρ) := ⟨by kernel_rfl, fun p v kn kx => by kernel_rfl⟩
theorem xG : (oi ρ).Ok (jC ρ) := ⟨by kernel_rfl, fun p v kn kx => by kernel_rfl⟩
theorem Cg (x : Val aV) (k : Int → Option ρ) :
    dJ (jC ρ) 166 (dj [ba, ao, tI] x) (fun h v => aZ (dz [tI] h v) k) = re x.1 x.2.1 x.2.2 k := by kernel_rfl
theorem JI : (zZ ρ).Ok (vi ρ) := ⟨by kernel_rfl, fun p v kn kx => by kernel_rfl⟩
theorem JH : (zY ρ).Ok (vi ρ) := ⟨by kernel_rfl, fun p v kn kx => by kernel_rfl⟩
theorem P2 (x : Val (.pair ae ae)) (k : (Val ae) → Option ρ) :
    dJ (vi ρ) 88 (dj [ae, ae] x) (fun h v => aZ (dz [ae] h v) k) = M9 x.1 x.2 k := by kernel_rfl
theorem pq : (jz ρ).Ok (fT ρ) := ⟨by kernel_rfl, fun p v kn kx => by kernel_rfl⟩
theorem pp : (jy ρ).Ok (fT ρ) := ⟨by kernel_rfl, fun p v kn kx => by kernel_rfl⟩
theorem sr (x : Val am) (k : (Val ae) → Option ρ) :
    dJ (fT ρ) 94 (dj [am] x) (fun h v => aZ (dz [ae] h v) k) = gT x k := by kernel_rfl
theorem EB : (tV ρ).Ok (tW ρ) := ⟨by kernel_rfl, fun p v kn kx => by kernel_rfl⟩
theorem JJ (x : Val ae) (k : Bool → Option ρ) :
    dJ (tW ρ) 198 (dj [ae] x) (fun h v => aZ (dz [.bool] h v) k) = Cd x k := by kernel_rfl
theorem JP : (Ai ρ).Ok (Ch ρ) := ⟨by kernel_rfl, fun p v kn kx => by kernel_rfl⟩
theorem P6 (x : Val aK) (k : (Val (.pair dr .bool)) → Option ρ) :
    dJ (Ch ρ) 223 (dj [ba, tI, tI] x) (fun h v => aZ (dz [dr, .bool] h v) k) = Nl x.1 x.2.1 x.2.2 k := by kernel_rfl
theorem sF : (lh ρ).Ok (dZ ρ) := ⟨by kernel_rfl, fun p v kn kx => by kernel_rfl⟩
theorem sv : (lf ρ).Ok (dZ ρ) := ⟨by kernel_rfl, fun p v kn kx => by kernel_rfl⟩
theorem sw : (lg ρ).Ok (dZ ρ) := ⟨by kernel_rfl, fun p v kn kx => by kernel_rfl⟩
theorem su : (ld ρ).Ok (dZ ρ) := ⟨by kernel_rfl, fun p v kn kx => by kernel_rfl⟩
theorem vL (x : Val aV) (k : Int → Option ρ) :
    dJ (dZ ρ) 167 (dj [ba, ao, tI] x) (fun h v => aZ (dz [tI] h v) k) = lJ x.1 x.2.1 x.2.2 k := by kernel_rfl
theorem Mq : (Dg ρ).Ok (eX ρ) := ⟨by kernel_rfl, fun p v kn kx => by kernel_rfl⟩
theorem Mr : (Dh ρ).Ok (eX ρ) := ⟨by kernel_rfl, fun p v kn kx => by kernel_rfl⟩
theorem Mp : (Df ρ).Ok (eX ρ) := ⟨by kernel_rfl, fun p v kn kx => by kernel_rfl⟩
theorem Mo : (nS ρ).Ok (eX ρ) := ⟨by kernel_rfl, fun p v kn kx => by kernel_rfl⟩
theorem Mn : (nR ρ).Ok (eX ρ) := ⟨by kernel_rfl, fun p v kn kx => by kernel_rfl⟩
theorem Mm : (nQ ρ).Ok (eX ρ) := ⟨by kernel_rfl, fun p v kn kx => by kernel_rfl⟩
theorem RO (x : Val (.pair ba (.pair aa aa))) (kA : Val aL → Val ag → Option ρ) : goC (eX ρ) (iL (eX ρ) 10) 79 [] 0 0 (preC 7 cQ) { t := dj [ba, aa, aa] x ++ List.replicate 127 .any, h := [] } (matK pv 0 gL kp kA) = ze x.1 x.2.1 x.2.2 kA := by kernel_rfl
theorem UP (p : Val aL) (v : Val ag) (x : Val bj) (kk : Val aL → Val (.pair tI (.pair tI (.pair ac (.pair aa (.pair af (.pair ab (.pair aa (.pair tI (.pair tI (.pair ac (.pair aa (.pair af (.pair ab (.pair aa (.pair tI (.pair tI (.pair ac (.pair aa (.pair af (.pair ab (.pair aa (.pair aj (.pair aj (.pair ac ar)))))))))))))))))))))))) → Option ρ) : goC (cJ ρ) (iL (cJ ρ) 10) 79 [] 9 4 (rfA (rfC 7 cQ)) { t := upd (gX pv gL kp p v).t 60 (.agg (flat bj x)), h := (gX pv gL kp p v).h } (matK Gb 9 gL vc kk) = kk p (xp v x) := by kernel_rfl
theorem UO (p : Val aL) (v : Val ag) (x : Val bj) (kk : Val aL → Val ag → Option ρ) : goC (cJ ρ) (iL (cJ ρ) 10) 79 [] 9 4 (rfB (rfC 7 cQ)) (gX Gb gL vc p (xp v x)) (matK pv 9 gL kp kk) = ca (bW ((List.length (qC v)) + (List.length [x]))) (kk p (cO v (qC v ++ [x]))) := by kernel_rfl
theorem Pr (p : Val aL) (v : Val ag) (k : Val ai → Option ρ) : goC (cJ ρ) (iL (cJ ρ) 10) 79 [] 0 0 (postC 7 cQ) (gX pv gL kp p v) (matR mV 0 il k) = la p v (fun y => k (jb y)) := by kernel_rfl
theorem RN (y : Val ba) : mG Tryz.prog Tryz.f79 (gX mV [] il () (jb y)) = some (enc ba y) := by kernel_rfl
theorem UN : rfC 7 cQ = Code.block 4 (Code.rangeFunc (.tmp 59) #[60] (rfA (rfC 7 cQ)) (rfB (rfC 7 cQ))) := by kernel_rfl
theorem zd : Lw 7 cQ = true := by kernel_rfl
theorem nP : Tryz.f79.body = some cQ := by kernel_rfl
theorem I9 : (nS ρ).Ok (cJ ρ) := ⟨by kernel_rfl, fun p v kn kx => by kernel_rfl⟩
theorem I8 : (nR ρ).Ok (cJ ρ) := ⟨by kernel_rfl, fun p v kn kx => by kernel_rfl⟩
theorem I7 : (nQ ρ).Ok (cJ ρ) := ⟨by kernel_rfl, fun p v kn kx => by kernel_rfl⟩
end Go.Proofs.ZzM
end
