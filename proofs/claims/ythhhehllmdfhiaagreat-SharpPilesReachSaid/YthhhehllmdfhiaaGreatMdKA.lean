/- lemmas -/
import Derived.Test.YthhhehllmdfhiaaGreatMdMA
set_option linter.all false
set_option linter.unusedSectionVars false
set_option linter.unusedVariables false
set_option linter.unusedSimpArgs false
noncomputable section
variable {ρ : Type}
set_option maxRecDepth 100000
namespace Go.Proofs.ZzM
open Go Go.Am
theorem J1 (x : Val bq) (k : Bool → Option ρ) :
    dz (D7 ρ) 29 (dk [bq] x) (fun h v => bf (dv [.bool] h v) k) = Cm x k := by kernel_rfl
theorem J0 : (zH ρ).Ok (Cl ρ) := ⟨by kernel_rfl, fun p v kn kx => by kernel_rfl⟩
theorem QN (x : Val bg) (k : Bool → Option ρ) :
    dz (Cl ρ) 13 (dk [bg] x) (fun h v => bf (dv [.bool] h v) k) = Np x k := by kernel_rfl
theorem KW : (A5 ρ).Ok (vR ρ) := ⟨by kernel_rfl, fun p v kn kx => by kernel_rfl⟩
theorem KV : (A4 ρ).Ok (vR ρ) := ⟨by kernel_rfl, fun p v kn kx => by kernel_rfl⟩
theorem Rt (x : Val (.pair bg (.pair br bc))) (k : Int → Option ρ) :
    dz (vR ρ) 54 (dk [bg, br, tI, tI] x) (fun h v => bf (dv [tI] h v) k) = Ox x.1 x.2.1 x.2.2.1 x.2.2.2 k := by kernel_rfl
theorem jL : (f0 ρ).Ok (eA ρ) := ⟨by kernel_rfl, fun p v kn kx => by kernel_rfl⟩
theorem ku (x : Val aT) (k : Int → Option ρ) :
    dz (eA ρ) 130 (dk [aa, bc] x) (fun h v => bf (dv [tI] h v) k) = fc x.1 x.2 k := by kernel_rfl
theorem FF (x : Val (.pair aB az)) (k : Int → Option ρ) :
    dz (xt ρ) 87 (dk [aB, ac, tI] x) (fun h v => bf (dv [tI] h v) k) = uO x.1 x.2.1 x.2.2 k := by kernel_rfl
theorem wA (x : Val (.pair ao ac)) (k : Val bc → Option ρ) :
    dz (oD ρ) 224 (dk [ao, ac] x) (fun h v => bf (dv [bc] h v) k) = l5 x.1 x.2 k := by kernel_rfl
theorem HW : (xo ρ).Ok (yr ρ) := ⟨by kernel_rfl, fun p v kn kx => by kernel_rfl⟩
theorem N9 (x : Val aa) (k : Int → Option ρ) :
    dz (yr ρ) 227 (dk [aa] x) (fun h v => bf (dv [tI] h v) k) = HX x k := by kernel_rfl
theorem HY (x : Val bc) (k : Val jF → Option ρ) :
    dz (AM ρ) 277 (dk [tI, tI] x) (fun h v => bf (dv [bc, tI] h v) k) = yu x.1 x.2 k := by kernel_rfl
theorem TR (x : Val cg) (k : Val jF → Option ρ) :
    dz (Rj ρ) 262 (dk [bc, bc] x) (fun h v => bf (dv [bc, tI] h v) k) = TS x.1 x.2 k := by kernel_rfl
theorem C2 (x : Val cg) (k : Val bc → Option ρ) :
    dz (uL ρ) 225 (dk [bc, bc] x) (fun h v => bf (dv [bc] h v) k) = rG x.1 x.2 k := by kernel_rfl
theorem TP (x : Val cg) (k : Int → Option ρ) :
    dz (Rh ρ) 287 (dk [bc, bc] x) (fun h v => bf (dv [tI] h v) k) = TQ x.1 x.2 k := by kernel_rfl
theorem AQ (x : Val cg) (k : Bool → Option ρ) :
    dz (sZ ρ) 278 (dk [cg] x) (fun h v => bf (dv [.bool] h v) k) = pn x k := by kernel_rfl
theorem TT (x : Val cg) (k : Val jF → Option ρ) :
    dz (Rl ρ) 281 (dk [bc, bc] x) (fun h v => bf (dv [bc, tI] h v) k) = TU x.1 x.2 k := by kernel_rfl
theorem Oe (x : Val (.pair cg bc)) (k : Val Xz → Option ρ) :
    dz (yv ρ) 263 (dk [cg, bc] x) (fun h v => bf (dv [cg, tI] h v) k) = Ib x.1 x.2 k := by kernel_rfl
theorem C1 (x : Val cg) (k : Val cg → Option ρ) :
    dz (uK ρ) 226 (dk [bc, bc] x) (fun h v => bf (dv [cg] h v) k) = rE x.1 x.2 k := by kernel_rfl
theorem K5 (x : Val aG) (k : Val cg → Option ρ) :
    dz (ED ρ) 171 (dk [bg, bq] x) (fun h v => bf (dv [cg] h v) k) = C6 x.1 x.2 k := by kernel_rfl
theorem OG (x : Val aG) (k : Val bc → Option ρ) :
    dz (Iw ρ) 172 (dk [bg, bq] x) (fun h v => bf (dv [bc] h v) k) = Ix x.1 x.2 k := by kernel_rfl
theorem Oc (x : Val bc) (k : Int → Option ρ) :
    dz (H5 ρ) 228 (dk [tI, tI] x) (fun h v => bf (dv [tI] h v) k) = H6 x.1 x.2 k := by kernel_rfl
theorem Rn (x : Val bc) (k : Val bc → Option ρ) :
    dz (L3 ρ) 173 (dk [bc] x) (fun h v => bf (dv [tI, tI] h v) k) = Oh x k := by kernel_rfl
theorem Og (x : Val bc) (k : Val bc → Option ρ) :
    dz (Id ρ) 174 (dk [bc] x) (fun h v => bf (dv [tI, tI] h v) k) = Ie x k := by kernel_rfl
theorem Rq (x : Val aG) (k : Val bc → Option ρ) :
    dz (L4 ρ) 200 (dk [bg, bq] x) (fun h v => bf (dv [bc] h v) k) = Om x.1 x.2 k := by kernel_rfl
theorem KT : (A2 ρ).Ok (qm ρ) := ⟨by kernel_rfl, fun p v kn kx => by kernel_rfl⟩
theorem KU : (A3 ρ).Ok (qm ρ) := ⟨by kernel_rfl, fun p v kn kx => by kernel_rfl⟩
theorem KS : (A1 ρ).Ok (qm ρ) := ⟨by kernel_rfl, fun p v kn kx => by kernel_rfl⟩
theorem Rs (x : Val bg) (k : (Val aB) → Option ρ) :
    dz (qm ρ) 62 (dk [bg] x) (fun h v => bf (dv [aB] h v) k) = Ou x k := by kernel_rfl
theorem La (x : Val bg) (k : (Val (.pair bo (.pair aa tI))) → Option ρ) :
    dz (EH ρ) 20 (dk [bg] x) (fun h v => bf (dv [bo, aa, tI] h v) k) = Da x k := by kernel_rfl
theorem OU (x : Val aI) (k : Val bc → Option ρ) :
    dz (Iz ρ) 60 (dk [bg, bc] x) (fun h v => bf (dv [tI, tI] h v) k) = IA x.1 x.2 k := by kernel_rfl
theorem G6 (x : Val aO) (k : Int → Option ρ) :
    dz (zO ρ) 55 (dk [au, bc] x) (fun h v => bf (dv [tI] h v) k) = yf x.1 x.2 k := by kernel_rfl
theorem Q4 (x : Val (.pair bo tI)) (k : Bool → Option ρ) :
    dz (LW ρ) 134 (dk [bo, tI] x) (fun h v => bf (dv [.bool] h v) k) = NX x.1 x.2 k := by kernel_rfl
theorem HN : (xj ρ).Ok (yq ρ) := ⟨by kernel_rfl, fun p v kn kx => by kernel_rfl⟩
theorem N6 (x : Val bo) (k : Val bc → Option ρ) :
    dz (yq ρ) 133 (dk [bo] x) (fun h v => bf (dv [tI, tI] h v) k) = HO x k := by kernel_rfl
theorem Aw : (qj ρ).Ok (fQ ρ) := ⟨by kernel_rfl, fun p v kn kx => by kernel_rfl⟩
theorem Au : (qi ρ).Ok (fQ ρ) := ⟨by kernel_rfl, fun p v kn kx => by kernel_rfl⟩
theorem As : (qf ρ).Ok (fQ ρ) := ⟨by kernel_rfl, fun p v kn kx => by kernel_rfl⟩
theorem At : (qg ρ).Ok (fQ ρ) := ⟨by kernel_rfl, fun p v kn kx => by kernel_rfl⟩
theorem Ar : (qe ρ).Ok (fQ ρ) := ⟨by kernel_rfl, fun p v kn kx => by kernel_rfl⟩
theorem Fu (x : Val (.pair bo aj)) (k : (Val (.pair ac .bool)) → Option ρ) :
    dz (fQ ρ) 135 (dk [bo, aj] x) (fun h v => bf (dv [ac, .bool] h v) k) = uA x.1 x.2 k := by kernel_rfl
theorem HB : (xa ρ).Ok (yp ρ) := ⟨by kernel_rfl, fun p v kn kx => by kernel_rfl⟩
theorem N0 (x : Val aR) (k : Int → Option ρ) :
    dz (yp ρ) 63 (dk [bo, ac] x) (fun h v => bf (dv [tI] h v) k) = HC x.1 x.2 k := by kernel_rfl
theorem FA : (uG ρ).Ok (iq ρ) := ⟨by kernel_rfl, fun p v kn kx => by kernel_rfl⟩
theorem Fz : (uF ρ).Ok (iq ρ) := ⟨by kernel_rfl, fun p v kn kx => by kernel_rfl⟩
theorem Fy : (uE ρ).Ok (iq ρ) := ⟨by kernel_rfl, fun p v kn kx => by kernel_rfl⟩
theorem Fw : (uC ρ).Ok (iq ρ) := ⟨by kernel_rfl, fun p v kn kx => by kernel_rfl⟩
theorem Fx : (uD ρ).Ok (iq ρ) := ⟨by kernel_rfl, fun p v kn kx => by kernel_rfl⟩
theorem Kv (x : Val (.pair bo (.pair aj tI))) (k : (Val ac) → Option ρ) :
    dz (iq ρ) 64 (dk [bo, aj, tI] x) (fun h v => bf (dv [ac] h v) k) = CT x.1 x.2.1 x.2.2 k := by kernel_rfl
theorem N8 (x : Val aU) (k : Val bc → Option ρ) :
    dz (HU ρ) 89 (dk [bo, tI, tI] x) (fun h v => bf (dv [tI, tI] h v) k) = HV x.1 x.2.1 x.2.2 k := by kernel_rfl
theorem zN (x : Val aO) (k : Int → Option ρ) :
    dz (sL ρ) 56 (dk [au, tI, tI] x) (fun h v => bf (dv [tI] h v) k) = oZ x.1 x.2.1 x.2.2 k := by kernel_rfl
theorem zM (x : Val aO) (k : Int → Option ρ) :
    dz (sK ρ) 121 (dk [au, bc] x) (fun h v => bf (dv [tI] h v) k) = oY x.1 x.2 k := by kernel_rfl
theorem t7 (x : Val aO) (k : Int → Option ρ) :
    dz (nh ρ) 122 (dk [au, bc] x) (fun h v => bf (dv [tI] h v) k) = kB x.1 x.2 k := by kernel_rfl
theorem tZ (x : Val aO) (k : Val bc → Option ρ) :
    dz (jg ρ) 51 (dk [au, bc] x) (fun h v => bf (dv [bc] h v) k) = kz x.1 x.2 k := by kernel_rfl
theorem Lc : (Bk ρ).Ok (Db ρ) := ⟨by kernel_rfl, fun p v kn kx => by kernel_rfl⟩
theorem RB (x : Val aI) (k : (Val aM) → Option ρ) :
    dz (Db ρ) 61 (dk [bg, bc] x) (fun h v => bf (dv [bg, tI] h v) k) = OT x.1 x.2 k := by kernel_rfl
theorem AD (x : Val bo) (k : (Val aE) → Option ρ) :
    dz (sW ρ) 123 (dk [bo] x) (fun h v => bf (dv [.bool, tI] h v) k) = pk x k := by kernel_rfl
theorem Al : (p8 ρ).Ok (pb ρ) := ⟨by kernel_rfl, fun p v kn kx => by kernel_rfl⟩
theorem Fo (x : Val aI) (k : Val jF → Option ρ) :
    dz (pb ρ) 15 (dk [bg, bc] x) (fun h v => bf (dv [bc, tI] h v) k) = uq x.1 x.2 k := by kernel_rfl
theorem CH : (sS ρ).Ok (ro ρ) := ⟨by kernel_rfl, fun p v kn kx => by kernel_rfl⟩
theorem Hs (x : Val (.pair bg cg)) (k : Val jF → Option ρ) :
    dz (ro ρ) 17 (dk [bg, bc, bc] x) (fun h v => bf (dv [bc, tI] h v) k) = yn x.1 x.2.1 x.2.2 k := by kernel_rfl
theorem Ld (x : Val (.pair ac ac)) (k : (Val (.pair ac az)) → Option ρ) :
    dz (EL ρ) 129 (dk [ac, ac] x) (fun h v => bf (dv [ac, ac, tI] h v) k) = Dc x.1 x.2 k := by kernel_rfl
theorem QO (x : Val az) (k : Bool → Option ρ) :
    dz (LV ρ) 57 (dk [ac, tI] x) (fun h v => bf (dv [.bool] h v) k) = Nr x.1 x.2 k := by kernel_rfl
theorem NF (x : Val tI) (k : Bool → Option ρ) :
    dz (Hc ρ) 58 (dk [tI] x) (fun h v => bf (dv [.bool] h v) k) = He x k := by kernel_rfl
theorem G7 : (wT ρ).Ok (yg ρ) := ⟨by kernel_rfl, fun p v kn kx => by kernel_rfl⟩
theorem ND (x : Val (.pair tI am)) (k : (Val aa) → Option ρ) :
    dz (yg ρ) 59 (dk [tI, am] x) (fun h v => bf (dv [aa] h v) k) = G8 x.1 x.2 k := by kernel_rfl
theorem Ko : (Aj ρ).Ok (vN ρ) := ⟨by kernel_rfl, fun p v kn kx => by kernel_rfl⟩
theorem Kn : (Ai ρ).Ok (vN ρ) := ⟨by kernel_rfl, fun p v kn kx => by kernel_rfl⟩
theorem Q0 (x : Val (.pair bg ax)) (k : Val jF → Option ρ) :
    dz (vN ρ) 18 (dk [bg, tI, ac] x) (fun h v => bf (dv [bc, tI] h v) k) = NS x.1 x.2.1 x.2.2 k := by kernel_rfl
theorem G4 (x : Val cg) (k : Int → Option ρ) :
    dz (zL ρ) 69 (dk [bc, bc] x) (fun h v => bf (dv [tI] h v) k) = yd x.1 x.2 k := by kernel_rfl
theorem Hm : (w8 ρ).Ok (yl ρ) := ⟨by kernel_rfl, fun p v kn kx => by kernel_rfl⟩
theorem NT (x : Val (.pair bg cg)) (k : Val bc → Option ρ) :
    dz (yl ρ) 25 (dk [bg, bc, bc] x) (fun h v => bf (dv [tI, tI] h v) k) = Hn x.1 x.2.1 x.2.2 k := by kernel_rfl
theorem K9 : (Bi ρ).Ok (C9 ρ) := ⟨by kernel_rfl, fun p v kn kx => by kernel_rfl⟩
theorem Rz (x : Val aG) (k : (Val aM) → Option ρ) :
    dz (C9 ρ) 41 (dk [bg, bq] x) (fun h v => bf (dv [bg, tI] h v) k) = OO x.1 x.2 k := by kernel_rfl
theorem Ol (x : Val (.pair bg (.pair bq bc))) (k : Val jF → Option ρ) :
    dz (Ih ρ) 90 (dk [bg, bq, bc] x) (fun h v => bf (dv [bc, tI] h v) k) = Ii x.1 x.2.1 x.2.2 k := by kernel_rfl
theorem Iy (x : Val aG) (k : Val jF → Option ρ) :
    dz (Bj ρ) 40 (dk [bg, bq] x) (fun h v => bf (dv [bc, tI] h v) k) = yE x.1 x.2 k := by kernel_rfl
theorem Oj (x : Val aM) (k : (Val (.pair bq tI)) → Option ρ) :
    dz (If ρ) 205 (dk [bg, tI] x) (fun h v => bf (dv [bq, tI] h v) k) = Ig x.1 x.2 k := by kernel_rfl
theorem RA (x : Val aM) (k : Val jF → Option ρ) :
    dz (L5 ρ) 142 (dk [bg, tI] x) (fun h v => bf (dv [bc, tI] h v) k) = OQ x.1 x.2 k := by kernel_rfl
theorem Fh (x : Val (.pair ac (.pair au (.ptr bq)))) (k : Int → Option ρ) :
    dz (wW ρ) 143 (dk [ac, au, (.ptr bq)] x) (fun h v => bf (dv [tI] h v) k) = uf x.1 x.2.1 x.2.2 k := by kernel_rfl
theorem Fg (x : Val (.pair tI (.pair tI (.pair au (.pair (.ptr tI) (.pair aQ (.ptr tI))))))) (k : Val cA → Option ρ) :
    dz (wV ρ) 144 (dk [tI, tI, au, (.ptr tI), aQ, (.ptr tI)] x) (fun h v => bf (dv [cA] h v) k) = ue x.1 x.2.1 x.2.2.1 x.2.2.2.1 x.2.2.2.2.1 x.2.2.2.2.2 k := by kernel_rfl
theorem Ff : (ud ρ).Ok (og ρ) := ⟨by kernel_rfl, fun p v kn kx => by kernel_rfl⟩
theorem Kg (x : Val (.pair au aS)) (k : (Val (.pair eW tI)) → Option ρ) :
    dz (og ρ) 71 (dk [au, bc, bq] x) (fun h v => bf (dv [eW, tI] h v) k) = Cs x.1 x.2.1 x.2.2 k := by kernel_rfl
theorem Ct (x : Val cA) (k : (Val ac) → Option ρ) :
    dz (ug ρ) 95 (dk [cA] x) (fun h v => bf (dv [ac] h v) k) = rd x k := by kernel_rfl
theorem Kh (x : Val (.pair cA tI)) (k : Int → Option ρ) :
    dz (Ea ρ) 177 (dk [cA, tI] x) (fun h v => bf (dv [tI] h v) k) = Cv x.1 x.2 k := by kernel_rfl
theorem zJ (x : Val (.pair eW tI)) (k : Val bc → Option ρ) :
    dz (sI ρ) 99 (dk [eW, tI] x) (fun h v => bf (dv [bc] h v) k) = oW x.1 x.2 k := by kernel_rfl
theorem ww : (nf ρ).Ok (i7 ρ) := ⟨by kernel_rfl, fun p v kn kx => by kernel_rfl⟩
theorem wx : (ng ρ).Ok (i7 ρ) := ⟨by kernel_rfl, fun p v kn kx => by kernel_rfl⟩
theorem zK (x : Val (.pair eW ac)) (k : (Val ac) → Option ρ) :
    dz (i7 ρ) 101 (dk [eW, ac] x) (fun h v => bf (dv [ac] h v) k) = oX x.1 x.2 k := by kernel_rfl
theorem tW : (md ρ).Ok (ky ρ) := ⟨by kernel_rfl, fun p v kn kx => by kernel_rfl⟩
theorem ya (x : Val eW) (k : Int → Option ρ) :
    dz (ky ρ) 72 (dk [eW] x) (fun h v => bf (dv [tI] h v) k) = nc x k := by kernel_rfl
theorem Hj : (wY ρ).Ok (yj ρ) := ⟨by kernel_rfl, fun p v kn kx => by kernel_rfl⟩
theorem NN (x : Val (.pair bg aS)) (k : Val bc → Option ρ) :
    dz (yj ρ) 31 (dk [bg, bc, bq] x) (fun h v => bf (dv [tI, tI] h v) k) = Hk x.1 x.2.1 x.2.2 k := by kernel_rfl
theorem CQ : (sU ρ).Ok (rr ρ) := ⟨by kernel_rfl, fun p v kn kx => by kernel_rfl⟩
theorem Hu (x : Val aR) (k : Int → Option ρ) :
    dz (rr ρ) 145 (dk [bo, ac] x) (fun h v => bf (dv [tI] h v) k) = yo x.1 x.2 k := by kernel_rfl
theorem Kt : (Aq ρ).Ok (CJ ρ) := ⟨by kernel_rfl, fun p v kn kx => by kernel_rfl⟩
theorem Q3 (x : Val (.pair bo ax)) (k : (Val (.pair tI aV)) → Option ρ) :
    dz (CJ ρ) 146 (dk [bo, tI, ac] x) (fun h v => bf (dv [tI, tI, .bool] h v) k) = NW x.1 x.2.1 x.2.2 k := by kernel_rfl
theorem AH (x : Val (.pair bo (.pair tI ax))) (k : Val bc → Option ρ) :
    dz (sY ρ) 76 (dk [bo, tI, tI, ac] x) (fun h v => bf (dv [tI, tI] h v) k) = pm x.1 x.2.1 x.2.2.1 x.2.2.2 k := by kernel_rfl
theorem CD (x : Val fX) (k : Int → Option ρ) :
    dz (ur ρ) 33 (dk [fX] x) (fun h v => bf (dv [tI] h v) k) = rk x k := by kernel_rfl
theorem AG (x : Val aR) (k : Int → Option ρ) :
    dz (sX ρ) 86 (dk [bo, ac] x) (fun h v => bf (dv [tI] h v) k) = pl x.1 x.2 k := by kernel_rfl
theorem Ap (x : Val fX) (k : Int → Option ρ) :
    dz (sP ρ) 39 (dk [fX] x) (fun h v => bf (dv [tI] h v) k) = pd x k := by kernel_rfl
theorem je : (fp ρ).Ok (dQ ρ) := ⟨by kernel_rfl, fun p v kn kx => by kernel_rfl⟩
theorem jN (x : Val (.pair ae br)) (k : Int → Option ρ) :
    dz (dQ ρ) 254 (dk [ae, br] x) (fun h v => bf (dv [tI] h v) k) = eE x.1 x.2 k := by kernel_rfl
theorem iX (x : Val (.pair ae br)) (k : Bool → Option ρ) :
    dz (ft ρ) 210 (dk [ae, br] x) (fun h v => bf (dv [.bool] h v) k) = dM x.1 x.2 k := by kernel_rfl
theorem ks : (gB ρ).Ok (eZ ρ) := ⟨by kernel_rfl, fun p v kn kx => by kernel_rfl⟩
theorem lX (x : Val aT) (k : Int → Option ρ) :
    dz (eZ ρ) 256 (dk [aa, bc] x) (fun h v => bf (dv [tI] h v) k) = fP x.1 x.2 k := by kernel_rfl
theorem j9 (x : Val aT) (k : Bool → Option ρ) :
    dz (gC ρ) 213 (dk [aa, bc] x) (fun h v => bf (dv [.bool] h v) k) = eN x.1 x.2 k := by kernel_rfl
theorem jM : (f5 ρ).Ok (eD ρ) := ⟨by kernel_rfl, fun p v kn kx => by kernel_rfl⟩
theorem kv (x : Val (.pair af dC)) (k : Int → Option ρ) :
    dz (eD ρ) 258 (dk [af, dC] x) (fun h v => bf (dv [tI] h v) k) = fe x.1 x.2 k := by kernel_rfl
theorem jD (x : Val (.pair af dC)) (k : Bool → Option ρ) :
    dz (f7 ρ) 216 (dk [af, dC] x) (fun h v => bf (dv [.bool] h v) k) = dZ x.1 x.2 k := by kernel_rfl
theorem Ke : (zY ρ).Ok (fC ρ) := ⟨by kernel_rfl, fun p v kn kx => by kernel_rfl⟩
theorem Kb : (zV ρ).Ok (fC ρ) := ⟨by kernel_rfl, fun p v kn kx => by kernel_rfl⟩
theorem Ka : (zU ρ).Ok (fC ρ) := ⟨by kernel_rfl, fun p v kn kx => by kernel_rfl⟩
theorem Kc : (zW ρ).Ok (fC ρ) := ⟨by kernel_rfl, fun p v kn kx => by kernel_rfl⟩
theorem Kd : (zX ρ).Ok (fC ρ) := ⟨by kernel_rfl, fun p v kn kx => by kernel_rfl⟩
theorem J9 : (zT ρ).Ok (fC ρ) := ⟨by kernel_rfl, fun p v kn kx => by kernel_rfl⟩
theorem J8 : (zS ρ).Ok (fC ρ) := ⟨by kernel_rfl, fun p v kn kx => by kernel_rfl⟩
theorem J7 : (zR ρ).Ok (fC ρ) := ⟨by kernel_rfl, fun p v kn kx => by kernel_rfl⟩
theorem J6 : (zQ ρ).Ok (fC ρ) := ⟨by kernel_rfl, fun p v kn kx => by kernel_rfl⟩
theorem J5 : (zP ρ).Ok (fC ρ) := ⟨by kernel_rfl, fun p v kn kx => by kernel_rfl⟩
theorem QP (x : Val (.pair bg bg)) (k : Bool → Option ρ) :
    dz (fC ρ) 77 (dk [bg, bg] x) (fun h v => bf (dv [.bool] h v) k) = NC x.1 x.2 k := by kernel_rfl
theorem Km (x : Val (.pair bg fX)) (k : (Val aE) → Option ρ) :
    dz (Ef ρ) 35 (dk [bg, fX] x) (fun h v => bf (dv [.bool, tI] h v) k) = Cx x.1 x.2 k := by kernel_rfl
theorem TK : (L1 ρ).Ok (CS ρ) := ⟨by kernel_rfl, fun p v kn kx => by kernel_rfl⟩
theorem TI : (LY ρ).Ok (CS ρ) := ⟨by kernel_rfl, fun p v kn kx => by kernel_rfl⟩
theorem TH : (LX ρ).Ok (CS ρ) := ⟨by kernel_rfl, fun p v kn kx => by kernel_rfl⟩
theorem TJ : (LZ ρ).Ok (CS ρ) := ⟨by kernel_rfl, fun p v kn kx => by kernel_rfl⟩
theorem Ym (x : Val aU) (k : (Val am) → Option ρ) :
    dz (CS ρ) 156 (dk [bo, tI, tI] x) (fun h v => bf (dv [am] h v) k) = Hv x.1 x.2.1 x.2.2 k := by kernel_rfl
theorem HL : (xi ρ).Ok (ji ρ) := ⟨by kernel_rfl, fun p v kn kx => by kernel_rfl⟩
theorem HH : (xe ρ).Ok (ji ρ) := ⟨by kernel_rfl, fun p v kn kx => by kernel_rfl⟩
theorem HI : (xf ρ).Ok (ji ρ) := ⟨by kernel_rfl, fun p v kn kx => by kernel_rfl⟩
theorem HJ : (xg ρ).Ok (ji ρ) := ⟨by kernel_rfl, fun p v kn kx => by kernel_rfl⟩
theorem HK : (xh ρ).Ok (ji ρ) := ⟨by kernel_rfl, fun p v kn kx => by kernel_rfl⟩
theorem N5 (x : Val bo) (k : (Val az) → Option ρ) :
    dz (ji ρ) 78 (dk [bo] x) (fun h v => bf (dv [ac, tI] h v) k) = HM x k := by kernel_rfl
theorem Cp : (sJ ρ).Ok (qY ρ) := ⟨by kernel_rfl, fun p v kn kx => by kernel_rfl⟩
theorem G5 (x : Val (.pair bg ac)) (k : (Val aa) → Option ρ) :
    dz (qY ρ) 80 (dk [bg, ac] x) (fun h v => bf (dv [aa] h v) k) = ye x.1 x.2 k := by kernel_rfl
theorem NU (x : Val bg) (k : (Val (.pair fX tI)) → Option ρ) :
    dz (Hp ρ) 36 (dk [bg] x) (fun h v => bf (dv [fX, tI] h v) k) = Hq x k := by kernel_rfl
theorem CA (x : Val tI) (k : Int → Option ρ) :
    dz (uk ρ) 96 (dk [tI] x) (fun h v => bf (dv [tI] h v) k) = rh x k := by kernel_rfl
theorem Cu (x : Val (.pair cA tI)) (k : (Val ac) → Option ρ) :
    dz (uh ρ) 97 (dk [cA, tI] x) (fun h v => bf (dv [ac] h v) k) = re x.1 x.2 k := by kernel_rfl
theorem Ag : (((oQ (cD ρ).P 50).elim [] (bT 0)).filter fun y => Nat.beq y.1 0).length = 1 := by kernel_rfl
theorem Ah (p : Val aq) (v : Val aC) (kn : Val aq → Val aC → Option ρ) (kx : (i : Nat) → Val aq → Val (tyL (fE.zs i)) → Option ρ) :
    goC (cD ρ) (i6 (cD ρ) (10 - 2 / 2)) 50 [1, 3] 5 0 (EM (oQ (cD ρ).P 50) 0) (ij fE.head fE.cs fE.vs p v) (PR fE kn kx) = (lZ ρ).bF p v (kn p) (fun i => kx i p) := by kernel_rfl
theorem Cz : (lZ ρ).Ok (cD ρ) := ⟨Ag, Ah⟩
theorem Ae : (((oQ (cD ρ).P 178).elim [] (bT 0)).filter fun y => Nat.beq y.1 0).length = 1 := by kernel_rfl
theorem Af (p : Val ak) (v : Val tI) (kn : Val ak → Val tI → Option ρ) (kx : (i : Nat) → Val ak → Val (tyL (fD.zs i)) → Option ρ) :
    goC (cD ρ) (i6 (cD ρ) (10 - 4 / 2)) 178 [18, 4, 1, 2] 12 0 (EM (oQ (cD ρ).P 178) 0) (ij fD.head fD.cs fD.vs p v) (PR fD kn kx) = (lY ρ).bF p v (kn p) (fun i => kx i p) := by kernel_rfl
theorem Cy : (lY ρ).Ok (cD ρ) := ⟨Ae, Af⟩
theorem Hl (x : Val (.pair bg (.pair bc aS))) (k : (Val aE) → Option ρ) :
    dz (rg ρ) 42 (dk [bg, bc, bc, bq] x) (fun h v => bf (dv [.bool, tI] h v) k) = yk x.1 x.2.1 x.2.2.1 x.2.2.2 k := by kernel_rfl
theorem Fd (x : Unit) (k : Val bg → Option ρ) :
    dz (wR ρ) 48 (dk [] x) (fun h v => bf (dv [bg] h v) k) = tT k := by kernel_rfl
theorem HS : (xn ρ).Ok (nq ρ) := ⟨by kernel_rfl, fun p v kn kx => by kernel_rfl⟩
theorem HP : (xl ρ).Ok (nq ρ) := ⟨by kernel_rfl, fun p v kn kx => by kernel_rfl⟩
theorem HQ : (xm ρ).Ok (nq ρ) := ⟨by kernel_rfl, fun p v kn kx => by kernel_rfl⟩
theorem N7 (x : Val aU) (k : (Val az) → Option ρ) :
    dz (nq ρ) 120 (dk [bo, tI, tI] x) (fun h v => bf (dv [ac, tI] h v) k) = HT x.1 x.2.1 x.2.2 k := by kernel_rfl
theorem CG (x : Val (.pair au (.pair aQ (.ptr .bool)))) (k : (Val ac) → Option ρ) :
    dz (uw ρ) 119 (dk [au, aQ, (.ptr .bool)] x) (fun h v => bf (dv [ac] h v) k) = rl x.1 x.2.1 x.2.2 k := by kernel_rfl
theorem CF : (sR ρ).Ok (jS ρ) := ⟨by kernel_rfl, fun p v kn kx => by kernel_rfl⟩
theorem CE : (sQ ρ).Ok (jS ρ) := ⟨by kernel_rfl, fun p v kn kx => by kernel_rfl⟩
theorem Hr (x : Val (.pair bg (.pair bc .bool))) (k : (Val (.pair fX tI)) → Option ρ) :
    dz (jS ρ) 49 (dk [bg, bc, .bool] x) (fun h v => bf (dv [fX, tI] h v) k) = ym x.1 x.2.1 x.2.2 k := by kernel_rfl
theorem G2 (x : Unit) (k : Bool → Option ρ) :
    dz (zG ρ) 14 (dk [] x) (fun h v => bf (dv [.bool] h v) k) = xZ k := by kernel_rfl
theorem G0 : (wO ρ).Ok (xY ρ) := ⟨by kernel_rfl, fun p v kn kx => by kernel_rfl⟩
theorem Nl (x : Val (.pair bg aa)) (k : (Val (.pair bg .bool)) → Option ρ) :
    dz (xY ρ) 19 (dk [bg, aa] x) (fun h v => bf (dv [bg, .bool] h v) k) = zF x.1 x.2 k := by kernel_rfl
theorem FB (x : Val bo) (k : (Val az) → Option ρ) :
    dz (xd ρ) 21 (dk [bo] x) (fun h v => bf (dv [ac, tI] h v) k) = uH x k := by kernel_rfl
theorem HE : (xc ρ).Ok (rA ρ) := ⟨by kernel_rfl, fun p v kn kx => by kernel_rfl⟩
theorem HD : (xb ρ).Ok (rA ρ) := ⟨by kernel_rfl, fun p v kn kx => by kernel_rfl⟩
theorem N1 (x : Val bo) (k : (Val az) → Option ρ) :
    dz (rA ρ) 22 (dk [bo] x) (fun h v => bf (dv [ac, tI] h v) k) = HF x k := by kernel_rfl
theorem rI : (kh ρ).Ok (jj ρ) := ⟨by kernel_rfl, fun p v kn kx => by kernel_rfl⟩
theorem uN (x : Val (.pair aB ac)) (k : Int → Option ρ) :
    dz (jj ρ) 67 (dk [aB, ac] x) (fun h v => bf (dv [tI] h v) k) = kH x.1 x.2 k := by kernel_rfl
theorem KA : (AC ρ).Ok (vP ρ) := ⟨by kernel_rfl, fun p v kn kx => by kernel_rfl⟩
theorem Kz : (AB ρ).Ok (vP ρ) := ⟨by kernel_rfl, fun p v kn kx => by kernel_rfl⟩
theorem Q8 (x : Val aR) (k : (Val aE) → Option ρ) :
    dz (vP ρ) 138 (dk [bo, ac] x) (fun h v => bf (dv [.bool, tI] h v) k) = N4 x.1 x.2 k := by kernel_rfl
theorem A0 (x : Val (.pair aB ac)) (k : Bool → Option ρ) :
    dz (s9 ρ) 68 (dk [aB, ac] x) (fun h v => bf (dv [.bool] h v) k) = pp x.1 x.2 k := by kernel_rfl
theorem RD (x : Val (.pair bg ac)) (k : (Val aE) → Option ρ) :
    dz (L6 ρ) 23 (dk [bg, ac] x) (fun h v => bf (dv [.bool, tI] h v) k) = OV x.1 x.2 k := by kernel_rfl
theorem JZ (x : Val aI) (k : Int → Option ρ) :
    dz (D5 ρ) 27 (dk [bg, bc] x) (fun h v => bf (dv [tI] h v) k) = Ck x.1 x.2 k := by kernel_rfl
theorem Fc : (tQ ρ).Ok (tR ρ) := ⟨by kernel_rfl, fun p v kn kx => by kernel_rfl⟩
theorem JX (x : Val (.pair bg (.pair aa (.pair ac .bool)))) (k : (Val aV) → Option ρ) :
    dz (tR ρ) 24 (dk [bg, aa, ac, .bool] x) (fun h v => bf (dv [tI, .bool] h v) k) = Cj x.1 x.2.1 x.2.2.1 x.2.2.2 k := by kernel_rfl
theorem nS : (iW ρ).Ok (g8 ρ) := ⟨by kernel_rfl, fun p v kn kx => by kernel_rfl⟩
theorem pN (x : Val (.pair bg ax)) (k : Bool → Option ρ) :
    dz (g8 ρ) 4 (dk [bg, tI, ac] x) (fun h v => bf (dv [.bool] h v) k) = iP x.1 x.2.1 x.2.2 k := by kernel_rfl
end Go.Proofs.ZzM
end

noncomputable section
variable {ρ : Type}
set_option maxRecDepth 100000
namespace Go.Proofs.ZzM
open Go Go.Am
theorem CZ : (s7 ρ).Ok (rD ρ) := ⟨by kernel_rfl, fun p v kn kx => by kernel_rfl⟩
theorem Ij (x : Val bg) (k : (Val ao) → Option ρ) :
    dz (rD ρ) 53 (dk [bg] x) (fun h v => bf (dv [ao] h v) k) = yw x k := by kernel_rfl
theorem K4 (x : Val cg) (k : Bool → Option ρ) :
    dz (EC ρ) 82 (dk [bc, tI, tI] x) (fun h v => bf (dv [.bool] h v) k) = C5 x.1 x.2.1 x.2.2 k := by kernel_rfl
theorem KN (x : Val cA) (k : Bool → Option ρ) :
    dz (Ex ρ) 126 (dk [tI, tI, tI] x) (fun h v => bf (dv [.bool] h v) k) = CY x.1 x.2.1 x.2.2 k := by kernel_rfl
theorem OC (x : Val tI) (k : Bool → Option ρ) :
    dz (Iu ρ) 125 (dk [tI] x) (fun h v => bf (dv [.bool] h v) k) = Iv x k := by kernel_rfl
theorem Re (x : Val tI) (k : Int → Option ρ) :
    dz (L2 ρ) 259 (dk [tI] x) (fun h v => bf (dv [(.int .u64)] h v) k) = Oa x k := by kernel_rfl
theorem Ob : (Es ρ).Ok (H4 ρ) := ⟨by kernel_rfl, fun p v kn kx => by kernel_rfl⟩
theorem TN (x : Val aW) (k : Int → Option ρ) :
    dz (H4 ρ) 260 (dk [(.int .u64), (.int .u64)] x) (fun h v => bf (dv [(.int .u64)] h v) k) = TO x.1 x.2 k := by kernel_rfl
theorem Od (x : Val bc) (k : Bool → Option ρ) :
    dz (H8 ρ) 219 (dk [bc] x) (fun h v => bf (dv [.bool] h v) k) = H9 x k := by kernel_rfl
theorem Ir (x : Val br) (k : Bool → Option ρ) :
    dz (A8 ρ) 162 (dk [br] x) (fun h v => bf (dv [.bool] h v) k) = yz x k := by kernel_rfl
theorem uS : (mf ρ).Ok (kI ρ) := ⟨by kernel_rfl, fun p v kn kx => by kernel_rfl⟩
theorem yC (x : Val bg) (k : Int → Option ρ) :
    dz (kI ρ) 83 (dk [bg] x) (fun h v => bf (dv [tI] h v) k) = nt x k := by kernel_rfl
theorem qU : (ke ρ).Ok (jd ρ) := ⟨by kernel_rfl, fun p v kn kx => by kernel_rfl⟩
theorem tU (x : Val az) (k : Int → Option ρ) :
    dz (jd ρ) 73 (dk [ac, tI] x) (fun h v => bf (dv [tI] h v) k) = kr x.1 x.2 k := by kernel_rfl
theorem pO (x : Val az) (k : Bool → Option ρ) :
    dz (kf ρ) 65 (dk [ac, tI] x) (fun h v => bf (dv [.bool] h v) k) = iQ x.1 x.2 k := by kernel_rfl
theorem K7 : (Bc ρ).Ok (vT ρ) := ⟨by kernel_rfl, fun p v kn kx => by kernel_rfl⟩
theorem K6 : (Bb ρ).Ok (vT ρ) := ⟨by kernel_rfl, fun p v kn kx => by kernel_rfl⟩
theorem Rx (x : Val (.pair bg br)) (k : (Val ac) → Option ρ) :
    dz (vT ρ) 168 (dk [bg, br] x) (fun h v => bf (dv [ac] h v) k) = OJ x.1 x.2 k := by kernel_rfl
theorem Il : (xq ρ).Ok (rH ρ) := ⟨by kernel_rfl, fun p v kn kx => by kernel_rfl⟩
theorem Im : (xr ρ).Ok (rH ρ) := ⟨by kernel_rfl, fun p v kn kx => by kernel_rfl⟩
theorem On (x : Val bg) (k : (Val aa) → Option ρ) :
    dz (rH ρ) 85 (dk [bg] x) (fun h v => bf (dv [aa] h v) k) = Io x k := by kernel_rfl
theorem AX (x : Val (.pair ao bc)) (k : Int → Option ρ) :
    dz (s8 ρ) 164 (dk [ao, tI, tI] x) (fun h v => bf (dv [tI] h v) k) = po x.1 x.2.1 x.2.2 k := by kernel_rfl
theorem Ik (x : Val (.pair tI (.pair tI (.ptr ao)))) (k : Int → Option ρ) :
    dz (AY ρ) 163 (dk [tI, tI, (.ptr ao)] x) (fun h v => bf (dv [tI] h v) k) = yy x.1 x.2.1 x.2.2 k := by kernel_rfl
theorem yB : (oJ ρ).Ok (jT ρ) := ⟨by kernel_rfl, fun p v kn kx => by kernel_rfl⟩
theorem yA : (oI ρ).Ok (jT ρ) := ⟨by kernel_rfl, fun p v kn kx => by kernel_rfl⟩
theorem C7 (x : Val aX) (k : Int → Option ρ) :
    dz (jT ρ) 166 (dk [bg, ao, tI] x) (fun h v => bf (dv [tI] h v) k) = rR x.1 x.2.1 x.2.2 k := by kernel_rfl
theorem KY : (A7 ρ).Ok (vS ρ) := ⟨by kernel_rfl, fun p v kn kx => by kernel_rfl⟩
theorem KX : (A6 ρ).Ok (vS ρ) := ⟨by kernel_rfl, fun p v kn kx => by kernel_rfl⟩
theorem Ru (x : Val (.pair ac ac)) (k : (Val ac) → Option ρ) :
    dz (vS ρ) 88 (dk [ac, ac] x) (fun h v => bf (dv [ac] h v) k) = OA x.1 x.2 k := by kernel_rfl
theorem pQ : (jQ ρ).Ok (gd ρ) := ⟨by kernel_rfl, fun p v kn kx => by kernel_rfl⟩
theorem pP : (jP ρ).Ok (gd ρ) := ⟨by kernel_rfl, fun p v kn kx => by kernel_rfl⟩
theorem tj (x : Val am) (k : (Val ac) → Option ρ) :
    dz (gd ρ) 94 (dk [am] x) (fun h v => bf (dv [ac] h v) k) = ic x k := by kernel_rfl
theorem FG : (uP ρ).Ok (uQ ρ) := ⟨by kernel_rfl, fun p v kn kx => by kernel_rfl⟩
theorem KZ (x : Val ac) (k : Bool → Option ρ) :
    dz (uQ ρ) 198 (dk [ac] x) (fun h v => bf (dv [.bool] h v) k) = C4 x k := by kernel_rfl
theorem K8 : (Bh ρ).Ok (C8 ρ) := ⟨by kernel_rfl, fun p v kn kx => by kernel_rfl⟩
theorem Ry (x : Val aI) (k : (Val (.pair dC .bool)) → Option ρ) :
    dz (C8 ρ) 223 (dk [bg, tI, tI] x) (fun h v => bf (dv [dC, .bool] h v) k) = OL x.1 x.2.1 x.2.2 k := by kernel_rfl
theorem tr : (lI ρ).Ok (er ρ) := ⟨by kernel_rfl, fun p v kn kx => by kernel_rfl⟩
theorem tp : (lG ρ).Ok (er ρ) := ⟨by kernel_rfl, fun p v kn kx => by kernel_rfl⟩
theorem tq : (lH ρ).Ok (er ρ) := ⟨by kernel_rfl, fun p v kn kx => by kernel_rfl⟩
theorem tm : (lF ρ).Ok (er ρ) := ⟨by kernel_rfl, fun p v kn kx => by kernel_rfl⟩
theorem wD (x : Val aX) (k : Int → Option ρ) :
    dz (er ρ) 167 (dk [bg, ao, tI] x) (fun h v => bf (dv [tI] h v) k) = l6 x.1 x.2.1 x.2.2 k := by kernel_rfl
theorem NL : (Ed ρ).Ok (ff ρ) := ⟨by kernel_rfl, fun p v kn kx => by kernel_rfl⟩
theorem NM : (Ee ρ).Ok (ff ρ) := ⟨by kernel_rfl, fun p v kn kx => by kernel_rfl⟩
theorem NK : (Ec ρ).Ok (ff ρ) := ⟨by kernel_rfl, fun p v kn kx => by kernel_rfl⟩
theorem NJ : (om ρ).Ok (ff ρ) := ⟨by kernel_rfl, fun p v kn kx => by kernel_rfl⟩
theorem NI : (ol ρ).Ok (ff ρ) := ⟨by kernel_rfl, fun p v kn kx => by kernel_rfl⟩
theorem NH : (oj ρ).Ok (ff ρ) := ⟨by kernel_rfl, fun p v kn kx => by kernel_rfl⟩
theorem TC (x : Val (.pair bg (.pair aa aa))) (kA : Val aP → Val ag → Option ρ) : goC (ff ρ) (i6 (ff ρ) 10) 79 [] 0 0 (preC 7 cY) { t := dk [bg, aa, aa] x ++ List.replicate 127 .any, h := [] } (matK pT 0 gX kF kA) = Ac x.1 x.2.1 x.2.2 kA := by kernel_rfl
theorem Wu (p : Val aP) (v : Val ag) (x : Val br) (kk : Val aP → Val (.pair tI (.pair tI (.pair ae (.pair aa (.pair af (.pair ab (.pair aa (.pair tI (.pair tI (.pair ae (.pair aa (.pair af (.pair ab (.pair aa (.pair tI (.pair tI (.pair ae (.pair aa (.pair af (.pair ab (.pair aa (.pair aj (.pair aj (.pair ae ar)))))))))))))))))))))))) → Option ρ) : goC (cR ρ) (i6 (cR ρ) 10) 79 [] 9 4 (rfA (rfC 7 cY)) { t := upd (ij pT gX kF p v).t 60 (.agg (flat br x)), h := (ij pT gX kF p v).h } (matK Hg 9 gX vL kk) = kk p (yi v x) := by kernel_rfl
theorem Wt (p : Val aP) (v : Val ag) (x : Val br) (kk : Val aP → Val ag → Option ρ) : goC (cR ρ) (i6 (cR ρ) 10) 79 [] 9 4 (rfB (rfC 7 cY)) (ij Hg gX vL p (yi v x)) (matK pT 9 gX kF kk) = b9 (bZ ((List.length (rf v)) + (List.length [x]))) (kk p (cX v (rf v ++ [x]))) := by kernel_rfl
theorem QS (p : Val aP) (v : Val ag) (k : Val ai → Option ρ) : goC (cR ρ) (i6 (cR ρ) 10) 79 [] 0 0 (postC 7 cY) (ij pT gX kF p v) (matR nl 0 iF k) = lC p v (fun y => k (ju y)) := by kernel_rfl
theorem TB (y : Val bg) : mZ Tryz.prog Tryz.f79 (ij nl [] iF () (ju y)) = some (enc bg y) := by kernel_rfl
theorem Ws : rfC 7 cY = Code.block 4 (Code.rangeFunc (.tmp 59) #[60] (rfA (rfC 7 cY)) (rfB (rfC 7 cY))) := by kernel_rfl
theorem Ab : MO 7 cY = true := by kernel_rfl
theorem oi : Tryz.f79.body = some cY := by kernel_rfl
theorem Kk : (om ρ).Ok (cR ρ) := ⟨by kernel_rfl, fun p v kn kx => by kernel_rfl⟩
theorem Kj : (ol ρ).Ok (cR ρ) := ⟨by kernel_rfl, fun p v kn kx => by kernel_rfl⟩
theorem Ki : (oj ρ).Ok (cR ρ) := ⟨by kernel_rfl, fun p v kn kx => by kernel_rfl⟩
end Go.Proofs.ZzM
end
