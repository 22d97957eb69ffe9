/- lemmas -/
import Derived.Test.YthhhehllmdfhiaaGreatMdMA
set_option linter.all false
set_option linter.unusedSectionVars false
set_option linter.unusedVariables false
set_option linter.unusedSimpArgs false
noncomputable section
variable {ρ : Type}
set_option maxRecDepth 100000
namespace Go.Proofs.ZzM
open Go Go.Am
theorem aCd (x : Val ab9) (k : Bool → Option ρ) :
    adT (awQ ρ) 29 (adx [ab9] x) (fun h v => ab4 (adH [.bool] h v) k) = avj x k := by kernel_rfl
theorem aCc : (as0 ρ).Ok (avi ρ) := ⟨by kernel_rfl, fun p v kn kx => by kernel_rfl⟩
theorem aIl (x : Val ab6) (k : Bool → Option ρ) :
    adT (avi ρ) 13 (adx [ab6] x) (fun h v => ab4 (adH [.bool] h v) k) = aFl x k := by kernel_rfl
theorem aC2 : (aud ρ).Ok (apY ρ) := ⟨by kernel_rfl, fun p v kn kx => by kernel_rfl⟩
theorem aC1 : (auc ρ).Ok (apY ρ) := ⟨by kernel_rfl, fun p v kn kx => by kernel_rfl⟩
theorem aIZ (x : Val (.pair ab6 (.pair ace ab3))) (k : Int → Option ρ) :
    adT (apY ρ) 54 (adx [ab6, ace, tI, tI] x) (fun h v => ab4 (adH [tI] h v) k) = aGj x.1 x.2.1 x.2.2.1 x.2.2.2 k := by kernel_rfl
theorem ahf : (afa ρ).Ok (ad9 ρ) := ⟨by kernel_rfl, fun p v kn kx => by kernel_rfl⟩
theorem ahT (x : Val abW) (k : Int → Option ρ) :
    adT (ad9 ρ) 130 (adx [f6, ab3] x) (fun h v => ab4 (adH [tI] h v) k) = aeA x.1 x.2 k := by kernel_rfl
theorem ayb (x : Val (.pair abT abG)) (k : Int → Option ρ) :
    adT (aq5 ρ) 87 (adx [abT, nn, tI] x) (fun h v => ab4 (adH [tI] h v) k) = ao4 x.1 x.2.1 x.2.2 k := by kernel_rfl
theorem aqs (x : Val (.pair abv nn)) (k : Val ab3 → Option ρ) :
    adT (akQ ρ) 224 (adx [abv, nn] x) (fun h v => ab4 (adH [ab3] h v) k) = aiZ x.1 x.2 k := by kernel_rfl
theorem aAl : (aq1 ρ).Ok (arY ρ) := ⟨by kernel_rfl, fun p v kn kx => by kernel_rfl⟩
theorem aF0 (x : Val f6) (k : Int → Option ρ) :
    adT (arY ρ) 227 (adx [f6] x) (fun h v => ab4 (adH [tI] h v) k) = aAm x k := by kernel_rfl
theorem aAn (x : Val ab3) (k : Val ag9 → Option ρ) :
    adT (atS ρ) 277 (adx [tI, tI] x) (fun h v => ab4 (adH [ab3, tI] h v) k) = arZ x.1 x.2 k := by kernel_rfl
theorem aK2 (x : Val acT) (k : Val ag9 → Option ρ) :
    adT (aIP ρ) 262 (adx [ab3, ab3] x) (fun h v => ab4 (adH [ab3, tI] h v) k) = aK3 x.1 x.2 k := by kernel_rfl
theorem avW (x : Val acT) (k : Val ab3 → Option ρ) :
    adT (ao2 ρ) 225 (adx [ab3, ab3] x) (fun h v => ab4 (adH [ab3] h v) k) = am1 x.1 x.2 k := by kernel_rfl
theorem aK0 (x : Val acT) (k : Int → Option ρ) :
    adT (aIN ρ) 287 (adx [ab3, ab3] x) (fun h v => ab4 (adH [tI] h v) k) = aK1 x.1 x.2 k := by kernel_rfl
theorem atV (x : Val acT) (k : Bool → Option ρ) :
    adT (anZ ρ) 278 (adx [acT] x) (fun h v => ab4 (adH [.bool] h v) k) = alk x k := by kernel_rfl
theorem aK4 (x : Val acT) (k : Val ag9 → Option ρ) :
    adT (aIR ρ) 281 (adx [ab3, ab3] x) (fun h v => ab4 (adH [ab3, tI] h v) k) = aK5 x.1 x.2 k := by kernel_rfl
theorem aF5 (x : Val (.pair acT ab3)) (k : Val aOG → Option ρ) :
    adT (ar0 ρ) 263 (adx [acT, ab3] x) (fun h v => ab4 (adH [acT, tI] h v) k) = aAw x.1 x.2 k := by kernel_rfl
theorem avV (x : Val acT) (k : Val acT → Option ρ) :
    adT (ao1 ρ) 226 (adx [ab3, ab3] x) (fun h v => ab4 (adH [acT] h v) k) = am0 x.1 x.2 k := by kernel_rfl
theorem aC8 (x : Val abH) (k : Val acT → Option ρ) :
    adT (axj ρ) 171 (adx [ab6, ab9] x) (fun h v => ab4 (adH [acT] h v) k) = avZ x.1 x.2 k := by kernel_rfl
theorem aGr (x : Val abH) (k : Val ab3 → Option ρ) :
    adT (aAO ρ) 172 (adx [ab6, ab9] x) (fun h v => ab4 (adH [ab3] h v) k) = aAP x.1 x.2 k := by kernel_rfl
theorem aF3 (x : Val ab3) (k : Int → Option ρ) :
    adT (aAq ρ) 228 (adx [tI, tI] x) (fun h v => ab4 (adH [tI] h v) k) = aAr x.1 x.2 k := by kernel_rfl
theorem aIT (x : Val ab3) (k : Val ab3 → Option ρ) :
    adT (aD4 ρ) 173 (adx [ab3] x) (fun h v => ab4 (adH [tI, tI] h v) k) = aF7 x k := by kernel_rfl
theorem aF6 (x : Val ab3) (k : Val ab3 → Option ρ) :
    adT (aAy ρ) 174 (adx [ab3] x) (fun h v => ab4 (adH [tI, tI] h v) k) = aAz x k := by kernel_rfl
theorem aIW (x : Val abH) (k : Val ab3 → Option ρ) :
    adT (aD5 ρ) 200 (adx [ab6, ab9] x) (fun h v => ab4 (adH [ab3] h v) k) = aGb x.1 x.2 k := by kernel_rfl
theorem aCZ : (aua ρ).Ok (al4 ρ) := ⟨by kernel_rfl, fun p v kn kx => by kernel_rfl⟩
theorem aC0 : (aub ρ).Ok (al4 ρ) := ⟨by kernel_rfl, fun p v kn kx => by kernel_rfl⟩
theorem aCY : (at7 ρ).Ok (al4 ρ) := ⟨by kernel_rfl, fun p v kn kx => by kernel_rfl⟩
theorem aIY (x : Val ab6) (k : (Val abT) → Option ρ) :
    adT (al4 ρ) 62 (adx [ab6] x) (fun h v => ab4 (adH [abT] h v) k) = aGg x k := by kernel_rfl
theorem aDd (x : Val ab6) (k : (Val (.pair acf (.pair f6 tI))) → Option ρ) :
    adT (axn ρ) 20 (adx [ab6] x) (fun h v => ab4 (adH [acf, f6, tI] h v) k) = av3 x k := by kernel_rfl
theorem aGD (x : Val abQ) (k : Val ab3 → Option ρ) :
    adT (aAR ρ) 60 (adx [ab6, ab3] x) (fun h v => ab4 (adH [tI, tI] h v) k) = aAS x.1 x.2 k := by kernel_rfl
theorem azD (x : Val abO) (k : Int → Option ρ) :
    adT (as7 ρ) 55 (adx [aby, ab3] x) (fun h v => ab4 (adH [tI] h v) k) = arM x.1 x.2 k := by kernel_rfl
theorem aIC (x : Val (.pair acf tI)) (k : Bool → Option ρ) :
    adT (aDY ρ) 134 (adx [acf, tI] x) (fun h v => ab4 (adH [.bool] h v) k) = aFS x.1 x.2 k := by kernel_rfl
theorem aAd : (aqX ρ).Ok (arX ρ) := ⟨by kernel_rfl, fun p v kn kx => by kernel_rfl⟩
theorem aFX (x : Val acf) (k : Val ab3 → Option ρ) :
    adT (arX ρ) 133 (adx [acf] x) (fun h v => ab4 (adH [tI, tI] h v) k) = aAe x k := by kernel_rfl
theorem atD : (al1 ρ).Ok (ae2 ρ) := ⟨by kernel_rfl, fun p v kn kx => by kernel_rfl⟩
theorem atC : (al0 ρ).Ok (ae2 ρ) := ⟨by kernel_rfl, fun p v kn kx => by kernel_rfl⟩
theorem atA : (alY ρ).Ok (ae2 ρ) := ⟨by kernel_rfl, fun p v kn kx => by kernel_rfl⟩
theorem atB : (alZ ρ).Ok (ae2 ρ) := ⟨by kernel_rfl, fun p v kn kx => by kernel_rfl⟩
theorem atz : (alX ρ).Ok (ae2 ρ) := ⟨by kernel_rfl, fun p v kn kx => by kernel_rfl⟩
theorem ax1 (x : Val (.pair acf abr)) (k : (Val (.pair nn .bool)) → Option ρ) :
    adT (ae2 ρ) 135 (adx [acf, abr] x) (fun h v => ab4 (adH [nn, .bool] h v) k) = aoS x.1 x.2 k := by kernel_rfl
theorem az5 : (aqR ρ).Ok (arW ρ) := ⟨by kernel_rfl, fun p v kn kx => by kernel_rfl⟩
theorem aFV (x : Val abY) (k : Int → Option ρ) :
    adT (arW ρ) 63 (adx [acf, nn] x) (fun h v => ab4 (adH [tI] h v) k) = az6 x.1 x.2 k := by kernel_rfl
theorem ax7 : (aoY ρ).Ok (af6 ρ) := ⟨by kernel_rfl, fun p v kn kx => by kernel_rfl⟩
theorem ax6 : (aoX ρ).Ok (af6 ρ) := ⟨by kernel_rfl, fun p v kn kx => by kernel_rfl⟩
theorem ax5 : (aoW ρ).Ok (af6 ρ) := ⟨by kernel_rfl, fun p v kn kx => by kernel_rfl⟩
theorem ax3 : (aoU ρ).Ok (af6 ρ) := ⟨by kernel_rfl, fun p v kn kx => by kernel_rfl⟩
theorem ax4 : (aoV ρ).Ok (af6 ρ) := ⟨by kernel_rfl, fun p v kn kx => by kernel_rfl⟩
theorem aCG (x : Val (.pair acf (.pair abr tI))) (k : (Val nn) → Option ρ) :
    adT (af6 ρ) 64 (adx [acf, abr, tI] x) (fun h v => ab4 (adH [nn] h v) k) = avN x.1 x.2.1 x.2.2 k := by kernel_rfl
theorem aFZ (x : Val abV) (k : Val ab3 → Option ρ) :
    adT (aAj ρ) 89 (adx [acf, tI, tI] x) (fun h v => ab4 (adH [tI, tI] h v) k) = aAk x.1 x.2.1 x.2.2 k := by kernel_rfl
theorem as6 (x : Val abO) (k : Int → Option ρ) :
    adT (anM ρ) 56 (adx [aby, tI, tI] x) (fun h v => ab4 (adH [tI] h v) k) = ak9 x.1 x.2.1 x.2.2 k := by kernel_rfl
theorem as5 (x : Val abO) (k : Int → Option ρ) :
    adT (anL ρ) 121 (adx [aby, ab3] x) (fun h v => ab4 (adH [tI] h v) k) = ak8 x.1 x.2 k := by kernel_rfl
theorem aoD (x : Val abO) (k : Int → Option ρ) :
    adT (ajS ρ) 122 (adx [aby, ab3] x) (fun h v => ab4 (adH [tI] h v) k) = ahY x.1 x.2 k := by kernel_rfl
theorem aoC (x : Val abO) (k : Val ab3 → Option ρ) :
    adT (agO ρ) 51 (adx [aby, ab3] x) (fun h v => ab4 (adH [ab3] h v) k) = ahX x.1 x.2 k := by kernel_rfl
theorem aDf : (aur ρ).Ok (av4 ρ) := ⟨by kernel_rfl, fun p v kn kx => by kernel_rfl⟩
theorem aI7 (x : Val abQ) (k : (Val abP) → Option ρ) :
    adT (av4 ρ) 61 (adx [ab6, ab3] x) (fun h v => ab4 (adH [ab6, tI] h v) k) = aGC x.1 x.2 k := by kernel_rfl
theorem atI (x : Val acf) (k : (Val abU) → Option ρ) :
    adT (anW ρ) 123 (adx [acf] x) (fun h v => ab4 (adH [.bool, tI] h v) k) = alh x k := by kernel_rfl
theorem atv : (alU ρ).Ok (alc ρ) := ⟨by kernel_rfl, fun p v kn kx => by kernel_rfl⟩
theorem axV (x : Val abQ) (k : Val ag9 → Option ρ) :
    adT (alc ρ) 15 (adx [ab6, ab3] x) (fun h v => ab4 (adH [ab3, tI] h v) k) = aoN x.1 x.2 k := by kernel_rfl
theorem avE : (anT ρ).Ok (amS ρ) := ⟨by kernel_rfl, fun p v kn kx => by kernel_rfl⟩
theorem azW (x : Val (.pair ab6 acT)) (k : Val ag9 → Option ρ) :
    adT (amS ρ) 17 (adx [ab6, ab3, ab3] x) (fun h v => ab4 (adH [ab3, tI] h v) k) = arU x.1 x.2.1 x.2.2 k := by kernel_rfl
theorem aDg (x : Val (.pair nn nn)) (k : (Val (.pair nn abG)) → Option ρ) :
    adT (axq ρ) 129 (adx [nn, nn] x) (fun h v => ab4 (adH [nn, nn, tI] h v) k) = av5 x.1 x.2 k := by kernel_rfl
theorem aIm (x : Val abG) (k : Bool → Option ρ) :
    adT (aDX ρ) 57 (adx [nn, tI] x) (fun h v => ab4 (adH [.bool] h v) k) = aFn x.1 x.2 k := by kernel_rfl
theorem aFB (x : Val tI) (k : Bool → Option ρ) :
    adT (azJ ρ) 58 (adx [tI] x) (fun h v => ab4 (adH [.bool] h v) k) = azK x k := by kernel_rfl
theorem azE : (aqH ρ).Ok (arN ρ) := ⟨by kernel_rfl, fun p v kn kx => by kernel_rfl⟩
theorem aFz (x : Val (.pair tI abu)) (k : (Val f6) → Option ρ) :
    adT (arN ρ) 59 (adx [tI, abu] x) (fun h v => ab4 (adH [f6] h v) k) = azF x.1 x.2 k := by kernel_rfl
theorem aCA : (ats ρ).Ok (apV ρ) := ⟨by kernel_rfl, fun p v kn kx => by kernel_rfl⟩
theorem aCz : (atr ρ).Ok (apV ρ) := ⟨by kernel_rfl, fun p v kn kx => by kernel_rfl⟩
theorem aIy (x : Val (.pair ab6 abA)) (k : Val ag9 → Option ρ) :
    adT (apV ρ) 18 (adx [ab6, tI, nn] x) (fun h v => ab4 (adH [ab3, tI] h v) k) = aFN x.1 x.2.1 x.2.2 k := by kernel_rfl
theorem azB (x : Val acT) (k : Int → Option ρ) :
    adT (as4 ρ) 69 (adx [ab3, ab3] x) (fun h v => ab4 (adH [tI] h v) k) = arJ x.1 x.2 k := by kernel_rfl
theorem azQ : (aqP ρ).Ok (arS ρ) := ⟨by kernel_rfl, fun p v kn kx => by kernel_rfl⟩
theorem aFO (x : Val (.pair ab6 acT)) (k : Val ab3 → Option ρ) :
    adT (arS ρ) 25 (adx [ab6, ab3, ab3] x) (fun h v => ab4 (adH [tI, tI] h v) k) = azR x.1 x.2.1 x.2.2 k := by kernel_rfl
theorem aDc : (aup ρ).Ok (av2 ρ) := ⟨by kernel_rfl, fun p v kn kx => by kernel_rfl⟩
theorem aI5 (x : Val abH) (k : (Val abP) → Option ρ) :
    adT (av2 ρ) 41 (adx [ab6, ab9] x) (fun h v => ab4 (adH [ab6, tI] h v) k) = aGy x.1 x.2 k := by kernel_rfl
theorem aGa (x : Val (.pair ab6 (.pair ab9 ab3))) (k : Val ag9 → Option ρ) :
    adT (aAC ρ) 90 (adx [ab6, ab9, ab3] x) (fun h v => ab4 (adH [ab3, tI] h v) k) = aAD x.1 x.2.1 x.2.2 k := by kernel_rfl
theorem aAQ (x : Val abH) (k : Val ag9 → Option ρ) :
    adT (auq ρ) 40 (adx [ab6, ab9] x) (fun h v => ab4 (adH [ab3, tI] h v) k) = asa x.1 x.2 k := by kernel_rfl
theorem aF9 (x : Val abP) (k : (Val (.pair ab9 tI)) → Option ρ) :
    adT (aAA ρ) 205 (adx [ab6, tI] x) (fun h v => ab4 (adH [ab9, tI] h v) k) = aAB x.1 x.2 k := by kernel_rfl
theorem aI6 (x : Val abP) (k : Val ag9 → Option ρ) :
    adT (aD6 ρ) 142 (adx [ab6, tI] x) (fun h v => ab4 (adH [ab3, tI] h v) k) = aGA x.1 x.2 k := by kernel_rfl
theorem axR (x : Val (.pair nn (.pair aby (.ptr ab9)))) (k : Int → Option ρ) :
    adT (aqK ρ) 143 (adx [nn, aby, (.ptr ab9)] x) (fun h v => ab4 (adH [tI] h v) k) = aoH x.1 x.2.1 x.2.2 k := by kernel_rfl
theorem axQ (x : Val (.pair tI (.pair tI (.pair aby (.pair (.ptr tI) (.pair abS (.ptr tI))))))) (k : Val acY → Option ρ) :
    adT (aqJ ρ) 144 (adx [tI, tI, aby, (.ptr tI), abS, (.ptr tI)] x) (fun h v => ab4 (adH [acY] h v) k) = aoG x.1 x.2.1 x.2.2.1 x.2.2.2.1 x.2.2.2.2.1 x.2.2.2.2.2 k := by kernel_rfl
theorem axP : (aoF ρ).Ok (akA ρ) := ⟨by kernel_rfl, fun p v kn kx => by kernel_rfl⟩
theorem aCs (x : Val (.pair aby (.pair ab3 ab9))) (k : (Val (.pair aet tI)) → Option ρ) :
    adT (akA ρ) 71 (adx [aby, ab3, ab9] x) (fun h v => ab4 (adH [aet, tI] h v) k) = avp x.1 x.2.1 x.2.2 k := by kernel_rfl
theorem avq (x : Val acY) (k : (Val nn) → Option ρ) :
    adT (aoI ρ) 95 (adx [acY] x) (fun h v => ab4 (adH [nn] h v) k) = amJ x k := by kernel_rfl
theorem aCt (x : Val (.pair acY tI)) (k : Int → Option ρ) :
    adT (awT ρ) 177 (adx [acY, tI] x) (fun h v => ab4 (adH [tI] h v) k) = avs x.1 x.2 k := by kernel_rfl
theorem as2 (x : Val (.pair aet tI)) (k : Val ab3 → Option ρ) :
    adT (anJ ρ) 99 (adx [aet, tI] x) (fun h v => ab4 (adH [ab3] h v) k) = ak6 x.1 x.2 k := by kernel_rfl
theorem aqo : (ajQ ρ).Ok (agE ρ) := ⟨by kernel_rfl, fun p v kn kx => by kernel_rfl⟩
theorem aqp : (ajR ρ).Ok (agE ρ) := ⟨by kernel_rfl, fun p v kn kx => by kernel_rfl⟩
theorem as3 (x : Val (.pair aet nn)) (k : (Val nn) → Option ρ) :
    adT (agE ρ) 101 (adx [aet, nn] x) (fun h v => ab4 (adH [nn] h v) k) = ak7 x.1 x.2 k := by kernel_rfl
theorem aoz : (ai5 ρ).Ok (ahW ρ) := ⟨by kernel_rfl, fun p v kn kx => by kernel_rfl⟩
theorem arF (x : Val aet) (k : Int → Option ρ) :
    adT (ahW ρ) 72 (adx [aet] x) (fun h v => ab4 (adH [tI] h v) k) = ajP x k := by kernel_rfl
theorem azN : (aqM ρ).Ok (arQ ρ) := ⟨by kernel_rfl, fun p v kn kx => by kernel_rfl⟩
theorem aFJ (x : Val (.pair ab6 (.pair ab3 ab9))) (k : Val ab3 → Option ρ) :
    adT (arQ ρ) 31 (adx [ab6, ab3, ab9] x) (fun h v => ab4 (adH [tI, tI] h v) k) = azO x.1 x.2.1 x.2.2 k := by kernel_rfl
theorem avL : (anV ρ).Ok (amU ρ) := ⟨by kernel_rfl, fun p v kn kx => by kernel_rfl⟩
theorem azY (x : Val abY) (k : Int → Option ρ) :
    adT (amU ρ) 145 (adx [acf, nn] x) (fun h v => ab4 (adH [tI] h v) k) = arV x.1 x.2 k := by kernel_rfl
theorem aCE : (aty ρ).Ok (avF ρ) := ⟨by kernel_rfl, fun p v kn kx => by kernel_rfl⟩
theorem aIB (x : Val (.pair acf abA)) (k : (Val (.pair tI (.pair tI .bool))) → Option ρ) :
    adT (avF ρ) 146 (adx [acf, tI, nn] x) (fun h v => ab4 (adH [tI, tI, .bool] h v) k) = aFR x.1 x.2.1 x.2.2 k := by kernel_rfl
theorem atM (x : Val (.pair acf (.pair tI abA))) (k : Val ab3 → Option ρ) :
    adT (anY ρ) 76 (adx [acf, tI, tI, nn] x) (fun h v => ab4 (adH [tI, tI] h v) k) = alj x.1 x.2.1 x.2.2.1 x.2.2.2 k := by kernel_rfl
theorem avA (x : Val ae8) (k : Int → Option ρ) :
    adT (aoO ρ) 33 (adx [ae8] x) (fun h v => ab4 (adH [tI] h v) k) = amQ x k := by kernel_rfl
theorem atL (x : Val abY) (k : Int → Option ρ) :
    adT (anX ρ) 86 (adx [acf, nn] x) (fun h v => ab4 (adH [tI] h v) k) = ali x.1 x.2 k := by kernel_rfl
theorem atx (x : Val ae8) (k : Int → Option ρ) :
    adT (anQ ρ) 39 (adx [ae8] x) (fun h v => ab4 (adH [tI] h v) k) = ald x k := by kernel_rfl
theorem agM : (aeK ρ).Ok (adU ρ) := ⟨by kernel_rfl, fun p v kn kx => by kernel_rfl⟩
theorem ahh (x : Val (.pair m5 ace)) (k : Int → Option ρ) :
    adT (adU ρ) 254 (adx [m5, ace] x) (fun h v => ab4 (adH [tI] h v) k) = aeb x.1 x.2 k := by kernel_rfl
theorem agy (x : Val (.pair m5 ace)) (k : Bool → Option ρ) :
    adT (aeM ρ) 210 (adx [m5, ace] x) (fun h v => ab4 (adH [.bool] h v) k) = adN x.1 x.2 k := by kernel_rfl
theorem ahS : (afu ρ).Ok (aez ρ) := ⟨by kernel_rfl, fun p v kn kx => by kernel_rfl⟩
theorem aiW (x : Val abW) (k : Int → Option ρ) :
    adT (aez ρ) 256 (adx [f6, ab3] x) (fun h v => ab4 (adH [tI] h v) k) = ae1 x.1 x.2 k := by kernel_rfl
theorem ahE (x : Val abW) (k : Bool → Option ρ) :
    adT (afv ρ) 213 (adx [f6, ab3] x) (fun h v => ab4 (adH [.bool] h v) k) = aeh x.1 x.2 k := by kernel_rfl
theorem ahg : (afb ρ).Ok (aea ρ) := ⟨by kernel_rfl, fun p v kn kx => by kernel_rfl⟩
theorem ahU (x : Val (.pair wi adB)) (k : Int → Option ρ) :
    adT (aea ρ) 258 (adx [wi, adB] x) (fun h v => ab4 (adH [tI] h v) k) = aeB x.1 x.2 k := by kernel_rfl
theorem ag7 (x : Val (.pair wi adB)) (k : Bool → Option ρ) :
    adT (afd ρ) 216 (adx [wi, adB] x) (fun h v => ab4 (adH [.bool] h v) k) = ad1 x.1 x.2 k := by kernel_rfl
theorem aCq : (ath ρ).Ok (aeQ ρ) := ⟨by kernel_rfl, fun p v kn kx => by kernel_rfl⟩
theorem aCn : (ate ρ).Ok (aeQ ρ) := ⟨by kernel_rfl, fun p v kn kx => by kernel_rfl⟩
theorem aCm : (atd ρ).Ok (aeQ ρ) := ⟨by kernel_rfl, fun p v kn kx => by kernel_rfl⟩
theorem aCo : (atf ρ).Ok (aeQ ρ) := ⟨by kernel_rfl, fun p v kn kx => by kernel_rfl⟩
theorem aCp : (atg ρ).Ok (aeQ ρ) := ⟨by kernel_rfl, fun p v kn kx => by kernel_rfl⟩
theorem aCl : (atc ρ).Ok (aeQ ρ) := ⟨by kernel_rfl, fun p v kn kx => by kernel_rfl⟩
theorem aCk : (atb ρ).Ok (aeQ ρ) := ⟨by kernel_rfl, fun p v kn kx => by kernel_rfl⟩
theorem aCj : (ata ρ).Ok (aeQ ρ) := ⟨by kernel_rfl, fun p v kn kx => by kernel_rfl⟩
theorem aCi : (as9 ρ).Ok (aeQ ρ) := ⟨by kernel_rfl, fun p v kn kx => by kernel_rfl⟩
theorem aCh : (as8 ρ).Ok (aeQ ρ) := ⟨by kernel_rfl, fun p v kn kx => by kernel_rfl⟩
theorem aIn (x : Val (.pair ab6 ab6)) (k : Bool → Option ρ) :
    adT (aeQ ρ) 77 (adx [ab6, ab6] x) (fun h v => ab4 (adH [.bool] h v) k) = aFy x.1 x.2 k := by kernel_rfl
theorem aCy (x : Val (.pair ab6 ae8)) (k : (Val abU) → Option ρ) :
    adT (awY ρ) 35 (adx [ab6, ae8] x) (fun h v => ab4 (adH [.bool, tI] h v) k) = avu x.1 x.2 k := by kernel_rfl
theorem aKW : (aD2 ρ).Ok (avM ρ) := ⟨by kernel_rfl, fun p v kn kx => by kernel_rfl⟩
theorem aKU : (aD0 ρ).Ok (avM ρ) := ⟨by kernel_rfl, fun p v kn kx => by kernel_rfl⟩
theorem aKT : (aDZ ρ).Ok (avM ρ) := ⟨by kernel_rfl, fun p v kn kx => by kernel_rfl⟩
theorem aKV : (aD1 ρ).Ok (avM ρ) := ⟨by kernel_rfl, fun p v kn kx => by kernel_rfl⟩
theorem aPv (x : Val abV) (k : (Val abu) → Option ρ) :
    adT (avM ρ) 156 (adx [acf, tI, tI] x) (fun h v => ab4 (adH [abu] h v) k) = azZ x.1 x.2.1 x.2.2 k := by kernel_rfl
theorem aAb : (aqW ρ).Ok (agQ ρ) := ⟨by kernel_rfl, fun p v kn kx => by kernel_rfl⟩
theorem az7 : (aqS ρ).Ok (agQ ρ) := ⟨by kernel_rfl, fun p v kn kx => by kernel_rfl⟩
theorem az8 : (aqT ρ).Ok (agQ ρ) := ⟨by kernel_rfl, fun p v kn kx => by kernel_rfl⟩
theorem az9 : (aqU ρ).Ok (agQ ρ) := ⟨by kernel_rfl, fun p v kn kx => by kernel_rfl⟩
theorem aAa : (aqV ρ).Ok (agQ ρ) := ⟨by kernel_rfl, fun p v kn kx => by kernel_rfl⟩
theorem aFW (x : Val acf) (k : (Val abG) → Option ρ) :
    adT (agQ ρ) 78 (adx [acf] x) (fun h v => ab4 (adH [nn, tI] h v) k) = aAc x k := by kernel_rfl
theorem avm : (anK ρ).Ok (amG ρ) := ⟨by kernel_rfl, fun p v kn kx => by kernel_rfl⟩
theorem azC (x : Val (.pair ab6 nn)) (k : (Val f6) → Option ρ) :
    adT (amG ρ) 80 (adx [ab6, nn] x) (fun h v => ab4 (adH [f6] h v) k) = arL x.1 x.2 k := by kernel_rfl
theorem aFP (x : Val ab6) (k : (Val (.pair ae8 tI)) → Option ρ) :
    adT (azT ρ) 36 (adx [ab6] x) (fun h v => ab4 (adH [ae8, tI] h v) k) = azU x k := by kernel_rfl
theorem avx (x : Val tI) (k : Int → Option ρ) :
    adT (aoL ρ) 96 (adx [tI] x) (fun h v => ab4 (adH [tI] h v) k) = amN x k := by kernel_rfl
theorem avr (x : Val (.pair acY tI)) (k : (Val nn) → Option ρ) :
    adT (aoJ ρ) 97 (adx [acY, tI] x) (fun h v => ab4 (adH [nn] h v) k) = amK x.1 x.2 k := by kernel_rfl
theorem atp : (((ak0 (ac5 ρ).P 50).elim [] (acC 0)).filter fun y => Nat.beq y.1 0).length = 1 := by kernel_rfl
theorem atq (p : Val abw) (v : Val abC) (kn : Val abw → Val abC → Option ρ) (kx : (i : Nat) → Val abw → Val (tyL (aeS.zs i)) → Option ρ) :
    goC (ac5 ρ) (agC (ac5 ρ) (10 - 2 / 2)) 50 [1, 3] 5 0 (axr (ak0 (ac5 ρ).P 50) 0) (af0 aeS.head aeS.cs aeS.vs p v) (aHu aeS kn kx) = (aiY ρ).bF p v (kn p) (fun i => kx i p) := by kernel_rfl
theorem avw : (aiY ρ).Ok (ac5 ρ) := ⟨atp, atq⟩
theorem atn : (((ak0 (ac5 ρ).P 178).elim [] (acC 0)).filter fun y => Nat.beq y.1 0).length = 1 := by kernel_rfl
theorem ato (p : Val abt) (v : Val tI) (kn : Val abt → Val tI → Option ρ) (kx : (i : Nat) → Val abt → Val (tyL (aeR.zs i)) → Option ρ) :
    goC (ac5 ρ) (agC (ac5 ρ) (10 - 4 / 2)) 178 [18, 4, 1, 2] 12 0 (axr (ak0 (ac5 ρ).P 178) 0) (af0 aeR.head aeR.cs aeR.vs p v) (aHu aeR kn kx) = (aiX ρ).bF p v (kn p) (fun i => kx i p) := by kernel_rfl
theorem avv : (aiX ρ).Ok (ac5 ρ) := ⟨atn, ato⟩
theorem azP (x : Val abN) (k : (Val abU) → Option ρ) :
    adT (amM ρ) 42 (adx [ab6, ab3, ab3, ab9] x) (fun h v => ab4 (adH [.bool, tI] h v) k) = arR x.1 x.2.1 x.2.2.1 x.2.2.2 k := by kernel_rfl
theorem axN (x : Unit) (k : Val ab6 → Option ρ) :
    adT (aqF ρ) 48 (adx [] x) (fun h v => ab4 (adH [ab6] h v) k) = aov k := by kernel_rfl
theorem aAh : (aq0 ρ).Ok (ajY ρ) := ⟨by kernel_rfl, fun p v kn kx => by kernel_rfl⟩
theorem aAf : (aqY ρ).Ok (ajY ρ) := ⟨by kernel_rfl, fun p v kn kx => by kernel_rfl⟩
theorem aAg : (aqZ ρ).Ok (ajY ρ) := ⟨by kernel_rfl, fun p v kn kx => by kernel_rfl⟩
theorem aFY (x : Val abV) (k : (Val abG) → Option ρ) :
    adT (ajY ρ) 120 (adx [acf, tI, tI] x) (fun h v => ab4 (adH [nn, tI] h v) k) = aAi x.1 x.2.1 x.2.2 k := by kernel_rfl
theorem avD (x : Val (.pair aby (.pair abS (.ptr .bool)))) (k : (Val nn) → Option ρ) :
    adT (aoQ ρ) 119 (adx [aby, abS, (.ptr .bool)] x) (fun h v => ab4 (adH [nn] h v) k) = amR x.1 x.2.1 x.2.2 k := by kernel_rfl
theorem avC : (anS ρ).Ok (ahm ρ) := ⟨by kernel_rfl, fun p v kn kx => by kernel_rfl⟩
theorem avB : (anR ρ).Ok (ahm ρ) := ⟨by kernel_rfl, fun p v kn kx => by kernel_rfl⟩
theorem azV (x : Val (.pair ab6 (.pair ab3 .bool))) (k : (Val (.pair ae8 tI)) → Option ρ) :
    adT (ahm ρ) 49 (adx [ab6, ab3, .bool] x) (fun h v => ab4 (adH [ae8, tI] h v) k) = arT x.1 x.2.1 x.2.2 k := by kernel_rfl
theorem azy (x : Unit) (k : Bool → Option ρ) :
    adT (asY ρ) 14 (adx [] x) (fun h v => ab4 (adH [.bool] h v) k) = arD k := by kernel_rfl
theorem azx : (aqE ρ).Ok (arC ρ) := ⟨by kernel_rfl, fun p v kn kx => by kernel_rfl⟩
theorem aFj (x : Val (.pair ab6 f6)) (k : (Val (.pair ab6 .bool)) → Option ρ) :
    adT (arC ρ) 19 (adx [ab6, f6] x) (fun h v => ab4 (adH [ab6, .bool] h v) k) = asX x.1 x.2 k := by kernel_rfl
theorem azz (x : Val acY) (k : Bool → Option ρ) :
    adT (asZ ρ) 28 (adx [tI, ab3] x) (fun h v => ab4 (adH [.bool] h v) k) = arE x.1 x.2 k := by kernel_rfl
theorem aow (x : Val abN) (k : Bool → Option ρ) :
    adT (ajN ρ) 10 (adx [ab6, ab3, ab3, ab9] x) (fun h v => ab4 (adH [.bool] h v) k) = ahQ x.1 x.2.1 x.2.2.1 x.2.2.2 k := by kernel_rfl
end Go.Proofs.ZzM
end

noncomputable section
variable {ρ : Type}
set_option maxRecDepth 100000
namespace Go.Proofs.ZzM
open Go Go.Am
theorem avT : (an0 ρ).Ok (amZ ρ) := ⟨by kernel_rfl, fun p v kn kx => by kernel_rfl⟩
theorem aAE (x : Val ab6) (k : (Val abv) → Option ρ) :
    adT (amZ ρ) 53 (adx [ab6] x) (fun h v => ab4 (adH [abv] h v) k) = ar1 x k := by kernel_rfl
theorem aC7 (x : Val acT) (k : Bool → Option ρ) :
    adT (axi ρ) 82 (adx [ab3, tI, tI] x) (fun h v => ab4 (adH [.bool] h v) k) = avY x.1 x.2.1 x.2.2 k := by kernel_rfl
theorem aCT (x : Val acY) (k : Bool → Option ρ) :
    adT (axd ρ) 126 (adx [tI, tI, tI] x) (fun h v => ab4 (adH [.bool] h v) k) = avS x.1 x.2.1 x.2.2 k := by kernel_rfl
theorem aGo (x : Val tI) (k : Bool → Option ρ) :
    adT (aAM ρ) 125 (adx [tI] x) (fun h v => ab4 (adH [.bool] h v) k) = aAN x k := by kernel_rfl
theorem aIK (x : Val tI) (k : Int → Option ρ) :
    adT (aD3 ρ) 259 (adx [tI] x) (fun h v => ab4 (adH [(.int .u64)] h v) k) = aF1 x k := by kernel_rfl
theorem aF2 : (aw9 ρ).Ok (aAp ρ) := ⟨by kernel_rfl, fun p v kn kx => by kernel_rfl⟩
theorem aKY (x : Val abX) (k : Int → Option ρ) :
    adT (aAp ρ) 260 (adx [(.int .u64), (.int .u64)] x) (fun h v => ab4 (adH [(.int .u64)] h v) k) = aKZ x.1 x.2 k := by kernel_rfl
theorem aF4 (x : Val ab3) (k : Bool → Option ρ) :
    adT (aAt ρ) 219 (adx [ab3] x) (fun h v => ab4 (adH [.bool] h v) k) = aAu x k := by kernel_rfl
theorem aAL (x : Val ace) (k : Bool → Option ρ) :
    adT (aug ρ) 162 (adx [ace] x) (fun h v => ab4 (adH [.bool] h v) k) = ar5 x k := by kernel_rfl
theorem ao8 : (ai7 ρ).Ok (ah2 ρ) := ⟨by kernel_rfl, fun p v kn kx => by kernel_rfl⟩
theorem ar8 (x : Val ab6) (k : Int → Option ρ) :
    adT (ah2 ρ) 83 (adx [ab6] x) (fun h v => ab4 (adH [tI] h v) k) = aj0 x k := by kernel_rfl
theorem amC : (ahH ρ).Ok (agL ρ) := ⟨by kernel_rfl, fun p v kn kx => by kernel_rfl⟩
theorem aox (x : Val abG) (k : Int → Option ρ) :
    adT (agL ρ) 73 (adx [nn, tI] x) (fun h v => ab4 (adH [tI] h v) k) = ahR x.1 x.2 k := by kernel_rfl
theorem alI (x : Val abG) (k : Bool → Option ρ) :
    adT (ahI ρ) 65 (adx [nn, tI] x) (fun h v => ab4 (adH [.bool] h v) k) = agt x.1 x.2 k := by kernel_rfl
theorem aDa : (auk ρ).Ok (ap0 ρ) := ⟨by kernel_rfl, fun p v kn kx => by kernel_rfl⟩
theorem aC9 : (auj ρ).Ok (ap0 ρ) := ⟨by kernel_rfl, fun p v kn kx => by kernel_rfl⟩
theorem aI3 (x : Val (.pair ab6 ace)) (k : (Val nn) → Option ρ) :
    adT (ap0 ρ) 168 (adx [ab6, ace] x) (fun h v => ab4 (adH [nn] h v) k) = aGu x.1 x.2 k := by kernel_rfl
theorem aAG : (aq3 ρ).Ok (am2 ρ) := ⟨by kernel_rfl, fun p v kn kx => by kernel_rfl⟩
theorem aAH : (aq4 ρ).Ok (am2 ρ) := ⟨by kernel_rfl, fun p v kn kx => by kernel_rfl⟩
theorem aGc (x : Val ab6) (k : (Val f6) → Option ρ) :
    adT (am2 ρ) 85 (adx [ab6] x) (fun h v => ab4 (adH [f6] h v) k) = aAI x k := by kernel_rfl
theorem atZ (x : Val (.pair abv ab3)) (k : Int → Option ρ) :
    adT (an1 ρ) 164 (adx [abv, tI, tI] x) (fun h v => ab4 (adH [tI] h v) k) = alm x.1 x.2.1 x.2.2 k := by kernel_rfl
theorem aAF (x : Val (.pair tI (.pair tI (.ptr abv)))) (k : Int → Option ρ) :
    adT (at0 ρ) 163 (adx [tI, tI, (.ptr abv)] x) (fun h v => ab4 (adH [tI] h v) k) = ar4 x.1 x.2.1 x.2.2 k := by kernel_rfl
theorem ar7 : (akV ρ).Ok (ahn ρ) := ⟨by kernel_rfl, fun p v kn kx => by kernel_rfl⟩
theorem ar6 : (akU ρ).Ok (ahn ρ) := ⟨by kernel_rfl, fun p v kn kx => by kernel_rfl⟩
theorem av0 (x : Val ab0) (k : Int → Option ρ) :
    adT (ahn ρ) 166 (adx [ab6, abv, tI] x) (fun h v => ab4 (adH [tI] h v) k) = anb x.1 x.2.1 x.2.2 k := by kernel_rfl
theorem aC4 : (auf ρ).Ok (apZ ρ) := ⟨by kernel_rfl, fun p v kn kx => by kernel_rfl⟩
theorem aC3 : (aue ρ).Ok (apZ ρ) := ⟨by kernel_rfl, fun p v kn kx => by kernel_rfl⟩
theorem aI0 (x : Val (.pair nn nn)) (k : (Val nn) → Option ρ) :
    adT (apZ ρ) 88 (adx [nn, nn] x) (fun h v => ab4 (adH [nn] h v) k) = aGm x.1 x.2 k := by kernel_rfl
theorem alK : (ahk ρ).Ok (aff ρ) := ⟨by kernel_rfl, fun p v kn kx => by kernel_rfl⟩
theorem alJ : (ahj ρ).Ok (aff ρ) := ⟨by kernel_rfl, fun p v kn kx => by kernel_rfl⟩
theorem an6 (x : Val abu) (k : (Val nn) → Option ρ) :
    adT (aff ρ) 94 (adx [abu] x) (fun h v => ab4 (adH [nn] h v) k) = afV x k := by kernel_rfl
theorem ayc : (ao5 ρ).Ok (ao6 ρ) := ⟨by kernel_rfl, fun p v kn kx => by kernel_rfl⟩
theorem aC5 (x : Val nn) (k : Bool → Option ρ) :
    adT (ao6 ρ) 198 (adx [nn] x) (fun h v => ab4 (adH [.bool] h v) k) = avX x k := by kernel_rfl
theorem aDb : (auo ρ).Ok (av1 ρ) := ⟨by kernel_rfl, fun p v kn kx => by kernel_rfl⟩
theorem aI4 (x : Val abQ) (k : (Val (.pair adB .bool)) → Option ρ) :
    adT (av1 ρ) 223 (adx [ab6, tI, tI] x) (fun h v => ab4 (adH [adB, .bool] h v) k) = aGw x.1 x.2.1 x.2.2 k := by kernel_rfl
theorem aoa : (aiG ρ).Ok (ad7 ρ) := ⟨by kernel_rfl, fun p v kn kx => by kernel_rfl⟩
theorem an8 : (aiE ρ).Ok (ad7 ρ) := ⟨by kernel_rfl, fun p v kn kx => by kernel_rfl⟩
theorem an9 : (aiF ρ).Ok (ad7 ρ) := ⟨by kernel_rfl, fun p v kn kx => by kernel_rfl⟩
theorem an7 : (aiD ρ).Ok (ad7 ρ) := ⟨by kernel_rfl, fun p v kn kx => by kernel_rfl⟩
theorem aqu (x : Val ab0) (k : Int → Option ρ) :
    adT (ad7 ρ) 167 (adx [ab6, abv, tI] x) (fun h v => ab4 (adH [tI] h v) k) = ai0 x.1 x.2.1 x.2.2 k := by kernel_rfl
theorem aFH : (awW ρ).Ok (aeC ρ) := ⟨by kernel_rfl, fun p v kn kx => by kernel_rfl⟩
theorem aFI : (awX ρ).Ok (aeC ρ) := ⟨by kernel_rfl, fun p v kn kx => by kernel_rfl⟩
theorem aFG : (awV ρ).Ok (aeC ρ) := ⟨by kernel_rfl, fun p v kn kx => by kernel_rfl⟩
theorem aFF : (akF ρ).Ok (aeC ρ) := ⟨by kernel_rfl, fun p v kn kx => by kernel_rfl⟩
theorem aFE : (akE ρ).Ok (aeC ρ) := ⟨by kernel_rfl, fun p v kn kx => by kernel_rfl⟩
theorem aFD : (akD ρ).Ok (aeC ρ) := ⟨by kernel_rfl, fun p v kn kx => by kernel_rfl⟩
theorem aKO (x : Val (.pair ab6 (.pair f6 f6))) (kA : Val abR → Val abo → Option ρ) : goC (aeC ρ) (agC (aeC ρ) 10) 79 [] 0 0 (preC 7 adn) { t := adx [ab6, f6, f6] x ++ List.replicate 127 .any, h := [] } (matK alN 0 afN ah1 kA) = atl x.1 x.2.1 x.2.2 kA := by kernel_rfl
theorem aNH (p : Val abR) (v : Val abo) (x : Val ace) (kk : Val abR → Val (.pair tI (.pair tI (.pair m5 (.pair f6 (.pair wi (.pair l5 (.pair f6 (.pair tI (.pair tI (.pair m5 (.pair f6 (.pair wi (.pair l5 (.pair f6 (.pair tI (.pair tI (.pair m5 (.pair f6 (.pair wi (.pair l5 (.pair f6 (.pair abr (.pair abr (.pair m5 abx)))))))))))))))))))))))) → Option ρ) : goC (adi ρ) (agC (adi ρ) 10) 79 [] 9 4 (rfA (rfC 7 adn)) { t := upd (af0 alN afN ah1 p v).t 60 (.agg (flat ace x)), h := (af0 alN afN ah1 p v).h } (matK azM 9 afN apT kk) = kk p (arP v x) := by kernel_rfl
theorem aNG (p : Val abR) (v : Val abo) (x : Val ace) (kk : Val abR → Val abo → Option ρ) : goC (adi ρ) (agC (adi ρ) 10) 79 [] 9 4 (rfB (rfC 7 adn)) (af0 azM afN apT p (arP v x)) (matK alN 9 afN ah1 kk) = acS (acK ((List.length (amL v)) + (List.length [x]))) (kk p (adm v (amL v ++ [x]))) := by kernel_rfl
theorem aIq (p : Val abR) (v : Val abo) (k : Val abq → Option ρ) : goC (adi ρ) (agC (adi ρ) 10) 79 [] 0 0 (postC 7 adn) (af0 alN afN ah1 p v) (matR ajW 0 agl k) = aiC p v (fun y => k (ag0 y)) := by kernel_rfl
theorem aKN (y : Val ab6) : ajK Tryz.prog Tryz.f79 (af0 ajW [] agl () (ag0 y)) = some (enc ab6 y) := by kernel_rfl
theorem aNF : rfC 7 adn = Code.block 4 (Code.rangeFunc (.tmp 59) #[60] (rfA (rfC 7 adn)) (rfB (rfC 7 adn))) := by kernel_rfl
theorem atk : aER 7 adn = true := by kernel_rfl
theorem akC : Tryz.f79.body = some adn := by kernel_rfl
theorem aCw : (akF ρ).Ok (adi ρ) := ⟨by kernel_rfl, fun p v kn kx => by kernel_rfl⟩
theorem aCv : (akE ρ).Ok (adi ρ) := ⟨by kernel_rfl, fun p v kn kx => by kernel_rfl⟩
theorem aCu : (akD ρ).Ok (adi ρ) := ⟨by kernel_rfl, fun p v kn kx => by kernel_rfl⟩
end Go.Proofs.ZzM
end
