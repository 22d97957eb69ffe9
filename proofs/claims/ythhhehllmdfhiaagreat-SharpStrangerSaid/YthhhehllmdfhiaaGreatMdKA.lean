/- lemmas -/
import Derived.Test.YthhhehllmdfhiaaGreatMdMA
set_option linter.all false
set_option linter.unusedSectionVars false
set_option linter.unusedVariables false
set_option linter.unusedSimpArgs false
noncomputable section
variable {ρ : Type}
set_option maxRecDepth 100000
namespace Go.Proofs.ZzM
open Go Go.Am
theorem aCi (x : Val ab9) (k : Bool → Option ρ) :
    adK (aw3 ρ) 29 (adr [ab9] x) (fun h v => ab2 (adB [.bool] h v) k) = avs x k := by kernel_rfl
theorem aCh : (as1 ρ).Ok (avr ρ) := ⟨by kernel_rfl, fun p v kn kx => by kernel_rfl⟩
theorem aIC (x : Val ab3) (k : Bool → Option ρ) :
    adK (avr ρ) 13 (adr [ab3] x) (fun h v => ab2 (adB [.bool] h v) k) = aFs x k := by kernel_rfl
theorem aC9 : (auh ρ).Ok (apX ρ) := ⟨by kernel_rfl, fun p v kn kx => by kernel_rfl⟩
theorem aC8 : (aug ρ).Ok (apX ρ) := ⟨by kernel_rfl, fun p v kn kx => by kernel_rfl⟩
theorem aJh (x : Val (.pair ab3 (.pair acd ab1))) (k : Int → Option ρ) :
    adK (apX ρ) 54 (adr [ab3, acd, tI, tI] x) (fun h v => ab2 (adB [tI] h v) k) = aGt x.1 x.2.1 x.2.2.1 x.2.2.2 k := by kernel_rfl
theorem ahi : (ae3 ρ).Ok (ad8 ρ) := ⟨by kernel_rfl, fun p v kn kx => by kernel_rfl⟩
theorem ahS (x : Val abV) (k : Int → Option ρ) :
    adK (ad8 ρ) 130 (adr [eI, ab1] x) (fun h v => ab2 (adB [tI] h v) k) = aev x.1 x.2 k := by kernel_rfl
theorem ayn (x : Val (.pair abB abE)) (k : Int → Option ρ) :
    adK (aq7 ρ) 87 (adr [abB, f6, tI] x) (fun h v => ab2 (adB [tI] h v) k) = ao3 x.1 x.2.1 x.2.2 k := by kernel_rfl
theorem aqq (x : Val (.pair abu f6)) (k : Val ab1 → Option ρ) :
    adK (akN ρ) 224 (adr [abu, f6] x) (fun h v => ab2 (adB [ab1] h v) k) = aiT x.1 x.2 k := by kernel_rfl
theorem aAu : (aq3 ρ).Ok (ar2 ρ) := ⟨by kernel_rfl, fun p v kn kx => by kernel_rfl⟩
theorem aGa (x : Val eI) (k : Int → Option ρ) :
    adK (ar2 ρ) 227 (adr [eI] x) (fun h v => ab2 (adB [tI] h v) k) = aAv x k := by kernel_rfl
theorem aAw (x : Val ab1) (k : Val ahb → Option ρ) :
    adK (atV ρ) 277 (adr [tI, tI] x) (fun h v => ab2 (adB [ab1, tI] h v) k) = ar4 x.1 x.2 k := by kernel_rfl
theorem aLm (x : Val acQ) (k : Val ahb → Option ρ) :
    adK (aI7 ρ) 262 (adr [ab1, ab1] x) (fun h v => ab2 (adB [ab1, tI] h v) k) = aLn x.1 x.2 k := by kernel_rfl
theorem av5 (x : Val acQ) (k : Val ab1 → Option ρ) :
    adK (ao0 ρ) 225 (adr [ab1, ab1] x) (fun h v => ab2 (adB [ab1] h v) k) = amY x.1 x.2 k := by kernel_rfl
theorem aLk (x : Val acQ) (k : Int → Option ρ) :
    adK (aI5 ρ) 287 (adr [ab1, ab1] x) (fun h v => ab2 (adB [tI] h v) k) = aLl x.1 x.2 k := by kernel_rfl
theorem atY (x : Val acQ) (k : Bool → Option ρ) :
    adK (anX ρ) 278 (adr [acQ] x) (fun h v => ab2 (adB [.bool] h v) k) = alk x k := by kernel_rfl
theorem aLo (x : Val acQ) (k : Val ahb → Option ρ) :
    adK (aI9 ρ) 281 (adr [ab1, ab1] x) (fun h v => ab2 (adB [ab1, tI] h v) k) = aLp x.1 x.2 k := by kernel_rfl
theorem aGf (x : Val (.pair acQ ab1)) (k : Val aOY → Option ρ) :
    adK (ar5 ρ) 263 (adr [acQ, ab1] x) (fun h v => ab2 (adB [acQ, tI] h v) k) = aAF x.1 x.2 k := by kernel_rfl
theorem av4 (x : Val acQ) (k : Val acQ → Option ρ) :
    adK (aoZ ρ) 226 (adr [ab1, ab1] x) (fun h v => ab2 (adB [acQ] h v) k) = amX x.1 x.2 k := by kernel_rfl
theorem aDf (x : Val abI) (k : Val acQ → Option ρ) :
    adK (axx ρ) 171 (adr [ab3, ab9] x) (fun h v => ab2 (adB [acQ] h v) k) = av9 x.1 x.2 k := by kernel_rfl
theorem aGB (x : Val abI) (k : Val ab1 → Option ρ) :
    adK (aAX ρ) 172 (adr [ab3, ab9] x) (fun h v => ab2 (adB [ab1] h v) k) = aAY x.1 x.2 k := by kernel_rfl
theorem aGd (x : Val ab1) (k : Int → Option ρ) :
    adK (aAz ρ) 228 (adr [tI, tI] x) (fun h v => ab2 (adB [tI] h v) k) = aAA x.1 x.2 k := by kernel_rfl
theorem aJb (x : Val ab1) (k : Val ab1 → Option ρ) :
    adK (aEa ρ) 173 (adr [ab1] x) (fun h v => ab2 (adB [tI, tI] h v) k) = aGh x k := by kernel_rfl
theorem aGg (x : Val ab1) (k : Val ab1 → Option ρ) :
    adK (aAH ρ) 174 (adr [ab1] x) (fun h v => ab2 (adB [tI, tI] h v) k) = aAI x k := by kernel_rfl
theorem aJe (x : Val abI) (k : Val ab1 → Option ρ) :
    adK (aEb ρ) 200 (adr [ab3, ab9] x) (fun h v => ab2 (adB [ab1] h v) k) = aGl x.1 x.2 k := by kernel_rfl
theorem aC6 : (aue ρ).Ok (al6 ρ) := ⟨by kernel_rfl, fun p v kn kx => by kernel_rfl⟩
theorem aC7 : (auf ρ).Ok (al6 ρ) := ⟨by kernel_rfl, fun p v kn kx => by kernel_rfl⟩
theorem aC5 : (aud ρ).Ok (al6 ρ) := ⟨by kernel_rfl, fun p v kn kx => by kernel_rfl⟩
theorem aJg (x : Val ab3) (k : (Val abB) → Option ρ) :
    adK (al6 ρ) 62 (adr [ab3] x) (fun h v => ab2 (adB [abB] h v) k) = aGq x k := by kernel_rfl
theorem aDk (x : Val ab3) (k : (Val (.pair acb (.pair eI tI))) → Option ρ) :
    adK (axB ρ) 20 (adr [ab3] x) (fun h v => ab2 (adB [acb, eI, tI] h v) k) = awd x k := by kernel_rfl
theorem aGN (x : Val abL) (k : Val ab1 → Option ρ) :
    adK (aA0 ρ) 60 (adr [ab3, ab1] x) (fun h v => ab2 (adB [tI, tI] h v) k) = aA1 x.1 x.2 k := by kernel_rfl
theorem azM (x : Val abO) (k : Int → Option ρ) :
    adK (as8 ρ) 55 (adr [abx, ab1] x) (fun h v => ab2 (adB [tI] h v) k) = arQ x.1 x.2 k := by kernel_rfl
theorem aIT (x : Val (.pair acb tI)) (k : Bool → Option ρ) :
    adK (aD4 ρ) 134 (adr [acb, tI] x) (fun h v => ab2 (adB [.bool] h v) k) = aFZ x.1 x.2 k := by kernel_rfl
theorem aAm : (aqZ ρ).Ok (ar1 ρ) := ⟨by kernel_rfl, fun p v kn kx => by kernel_rfl⟩
theorem aF7 (x : Val acb) (k : Val ab1 → Option ρ) :
    adK (ar1 ρ) 133 (adr [acb] x) (fun h v => ab2 (adB [tI, tI] h v) k) = aAn x k := by kernel_rfl
theorem atF : (al3 ρ).Ok (aeV ρ) := ⟨by kernel_rfl, fun p v kn kx => by kernel_rfl⟩
theorem atD : (al2 ρ).Ok (aeV ρ) := ⟨by kernel_rfl, fun p v kn kx => by kernel_rfl⟩
theorem atB : (al0 ρ).Ok (aeV ρ) := ⟨by kernel_rfl, fun p v kn kx => by kernel_rfl⟩
theorem atC : (al1 ρ).Ok (aeV ρ) := ⟨by kernel_rfl, fun p v kn kx => by kernel_rfl⟩
theorem atA : (alZ ρ).Ok (aeV ρ) := ⟨by kernel_rfl, fun p v kn kx => by kernel_rfl⟩
theorem ayd (x : Val (.pair acb abq)) (k : (Val (.pair f6 .bool)) → Option ρ) :
    adK (aeV ρ) 135 (adr [acb, abq] x) (fun h v => ab2 (adB [f6, .bool] h v) k) = aoQ x.1 x.2 k := by kernel_rfl
theorem aAe : (aqT ρ).Ok (ar0 ρ) := ⟨by kernel_rfl, fun p v kn kx => by kernel_rfl⟩
theorem aF2 (x : Val abS) (k : Int → Option ρ) :
    adK (ar0 ρ) 63 (adr [acb, f6] x) (fun h v => ab2 (adB [tI] h v) k) = aAf x.1 x.2 k := by kernel_rfl
theorem ayj : (aoW ρ).Ok (afY ρ) := ⟨by kernel_rfl, fun p v kn kx => by kernel_rfl⟩
theorem ayi : (aoV ρ).Ok (afY ρ) := ⟨by kernel_rfl, fun p v kn kx => by kernel_rfl⟩
theorem ayh : (aoU ρ).Ok (afY ρ) := ⟨by kernel_rfl, fun p v kn kx => by kernel_rfl⟩
theorem ayf : (aoS ρ).Ok (afY ρ) := ⟨by kernel_rfl, fun p v kn kx => by kernel_rfl⟩
theorem ayg : (aoT ρ).Ok (afY ρ) := ⟨by kernel_rfl, fun p v kn kx => by kernel_rfl⟩
theorem aCL (x : Val (.pair acb (.pair abq tI))) (k : (Val f6) → Option ρ) :
    adK (afY ρ) 64 (adr [acb, abq, tI] x) (fun h v => ab2 (adB [f6] h v) k) = avW x.1 x.2.1 x.2.2 k := by kernel_rfl
theorem aF9 (x : Val abU) (k : Val ab1 → Option ρ) :
    adK (aAs ρ) 89 (adr [acb, tI, tI] x) (fun h v => ab2 (adB [tI, tI] h v) k) = aAt x.1 x.2.1 x.2.2 k := by kernel_rfl
theorem as7 (x : Val abO) (k : Int → Option ρ) :
    adK (anK ρ) 56 (adr [abx, tI, tI] x) (fun h v => ab2 (adB [tI] h v) k) = ak9 x.1 x.2.1 x.2.2 k := by kernel_rfl
theorem as6 (x : Val abO) (k : Int → Option ρ) :
    adK (anJ ρ) 121 (adr [abx, ab1] x) (fun h v => ab2 (adB [tI] h v) k) = ak8 x.1 x.2 k := by kernel_rfl
theorem aoB (x : Val abO) (k : Int → Option ρ) :
    adK (ajN ρ) 122 (adr [abx, ab1] x) (fun h v => ab2 (adB [tI] h v) k) = ahX x.1 x.2 k := by kernel_rfl
theorem aoA (x : Val abO) (k : Val ab1 → Option ρ) :
    adK (agQ ρ) 51 (adr [abx, ab1] x) (fun h v => ab2 (adB [ab1] h v) k) = ahW x.1 x.2 k := by kernel_rfl
theorem aDm : (auv ρ).Ok (awe ρ) := ⟨by kernel_rfl, fun p v kn kx => by kernel_rfl⟩
theorem aJp (x : Val abL) (k : (Val abP) → Option ρ) :
    adK (awe ρ) 61 (adr [ab3, ab1] x) (fun h v => ab2 (adB [ab3, tI] h v) k) = aGM x.1 x.2 k := by kernel_rfl
theorem atL (x : Val acb) (k : (Val abG) → Option ρ) :
    adK (anU ρ) 123 (adr [acb] x) (fun h v => ab2 (adB [.bool, tI] h v) k) = alh x k := by kernel_rfl
theorem atw : (alW ρ).Ok (alc ρ) := ⟨by kernel_rfl, fun p v kn kx => by kernel_rfl⟩
theorem ax7 (x : Val abL) (k : Val ahb → Option ρ) :
    adK (alc ρ) 15 (adr [ab3, ab1] x) (fun h v => ab2 (adB [ab1, tI] h v) k) = aoL x.1 x.2 k := by kernel_rfl
theorem avN : (anR ρ).Ok (amO ρ) := ⟨by kernel_rfl, fun p v kn kx => by kernel_rfl⟩
theorem az5 (x : Val (.pair ab3 acQ)) (k : Val ahb → Option ρ) :
    adK (amO ρ) 17 (adr [ab3, ab1, ab1] x) (fun h v => ab2 (adB [ab1, tI] h v) k) = arY x.1 x.2.1 x.2.2 k := by kernel_rfl
theorem aDn (x : Val (.pair f6 f6)) (k : (Val (.pair f6 abE)) → Option ρ) :
    adK (axF ρ) 129 (adr [f6, f6] x) (fun h v => ab2 (adB [f6, f6, tI] h v) k) = awf x.1 x.2 k := by kernel_rfl
theorem aID (x : Val abE) (k : Bool → Option ρ) :
    adK (aD3 ρ) 57 (adr [f6, tI] x) (fun h v => ab2 (adB [.bool] h v) k) = aFu x.1 x.2 k := by kernel_rfl
theorem aFI (x : Val tI) (k : Bool → Option ρ) :
    adK (azS ρ) 58 (adr [tI] x) (fun h v => ab2 (adB [.bool] h v) k) = azT x k := by kernel_rfl
theorem azN : (aqJ ρ).Ok (arR ρ) := ⟨by kernel_rfl, fun p v kn kx => by kernel_rfl⟩
theorem aFG (x : Val (.pair tI abt)) (k : (Val eI) → Option ρ) :
    adK (arR ρ) 59 (adr [tI, abt] x) (fun h v => ab2 (adB [eI] h v) k) = azO x.1 x.2 k := by kernel_rfl
theorem aCF : (atu ρ).Ok (apT ρ) := ⟨by kernel_rfl, fun p v kn kx => by kernel_rfl⟩
theorem aCE : (ats ρ).Ok (apT ρ) := ⟨by kernel_rfl, fun p v kn kx => by kernel_rfl⟩
theorem aIP (x : Val (.pair ab3 abz)) (k : Val ahb → Option ρ) :
    adK (apT ρ) 18 (adr [ab3, tI, f6] x) (fun h v => ab2 (adB [ab1, tI] h v) k) = aFU x.1 x.2.1 x.2.2 k := by kernel_rfl
theorem azK (x : Val acQ) (k : Int → Option ρ) :
    adK (as5 ρ) 69 (adr [ab1, ab1] x) (fun h v => ab2 (adB [tI] h v) k) = arO x.1 x.2 k := by kernel_rfl
theorem azZ : (aqR ρ).Ok (arW ρ) := ⟨by kernel_rfl, fun p v kn kx => by kernel_rfl⟩
theorem aFV (x : Val (.pair ab3 acQ)) (k : Val ab1 → Option ρ) :
    adK (arW ρ) 25 (adr [ab3, ab1, ab1] x) (fun h v => ab2 (adB [tI, tI] h v) k) = az0 x.1 x.2.1 x.2.2 k := by kernel_rfl
theorem aDj : (aut ρ).Ok (awc ρ) := ⟨by kernel_rfl, fun p v kn kx => by kernel_rfl⟩
theorem aJn (x : Val abI) (k : (Val abP) → Option ρ) :
    adK (awc ρ) 41 (adr [ab3, ab9] x) (fun h v => ab2 (adB [ab3, tI] h v) k) = aGI x.1 x.2 k := by kernel_rfl
theorem aGk (x : Val (.pair ab3 (.pair ab9 ab1))) (k : Val ahb → Option ρ) :
    adK (aAL ρ) 90 (adr [ab3, ab9, ab1] x) (fun h v => ab2 (adB [ab1, tI] h v) k) = aAM x.1 x.2.1 x.2.2 k := by kernel_rfl
theorem aAZ (x : Val abI) (k : Val ahb → Option ρ) :
    adK (auu ρ) 40 (adr [ab3, ab9] x) (fun h v => ab2 (adB [ab1, tI] h v) k) = ase x.1 x.2 k := by kernel_rfl
theorem aGj (x : Val abP) (k : (Val (.pair ab9 tI)) → Option ρ) :
    adK (aAJ ρ) 205 (adr [ab3, tI] x) (fun h v => ab2 (adB [ab9, tI] h v) k) = aAK x.1 x.2 k := by kernel_rfl
theorem aJo (x : Val abP) (k : Val ahb → Option ρ) :
    adK (aEc ρ) 142 (adr [ab3, tI] x) (fun h v => ab2 (adB [ab1, tI] h v) k) = aGK x.1 x.2 k := by kernel_rfl
theorem ax3 (x : Val (.pair f6 (.pair abx (.ptr ab9)))) (k : Int → Option ρ) :
    adK (aqM ρ) 143 (adr [f6, abx, (.ptr ab9)] x) (fun h v => ab2 (adB [tI] h v) k) = aoF x.1 x.2.1 x.2.2 k := by kernel_rfl
theorem ax2 (x : Val (.pair tI (.pair tI (.pair abx (.pair (.ptr tI) (.pair abR (.ptr tI))))))) (k : Val ac1 → Option ρ) :
    adK (aqL ρ) 144 (adr [tI, tI, abx, (.ptr tI), abR, (.ptr tI)] x) (fun h v => ab2 (adB [ac1] h v) k) = aoE x.1 x.2.1 x.2.2.1 x.2.2.2.1 x.2.2.2.2.1 x.2.2.2.2.2 k := by kernel_rfl
theorem ax1 : (aoD ρ).Ok (akx ρ) := ⟨by kernel_rfl, fun p v kn kx => by kernel_rfl⟩
theorem aCx (x : Val (.pair abx abT)) (k : (Val (.pair aeq tI)) → Option ρ) :
    adK (akx ρ) 71 (adr [abx, ab1, ab9] x) (fun h v => ab2 (adB [aeq, tI] h v) k) = avy x.1 x.2.1 x.2.2 k := by kernel_rfl
theorem avz (x : Val ac1) (k : (Val f6) → Option ρ) :
    adK (aoG ρ) 95 (adr [ac1] x) (fun h v => ab2 (adB [f6] h v) k) = amF x k := by kernel_rfl
theorem aCy (x : Val (.pair ac1 tI)) (k : Int → Option ρ) :
    adK (aw6 ρ) 177 (adr [ac1, tI] x) (fun h v => ab2 (adB [tI] h v) k) = avB x.1 x.2 k := by kernel_rfl
theorem as3 (x : Val (.pair aeq tI)) (k : Val ab1 → Option ρ) :
    adK (anH ρ) 99 (adr [aeq, tI] x) (fun h v => ab2 (adB [ab1] h v) k) = ak6 x.1 x.2 k := by kernel_rfl
theorem aqm : (ajL ρ).Ok (agF ρ) := ⟨by kernel_rfl, fun p v kn kx => by kernel_rfl⟩
theorem aqn : (ajM ρ).Ok (agF ρ) := ⟨by kernel_rfl, fun p v kn kx => by kernel_rfl⟩
theorem as4 (x : Val (.pair aeq f6)) (k : (Val f6) → Option ρ) :
    adK (agF ρ) 101 (adr [aeq, f6] x) (fun h v => ab2 (adB [f6] h v) k) = ak7 x.1 x.2 k := by kernel_rfl
theorem aox : (ai1 ρ).Ok (ahV ρ) := ⟨by kernel_rfl, fun p v kn kx => by kernel_rfl⟩
theorem arL (x : Val aeq) (k : Int → Option ρ) :
    adK (ahV ρ) 72 (adr [aeq] x) (fun h v => ab2 (adB [tI] h v) k) = ajK x k := by kernel_rfl
theorem azW : (aqO ρ).Ok (arU ρ) := ⟨by kernel_rfl, fun p v kn kx => by kernel_rfl⟩
theorem aFQ (x : Val (.pair ab3 abT)) (k : Val ab1 → Option ρ) :
    adK (arU ρ) 31 (adr [ab3, ab1, ab9] x) (fun h v => ab2 (adB [tI, tI] h v) k) = azX x.1 x.2.1 x.2.2 k := by kernel_rfl
theorem avU : (anT ρ).Ok (amQ ρ) := ⟨by kernel_rfl, fun p v kn kx => by kernel_rfl⟩
theorem az7 (x : Val abS) (k : Int → Option ρ) :
    adK (amQ ρ) 145 (adr [acb, f6] x) (fun h v => ab2 (adB [tI] h v) k) = arZ x.1 x.2 k := by kernel_rfl
theorem aCJ : (atz ρ).Ok (avO ρ) := ⟨by kernel_rfl, fun p v kn kx => by kernel_rfl⟩
theorem aIS (x : Val (.pair acb abz)) (k : (Val (.pair tI (.pair tI .bool))) → Option ρ) :
    adK (avO ρ) 146 (adr [acb, tI, f6] x) (fun h v => ab2 (adB [tI, tI, .bool] h v) k) = aFY x.1 x.2.1 x.2.2 k := by kernel_rfl
theorem atQ (x : Val (.pair acb (.pair tI abz))) (k : Val ab1 → Option ρ) :
    adK (anW ρ) 76 (adr [acb, tI, tI, f6] x) (fun h v => ab2 (adB [tI, tI] h v) k) = alj x.1 x.2.1 x.2.2.1 x.2.2.2 k := by kernel_rfl
theorem avJ (x : Val adz) (k : Int → Option ρ) :
    adK (aoM ρ) 33 (adr [adz] x) (fun h v => ab2 (adB [tI] h v) k) = amM x k := by kernel_rfl
theorem atO (x : Val abS) (k : Int → Option ρ) :
    adK (anV ρ) 86 (adr [acb, f6] x) (fun h v => ab2 (adB [tI] h v) k) = ali x.1 x.2 k := by kernel_rfl
theorem aty (x : Val adz) (k : Int → Option ρ) :
    adK (anO ρ) 39 (adr [adz] x) (fun h v => ab2 (adB [tI] h v) k) = ald x k := by kernel_rfl
theorem agO : (aeC ρ).Ok (adP ρ) := ⟨by kernel_rfl, fun p v kn kx => by kernel_rfl⟩
theorem ahk (x : Val (.pair l5 acd)) (k : Int → Option ρ) :
    adK (adP ρ) 254 (adr [l5, acd] x) (fun h v => ab2 (adB [tI] h v) k) = aea x.1 x.2 k := by kernel_rfl
theorem agy (x : Val (.pair l5 acd)) (k : Bool → Option ρ) :
    adK (aeE ρ) 210 (adr [l5, acd] x) (fun h v => ab2 (adB [.bool] h v) k) = adN x.1 x.2 k := by kernel_rfl
theorem ahR : (afo ρ).Ok (aeu ρ) := ⟨by kernel_rfl, fun p v kn kx => by kernel_rfl⟩
theorem aiQ (x : Val abV) (k : Int → Option ρ) :
    adK (aeu ρ) 256 (adr [eI, ab1] x) (fun h v => ab2 (adB [tI] h v) k) = aeU x.1 x.2 k := by kernel_rfl
theorem ahE (x : Val abV) (k : Bool → Option ρ) :
    adK (afp ρ) 213 (adr [eI, ab1] x) (fun h v => ab2 (adB [.bool] h v) k) = aef x.1 x.2 k := by kernel_rfl
theorem ahj : (ae4 ρ).Ok (ad9 ρ) := ⟨by kernel_rfl, fun p v kn kx => by kernel_rfl⟩
theorem ahT (x : Val (.pair m5 adD)) (k : Int → Option ρ) :
    adK (ad9 ρ) 258 (adr [m5, adD] x) (fun h v => ab2 (adB [tI] h v) k) = aew x.1 x.2 k := by kernel_rfl
theorem aha (x : Val (.pair m5 adD)) (k : Bool → Option ρ) :
    adK (ae6 ρ) 216 (adr [m5, adD] x) (fun h v => ab2 (adB [.bool] h v) k) = adZ x.1 x.2 k := by kernel_rfl
theorem aCv : (ati ρ).Ok (aeI ρ) := ⟨by kernel_rfl, fun p v kn kx => by kernel_rfl⟩
theorem aCs : (atf ρ).Ok (aeI ρ) := ⟨by kernel_rfl, fun p v kn kx => by kernel_rfl⟩
theorem aCr : (ate ρ).Ok (aeI ρ) := ⟨by kernel_rfl, fun p v kn kx => by kernel_rfl⟩
theorem aCt : (atg ρ).Ok (aeI ρ) := ⟨by kernel_rfl, fun p v kn kx => by kernel_rfl⟩
theorem aCu : (ath ρ).Ok (aeI ρ) := ⟨by kernel_rfl, fun p v kn kx => by kernel_rfl⟩
theorem aCq : (atd ρ).Ok (aeI ρ) := ⟨by kernel_rfl, fun p v kn kx => by kernel_rfl⟩
theorem aCp : (atc ρ).Ok (aeI ρ) := ⟨by kernel_rfl, fun p v kn kx => by kernel_rfl⟩
theorem aCo : (atb ρ).Ok (aeI ρ) := ⟨by kernel_rfl, fun p v kn kx => by kernel_rfl⟩
theorem aCn : (ata ρ).Ok (aeI ρ) := ⟨by kernel_rfl, fun p v kn kx => by kernel_rfl⟩
theorem aCm : (as9 ρ).Ok (aeI ρ) := ⟨by kernel_rfl, fun p v kn kx => by kernel_rfl⟩
theorem aIE (x : Val (.pair ab3 ab3)) (k : Bool → Option ρ) :
    adK (aeI ρ) 77 (adr [ab3, ab3] x) (fun h v => ab2 (adB [.bool] h v) k) = aFF x.1 x.2 k := by kernel_rfl
theorem aCD (x : Val (.pair ab3 adz)) (k : (Val abG) → Option ρ) :
    adK (axb ρ) 35 (adr [ab3, adz] x) (fun h v => ab2 (adB [.bool, tI] h v) k) = avD x.1 x.2 k := by kernel_rfl
theorem aLf : (aD8 ρ).Ok (avV ρ) := ⟨by kernel_rfl, fun p v kn kx => by kernel_rfl⟩
theorem aLd : (aD6 ρ).Ok (avV ρ) := ⟨by kernel_rfl, fun p v kn kx => by kernel_rfl⟩
theorem aLc : (aD5 ρ).Ok (avV ρ) := ⟨by kernel_rfl, fun p v kn kx => by kernel_rfl⟩
theorem aLe : (aD7 ρ).Ok (avV ρ) := ⟨by kernel_rfl, fun p v kn kx => by kernel_rfl⟩
theorem aPO (x : Val abU) (k : (Val abt) → Option ρ) :
    adK (avV ρ) 156 (adr [acb, tI, tI] x) (fun h v => ab2 (adB [abt] h v) k) = az8 x.1 x.2.1 x.2.2 k := by kernel_rfl
theorem aAk : (aqY ρ).Ok (agS ρ) := ⟨by kernel_rfl, fun p v kn kx => by kernel_rfl⟩
theorem aAg : (aqU ρ).Ok (agS ρ) := ⟨by kernel_rfl, fun p v kn kx => by kernel_rfl⟩
theorem aAh : (aqV ρ).Ok (agS ρ) := ⟨by kernel_rfl, fun p v kn kx => by kernel_rfl⟩
theorem aAi : (aqW ρ).Ok (agS ρ) := ⟨by kernel_rfl, fun p v kn kx => by kernel_rfl⟩
theorem aAj : (aqX ρ).Ok (agS ρ) := ⟨by kernel_rfl, fun p v kn kx => by kernel_rfl⟩
theorem aF6 (x : Val acb) (k : (Val abE) → Option ρ) :
    adK (agS ρ) 78 (adr [acb] x) (fun h v => ab2 (adB [f6, tI] h v) k) = aAl x k := by kernel_rfl
theorem avv : (anI ρ).Ok (amC ρ) := ⟨by kernel_rfl, fun p v kn kx => by kernel_rfl⟩
theorem azL (x : Val (.pair ab3 f6)) (k : (Val eI) → Option ρ) :
    adK (amC ρ) 80 (adr [ab3, f6] x) (fun h v => ab2 (adB [eI] h v) k) = arP x.1 x.2 k := by kernel_rfl
theorem aFW (x : Val ab3) (k : (Val (.pair adz tI)) → Option ρ) :
    adK (az2 ρ) 36 (adr [ab3] x) (fun h v => ab2 (adB [adz, tI] h v) k) = az3 x k := by kernel_rfl
theorem avG (x : Val tI) (k : Int → Option ρ) :
    adK (aoJ ρ) 96 (adr [tI] x) (fun h v => ab2 (adB [tI] h v) k) = amJ x k := by kernel_rfl
theorem avA (x : Val (.pair ac1 tI)) (k : (Val f6) → Option ρ) :
    adK (aoH ρ) 97 (adr [ac1, tI] x) (fun h v => ab2 (adB [f6] h v) k) = amG x.1 x.2 k := by kernel_rfl
theorem atq : (((ak1 (ac3 ρ).P 50).elim [] (acz 0)).filter fun y => Nat.beq y.1 0).length = 1 := by kernel_rfl
theorem atr (p : Val abv) (v : Val abA) (kn : Val abv → Val abA → Option ρ) (kx : (i : Nat) → Val abv → Val (tyL (aeK.zs i)) → Option ρ) :
    goC (ac3 ρ) (agE (ac3 ρ) (10 - 2 / 2)) 50 [1, 3] 5 0 (axG (ak1 (ac3 ρ).P 50) 0) (afT aeK.head aeK.cs aeK.vs p v) (aHM aeK kn kx) = (aiS ρ).bF p v (kn p) (fun i => kx i p) := by kernel_rfl
theorem avF : (aiS ρ).Ok (ac3 ρ) := ⟨atq, atr⟩
theorem ato : (((ak1 (ac3 ρ).P 178).elim [] (acz 0)).filter fun y => Nat.beq y.1 0).length = 1 := by kernel_rfl
theorem atp (p : Val abr) (v : Val tI) (kn : Val abr → Val tI → Option ρ) (kx : (i : Nat) → Val abr → Val (tyL (aeJ.zs i)) → Option ρ) :
    goC (ac3 ρ) (agE (ac3 ρ) (10 - 4 / 2)) 178 [18, 4, 1, 2] 12 0 (axG (ak1 (ac3 ρ).P 178) 0) (afT aeJ.head aeJ.cs aeJ.vs p v) (aHM aeJ kn kx) = (aiR ρ).bF p v (kn p) (fun i => kx i p) := by kernel_rfl
theorem avE : (aiR ρ).Ok (ac3 ρ) := ⟨ato, atp⟩
theorem azY (x : Val (.pair ab3 (.pair ab1 abT))) (k : (Val abG) → Option ρ) :
    adK (amI ρ) 42 (adr [ab3, ab1, ab1, ab9] x) (fun h v => ab2 (adB [.bool, tI] h v) k) = arV x.1 x.2.1 x.2.2.1 x.2.2.2 k := by kernel_rfl
theorem axZ (x : Unit) (k : Val ab3 → Option ρ) :
    adK (aqH ρ) 48 (adr [] x) (fun h v => ab2 (adB [ab3] h v) k) = aot k := by kernel_rfl
theorem aAq : (aq2 ρ).Ok (ajT ρ) := ⟨by kernel_rfl, fun p v kn kx => by kernel_rfl⟩
theorem aAo : (aq0 ρ).Ok (ajT ρ) := ⟨by kernel_rfl, fun p v kn kx => by kernel_rfl⟩
theorem aAp : (aq1 ρ).Ok (ajT ρ) := ⟨by kernel_rfl, fun p v kn kx => by kernel_rfl⟩
theorem aF8 (x : Val abU) (k : (Val abE) → Option ρ) :
    adK (ajT ρ) 120 (adr [acb, tI, tI] x) (fun h v => ab2 (adB [f6, tI] h v) k) = aAr x.1 x.2.1 x.2.2 k := by kernel_rfl
theorem avM (x : Val (.pair abx (.pair abR (.ptr .bool)))) (k : (Val f6) → Option ρ) :
    adK (aoO ρ) 119 (adr [abx, abR, (.ptr .bool)] x) (fun h v => ab2 (adB [f6] h v) k) = amN x.1 x.2.1 x.2.2 k := by kernel_rfl
theorem avL : (anQ ρ).Ok (ahp ρ) := ⟨by kernel_rfl, fun p v kn kx => by kernel_rfl⟩
theorem avK : (anP ρ).Ok (ahp ρ) := ⟨by kernel_rfl, fun p v kn kx => by kernel_rfl⟩
theorem az4 (x : Val (.pair ab3 (.pair ab1 .bool))) (k : (Val (.pair adz tI)) → Option ρ) :
    adK (ahp ρ) 49 (adr [ab3, ab1, .bool] x) (fun h v => ab2 (adB [adz, tI] h v) k) = arX x.1 x.2.1 x.2.2 k := by kernel_rfl
theorem azI (x : Unit) (k : Bool → Option ρ) :
    adK (as0 ρ) 14 (adr [] x) (fun h v => ab2 (adB [.bool] h v) k) = arJ k := by kernel_rfl
theorem am0 : (ahL ρ).Ok (agT ρ) := ⟨by kernel_rfl, fun p v kn kx => by kernel_rfl⟩
theorem ao2 (x : Val (.pair abB f6)) (k : Int → Option ρ) :
    adK (agT ρ) 67 (adr [abB, f6] x) (fun h v => ab2 (adB [tI] h v) k) = ah2 x.1 x.2 k := by kernel_rfl
theorem aCO : (atK ρ).Ok (apV ρ) := ⟨by kernel_rfl, fun p v kn kx => by kernel_rfl⟩
theorem aCN : (atJ ρ).Ok (apV ρ) := ⟨by kernel_rfl, fun p v kn kx => by kernel_rfl⟩
theorem aIW (x : Val abS) (k : (Val abG) → Option ρ) :
    adK (apV ρ) 138 (adr [acb, f6] x) (fun h v => ab2 (adB [.bool, tI] h v) k) = aF5 x.1 x.2 k := by kernel_rfl
theorem auc (x : Val (.pair abB f6)) (k : Bool → Option ρ) :
    adK (an0 ρ) 68 (adr [abB, f6] x) (fun h v => ab2 (adB [.bool] h v) k) = aln x.1 x.2 k := by kernel_rfl
theorem aJr (x : Val (.pair ab3 f6)) (k : (Val abG) → Option ρ) :
    adK (aEd ρ) 23 (adr [ab3, f6] x) (fun h v => ab2 (adB [.bool, tI] h v) k) = aGO x.1 x.2 k := by kernel_rfl
theorem aCf (x : Val abL) (k : Int → Option ρ) :
    adK (aw0 ρ) 27 (adr [ab3, ab1] x) (fun h v => ab2 (adB [tI] h v) k) = avp x.1 x.2 k := by kernel_rfl
theorem aCg (x : Val (.pair adz (.pair ab3 f6))) (k : Bool → Option ρ) :
    adK (aw1 ρ) 34 (adr [adz, ab3, f6] x) (fun h v => ab2 (adB [.bool] h v) k) = avq x.1 x.2.1 x.2.2 k := by kernel_rfl
theorem an4 (x : Val (.pair ab3 (.pair adz (.pair f6 f6)))) (k : Bool → Option ρ) :
    adK (ai0 ρ) 8 (adr [ab3, adz, f6, f6] x) (fun h v => ab2 (adB [.bool] h v) k) = ahh x.1 x.2.1 x.2.2.1 x.2.2.2 k := by kernel_rfl
end Go.Proofs.ZzM
end

noncomputable section
variable {ρ : Type}
set_option maxRecDepth 100000
namespace Go.Proofs.ZzM
open Go Go.Am
theorem av2 : (anY ρ).Ok (amW ρ) := ⟨by kernel_rfl, fun p v kn kx => by kernel_rfl⟩
theorem aAN (x : Val ab3) (k : (Val abu) → Option ρ) :
    adK (amW ρ) 53 (adr [ab3] x) (fun h v => ab2 (adB [abu] h v) k) = ar6 x k := by kernel_rfl
theorem aDe (x : Val acQ) (k : Bool → Option ρ) :
    adK (axw ρ) 82 (adr [ab1, tI, tI] x) (fun h v => ab2 (adB [.bool] h v) k) = av8 x.1 x.2.1 x.2.2 k := by kernel_rfl
theorem aC0 (x : Val ac1) (k : Bool → Option ρ) :
    adK (axr ρ) 126 (adr [tI, tI, tI] x) (fun h v => ab2 (adB [.bool] h v) k) = av1 x.1 x.2.1 x.2.2 k := by kernel_rfl
theorem aGy (x : Val tI) (k : Bool → Option ρ) :
    adK (aAV ρ) 125 (adr [tI] x) (fun h v => ab2 (adB [.bool] h v) k) = aAW x k := by kernel_rfl
theorem aI2 (x : Val tI) (k : Int → Option ρ) :
    adK (aD9 ρ) 259 (adr [tI] x) (fun h v => ab2 (adB [(.int .u64)] h v) k) = aGb x k := by kernel_rfl
theorem aGc : (axn ρ).Ok (aAy ρ) := ⟨by kernel_rfl, fun p v kn kx => by kernel_rfl⟩
theorem aLi (x : Val abW) (k : Int → Option ρ) :
    adK (aAy ρ) 260 (adr [(.int .u64), (.int .u64)] x) (fun h v => ab2 (adB [(.int .u64)] h v) k) = aLj x.1 x.2 k := by kernel_rfl
theorem aGe (x : Val ab1) (k : Bool → Option ρ) :
    adK (aAC ρ) 219 (adr [ab1] x) (fun h v => ab2 (adB [.bool] h v) k) = aAD x k := by kernel_rfl
theorem aAU (x : Val acd) (k : Bool → Option ρ) :
    adK (auk ρ) 162 (adr [acd] x) (fun h v => ab2 (adB [.bool] h v) k) = ar9 x k := by kernel_rfl
theorem ao7 : (ai3 ρ).Ok (ah3 ρ) := ⟨by kernel_rfl, fun p v kn kx => by kernel_rfl⟩
theorem asc (x : Val ab3) (k : Int → Option ρ) :
    adK (ah3 ρ) 83 (adr [ab3] x) (fun h v => ab2 (adB [tI] h v) k) = ajV x k := by kernel_rfl
theorem amy : (ahI ρ).Ok (agN ρ) := ⟨by kernel_rfl, fun p v kn kx => by kernel_rfl⟩
theorem aov (x : Val abE) (k : Int → Option ρ) :
    adK (agN ρ) 73 (adr [f6, tI] x) (fun h v => ab2 (adB [tI] h v) k) = ahQ x.1 x.2 k := by kernel_rfl
theorem alK (x : Val abE) (k : Bool → Option ρ) :
    adK (ahJ ρ) 65 (adr [f6, tI] x) (fun h v => ab2 (adB [.bool] h v) k) = agr x.1 x.2 k := by kernel_rfl
theorem aDh : (auo ρ).Ok (apZ ρ) := ⟨by kernel_rfl, fun p v kn kx => by kernel_rfl⟩
theorem aDg : (aun ρ).Ok (apZ ρ) := ⟨by kernel_rfl, fun p v kn kx => by kernel_rfl⟩
theorem aJl (x : Val (.pair ab3 acd)) (k : (Val f6) → Option ρ) :
    adK (apZ ρ) 168 (adr [ab3, acd] x) (fun h v => ab2 (adB [f6] h v) k) = aGE x.1 x.2 k := by kernel_rfl
theorem aAP : (aq5 ρ).Ok (amZ ρ) := ⟨by kernel_rfl, fun p v kn kx => by kernel_rfl⟩
theorem aAQ : (aq6 ρ).Ok (amZ ρ) := ⟨by kernel_rfl, fun p v kn kx => by kernel_rfl⟩
theorem aGm (x : Val ab3) (k : (Val eI) → Option ρ) :
    adK (amZ ρ) 85 (adr [ab3] x) (fun h v => ab2 (adB [eI] h v) k) = aAR x k := by kernel_rfl
theorem at7 (x : Val (.pair abu ab1)) (k : Int → Option ρ) :
    adK (anZ ρ) 164 (adr [abu, tI, tI] x) (fun h v => ab2 (adB [tI] h v) k) = alm x.1 x.2.1 x.2.2 k := by kernel_rfl
theorem aAO (x : Val (.pair tI (.pair tI (.ptr abu)))) (k : Int → Option ρ) :
    adK (aua ρ) 163 (adr [tI, tI, (.ptr abu)] x) (fun h v => ab2 (adB [tI] h v) k) = ar8 x.1 x.2.1 x.2.2 k := by kernel_rfl
theorem asb : (akT ρ).Ok (ahq ρ) := ⟨by kernel_rfl, fun p v kn kx => by kernel_rfl⟩
theorem asa : (akS ρ).Ok (ahq ρ) := ⟨by kernel_rfl, fun p v kn kx => by kernel_rfl⟩
theorem awa (x : Val abY) (k : Int → Option ρ) :
    adK (ahq ρ) 166 (adr [ab3, abu, tI] x) (fun h v => ab2 (adB [tI] h v) k) = am9 x.1 x.2.1 x.2.2 k := by kernel_rfl
theorem aDb : (auj ρ).Ok (apY ρ) := ⟨by kernel_rfl, fun p v kn kx => by kernel_rfl⟩
theorem aDa : (aui ρ).Ok (apY ρ) := ⟨by kernel_rfl, fun p v kn kx => by kernel_rfl⟩
theorem aJi (x : Val (.pair f6 f6)) (k : (Val f6) → Option ρ) :
    adK (apY ρ) 88 (adr [f6, f6] x) (fun h v => ab2 (adB [f6] h v) k) = aGw x.1 x.2 k := by kernel_rfl
theorem alM : (ahn ρ).Ok (afa ρ) := ⟨by kernel_rfl, fun p v kn kx => by kernel_rfl⟩
theorem alL : (ahm ρ).Ok (afa ρ) := ⟨by kernel_rfl, fun p v kn kx => by kernel_rfl⟩
theorem an6 (x : Val abt) (k : (Val f6) → Option ρ) :
    adK (afa ρ) 94 (adr [abt] x) (fun h v => ab2 (adB [f6] h v) k) = afP x k := by kernel_rfl
theorem ayo : (ao4 ρ).Ok (ao5 ρ) := ⟨by kernel_rfl, fun p v kn kx => by kernel_rfl⟩
theorem aDc (x : Val f6) (k : Bool → Option ρ) :
    adK (ao5 ρ) 198 (adr [f6] x) (fun h v => ab2 (adB [.bool] h v) k) = av7 x k := by kernel_rfl
theorem aDi : (aus ρ).Ok (awb ρ) := ⟨by kernel_rfl, fun p v kn kx => by kernel_rfl⟩
theorem aJm (x : Val abL) (k : (Val (.pair adD .bool)) → Option ρ) :
    adK (awb ρ) 223 (adr [ab3, tI, tI] x) (fun h v => ab2 (adB [adD, .bool] h v) k) = aGG x.1 x.2.1 x.2.2 k := by kernel_rfl
theorem aob : (aiD ρ).Ok (ad6 ρ) := ⟨by kernel_rfl, fun p v kn kx => by kernel_rfl⟩
theorem an9 : (aiB ρ).Ok (ad6 ρ) := ⟨by kernel_rfl, fun p v kn kx => by kernel_rfl⟩
theorem aoa : (aiC ρ).Ok (ad6 ρ) := ⟨by kernel_rfl, fun p v kn kx => by kernel_rfl⟩
theorem an8 : (aiA ρ).Ok (ad6 ρ) := ⟨by kernel_rfl, fun p v kn kx => by kernel_rfl⟩
theorem aqt (x : Val abY) (k : Int → Option ρ) :
    adK (ad6 ρ) 167 (adr [ab3, abu, tI] x) (fun h v => ab2 (adB [tI] h v) k) = aiU x.1 x.2.1 x.2.2 k := by kernel_rfl
theorem aFO : (aw9 ρ).Ok (aex ρ) := ⟨by kernel_rfl, fun p v kn kx => by kernel_rfl⟩
theorem aFP : (axa ρ).Ok (aex ρ) := ⟨by kernel_rfl, fun p v kn kx => by kernel_rfl⟩
theorem aFN : (aw8 ρ).Ok (aex ρ) := ⟨by kernel_rfl, fun p v kn kx => by kernel_rfl⟩
theorem aFM : (akC ρ).Ok (aex ρ) := ⟨by kernel_rfl, fun p v kn kx => by kernel_rfl⟩
theorem aFL : (akB ρ).Ok (aex ρ) := ⟨by kernel_rfl, fun p v kn kx => by kernel_rfl⟩
theorem aFK : (akA ρ).Ok (aex ρ) := ⟨by kernel_rfl, fun p v kn kx => by kernel_rfl⟩
theorem aK7 (x : Val (.pair ab3 (.pair eI eI))) (kA : Val abQ → Val wi → Option ρ) : goC (aex ρ) (agE (aex ρ) 10) 79 [] 0 0 (preC 7 adk) { t := adr [ab3, eI, eI] x ++ List.replicate 127 .any, h := [] } (matK alP 0 afI ah0 kA) = atm x.1 x.2.1 x.2.2 kA := by kernel_rfl
theorem aNX (p : Val abQ) (v : Val wi) (x : Val acd) (kk : Val abQ → Val (.pair tI (.pair tI (.pair l5 (.pair eI (.pair m5 (.pair eW (.pair eI (.pair tI (.pair tI (.pair l5 (.pair eI (.pair m5 (.pair eW (.pair eI (.pair tI (.pair tI (.pair l5 (.pair eI (.pair m5 (.pair eW (.pair eI (.pair abq (.pair abq (.pair l5 abw)))))))))))))))))))))))) → Option ρ) : goC (adg ρ) (agE (adg ρ) 10) 79 [] 9 4 (rfA (rfC 7 adk)) { t := upd (afT alP afI ah0 p v).t 60 (.agg (flat acd x)), h := (afT alP afI ah0 p v).h } (matK azV 9 afI apR kk) = kk p (arT v x) := by kernel_rfl
theorem aNW (p : Val abQ) (v : Val wi) (x : Val acd) (kk : Val abQ → Val wi → Option ρ) : goC (adg ρ) (agE (adg ρ) 10) 79 [] 9 4 (rfB (rfC 7 adk)) (afT azV afI apR p (arT v x)) (matK alP 9 afI ah0 kk) = acO (acK ((List.length (amH v)) + (List.length [x]))) (kk p (adj v (amH v ++ [x]))) := by kernel_rfl
theorem aIH (p : Val abQ) (v : Val wi) (k : Val abp → Option ρ) : goC (adg ρ) (agE (adg ρ) 10) 79 [] 0 0 (postC 7 adk) (afT alP afI ah0 p v) (matR ajR 0 agb k) = aiy p v (fun y => k (ag0 y)) := by kernel_rfl
theorem aK6 (y : Val ab3) : ajE Tryz.prog Tryz.f79 (afT ajR [] agb () (ag0 y)) = some (enc ab3 y) := by kernel_rfl
theorem aNV : rfC 7 adk = Code.block 4 (Code.rangeFunc (.tmp 59) #[60] (rfA (rfC 7 adk)) (rfB (rfC 7 adk))) := by kernel_rfl
theorem atl : aEU 7 adk = true := by kernel_rfl
theorem akz : Tryz.f79.body = some adk := by kernel_rfl
theorem aCB : (akC ρ).Ok (adg ρ) := ⟨by kernel_rfl, fun p v kn kx => by kernel_rfl⟩
theorem aCA : (akB ρ).Ok (adg ρ) := ⟨by kernel_rfl, fun p v kn kx => by kernel_rfl⟩
theorem aCz : (akA ρ).Ok (adg ρ) := ⟨by kernel_rfl, fun p v kn kx => by kernel_rfl⟩
end Go.Proofs.ZzM
end
