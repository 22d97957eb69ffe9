/- lemmas -/
import Derived.Test.YthhhehllmdfhiaaGreatMdMA
set_option linter.all false
set_option linter.unusedSectionVars false
set_option linter.unusedVariables false
set_option linter.unusedSimpArgs false
noncomputable section
variable {ρ : Type}
set_option maxRecDepth 100000
namespace Go.Proofs.ZzM
open Go Go.Am
theorem aB2 (x : Val acj) (k : Bool → Option ρ) :
    adT (awV ρ) 29 (adD [acj] x) (fun h v => acb (adO [.bool] h v) k) = avq x k := by kernel_rfl
theorem aB1 : (as1 ρ).Ok (avp ρ) := ⟨by kernel_rfl, fun p v kn kx => by kernel_rfl⟩
theorem aIc (x : Val acd) (k : Bool → Option ρ) :
    adT (avp ρ) 13 (adD [acd] x) (fun h v => acb (adO [.bool] h v) k) = aE7 x k := by kernel_rfl
theorem aCU : (aui ρ).Ok (apY ρ) := ⟨by kernel_rfl, fun p v kn kx => by kernel_rfl⟩
theorem aCT : (auh ρ).Ok (apY ρ) := ⟨by kernel_rfl, fun p v kn kx => by kernel_rfl⟩
theorem aIR (x : Val (.pair acd (.pair acl aca))) (k : Int → Option ρ) :
    adT (apY ρ) 54 (adD [acd, acl, tI, tI] x) (fun h v => acb (adO [tI] h v) k) = aF8 x.1 x.2.1 x.2.2.1 x.2.2.2 k := by kernel_rfl
theorem ahk : (afc ρ).Ok (aei ρ) := ⟨by kernel_rfl, fun p v kn kx => by kernel_rfl⟩
theorem ahX (x : Val abZ) (k : Int → Option ρ) :
    adT (aei ρ) 130 (adD [abo, aca] x) (fun h v => acb (adO [tI] h v) k) = aez x.1 x.2 k := by kernel_rfl
theorem ayh (x : Val (.pair abX abK)) (k : Int → Option ρ) :
    adT (aq7 ρ) 87 (adD [abX, abr, tI] x) (fun h v => acb (adO [tI] h v) k) = ao3 x.1 x.2.1 x.2.2 k := by kernel_rfl
theorem aqt (x : Val (.pair abA abr)) (k : Val aca → Option ρ) :
    adT (akV ρ) 224 (adD [abA, abr] x) (fun h v => acb (adO [aca] h v) k) = aiX x.1 x.2 k := by kernel_rfl
theorem aAh : (aq3 ρ).Ok (ar0 ρ) := ⟨by kernel_rfl, fun p v kn kx => by kernel_rfl⟩
theorem aFP (x : Val abo) (k : Int → Option ρ) :
    adT (ar0 ρ) 227 (adD [abo] x) (fun h v => acb (adO [tI] h v) k) = aAi x k := by kernel_rfl
theorem aAj (x : Val aca) (k : Val ahc → Option ρ) :
    adT (atX ρ) 277 (adD [tI, tI] x) (fun h v => acb (adO [aca, tI] h v) k) = ar1 x.1 x.2 k := by kernel_rfl
theorem aKT (x : Val acZ) (k : Val ahc → Option ρ) :
    adT (aIH ρ) 262 (adD [aca, aca] x) (fun h v => acb (adO [aca, tI] h v) k) = aKU x.1 x.2 k := by kernel_rfl
theorem av3 (x : Val acZ) (k : Val aca → Option ρ) :
    adT (ao1 ρ) 225 (adD [aca, aca] x) (fun h v => acb (adO [aca] h v) k) = am2 x.1 x.2 k := by kernel_rfl
theorem aKR (x : Val acZ) (k : Int → Option ρ) :
    adT (aIF ρ) 287 (adD [aca, aca] x) (fun h v => acb (adO [tI] h v) k) = aKS x.1 x.2 k := by kernel_rfl
theorem at0 (x : Val acZ) (k : Bool → Option ρ) :
    adT (anZ ρ) 278 (adD [acZ] x) (fun h v => acb (adO [.bool] h v) k) = alp x k := by kernel_rfl
theorem aKV (x : Val acZ) (k : Val ahc → Option ρ) :
    adT (aIJ ρ) 281 (adD [aca, aca] x) (fun h v => acb (adO [aca, tI] h v) k) = aKW x.1 x.2 k := by kernel_rfl
theorem aFU (x : Val (.pair acZ aca)) (k : Val aOq → Option ρ) :
    adT (ar2 ρ) 263 (adD [acZ, aca] x) (fun h v => acb (adO [acZ, tI] h v) k) = aAs x.1 x.2 k := by kernel_rfl
theorem av2 (x : Val acZ) (k : Val acZ → Option ρ) :
    adT (ao0 ρ) 226 (adD [aca, aca] x) (fun h v => acb (adO [acZ] h v) k) = am1 x.1 x.2 k := by kernel_rfl
theorem aC0 (x : Val abM) (k : Val acZ → Option ρ) :
    adT (axp ρ) 171 (adD [acd, acj] x) (fun h v => acb (adO [acZ] h v) k) = av6 x.1 x.2 k := by kernel_rfl
theorem aGg (x : Val abM) (k : Val aca → Option ρ) :
    adT (aAK ρ) 172 (adD [acd, acj] x) (fun h v => acb (adO [aca] h v) k) = aAL x.1 x.2 k := by kernel_rfl
theorem aFS (x : Val aca) (k : Int → Option ρ) :
    adT (aAm ρ) 228 (adD [tI, tI] x) (fun h v => acb (adO [tI] h v) k) = aAn x.1 x.2 k := by kernel_rfl
theorem aIL (x : Val aca) (k : Val aca → Option ρ) :
    adT (aDT ρ) 173 (adD [aca] x) (fun h v => acb (adO [tI, tI] h v) k) = aFW x k := by kernel_rfl
theorem aFV (x : Val aca) (k : Val aca → Option ρ) :
    adT (aAu ρ) 174 (adD [aca] x) (fun h v => acb (adO [tI, tI] h v) k) = aAv x k := by kernel_rfl
theorem aIO (x : Val abM) (k : Val aca → Option ρ) :
    adT (aDU ρ) 200 (adD [acd, acj] x) (fun h v => acb (adO [aca] h v) k) = aF0 x.1 x.2 k := by kernel_rfl
theorem aCR : (auf ρ).Ok (al8 ρ) := ⟨by kernel_rfl, fun p v kn kx => by kernel_rfl⟩
theorem aCS : (aug ρ).Ok (al8 ρ) := ⟨by kernel_rfl, fun p v kn kx => by kernel_rfl⟩
theorem aCQ : (aue ρ).Ok (al8 ρ) := ⟨by kernel_rfl, fun p v kn kx => by kernel_rfl⟩
theorem aIQ (x : Val acd) (k : (Val abX) → Option ρ) :
    adT (al8 ρ) 62 (adD [acd] x) (fun h v => acb (adO [abX] h v) k) = aF5 x k := by kernel_rfl
theorem aC5 (x : Val acd) (k : (Val (.pair acm (.pair abo tI))) → Option ρ) :
    adT (axt ρ) 20 (adD [acd] x) (fun h v => acb (adO [acm, abo, tI] h v) k) = awa x k := by kernel_rfl
theorem aGs (x : Val abV) (k : Val aca → Option ρ) :
    adT (aAN ρ) 60 (adD [acd, aca] x) (fun h v => acb (adO [tI, tI] h v) k) = aAO x.1 x.2 k := by kernel_rfl
theorem azz (x : Val abT) (k : Int → Option ρ) :
    adT (as9 ρ) 55 (adD [abB, aca] x) (fun h v => acb (adO [tI] h v) k) = arN x.1 x.2 k := by kernel_rfl
theorem aIu (x : Val (.pair acm tI)) (k : Bool → Option ρ) :
    adT (aDN ρ) 134 (adD [acm, tI] x) (fun h v => acb (adO [.bool] h v) k) = aFH x.1 x.2 k := by kernel_rfl
theorem az9 : (aqZ ρ).Ok (arZ ρ) := ⟨by kernel_rfl, fun p v kn kx => by kernel_rfl⟩
theorem aFM (x : Val acm) (k : Val aca → Option ρ) :
    adT (arZ ρ) 133 (adD [acm] x) (fun h v => acb (adO [tI, tI] h v) k) = aAa x k := by kernel_rfl
theorem atJ : (al5 ρ).Ok (ae3 ρ) := ⟨by kernel_rfl, fun p v kn kx => by kernel_rfl⟩
theorem atI : (al4 ρ).Ok (ae3 ρ) := ⟨by kernel_rfl, fun p v kn kx => by kernel_rfl⟩
theorem atG : (al2 ρ).Ok (ae3 ρ) := ⟨by kernel_rfl, fun p v kn kx => by kernel_rfl⟩
theorem atH : (al3 ρ).Ok (ae3 ρ) := ⟨by kernel_rfl, fun p v kn kx => by kernel_rfl⟩
theorem atF : (al1 ρ).Ok (ae3 ρ) := ⟨by kernel_rfl, fun p v kn kx => by kernel_rfl⟩
theorem ax7 (x : Val (.pair acm abx)) (k : (Val (.pair abr .bool)) → Option ρ) :
    adT (ae3 ρ) 135 (adD [acm, abx] x) (fun h v => acb (adO [abr, .bool] h v) k) = aoR x.1 x.2 k := by kernel_rfl
theorem az1 : (aqT ρ).Ok (arY ρ) := ⟨by kernel_rfl, fun p v kn kx => by kernel_rfl⟩
theorem aFK (x : Val ab4) (k : Int → Option ρ) :
    adT (arY ρ) 63 (adD [acm, abr] x) (fun h v => acb (adO [tI] h v) k) = az2 x.1 x.2 k := by kernel_rfl
theorem ayd : (aoX ρ).Ok (agd ρ) := ⟨by kernel_rfl, fun p v kn kx => by kernel_rfl⟩
theorem ayc : (aoW ρ).Ok (agd ρ) := ⟨by kernel_rfl, fun p v kn kx => by kernel_rfl⟩
theorem ayb : (aoV ρ).Ok (agd ρ) := ⟨by kernel_rfl, fun p v kn kx => by kernel_rfl⟩
theorem ax9 : (aoT ρ).Ok (agd ρ) := ⟨by kernel_rfl, fun p v kn kx => by kernel_rfl⟩
theorem aya : (aoU ρ).Ok (agd ρ) := ⟨by kernel_rfl, fun p v kn kx => by kernel_rfl⟩
theorem aCy (x : Val (.pair acm (.pair abx tI))) (k : (Val abr) → Option ρ) :
    adT (agd ρ) 64 (adD [acm, abx, tI] x) (fun h v => acb (adO [abr] h v) k) = avU x.1 x.2.1 x.2.2 k := by kernel_rfl
theorem aFO (x : Val ab1) (k : Val aca → Option ρ) :
    adT (aAf ρ) 89 (adD [acm, tI, tI] x) (fun h v => acb (adO [tI, tI] h v) k) = aAg x.1 x.2.1 x.2.2 k := by kernel_rfl
theorem as8 (x : Val abT) (k : Int → Option ρ) :
    adT (anM ρ) 56 (adD [abB, tI, tI] x) (fun h v => acb (adO [tI] h v) k) = ald x.1 x.2.1 x.2.2 k := by kernel_rfl
theorem as7 (x : Val abT) (k : Int → Option ρ) :
    adT (anL ρ) 121 (adD [abB, aca] x) (fun h v => acb (adO [tI] h v) k) = alc x.1 x.2 k := by kernel_rfl
theorem aoC (x : Val abT) (k : Int → Option ρ) :
    adT (ajX ρ) 122 (adD [abB, aca] x) (fun h v => acb (adO [tI] h v) k) = ah2 x.1 x.2 k := by kernel_rfl
theorem aoB (x : Val abT) (k : Val aca → Option ρ) :
    adT (agS ρ) 51 (adD [abB, aca] x) (fun h v => acb (adO [aca] h v) k) = ah1 x.1 x.2 k := by kernel_rfl
theorem aC7 : (auw ρ).Ok (awb ρ) := ⟨by kernel_rfl, fun p v kn kx => by kernel_rfl⟩
theorem aIZ (x : Val abV) (k : (Val abU) → Option ρ) :
    adT (awb ρ) 61 (adD [acd, aca] x) (fun h v => acb (adO [acd, tI] h v) k) = aGr x.1 x.2 k := by kernel_rfl
theorem atN (x : Val acm) (k : (Val abY) → Option ρ) :
    adT (anW ρ) 123 (adD [acm] x) (fun h v => acb (adO [.bool, tI] h v) k) = alm x k := by kernel_rfl
theorem atx : (alX ρ).Ok (alg ρ) := ⟨by kernel_rfl, fun p v kn kx => by kernel_rfl⟩
theorem ax1 (x : Val abV) (k : Val ahc → Option ρ) :
    adT (alg ρ) 15 (adD [acd, aca] x) (fun h v => acb (adO [aca, tI] h v) k) = aoM x.1 x.2 k := by kernel_rfl
theorem avL : (anT ρ).Ok (amS ρ) := ⟨by kernel_rfl, fun p v kn kx => by kernel_rfl⟩
theorem azS (x : Val (.pair acd acZ)) (k : Val ahc → Option ρ) :
    adT (amS ρ) 17 (adD [acd, aca, aca] x) (fun h v => acb (adO [aca, tI] h v) k) = arV x.1 x.2.1 x.2.2 k := by kernel_rfl
theorem aC8 (x : Val (.pair abr abr)) (k : (Val (.pair abr abK)) → Option ρ) :
    adT (axw ρ) 129 (adD [abr, abr] x) (fun h v => acb (adO [abr, abr, tI] h v) k) = awc x.1 x.2 k := by kernel_rfl
theorem aId (x : Val abK) (k : Bool → Option ρ) :
    adT (aDM ρ) 57 (adD [abr, tI] x) (fun h v => acb (adO [.bool] h v) k) = aE9 x.1 x.2 k := by kernel_rfl
theorem aFn (x : Val tI) (k : Bool → Option ρ) :
    adT (azF ρ) 58 (adD [tI] x) (fun h v => acb (adO [.bool] h v) k) = azG x k := by kernel_rfl
theorem azA : (aqJ ρ).Ok (arO ρ) := ⟨by kernel_rfl, fun p v kn kx => by kernel_rfl⟩
theorem aFl (x : Val (.pair tI abz)) (k : (Val abo) → Option ρ) :
    adT (arO ρ) 59 (adD [tI, abz] x) (fun h v => acb (adO [abo] h v) k) = azB x.1 x.2 k := by kernel_rfl
theorem aCp : (atv ρ).Ok (apV ρ) := ⟨by kernel_rfl, fun p v kn kx => by kernel_rfl⟩
theorem aCo : (atu ρ).Ok (apV ρ) := ⟨by kernel_rfl, fun p v kn kx => by kernel_rfl⟩
theorem aIp (x : Val (.pair acd abE)) (k : Val ahc → Option ρ) :
    adT (apV ρ) 18 (adD [acd, tI, abr] x) (fun h v => acb (adO [aca, tI] h v) k) = aFz x.1 x.2.1 x.2.2 k := by kernel_rfl
theorem azx (x : Val acZ) (k : Int → Option ρ) :
    adT (as6 ρ) 69 (adD [aca, aca] x) (fun h v => acb (adO [tI] h v) k) = arL x.1 x.2 k := by kernel_rfl
theorem azM : (aqR ρ).Ok (arT ρ) := ⟨by kernel_rfl, fun p v kn kx => by kernel_rfl⟩
theorem aFA (x : Val (.pair acd acZ)) (k : Val aca → Option ρ) :
    adT (arT ρ) 25 (adD [acd, aca, aca] x) (fun h v => acb (adO [tI, tI] h v) k) = azN x.1 x.2.1 x.2.2 k := by kernel_rfl
theorem aC4 : (auu ρ).Ok (av9 ρ) := ⟨by kernel_rfl, fun p v kn kx => by kernel_rfl⟩
theorem aIX (x : Val abM) (k : (Val abU) → Option ρ) :
    adT (av9 ρ) 41 (adD [acd, acj] x) (fun h v => acb (adO [acd, tI] h v) k) = aGn x.1 x.2 k := by kernel_rfl
theorem aFZ (x : Val (.pair acd (.pair acj aca))) (k : Val ahc → Option ρ) :
    adT (aAy ρ) 90 (adD [acd, acj, aca] x) (fun h v => acb (adO [aca, tI] h v) k) = aAz x.1 x.2.1 x.2.2 k := by kernel_rfl
theorem aAM (x : Val abM) (k : Val ahc → Option ρ) :
    adT (auv ρ) 40 (adD [acd, acj] x) (fun h v => acb (adO [aca, tI] h v) k) = asc x.1 x.2 k := by kernel_rfl
theorem aFY (x : Val abU) (k : (Val (.pair acj tI)) → Option ρ) :
    adT (aAw ρ) 205 (adD [acd, tI] x) (fun h v => acb (adO [acj, tI] h v) k) = aAx x.1 x.2 k := by kernel_rfl
theorem aIY (x : Val abU) (k : Val ahc → Option ρ) :
    adT (aDV ρ) 142 (adD [acd, tI] x) (fun h v => acb (adO [aca, tI] h v) k) = aGp x.1 x.2 k := by kernel_rfl
theorem axX (x : Val (.pair abr (.pair abB (.ptr acj)))) (k : Int → Option ρ) :
    adT (aqM ρ) 143 (adD [abr, abB, (.ptr acj)] x) (fun h v => acb (adO [tI] h v) k) = aoG x.1 x.2.1 x.2.2 k := by kernel_rfl
theorem axW (x : Val (.pair tI (.pair tI (.pair abB (.pair (.ptr tI) (.pair abW (.ptr tI))))))) (k : Val ac9 → Option ρ) :
    adT (aqL ρ) 144 (adD [tI, tI, abB, (.ptr tI), abW, (.ptr tI)] x) (fun h v => acb (adO [ac9] h v) k) = aoF x.1 x.2.1 x.2.2.1 x.2.2.2.1 x.2.2.2.2.1 x.2.2.2.2.2 k := by kernel_rfl
theorem axV : (aoE ρ).Ok (akF ρ) := ⟨by kernel_rfl, fun p v kn kx => by kernel_rfl⟩
theorem aCh (x : Val (.pair abB ab0)) (k : (Val (.pair aev tI)) → Option ρ) :
    adT (akF ρ) 71 (adD [abB, aca, acj] x) (fun h v => acb (adO [aev, tI] h v) k) = avw x.1 x.2.1 x.2.2 k := by kernel_rfl
theorem avx (x : Val ac9) (k : (Val abr) → Option ρ) :
    adT (aoH ρ) 95 (adD [ac9] x) (fun h v => acb (adO [abr] h v) k) = amJ x k := by kernel_rfl
theorem aCi (x : Val (.pair ac9 tI)) (k : Int → Option ρ) :
    adT (awY ρ) 177 (adD [ac9, tI] x) (fun h v => acb (adO [tI] h v) k) = avz x.1 x.2 k := by kernel_rfl
theorem as4 (x : Val (.pair aev tI)) (k : Val aca → Option ρ) :
    adT (anJ ρ) 99 (adD [aev, tI] x) (fun h v => acb (adO [aca] h v) k) = ala x.1 x.2 k := by kernel_rfl
theorem aqp : (ajV ρ).Ok (agJ ρ) := ⟨by kernel_rfl, fun p v kn kx => by kernel_rfl⟩
theorem aqq : (ajW ρ).Ok (agJ ρ) := ⟨by kernel_rfl, fun p v kn kx => by kernel_rfl⟩
theorem as5 (x : Val (.pair aev abr)) (k : (Val abr) → Option ρ) :
    adT (agJ ρ) 101 (adD [aev, abr] x) (fun h v => acb (adO [abr] h v) k) = alb x.1 x.2 k := by kernel_rfl
theorem aoy : (ai6 ρ).Ok (ah0 ρ) := ⟨by kernel_rfl, fun p v kn kx => by kernel_rfl⟩
theorem arG (x : Val aev) (k : Int → Option ρ) :
    adT (ah0 ρ) 72 (adD [aev] x) (fun h v => acb (adO [tI] h v) k) = ajU x k := by kernel_rfl
theorem azJ : (aqO ρ).Ok (arR ρ) := ⟨by kernel_rfl, fun p v kn kx => by kernel_rfl⟩
theorem aFv (x : Val (.pair acd ab0)) (k : Val aca → Option ρ) :
    adT (arR ρ) 31 (adD [acd, aca, acj] x) (fun h v => acb (adO [tI, tI] h v) k) = azK x.1 x.2.1 x.2.2 k := by kernel_rfl
theorem avS : (anV ρ).Ok (amV ρ) := ⟨by kernel_rfl, fun p v kn kx => by kernel_rfl⟩
theorem azU (x : Val ab4) (k : Int → Option ρ) :
    adT (amV ρ) 145 (adD [acm, abr] x) (fun h v => acb (adO [tI] h v) k) = arX x.1 x.2 k := by kernel_rfl
theorem aCw : (atD ρ).Ok (avM ρ) := ⟨by kernel_rfl, fun p v kn kx => by kernel_rfl⟩
theorem aIt (x : Val (.pair acm abE)) (k : (Val (.pair tI (.pair tI .bool))) → Option ρ) :
    adT (avM ρ) 146 (adD [acm, tI, abr] x) (fun h v => acb (adO [tI, tI, .bool] h v) k) = aFG x.1 x.2.1 x.2.2 k := by kernel_rfl
theorem atT (x : Val (.pair acm ab6)) (k : Val aca → Option ρ) :
    adT (anY ρ) 76 (adD [acm, tI, tI, abr] x) (fun h v => acb (adO [tI, tI] h v) k) = alo x.1 x.2.1 x.2.2.1 x.2.2.2 k := by kernel_rfl
theorem avH (x : Val afa) (k : Int → Option ρ) :
    adT (aoN ρ) 33 (adD [afa] x) (fun h v => acb (adO [tI] h v) k) = amQ x k := by kernel_rfl
theorem atS (x : Val ab4) (k : Int → Option ρ) :
    adT (anX ρ) 86 (adD [acm, abr] x) (fun h v => acb (adO [tI] h v) k) = aln x.1 x.2 k := by kernel_rfl
theorem atz (x : Val afa) (k : Int → Option ρ) :
    adT (anQ ρ) 39 (adD [afa] x) (fun h v => acb (adO [tI] h v) k) = alh x k := by kernel_rfl
theorem agQ : (aeK ρ).Ok (adU ρ) := ⟨by kernel_rfl, fun p v kn kx => by kernel_rfl⟩
theorem ahm (x : Val (.pair abq acl)) (k : Int → Option ρ) :
    adT (adU ρ) 254 (adD [abq, acl] x) (fun h v => acb (adO [tI] h v) k) = aek x.1 x.2 k := by kernel_rfl
theorem agE (x : Val (.pair abq acl)) (k : Bool → Option ρ) :
    adT (aeM ρ) 210 (adD [abq, acl] x) (fun h v => acb (adO [.bool] h v) k) = adQ x.1 x.2 k := by kernel_rfl
theorem ahW : (afz ρ).Ok (aey ρ) := ⟨by kernel_rfl, fun p v kn kx => by kernel_rfl⟩
theorem aiU (x : Val abZ) (k : Int → Option ρ) :
    adT (aey ρ) 256 (adD [abo, aca] x) (fun h v => acb (adO [tI] h v) k) = ae2 x.1 x.2 k := by kernel_rfl
theorem ahJ (x : Val abZ) (k : Bool → Option ρ) :
    adT (afA ρ) 213 (adD [abo, aca] x) (fun h v => acb (adO [.bool] h v) k) = aen x.1 x.2 k := by kernel_rfl
theorem ahl : (afd ρ).Ok (aej ρ) := ⟨by kernel_rfl, fun p v kn kx => by kernel_rfl⟩
theorem ahY (x : Val (.pair abt adH)) (k : Int → Option ρ) :
    adT (aej ρ) 258 (adD [abt, adH] x) (fun h v => acb (adO [tI] h v) k) = aeA x.1 x.2 k := by kernel_rfl
theorem ahb (x : Val (.pair abt adH)) (k : Bool → Option ρ) :
    adT (aff ρ) 216 (adD [abt, adH] x) (fun h v => acb (adO [.bool] h v) k) = ad6 x.1 x.2 k := by kernel_rfl
theorem aCf : (atj ρ).Ok (aeQ ρ) := ⟨by kernel_rfl, fun p v kn kx => by kernel_rfl⟩
theorem aCc : (atg ρ).Ok (aeQ ρ) := ⟨by kernel_rfl, fun p v kn kx => by kernel_rfl⟩
theorem aCb : (atf ρ).Ok (aeQ ρ) := ⟨by kernel_rfl, fun p v kn kx => by kernel_rfl⟩
theorem aCd : (ath ρ).Ok (aeQ ρ) := ⟨by kernel_rfl, fun p v kn kx => by kernel_rfl⟩
theorem aCe : (ati ρ).Ok (aeQ ρ) := ⟨by kernel_rfl, fun p v kn kx => by kernel_rfl⟩
theorem aCa : (ate ρ).Ok (aeQ ρ) := ⟨by kernel_rfl, fun p v kn kx => by kernel_rfl⟩
theorem aB9 : (atd ρ).Ok (aeQ ρ) := ⟨by kernel_rfl, fun p v kn kx => by kernel_rfl⟩
theorem aB8 : (atc ρ).Ok (aeQ ρ) := ⟨by kernel_rfl, fun p v kn kx => by kernel_rfl⟩
theorem aB7 : (atb ρ).Ok (aeQ ρ) := ⟨by kernel_rfl, fun p v kn kx => by kernel_rfl⟩
theorem aB6 : (ata ρ).Ok (aeQ ρ) := ⟨by kernel_rfl, fun p v kn kx => by kernel_rfl⟩
theorem aIe (x : Val (.pair acd acd)) (k : Bool → Option ρ) :
    adT (aeQ ρ) 77 (adD [acd, acd] x) (fun h v => acb (adO [.bool] h v) k) = aFk x.1 x.2 k := by kernel_rfl
theorem aCn (x : Val (.pair acd afa)) (k : (Val abY) → Option ρ) :
    adT (aw3 ρ) 35 (adD [acd, afa] x) (fun h v => acb (adO [.bool, tI] h v) k) = avB x.1 x.2 k := by kernel_rfl
theorem aKN : (aDR ρ).Ok (avT ρ) := ⟨by kernel_rfl, fun p v kn kx => by kernel_rfl⟩
theorem aKL : (aDP ρ).Ok (avT ρ) := ⟨by kernel_rfl, fun p v kn kx => by kernel_rfl⟩
theorem aKK : (aDO ρ).Ok (avT ρ) := ⟨by kernel_rfl, fun p v kn kx => by kernel_rfl⟩
theorem aKM : (aDQ ρ).Ok (avT ρ) := ⟨by kernel_rfl, fun p v kn kx => by kernel_rfl⟩
theorem aPf (x : Val ab1) (k : (Val abz) → Option ρ) :
    adT (avT ρ) 156 (adD [acm, tI, tI] x) (fun h v => acb (adO [abz] h v) k) = azV x.1 x.2.1 x.2.2 k := by kernel_rfl
theorem az7 : (aqY ρ).Ok (agU ρ) := ⟨by kernel_rfl, fun p v kn kx => by kernel_rfl⟩
theorem az3 : (aqU ρ).Ok (agU ρ) := ⟨by kernel_rfl, fun p v kn kx => by kernel_rfl⟩
theorem az4 : (aqV ρ).Ok (agU ρ) := ⟨by kernel_rfl, fun p v kn kx => by kernel_rfl⟩
theorem az5 : (aqW ρ).Ok (agU ρ) := ⟨by kernel_rfl, fun p v kn kx => by kernel_rfl⟩
theorem az6 : (aqX ρ).Ok (agU ρ) := ⟨by kernel_rfl, fun p v kn kx => by kernel_rfl⟩
theorem aFL (x : Val acm) (k : (Val abK) → Option ρ) :
    adT (agU ρ) 78 (adD [acm] x) (fun h v => acb (adO [abr, tI] h v) k) = az8 x k := by kernel_rfl
theorem avt : (anK ρ).Ok (amG ρ) := ⟨by kernel_rfl, fun p v kn kx => by kernel_rfl⟩
theorem azy (x : Val (.pair acd abr)) (k : (Val abo) → Option ρ) :
    adT (amG ρ) 80 (adD [acd, abr] x) (fun h v => acb (adO [abo] h v) k) = arM x.1 x.2 k := by kernel_rfl
theorem aFB (x : Val acd) (k : (Val (.pair afa tI)) → Option ρ) :
    adT (azP ρ) 36 (adD [acd] x) (fun h v => acb (adO [afa, tI] h v) k) = azQ x k := by kernel_rfl
theorem avE (x : Val tI) (k : Int → Option ρ) :
    adT (aoK ρ) 96 (adD [tI] x) (fun h v => acb (adO [tI] h v) k) = amN x k := by kernel_rfl
theorem avy (x : Val (.pair ac9 tI)) (k : (Val abr) → Option ρ) :
    adT (aoI ρ) 97 (adD [ac9, tI] x) (fun h v => acb (adO [abr] h v) k) = amK x.1 x.2 k := by kernel_rfl
theorem atr : (((ak5 (ada ρ).P 50).elim [] (acG 0)).filter fun y => Nat.beq y.1 0).length = 1 := by kernel_rfl
theorem ats (p : Val abC) (v : Val abH) (kn : Val abC → Val abH → Option ρ) (kx : (i : Nat) → Val abC → Val (tyL (aeS.zs i)) → Option ρ) :
    goC (ada ρ) (agI (ada ρ) (10 - 2 / 2)) 50 [1, 3] 5 0 (axx (ak5 (ada ρ).P 50) 0) (af7 aeS.head aeS.cs aeS.vs p v) (aHm aeS kn kx) = (aiW ρ).bF p v (kn p) (fun i => kx i p) := by kernel_rfl
theorem avD : (aiW ρ).Ok (ada ρ) := ⟨atr, ats⟩
theorem atp : (((ak5 (ada ρ).P 178).elim [] (acG 0)).filter fun y => Nat.beq y.1 0).length = 1 := by kernel_rfl
theorem atq (p : Val aby) (v : Val tI) (kn : Val aby → Val tI → Option ρ) (kx : (i : Nat) → Val aby → Val (tyL (aeR.zs i)) → Option ρ) :
    goC (ada ρ) (agI (ada ρ) (10 - 4 / 2)) 178 [18, 4, 1, 2] 12 0 (axx (ak5 (ada ρ).P 178) 0) (af7 aeR.head aeR.cs aeR.vs p v) (aHm aeR kn kx) = (aiV ρ).bF p v (kn p) (fun i => kx i p) := by kernel_rfl
theorem avC : (aiV ρ).Ok (ada ρ) := ⟨atp, atq⟩
theorem azL (x : Val (.pair acd (.pair aca ab0))) (k : (Val abY) → Option ρ) :
    adT (amM ρ) 42 (adD [acd, aca, aca, acj] x) (fun h v => acb (adO [.bool, tI] h v) k) = arS x.1 x.2.1 x.2.2.1 x.2.2.2 k := by kernel_rfl
theorem axT (x : Unit) (k : Val acd → Option ρ) :
    adT (aqH ρ) 48 (adD [] x) (fun h v => acb (adO [acd] h v) k) = aot k := by kernel_rfl
theorem aAd : (aq2 ρ).Ok (aj3 ρ) := ⟨by kernel_rfl, fun p v kn kx => by kernel_rfl⟩
theorem aAb : (aq0 ρ).Ok (aj3 ρ) := ⟨by kernel_rfl, fun p v kn kx => by kernel_rfl⟩
theorem aAc : (aq1 ρ).Ok (aj3 ρ) := ⟨by kernel_rfl, fun p v kn kx => by kernel_rfl⟩
theorem aFN (x : Val ab1) (k : (Val abK) → Option ρ) :
    adT (aj3 ρ) 120 (adD [acm, tI, tI] x) (fun h v => acb (adO [abr, tI] h v) k) = aAe x.1 x.2.1 x.2.2 k := by kernel_rfl
theorem avK (x : Val (.pair abB (.pair abW (.ptr .bool)))) (k : (Val abr) → Option ρ) :
    adT (aoP ρ) 119 (adD [abB, abW, (.ptr .bool)] x) (fun h v => acb (adO [abr] h v) k) = amR x.1 x.2.1 x.2.2 k := by kernel_rfl
theorem avJ : (anS ρ).Ok (ahr ρ) := ⟨by kernel_rfl, fun p v kn kx => by kernel_rfl⟩
theorem avI : (anR ρ).Ok (ahr ρ) := ⟨by kernel_rfl, fun p v kn kx => by kernel_rfl⟩
theorem azR (x : Val (.pair acd (.pair aca .bool))) (k : (Val (.pair afa tI)) → Option ρ) :
    adT (ahr ρ) 49 (adD [acd, aca, .bool] x) (fun h v => acb (adO [afa, tI] h v) k) = arU x.1 x.2.1 x.2.2 k := by kernel_rfl
theorem azv (x : Unit) (k : Bool → Option ρ) :
    adT (as0 ρ) 14 (adD [] x) (fun h v => acb (adO [.bool] h v) k) = arE k := by kernel_rfl
theorem aCv : (atC ρ).Ok (al0 ρ) := ⟨by kernel_rfl, fun p v kn kx => by kernel_rfl⟩
theorem aCu : (atB ρ).Ok (al0 ρ) := ⟨by kernel_rfl, fun p v kn kx => by kernel_rfl⟩
theorem aCt : (atA ρ).Ok (al0 ρ) := ⟨by kernel_rfl, fun p v kn kx => by kernel_rfl⟩
theorem aIs (x : Val ab2) (k : Val aca → Option ρ) :
    adT (al0 ρ) 30 (adD [acd, aca, abp] x) (fun h v => acb (adO [tI, tI] h v) k) = ayD x.1 x.2.1 x.2.2 k := by kernel_rfl
theorem aov : (ai5 ρ).Ok (agn ρ) := ⟨by kernel_rfl, fun p v kn kx => by kernel_rfl⟩
theorem aou : (ai4 ρ).Ok (agn ρ) := ⟨by kernel_rfl, fun p v kn kx => by kernel_rfl⟩
theorem arF (x : Val ab2) (k : Bool → Option ρ) :
    adT (agn ρ) 6 (adD [acd, aca, abp] x) (fun h v => acb (adO [.bool] h v) k) = ajS x.1 x.2.1 x.2.2 k := by kernel_rfl
end Go.Proofs.ZzM
end

noncomputable section
variable {ρ : Type}
set_option maxRecDepth 100000
namespace Go.Proofs.ZzM
open Go Go.Am
theorem av0 : (an0 ρ).Ok (am0 ρ) := ⟨by kernel_rfl, fun p v kn kx => by kernel_rfl⟩
theorem aAA (x : Val acd) (k : (Val abA) → Option ρ) :
    adT (am0 ρ) 53 (adD [acd] x) (fun h v => acb (adO [abA] h v) k) = ar4 x k := by kernel_rfl
theorem aCZ (x : Val acZ) (k : Bool → Option ρ) :
    adT (axo ρ) 82 (adD [aca, tI, tI] x) (fun h v => acb (adO [.bool] h v) k) = av5 x.1 x.2.1 x.2.2 k := by kernel_rfl
theorem aCL (x : Val ac9) (k : Bool → Option ρ) :
    adT (axj ρ) 126 (adD [tI, tI, tI] x) (fun h v => acb (adO [.bool] h v) k) = avZ x.1 x.2.1 x.2.2 k := by kernel_rfl
theorem aGd (x : Val tI) (k : Bool → Option ρ) :
    adT (aAI ρ) 125 (adD [tI] x) (fun h v => acb (adO [.bool] h v) k) = aAJ x k := by kernel_rfl
theorem aIC (x : Val tI) (k : Int → Option ρ) :
    adT (aDS ρ) 259 (adD [tI] x) (fun h v => acb (adO [(.int .u64)] h v) k) = aFQ x k := by kernel_rfl
theorem aFR : (axf ρ).Ok (aAl ρ) := ⟨by kernel_rfl, fun p v kn kx => by kernel_rfl⟩
theorem aKP (x : Val ab5) (k : Int → Option ρ) :
    adT (aAl ρ) 260 (adD [(.int .u64), (.int .u64)] x) (fun h v => acb (adO [(.int .u64)] h v) k) = aKQ x.1 x.2 k := by kernel_rfl
theorem aFT (x : Val aca) (k : Bool → Option ρ) :
    adT (aAp ρ) 219 (adD [aca] x) (fun h v => acb (adO [.bool] h v) k) = aAq x k := by kernel_rfl
theorem aAH (x : Val acl) (k : Bool → Option ρ) :
    adT (aul ρ) 162 (adD [acl] x) (fun h v => acb (adO [.bool] h v) k) = ar7 x k := by kernel_rfl
theorem ao7 : (ai8 ρ).Ok (ah7 ρ) := ⟨by kernel_rfl, fun p v kn kx => by kernel_rfl⟩
theorem asa (x : Val acd) (k : Int → Option ρ) :
    adT (ah7 ρ) 83 (adD [acd] x) (fun h v => acb (adO [tI] h v) k) = aj7 x k := by kernel_rfl
theorem amC : (ahM ρ).Ok (agP ρ) := ⟨by kernel_rfl, fun p v kn kx => by kernel_rfl⟩
theorem aow (x : Val abK) (k : Int → Option ρ) :
    adT (agP ρ) 73 (adD [abr, tI] x) (fun h v => acb (adO [tI] h v) k) = ahV x.1 x.2 k := by kernel_rfl
theorem alL (x : Val abK) (k : Bool → Option ρ) :
    adT (ahN ρ) 65 (adD [abr, tI] x) (fun h v => acb (adO [.bool] h v) k) = agz x.1 x.2 k := by kernel_rfl
theorem aC2 : (aup ρ).Ok (ap0 ρ) := ⟨by kernel_rfl, fun p v kn kx => by kernel_rfl⟩
theorem aC1 : (auo ρ).Ok (ap0 ρ) := ⟨by kernel_rfl, fun p v kn kx => by kernel_rfl⟩
theorem aIV (x : Val (.pair acd acl)) (k : (Val abr) → Option ρ) :
    adT (ap0 ρ) 168 (adD [acd, acl] x) (fun h v => acb (adO [abr] h v) k) = aGj x.1 x.2 k := by kernel_rfl
theorem aAC : (aq5 ρ).Ok (am3 ρ) := ⟨by kernel_rfl, fun p v kn kx => by kernel_rfl⟩
theorem aAD : (aq6 ρ).Ok (am3 ρ) := ⟨by kernel_rfl, fun p v kn kx => by kernel_rfl⟩
theorem aF1 (x : Val acd) (k : (Val abo) → Option ρ) :
    adT (am3 ρ) 85 (adD [acd] x) (fun h v => acb (adO [abo] h v) k) = aAE x k := by kernel_rfl
theorem aub (x : Val (.pair abA aca)) (k : Int → Option ρ) :
    adT (an1 ρ) 164 (adD [abA, tI, tI] x) (fun h v => acb (adO [tI] h v) k) = alq x.1 x.2.1 x.2.2 k := by kernel_rfl
theorem aAB (x : Val (.pair tI (.pair tI (.ptr abA)))) (k : Int → Option ρ) :
    adT (auc ρ) 163 (adD [tI, tI, (.ptr abA)] x) (fun h v => acb (adO [tI] h v) k) = ar6 x.1 x.2.1 x.2.2 k := by kernel_rfl
theorem ar9 : (ak0 ρ).Ok (ahs ρ) := ⟨by kernel_rfl, fun p v kn kx => by kernel_rfl⟩
theorem ar8 : (akZ ρ).Ok (ahs ρ) := ⟨by kernel_rfl, fun p v kn kx => by kernel_rfl⟩
theorem av7 (x : Val ab7) (k : Int → Option ρ) :
    adT (ahs ρ) 166 (adD [acd, abA, tI] x) (fun h v => acb (adO [tI] h v) k) = anc x.1 x.2.1 x.2.2 k := by kernel_rfl
theorem aCW : (auk ρ).Ok (apZ ρ) := ⟨by kernel_rfl, fun p v kn kx => by kernel_rfl⟩
theorem aCV : (auj ρ).Ok (apZ ρ) := ⟨by kernel_rfl, fun p v kn kx => by kernel_rfl⟩
theorem aIS (x : Val (.pair abr abr)) (k : (Val abr) → Option ρ) :
    adT (apZ ρ) 88 (adD [abr, abr] x) (fun h v => acb (adO [abr] h v) k) = aGb x.1 x.2 k := by kernel_rfl
theorem alN : (ahp ρ).Ok (afh ρ) := ⟨by kernel_rfl, fun p v kn kx => by kernel_rfl⟩
theorem alM : (aho ρ).Ok (afh ρ) := ⟨by kernel_rfl, fun p v kn kx => by kernel_rfl⟩
theorem an6 (x : Val abz) (k : (Val abr) → Option ρ) :
    adT (afh ρ) 94 (adD [abz] x) (fun h v => acb (adO [abr] h v) k) = af2 x k := by kernel_rfl
theorem ayi : (ao4 ρ).Ok (ao5 ρ) := ⟨by kernel_rfl, fun p v kn kx => by kernel_rfl⟩
theorem aCX (x : Val abr) (k : Bool → Option ρ) :
    adT (ao5 ρ) 198 (adD [abr] x) (fun h v => acb (adO [.bool] h v) k) = av4 x k := by kernel_rfl
theorem aC3 : (aut ρ).Ok (av8 ρ) := ⟨by kernel_rfl, fun p v kn kx => by kernel_rfl⟩
theorem aIW (x : Val abV) (k : (Val (.pair adH .bool)) → Option ρ) :
    adT (av8 ρ) 223 (adD [acd, tI, tI] x) (fun h v => acb (adO [adH, .bool] h v) k) = aGl x.1 x.2.1 x.2.2 k := by kernel_rfl
theorem aoa : (aiG ρ).Ok (aef ρ) := ⟨by kernel_rfl, fun p v kn kx => by kernel_rfl⟩
theorem an8 : (aiE ρ).Ok (aef ρ) := ⟨by kernel_rfl, fun p v kn kx => by kernel_rfl⟩
theorem an9 : (aiF ρ).Ok (aef ρ) := ⟨by kernel_rfl, fun p v kn kx => by kernel_rfl⟩
theorem an7 : (aiD ρ).Ok (aef ρ) := ⟨by kernel_rfl, fun p v kn kx => by kernel_rfl⟩
theorem aqv (x : Val ab7) (k : Int → Option ρ) :
    adT (aef ρ) 167 (adD [acd, abA, tI] x) (fun h v => acb (adO [tI] h v) k) = aiY x.1 x.2.1 x.2.2 k := by kernel_rfl
theorem aFt : (aw1 ρ).Ok (aeB ρ) := ⟨by kernel_rfl, fun p v kn kx => by kernel_rfl⟩
theorem aFu : (aw2 ρ).Ok (aeB ρ) := ⟨by kernel_rfl, fun p v kn kx => by kernel_rfl⟩
theorem aFs : (aw0 ρ).Ok (aeB ρ) := ⟨by kernel_rfl, fun p v kn kx => by kernel_rfl⟩
theorem aFr : (akK ρ).Ok (aeB ρ) := ⟨by kernel_rfl, fun p v kn kx => by kernel_rfl⟩
theorem aFq : (akJ ρ).Ok (aeB ρ) := ⟨by kernel_rfl, fun p v kn kx => by kernel_rfl⟩
theorem aFp : (akI ρ).Ok (aeB ρ) := ⟨by kernel_rfl, fun p v kn kx => by kernel_rfl⟩
theorem aKE (x : Val (.pair acd (.pair abo abo))) (kA : Val abS → Val abu → Option ρ) : goC (aeB ρ) (agI (aeB ρ) 10) 79 [] 0 0 (preC 7 ads) { t := adD [acd, abo, abo] x ++ List.replicate 127 .any, h := [] } (matK alQ 0 afU ah5 kA) = atn x.1 x.2.1 x.2.2 kA := by kernel_rfl
theorem aNs (p : Val abS) (v : Val abu) (x : Val acl) (kk : Val abS → Val (.pair tI (.pair tI (.pair abq (.pair abo (.pair abt (.pair abp (.pair abo (.pair tI (.pair tI (.pair abq (.pair abo (.pair abt (.pair abp (.pair abo (.pair tI (.pair tI (.pair abq (.pair abo (.pair abt (.pair abp (.pair abo (.pair abx (.pair abx (.pair abq abD)))))))))))))))))))))))) → Option ρ) : goC (ado ρ) (agI (ado ρ) 10) 79 [] 9 4 (rfA (rfC 7 ads)) { t := upd (af7 alQ afU ah5 p v).t 60 (.agg (flat acl x)), h := (af7 alQ afU ah5 p v).h } (matK azI 9 afU apT kk) = kk p (arQ v x) := by kernel_rfl
theorem aNr (p : Val abS) (v : Val abu) (x : Val acl) (kk : Val abS → Val abu → Option ρ) : goC (ado ρ) (agI (ado ρ) 10) 79 [] 9 4 (rfB (rfC 7 ads)) (af7 azI afU apT p (arQ v x)) (matK alQ 9 afU ah5 kk) = acT (acS ((List.length (amL v)) + (List.length [x]))) (kk p (adr v (amL v ++ [x]))) := by kernel_rfl
theorem aIh (p : Val abS) (v : Val abu) (k : Val abw → Option ρ) : goC (ado ρ) (agI (ado ρ) 10) 79 [] 0 0 (postC 7 ads) (af7 alQ afU ah5 p v) (matR aj1 0 agp k) = aiC p v (fun y => k (ag3 y)) := by kernel_rfl
theorem aKD (y : Val acd) : ajN Tryz.prog Tryz.f79 (af7 aj1 [] agp () (ag3 y)) = some (enc acd y) := by kernel_rfl
theorem aNq : rfC 7 ads = Code.block 4 (Code.rangeFunc (.tmp 59) #[60] (rfA (rfC 7 ads)) (rfB (rfC 7 ads))) := by kernel_rfl
theorem atm : aED 7 ads = true := by kernel_rfl
theorem akH : Tryz.f79.body = some ads := by kernel_rfl
theorem aCl : (akK ρ).Ok (ado ρ) := ⟨by kernel_rfl, fun p v kn kx => by kernel_rfl⟩
theorem aCk : (akJ ρ).Ok (ado ρ) := ⟨by kernel_rfl, fun p v kn kx => by kernel_rfl⟩
theorem aCj : (akI ρ).Ok (ado ρ) := ⟨by kernel_rfl, fun p v kn kx => by kernel_rfl⟩
end Go.Proofs.ZzM
end
