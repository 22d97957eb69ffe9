/- lemmas -/
import Derived.Test.YthhhehllmdfhiaaGreatMdMA
set_option linter.all false
set_option linter.unusedSectionVars false
set_option linter.unusedVariables false
set_option linter.unusedSimpArgs false
noncomputable section
variable {ρ : Type}
set_option maxRecDepth 100000
namespace Go.Proofs.ZzM
open Go Go.Am
theorem aCg (x : Val acd) (k : Bool → Option ρ) :
    adY (awW ρ) 29 (adD [acd] x) (fun h v => ab8 (adR [.bool] h v) k) = avq x k := by kernel_rfl
theorem aCf : (as6 ρ).Ok (avp ρ) := ⟨by kernel_rfl, fun p v kn kx => by kernel_rfl⟩
theorem aIp (x : Val ab9) (k : Bool → Option ρ) :
    adY (avp ρ) 13 (adD [ab9] x) (fun h v => ab8 (adR [.bool] h v) k) = aFn x k := by kernel_rfl
theorem aC5 : (auk ρ).Ok (ap4 ρ) := ⟨by kernel_rfl, fun p v kn kx => by kernel_rfl⟩
theorem aC4 : (auj ρ).Ok (ap4 ρ) := ⟨by kernel_rfl, fun p v kn kx => by kernel_rfl⟩
theorem aI3 (x : Val (.pair ab9 (.pair ach ab6))) (k : Int → Option ρ) :
    adY (ap4 ρ) 54 (adD [ab9, ach, tI, tI] x) (fun h v => ab8 (adR [tI] h v) k) = aGl x.1 x.2.1 x.2.2.1 x.2.2.2 k := by kernel_rfl
theorem ahl : (afe ρ).Ok (aeg ρ) := ⟨by kernel_rfl, fun p v kn kx => by kernel_rfl⟩
theorem ahZ (x : Val abY) (k : Int → Option ρ) :
    adY (aeg ρ) 130 (adD [f6, ab6] x) (fun h v => ab8 (adR [tI] h v) k) = aeG x.1 x.2 k := by kernel_rfl
theorem ayj (x : Val (.pair abX abJ)) (k : Int → Option ρ) :
    adY (ara ρ) 87 (adD [abX, abp, tI] x) (fun h v => ab8 (adR [tI] h v) k) = apb x.1 x.2.1 x.2.2 k := by kernel_rfl
theorem aqw (x : Val (.pair aby abp)) (k : Val ab6 → Option ρ) :
    adY (akV ρ) 224 (adD [aby, abp] x) (fun h v => ab8 (adR [ab6] h v) k) = ai8 x.1 x.2 k := by kernel_rfl
theorem aAr : (aq6 ρ).Ok (ar4 ρ) := ⟨by kernel_rfl, fun p v kn kx => by kernel_rfl⟩
theorem aF2 (x : Val f6) (k : Int → Option ρ) :
    adY (ar4 ρ) 227 (adD [f6] x) (fun h v => ab8 (adR [tI] h v) k) = aAs x k := by kernel_rfl
theorem aAt (x : Val ab6) (k : Val ahe → Option ρ) :
    adY (atZ ρ) 277 (adD [tI, tI] x) (fun h v => ab8 (adR [ab6, tI] h v) k) = ar5 x.1 x.2 k := by kernel_rfl
theorem aK8 (x : Val acZ) (k : Val ahe → Option ρ) :
    adY (aIT ρ) 262 (adD [ab6, ab6] x) (fun h v => ab8 (adR [ab6, tI] h v) k) = aK9 x.1 x.2 k := by kernel_rfl
theorem av4 (x : Val acZ) (k : Val ab6 → Option ρ) :
    adY (ao9 ρ) 225 (adD [ab6, ab6] x) (fun h v => ab8 (adR [ab6] h v) k) = am7 x.1 x.2 k := by kernel_rfl
theorem aK6 (x : Val acZ) (k : Int → Option ρ) :
    adY (aIR ρ) 287 (adD [ab6, ab6] x) (fun h v => ab8 (adR [tI] h v) k) = aK7 x.1 x.2 k := by kernel_rfl
theorem at7 (x : Val acZ) (k : Bool → Option ρ) :
    adY (an4 ρ) 278 (adD [acZ] x) (fun h v => ab8 (adR [.bool] h v) k) = alu x k := by kernel_rfl
theorem aLa (x : Val acZ) (k : Val ahe → Option ρ) :
    adY (aIV ρ) 281 (adD [ab6, ab6] x) (fun h v => ab8 (adR [ab6, tI] h v) k) = aLb x.1 x.2 k := by kernel_rfl
theorem aF7 (x : Val (.pair acZ ab6)) (k : Val aON → Option ρ) :
    adY (ar6 ρ) 263 (adD [acZ, ab6] x) (fun h v => ab8 (adR [acZ, tI] h v) k) = aAC x.1 x.2 k := by kernel_rfl
theorem av3 (x : Val acZ) (k : Val acZ → Option ρ) :
    adY (ao8 ρ) 226 (adD [ab6, ab6] x) (fun h v => ab8 (adR [acZ] h v) k) = am6 x.1 x.2 k := by kernel_rfl
theorem aDb (x : Val abK) (k : Val acZ → Option ρ) :
    adY (axp ρ) 171 (adD [ab9, acd] x) (fun h v => ab8 (adR [acZ] h v) k) = av7 x.1 x.2 k := by kernel_rfl
theorem aGt (x : Val abK) (k : Val ab6 → Option ρ) :
    adY (aAU ρ) 172 (adD [ab9, acd] x) (fun h v => ab8 (adR [ab6] h v) k) = aAV x.1 x.2 k := by kernel_rfl
theorem aF5 (x : Val ab6) (k : Int → Option ρ) :
    adY (aAw ρ) 228 (adD [tI, tI] x) (fun h v => ab8 (adR [tI] h v) k) = aAx x.1 x.2 k := by kernel_rfl
theorem aIX (x : Val ab6) (k : Val ab6 → Option ρ) :
    adY (aD8 ρ) 173 (adD [ab6] x) (fun h v => ab8 (adR [tI, tI] h v) k) = aF9 x k := by kernel_rfl
theorem aF8 (x : Val ab6) (k : Val ab6 → Option ρ) :
    adY (aAE ρ) 174 (adD [ab6] x) (fun h v => ab8 (adR [tI, tI] h v) k) = aAF x k := by kernel_rfl
theorem aI0 (x : Val abK) (k : Val ab6 → Option ρ) :
    adY (aD9 ρ) 200 (adD [ab9, acd] x) (fun h v => ab8 (adR [ab6] h v) k) = aGd x.1 x.2 k := by kernel_rfl
theorem aC2 : (auh ρ).Ok (amc ρ) := ⟨by kernel_rfl, fun p v kn kx => by kernel_rfl⟩
theorem aC3 : (aui ρ).Ok (amc ρ) := ⟨by kernel_rfl, fun p v kn kx => by kernel_rfl⟩
theorem aC1 : (aug ρ).Ok (amc ρ) := ⟨by kernel_rfl, fun p v kn kx => by kernel_rfl⟩
theorem aI2 (x : Val ab9) (k : (Val abX) → Option ρ) :
    adY (amc ρ) 62 (adD [ab9] x) (fun h v => ab8 (adR [abX] h v) k) = aGi x k := by kernel_rfl
theorem aDg (x : Val ab9) (k : (Val (.pair aci (.pair f6 tI))) → Option ρ) :
    adY (axt ρ) 20 (adD [ab9] x) (fun h v => ab8 (adR [aci, f6, tI] h v) k) = awb x k := by kernel_rfl
theorem aGF (x : Val abU) (k : Val ab6 → Option ρ) :
    adY (aAX ρ) 60 (adD [ab9, ab6] x) (fun h v => ab8 (adR [tI, tI] h v) k) = aAY x.1 x.2 k := by kernel_rfl
theorem azJ (x : Val abR) (k : Int → Option ρ) :
    adY (ate ρ) 55 (adD [abB, ab6] x) (fun h v => ab8 (adR [tI] h v) k) = arR x.1 x.2 k := by kernel_rfl
theorem aIG (x : Val (.pair aci tI)) (k : Bool → Option ρ) :
    adY (aD2 ρ) 134 (adD [aci, tI] x) (fun h v => ab8 (adR [.bool] h v) k) = aFU x.1 x.2 k := by kernel_rfl
theorem aAj : (aq2 ρ).Ok (ar2 ρ) := ⟨by kernel_rfl, fun p v kn kx => by kernel_rfl⟩
theorem aFZ (x : Val aci) (k : Val ab6 → Option ρ) :
    adY (ar2 ρ) 133 (adD [aci] x) (fun h v => ab8 (adR [tI, tI] h v) k) = aAk x k := by kernel_rfl
theorem atL : (al9 ρ).Ok (ae6 ρ) := ⟨by kernel_rfl, fun p v kn kx => by kernel_rfl⟩
theorem atK : (al8 ρ).Ok (ae6 ρ) := ⟨by kernel_rfl, fun p v kn kx => by kernel_rfl⟩
theorem atI : (al6 ρ).Ok (ae6 ρ) := ⟨by kernel_rfl, fun p v kn kx => by kernel_rfl⟩
theorem atJ : (al7 ρ).Ok (ae6 ρ) := ⟨by kernel_rfl, fun p v kn kx => by kernel_rfl⟩
theorem atH : (al5 ρ).Ok (ae6 ρ) := ⟨by kernel_rfl, fun p v kn kx => by kernel_rfl⟩
theorem ax9 (x : Val (.pair aci abv)) (k : (Val (.pair abp .bool)) → Option ρ) :
    adY (ae6 ρ) 135 (adD [aci, abv] x) (fun h v => ab8 (adR [abp, .bool] h v) k) = aoZ x.1 x.2 k := by kernel_rfl
theorem aAb : (aqW ρ).Ok (ar1 ρ) := ⟨by kernel_rfl, fun p v kn kx => by kernel_rfl⟩
theorem aFX (x : Val ab1) (k : Int → Option ρ) :
    adY (ar1 ρ) 63 (adD [aci, abp] x) (fun h v => ab8 (adR [tI] h v) k) = aAc x.1 x.2 k := by kernel_rfl
theorem ayf : (ao5 ρ).Ok (agc ρ) := ⟨by kernel_rfl, fun p v kn kx => by kernel_rfl⟩
theorem aye : (ao4 ρ).Ok (agc ρ) := ⟨by kernel_rfl, fun p v kn kx => by kernel_rfl⟩
theorem ayd : (ao3 ρ).Ok (agc ρ) := ⟨by kernel_rfl, fun p v kn kx => by kernel_rfl⟩
theorem ayb : (ao1 ρ).Ok (agc ρ) := ⟨by kernel_rfl, fun p v kn kx => by kernel_rfl⟩
theorem ayc : (ao2 ρ).Ok (agc ρ) := ⟨by kernel_rfl, fun p v kn kx => by kernel_rfl⟩
theorem aCJ (x : Val (.pair aci (.pair abv tI))) (k : (Val abp) → Option ρ) :
    adY (agc ρ) 64 (adD [aci, abv, tI] x) (fun h v => ab8 (adR [abp] h v) k) = avV x.1 x.2.1 x.2.2 k := by kernel_rfl
theorem aF1 (x : Val abZ) (k : Val ab6 → Option ρ) :
    adY (aAp ρ) 89 (adD [aci, tI, tI] x) (fun h v => ab8 (adR [tI, tI] h v) k) = aAq x.1 x.2.1 x.2.2 k := by kernel_rfl
theorem atd (x : Val abR) (k : Int → Option ρ) :
    adY (anR ρ) 56 (adD [abB, tI, tI] x) (fun h v => ab8 (adR [tI] h v) k) = ali x.1 x.2.1 x.2.2 k := by kernel_rfl
theorem atc (x : Val abR) (k : Int → Option ρ) :
    adY (anQ ρ) 121 (adD [abB, ab6] x) (fun h v => ab8 (adR [tI] h v) k) = alh x.1 x.2 k := by kernel_rfl
theorem aoK (x : Val abR) (k : Int → Option ρ) :
    adY (aj0 ρ) 122 (adD [abB, ab6] x) (fun h v => ab8 (adR [tI] h v) k) = ah4 x.1 x.2 k := by kernel_rfl
theorem aoJ (x : Val abR) (k : Val ab6 → Option ρ) :
    adY (agR ρ) 51 (adD [abB, ab6] x) (fun h v => ab8 (adR [ab6] h v) k) = ah3 x.1 x.2 k := by kernel_rfl
theorem aDi : (auz ρ).Ok (awc ρ) := ⟨by kernel_rfl, fun p v kn kx => by kernel_rfl⟩
theorem aJb (x : Val abU) (k : (Val abT) → Option ρ) :
    adY (awc ρ) 61 (adD [ab9, ab6] x) (fun h v => ab8 (adR [ab9, tI] h v) k) = aGE x.1 x.2 k := by kernel_rfl
theorem atQ (x : Val aci) (k : (Val abS) → Option ρ) :
    adY (an1 ρ) 123 (adD [aci] x) (fun h v => ab8 (adR [.bool, tI] h v) k) = alr x k := by kernel_rfl
theorem atC : (al2 ρ).Ok (alm ρ) := ⟨by kernel_rfl, fun p v kn kx => by kernel_rfl⟩
theorem ax3 (x : Val abU) (k : Val ahe → Option ρ) :
    adY (alm ρ) 15 (adD [ab9, ab6] x) (fun h v => ab8 (adR [ab6, tI] h v) k) = aoU x.1 x.2 k := by kernel_rfl
theorem avM : (anY ρ).Ok (amY ρ) := ⟨by kernel_rfl, fun p v kn kx => by kernel_rfl⟩
theorem az2 (x : Val (.pair ab9 acZ)) (k : Val ahe → Option ρ) :
    adY (amY ρ) 17 (adD [ab9, ab6, ab6] x) (fun h v => ab8 (adR [ab6, tI] h v) k) = arZ x.1 x.2.1 x.2.2 k := by kernel_rfl
theorem aDj (x : Val (.pair abp abp)) (k : (Val (.pair abp abJ)) → Option ρ) :
    adY (axw ρ) 129 (adD [abp, abp] x) (fun h v => ab8 (adR [abp, abp, tI] h v) k) = awd x.1 x.2 k := by kernel_rfl
theorem aIq (x : Val abJ) (k : Bool → Option ρ) :
    adY (aD1 ρ) 57 (adD [abp, tI] x) (fun h v => ab8 (adR [.bool] h v) k) = aFp x.1 x.2 k := by kernel_rfl
theorem aFD (x : Val tI) (k : Bool → Option ρ) :
    adY (azP ρ) 58 (adD [tI] x) (fun h v => ab8 (adR [.bool] h v) k) = azQ x k := by kernel_rfl
theorem azK : (aqM ρ).Ok (arS ρ) := ⟨by kernel_rfl, fun p v kn kx => by kernel_rfl⟩
theorem aFB (x : Val (.pair tI abx)) (k : (Val f6) → Option ρ) :
    adY (arS ρ) 59 (adD [tI, abx] x) (fun h v => ab8 (adR [f6] h v) k) = azL x.1 x.2 k := by kernel_rfl
theorem aCD : (atA ρ).Ok (ap1 ρ) := ⟨by kernel_rfl, fun p v kn kx => by kernel_rfl⟩
theorem aCC : (atz ρ).Ok (ap1 ρ) := ⟨by kernel_rfl, fun p v kn kx => by kernel_rfl⟩
theorem aIC (x : Val (.pair ab9 abD)) (k : Val ahe → Option ρ) :
    adY (ap1 ρ) 18 (adD [ab9, tI, abp] x) (fun h v => ab8 (adR [ab6, tI] h v) k) = aFP x.1 x.2.1 x.2.2 k := by kernel_rfl
theorem azH (x : Val acZ) (k : Int → Option ρ) :
    adY (atb ρ) 69 (adD [ab6, ab6] x) (fun h v => ab8 (adR [tI] h v) k) = arP x.1 x.2 k := by kernel_rfl
theorem azW : (aqU ρ).Ok (arX ρ) := ⟨by kernel_rfl, fun p v kn kx => by kernel_rfl⟩
theorem aFQ (x : Val (.pair ab9 acZ)) (k : Val ab6 → Option ρ) :
    adY (arX ρ) 25 (adD [ab9, ab6, ab6] x) (fun h v => ab8 (adR [tI, tI] h v) k) = azX x.1 x.2.1 x.2.2 k := by kernel_rfl
theorem aDf : (auw ρ).Ok (awa ρ) := ⟨by kernel_rfl, fun p v kn kx => by kernel_rfl⟩
theorem aI9 (x : Val abK) (k : (Val abT) → Option ρ) :
    adY (awa ρ) 41 (adD [ab9, acd] x) (fun h v => ab8 (adR [ab9, tI] h v) k) = aGA x.1 x.2 k := by kernel_rfl
theorem aGc (x : Val (.pair ab9 (.pair acd ab6))) (k : Val ahe → Option ρ) :
    adY (aAI ρ) 90 (adD [ab9, acd, ab6] x) (fun h v => ab8 (adR [ab6, tI] h v) k) = aAJ x.1 x.2.1 x.2.2 k := by kernel_rfl
theorem aAW (x : Val abK) (k : Val ahe → Option ρ) :
    adY (auy ρ) 40 (adD [ab9, acd] x) (fun h v => ab8 (adR [ab6, tI] h v) k) = asf x.1 x.2 k := by kernel_rfl
theorem aGb (x : Val abT) (k : (Val (.pair acd tI)) → Option ρ) :
    adY (aAG ρ) 205 (adD [ab9, tI] x) (fun h v => ab8 (adR [acd, tI] h v) k) = aAH x.1 x.2 k := by kernel_rfl
theorem aJa (x : Val abT) (k : Val ahe → Option ρ) :
    adY (aEa ρ) 142 (adD [ab9, tI] x) (fun h v => ab8 (adR [ab6, tI] h v) k) = aGC x.1 x.2 k := by kernel_rfl
theorem axZ (x : Val (.pair abp (.pair abB (.ptr acd)))) (k : Int → Option ρ) :
    adY (aqP ρ) 143 (adD [abp, abB, (.ptr acd)] x) (fun h v => ab8 (adR [tI] h v) k) = aoO x.1 x.2.1 x.2.2 k := by kernel_rfl
theorem axY (x : Val (.pair tI (.pair tI (.pair abB (.pair (.ptr tI) (.pair abW (.ptr tI))))))) (k : Val ac8 → Option ρ) :
    adY (aqO ρ) 144 (adD [tI, tI, abB, (.ptr tI), abW, (.ptr tI)] x) (fun h v => ab8 (adR [ac8] h v) k) = aoN x.1 x.2.1 x.2.2.1 x.2.2.2.1 x.2.2.2.2.1 x.2.2.2.2.2 k := by kernel_rfl
theorem axX : (aoM ρ).Ok (akF ρ) := ⟨by kernel_rfl, fun p v kn kx => by kernel_rfl⟩
theorem aCv (x : Val (.pair abB (.pair ab6 acd))) (k : (Val (.pair aez tI)) → Option ρ) :
    adY (akF ρ) 71 (adD [abB, ab6, acd] x) (fun h v => ab8 (adR [aez, tI] h v) k) = avx x.1 x.2.1 x.2.2 k := by kernel_rfl
theorem avy (x : Val ac8) (k : (Val abp) → Option ρ) :
    adY (aoP ρ) 95 (adD [ac8] x) (fun h v => ab8 (adR [abp] h v) k) = amP x k := by kernel_rfl
theorem aCw (x : Val (.pair ac8 tI)) (k : Int → Option ρ) :
    adY (awZ ρ) 177 (adD [ac8, tI] x) (fun h v => ab8 (adR [tI] h v) k) = avA x.1 x.2 k := by kernel_rfl
theorem as9 (x : Val (.pair aez tI)) (k : Val ab6 → Option ρ) :
    adY (anO ρ) 99 (adD [aez, tI] x) (fun h v => ab8 (adR [ab6] h v) k) = alf x.1 x.2 k := by kernel_rfl
theorem aqs : (ajY ρ).Ok (agH ρ) := ⟨by kernel_rfl, fun p v kn kx => by kernel_rfl⟩
theorem aqt : (ajZ ρ).Ok (agH ρ) := ⟨by kernel_rfl, fun p v kn kx => by kernel_rfl⟩
theorem ata (x : Val (.pair aez abp)) (k : (Val abp) → Option ρ) :
    adY (agH ρ) 101 (adD [aez, abp] x) (fun h v => ab8 (adR [abp] h v) k) = alg x.1 x.2 k := by kernel_rfl
theorem aoG : (ajd ρ).Ok (ah2 ρ) := ⟨by kernel_rfl, fun p v kn kx => by kernel_rfl⟩
theorem arM (x : Val aez) (k : Int → Option ρ) :
    adY (ah2 ρ) 72 (adD [aez] x) (fun h v => ab8 (adR [tI] h v) k) = ajX x k := by kernel_rfl
theorem azT : (aqR ρ).Ok (arV ρ) := ⟨by kernel_rfl, fun p v kn kx => by kernel_rfl⟩
theorem aFL (x : Val (.pair ab9 (.pair ab6 acd))) (k : Val ab6 → Option ρ) :
    adY (arV ρ) 31 (adD [ab9, ab6, acd] x) (fun h v => ab8 (adR [tI, tI] h v) k) = azU x.1 x.2.1 x.2.2 k := by kernel_rfl
theorem avT : (an0 ρ).Ok (am0 ρ) := ⟨by kernel_rfl, fun p v kn kx => by kernel_rfl⟩
theorem az4 (x : Val ab1) (k : Int → Option ρ) :
    adY (am0 ρ) 145 (adD [aci, abp] x) (fun h v => ab8 (adR [tI] h v) k) = ar0 x.1 x.2 k := by kernel_rfl
theorem aCH : (atG ρ).Ok (avN ρ) := ⟨by kernel_rfl, fun p v kn kx => by kernel_rfl⟩
theorem aIF (x : Val (.pair aci abD)) (k : (Val (.pair tI (.pair tI .bool))) → Option ρ) :
    adY (avN ρ) 146 (adD [aci, tI, abp] x) (fun h v => ab8 (adR [tI, tI, .bool] h v) k) = aFT x.1 x.2.1 x.2.2 k := by kernel_rfl
theorem atV (x : Val (.pair aci (.pair tI abD))) (k : Val ab6 → Option ρ) :
    adY (an3 ρ) 76 (adD [aci, tI, tI, abp] x) (fun h v => ab8 (adR [tI, tI] h v) k) = alt x.1 x.2.1 x.2.2.1 x.2.2.2 k := by kernel_rfl
theorem avI (x : Val afc) (k : Int → Option ρ) :
    adY (aoV ρ) 33 (adD [afc] x) (fun h v => ab8 (adR [tI] h v) k) = amW x k := by kernel_rfl
theorem atU (x : Val ab1) (k : Int → Option ρ) :
    adY (an2 ρ) 86 (adD [aci, abp] x) (fun h v => ab8 (adR [tI] h v) k) = als x.1 x.2 k := by kernel_rfl
theorem atF (x : Val afc) (k : Int → Option ρ) :
    adY (anV ρ) 39 (adD [afc] x) (fun h v => ab8 (adR [tI] h v) k) = aln x k := by kernel_rfl
theorem agP : (aeP ρ).Ok (adZ ρ) := ⟨by kernel_rfl, fun p v kn kx => by kernel_rfl⟩
theorem ahn (x : Val (.pair abo ach)) (k : Int → Option ρ) :
    adY (adZ ρ) 254 (adD [abo, ach] x) (fun h v => ab8 (adR [tI] h v) k) = aei x.1 x.2 k := by kernel_rfl
theorem agC (x : Val (.pair abo ach)) (k : Bool → Option ρ) :
    adY (aeR ρ) 210 (adD [abo, ach] x) (fun h v => ab8 (adR [.bool] h v) k) = adT x.1 x.2 k := by kernel_rfl
theorem ahY : (afA ρ).Ok (aeF ρ) := ⟨by kernel_rfl, fun p v kn kx => by kernel_rfl⟩
theorem ai5 (x : Val abY) (k : Int → Option ρ) :
    adY (aeF ρ) 256 (adD [f6, ab6] x) (fun h v => ab8 (adR [tI] h v) k) = ae5 x.1 x.2 k := by kernel_rfl
theorem ahM (x : Val abY) (k : Bool → Option ρ) :
    adY (afB ρ) 213 (adD [f6, ab6] x) (fun h v => ab8 (adR [.bool] h v) k) = aeo x.1 x.2 k := by kernel_rfl
theorem ahm : (aff ρ).Ok (aeh ρ) := ⟨by kernel_rfl, fun p v kn kx => by kernel_rfl⟩
theorem ah0 (x : Val (.pair abq adJ)) (k : Int → Option ρ) :
    adY (aeh ρ) 258 (adD [abq, adJ] x) (fun h v => ab8 (adR [tI] h v) k) = aeH x.1 x.2 k := by kernel_rfl
theorem ahc (x : Val (.pair abq adJ)) (k : Bool → Option ρ) :
    adY (afh ρ) 216 (adD [abq, adJ] x) (fun h v => ab8 (adR [.bool] h v) k) = ad6 x.1 x.2 k := by kernel_rfl
theorem aCt : (ato ρ).Ok (aeU ρ) := ⟨by kernel_rfl, fun p v kn kx => by kernel_rfl⟩
theorem aCq : (atl ρ).Ok (aeU ρ) := ⟨by kernel_rfl, fun p v kn kx => by kernel_rfl⟩
theorem aCp : (atk ρ).Ok (aeU ρ) := ⟨by kernel_rfl, fun p v kn kx => by kernel_rfl⟩
theorem aCr : (atm ρ).Ok (aeU ρ) := ⟨by kernel_rfl, fun p v kn kx => by kernel_rfl⟩
theorem aCs : (atn ρ).Ok (aeU ρ) := ⟨by kernel_rfl, fun p v kn kx => by kernel_rfl⟩
theorem aCo : (atj ρ).Ok (aeU ρ) := ⟨by kernel_rfl, fun p v kn kx => by kernel_rfl⟩
theorem aCn : (ati ρ).Ok (aeU ρ) := ⟨by kernel_rfl, fun p v kn kx => by kernel_rfl⟩
theorem aCm : (ath ρ).Ok (aeU ρ) := ⟨by kernel_rfl, fun p v kn kx => by kernel_rfl⟩
theorem aCl : (atg ρ).Ok (aeU ρ) := ⟨by kernel_rfl, fun p v kn kx => by kernel_rfl⟩
theorem aCk : (atf ρ).Ok (aeU ρ) := ⟨by kernel_rfl, fun p v kn kx => by kernel_rfl⟩
theorem aIr (x : Val (.pair ab9 ab9)) (k : Bool → Option ρ) :
    adY (aeU ρ) 77 (adD [ab9, ab9] x) (fun h v => ab8 (adR [.bool] h v) k) = aFA x.1 x.2 k := by kernel_rfl
theorem aCB (x : Val (.pair ab9 afc)) (k : (Val abS) → Option ρ) :
    adY (aw4 ρ) 35 (adD [ab9, afc] x) (fun h v => ab8 (adR [.bool, tI] h v) k) = avC x.1 x.2 k := by kernel_rfl
theorem aK2 : (aD6 ρ).Ok (avU ρ) := ⟨by kernel_rfl, fun p v kn kx => by kernel_rfl⟩
theorem aK0 : (aD4 ρ).Ok (avU ρ) := ⟨by kernel_rfl, fun p v kn kx => by kernel_rfl⟩
theorem aKZ : (aD3 ρ).Ok (avU ρ) := ⟨by kernel_rfl, fun p v kn kx => by kernel_rfl⟩
theorem aK1 : (aD5 ρ).Ok (avU ρ) := ⟨by kernel_rfl, fun p v kn kx => by kernel_rfl⟩
theorem aPE (x : Val abZ) (k : (Val abx) → Option ρ) :
    adY (avU ρ) 156 (adD [aci, tI, tI] x) (fun h v => ab8 (adR [abx] h v) k) = az5 x.1 x.2.1 x.2.2 k := by kernel_rfl
theorem aAh : (aq1 ρ).Ok (agT ρ) := ⟨by kernel_rfl, fun p v kn kx => by kernel_rfl⟩
theorem aAd : (aqX ρ).Ok (agT ρ) := ⟨by kernel_rfl, fun p v kn kx => by kernel_rfl⟩
theorem aAe : (aqY ρ).Ok (agT ρ) := ⟨by kernel_rfl, fun p v kn kx => by kernel_rfl⟩
theorem aAf : (aqZ ρ).Ok (agT ρ) := ⟨by kernel_rfl, fun p v kn kx => by kernel_rfl⟩
theorem aAg : (aq0 ρ).Ok (agT ρ) := ⟨by kernel_rfl, fun p v kn kx => by kernel_rfl⟩
theorem aFY (x : Val aci) (k : (Val abJ) → Option ρ) :
    adY (agT ρ) 78 (adD [aci] x) (fun h v => ab8 (adR [abp, tI] h v) k) = aAi x k := by kernel_rfl
theorem avu : (anP ρ).Ok (amM ρ) := ⟨by kernel_rfl, fun p v kn kx => by kernel_rfl⟩
theorem azI (x : Val (.pair ab9 abp)) (k : (Val f6) → Option ρ) :
    adY (amM ρ) 80 (adD [ab9, abp] x) (fun h v => ab8 (adR [f6] h v) k) = arQ x.1 x.2 k := by kernel_rfl
theorem aFR (x : Val ab9) (k : (Val (.pair afc tI)) → Option ρ) :
    adY (azZ ρ) 36 (adD [ab9] x) (fun h v => ab8 (adR [afc, tI] h v) k) = az0 x k := by kernel_rfl
theorem avF (x : Val tI) (k : Int → Option ρ) :
    adY (aoS ρ) 96 (adD [tI] x) (fun h v => ab8 (adR [tI] h v) k) = amT x k := by kernel_rfl
theorem avz (x : Val (.pair ac8 tI)) (k : (Val abp) → Option ρ) :
    adY (aoQ ρ) 97 (adD [ac8, tI] x) (fun h v => ab8 (adR [abp] h v) k) = amQ x.1 x.2 k := by kernel_rfl
theorem atx : (((ak6 (ada ρ).P 50).elim [] (acH 0)).filter fun y => Nat.beq y.1 0).length = 1 := by kernel_rfl
theorem aty (p : Val abz) (v : Val abG) (kn : Val abz → Val abG → Option ρ) (kx : (i : Nat) → Val abz → Val (tyL (aeW.zs i)) → Option ρ) :
    goC (ada ρ) (agG (ada ρ) (10 - 2 / 2)) 50 [1, 3] 5 0 (axx (ak6 (ada ρ).P 50) 0) (af6 aeW.head aeW.cs aeW.vs p v) (aHx aeW kn kx) = (ai7 ρ).bF p v (kn p) (fun i => kx i p) := by kernel_rfl
theorem avE : (ai7 ρ).Ok (ada ρ) := ⟨atx, aty⟩
theorem atv : (((ak6 (ada ρ).P 178).elim [] (acH 0)).filter fun y => Nat.beq y.1 0).length = 1 := by kernel_rfl
theorem atw (p : Val abw) (v : Val tI) (kn : Val abw → Val tI → Option ρ) (kx : (i : Nat) → Val abw → Val (tyL (aeV.zs i)) → Option ρ) :
    goC (ada ρ) (agG (ada ρ) (10 - 4 / 2)) 178 [18, 4, 1, 2] 12 0 (axx (ak6 (ada ρ).P 178) 0) (af6 aeV.head aeV.cs aeV.vs p v) (aHx aeV kn kx) = (ai6 ρ).bF p v (kn p) (fun i => kx i p) := by kernel_rfl
theorem avD : (ai6 ρ).Ok (ada ρ) := ⟨atv, atw⟩
theorem azV (x : Val abQ) (k : (Val abS) → Option ρ) :
    adY (amS ρ) 42 (adD [ab9, ab6, ab6, acd] x) (fun h v => ab8 (adR [.bool, tI] h v) k) = arW x.1 x.2.1 x.2.2.1 x.2.2.2 k := by kernel_rfl
theorem axV (x : Unit) (k : Val ab9 → Option ρ) :
    adY (aqK ρ) 48 (adD [] x) (fun h v => ab8 (adR [ab9] h v) k) = aoD k := by kernel_rfl
theorem aAn : (aq5 ρ).Ok (aj8 ρ) := ⟨by kernel_rfl, fun p v kn kx => by kernel_rfl⟩
theorem aAl : (aq3 ρ).Ok (aj8 ρ) := ⟨by kernel_rfl, fun p v kn kx => by kernel_rfl⟩
theorem aAm : (aq4 ρ).Ok (aj8 ρ) := ⟨by kernel_rfl, fun p v kn kx => by kernel_rfl⟩
theorem aF0 (x : Val abZ) (k : (Val abJ) → Option ρ) :
    adY (aj8 ρ) 120 (adD [aci, tI, tI] x) (fun h v => ab8 (adR [abp, tI] h v) k) = aAo x.1 x.2.1 x.2.2 k := by kernel_rfl
theorem avL (x : Val (.pair abB (.pair abW (.ptr .bool)))) (k : (Val abp) → Option ρ) :
    adY (aoX ρ) 119 (adD [abB, abW, (.ptr .bool)] x) (fun h v => ab8 (adR [abp] h v) k) = amX x.1 x.2.1 x.2.2 k := by kernel_rfl
theorem avK : (anX ρ).Ok (ahs ρ) := ⟨by kernel_rfl, fun p v kn kx => by kernel_rfl⟩
theorem avJ : (anW ρ).Ok (ahs ρ) := ⟨by kernel_rfl, fun p v kn kx => by kernel_rfl⟩
theorem az1 (x : Val (.pair ab9 (.pair ab6 .bool))) (k : (Val (.pair afc tI)) → Option ρ) :
    adY (ahs ρ) 49 (adD [ab9, ab6, .bool] x) (fun h v => ab8 (adR [afc, tI] h v) k) = arY x.1 x.2.1 x.2.2 k := by kernel_rfl
theorem azF (x : Unit) (k : Bool → Option ρ) :
    adY (as5 ρ) 14 (adD [] x) (fun h v => ab8 (adR [.bool] h v) k) = arJ k := by kernel_rfl
theorem azE : (aqJ ρ).Ok (arH ρ) := ⟨by kernel_rfl, fun p v kn kx => by kernel_rfl⟩
theorem aFl (x : Val (.pair ab9 f6)) (k : (Val (.pair ab9 .bool)) → Option ρ) :
    adY (arH ρ) 19 (adD [ab9, f6] x) (fun h v => ab8 (adR [ab9, .bool] h v) k) = as4 x.1 x.2 k := by kernel_rfl
theorem aqp : (ajV ρ).Ok (ai4 ρ) := ⟨by kernel_rfl, fun p v kn kx => by kernel_rfl⟩
theorem as7 (x : Val abQ) (k : Bool → Option ρ) :
    adY (ai4 ρ) 11 (adD [ab9, ab6, ab6, acd] x) (fun h v => ab8 (adR [.bool] h v) k) = ale x.1 x.2.1 x.2.2.1 x.2.2.2 k := by kernel_rfl
end Go.Proofs.ZzM
end

noncomputable section
variable {ρ : Type}
set_option maxRecDepth 100000
namespace Go.Proofs.ZzM
open Go Go.Am
theorem av1 : (an5 ρ).Ok (am5 ρ) := ⟨by kernel_rfl, fun p v kn kx => by kernel_rfl⟩
theorem aAK (x : Val ab9) (k : (Val aby) → Option ρ) :
    adY (am5 ρ) 53 (adD [ab9] x) (fun h v => ab8 (adR [aby] h v) k) = ar7 x k := by kernel_rfl
theorem aDa (x : Val acZ) (k : Bool → Option ρ) :
    adY (axo ρ) 82 (adD [ab6, tI, tI] x) (fun h v => ab8 (adR [.bool] h v) k) = av6 x.1 x.2.1 x.2.2 k := by kernel_rfl
theorem aCW (x : Val ac8) (k : Bool → Option ρ) :
    adY (axj ρ) 126 (adD [tI, tI, tI] x) (fun h v => ab8 (adR [.bool] h v) k) = av0 x.1 x.2.1 x.2.2 k := by kernel_rfl
theorem aGq (x : Val tI) (k : Bool → Option ρ) :
    adY (aAS ρ) 125 (adD [tI] x) (fun h v => ab8 (adR [.bool] h v) k) = aAT x k := by kernel_rfl
theorem aIO (x : Val tI) (k : Int → Option ρ) :
    adY (aD7 ρ) 259 (adD [tI] x) (fun h v => ab8 (adR [(.int .u64)] h v) k) = aF3 x k := by kernel_rfl
theorem aF4 : (axf ρ).Ok (aAv ρ) := ⟨by kernel_rfl, fun p v kn kx => by kernel_rfl⟩
theorem aK4 (x : Val ab2) (k : Int → Option ρ) :
    adY (aAv ρ) 260 (adD [(.int .u64), (.int .u64)] x) (fun h v => ab8 (adR [(.int .u64)] h v) k) = aK5 x.1 x.2 k := by kernel_rfl
theorem aF6 (x : Val ab6) (k : Bool → Option ρ) :
    adY (aAz ρ) 219 (adD [ab6] x) (fun h v => ab8 (adR [.bool] h v) k) = aAA x k := by kernel_rfl
theorem aAR (x : Val ach) (k : Bool → Option ρ) :
    adY (aun ρ) 162 (adD [ach] x) (fun h v => ab8 (adR [.bool] h v) k) = asa x k := by kernel_rfl
theorem apf : (ajf ρ).Ok (ah8 ρ) := ⟨by kernel_rfl, fun p v kn kx => by kernel_rfl⟩
theorem asd (x : Val ab9) (k : Int → Option ρ) :
    adY (ah8 ρ) 83 (adD [ab9] x) (fun h v => ab8 (adR [tI] h v) k) = aka x k := by kernel_rfl
theorem amI : (ahP ρ).Ok (agO ρ) := ⟨by kernel_rfl, fun p v kn kx => by kernel_rfl⟩
theorem aoE (x : Val abJ) (k : Int → Option ρ) :
    adY (agO ρ) 73 (adD [abp, tI] x) (fun h v => ab8 (adR [tI] h v) k) = ahX x.1 x.2 k := by kernel_rfl
theorem alQ (x : Val abJ) (k : Bool → Option ρ) :
    adY (ahQ ρ) 65 (adD [abp, tI] x) (fun h v => ab8 (adR [.bool] h v) k) = agx x.1 x.2 k := by kernel_rfl
theorem aDd : (aur ρ).Ok (ap6 ρ) := ⟨by kernel_rfl, fun p v kn kx => by kernel_rfl⟩
theorem aDc : (auq ρ).Ok (ap6 ρ) := ⟨by kernel_rfl, fun p v kn kx => by kernel_rfl⟩
theorem aI7 (x : Val (.pair ab9 ach)) (k : (Val abp) → Option ρ) :
    adY (ap6 ρ) 168 (adD [ab9, ach] x) (fun h v => ab8 (adR [abp] h v) k) = aGw x.1 x.2 k := by kernel_rfl
theorem aAM : (aq8 ρ).Ok (am8 ρ) := ⟨by kernel_rfl, fun p v kn kx => by kernel_rfl⟩
theorem aAN : (aq9 ρ).Ok (am8 ρ) := ⟨by kernel_rfl, fun p v kn kx => by kernel_rfl⟩
theorem aGe (x : Val ab9) (k : (Val f6) → Option ρ) :
    adY (am8 ρ) 85 (adD [ab9] x) (fun h v => ab8 (adR [f6] h v) k) = aAO x k := by kernel_rfl
theorem aud (x : Val (.pair aby ab6)) (k : Int → Option ρ) :
    adY (an6 ρ) 164 (adD [aby, tI, tI] x) (fun h v => ab8 (adR [tI] h v) k) = alv x.1 x.2.1 x.2.2 k := by kernel_rfl
theorem aAL (x : Val (.pair tI (.pair tI (.ptr aby)))) (k : Int → Option ρ) :
    adY (aue ρ) 163 (adD [tI, tI, (.ptr aby)] x) (fun h v => ab8 (adR [tI] h v) k) = ar9 x.1 x.2.1 x.2.2 k := by kernel_rfl
theorem asc : (ak0 ρ).Ok (aht ρ) := ⟨by kernel_rfl, fun p v kn kx => by kernel_rfl⟩
theorem asb : (akZ ρ).Ok (aht ρ) := ⟨by kernel_rfl, fun p v kn kx => by kernel_rfl⟩
theorem av8 (x : Val ab3) (k : Int → Option ρ) :
    adY (aht ρ) 166 (adD [ab9, aby, tI] x) (fun h v => ab8 (adR [tI] h v) k) = ani x.1 x.2.1 x.2.2 k := by kernel_rfl
theorem aC7 : (aum ρ).Ok (ap5 ρ) := ⟨by kernel_rfl, fun p v kn kx => by kernel_rfl⟩
theorem aC6 : (aul ρ).Ok (ap5 ρ) := ⟨by kernel_rfl, fun p v kn kx => by kernel_rfl⟩
theorem aI4 (x : Val (.pair abp abp)) (k : (Val abp) → Option ρ) :
    adY (ap5 ρ) 88 (adD [abp, abp] x) (fun h v => ab8 (adR [abp] h v) k) = aGo x.1 x.2 k := by kernel_rfl
theorem alS : (ahq ρ).Ok (afj ρ) := ⟨by kernel_rfl, fun p v kn kx => by kernel_rfl⟩
theorem alR : (ahp ρ).Ok (afj ρ) := ⟨by kernel_rfl, fun p v kn kx => by kernel_rfl⟩
theorem aod (x : Val abx) (k : (Val abp) → Option ρ) :
    adY (afj ρ) 94 (adD [abx] x) (fun h v => ab8 (adR [abp] h v) k) = af1 x k := by kernel_rfl
theorem ayk : (apc ρ).Ok (apd ρ) := ⟨by kernel_rfl, fun p v kn kx => by kernel_rfl⟩
theorem aC8 (x : Val abp) (k : Bool → Option ρ) :
    adY (apd ρ) 198 (adD [abp] x) (fun h v => ab8 (adR [.bool] h v) k) = av5 x k := by kernel_rfl
theorem aDe : (auv ρ).Ok (av9 ρ) := ⟨by kernel_rfl, fun p v kn kx => by kernel_rfl⟩
theorem aI8 (x : Val abU) (k : (Val (.pair adJ .bool)) → Option ρ) :
    adY (av9 ρ) 223 (adD [ab9, tI, tI] x) (fun h v => ab8 (adR [adJ, .bool] h v) k) = aGy x.1 x.2.1 x.2.2 k := by kernel_rfl
theorem aoh : (aiL ρ).Ok (aed ρ) := ⟨by kernel_rfl, fun p v kn kx => by kernel_rfl⟩
theorem aof : (aiJ ρ).Ok (aed ρ) := ⟨by kernel_rfl, fun p v kn kx => by kernel_rfl⟩
theorem aog : (aiK ρ).Ok (aed ρ) := ⟨by kernel_rfl, fun p v kn kx => by kernel_rfl⟩
theorem aoe : (aiI ρ).Ok (aed ρ) := ⟨by kernel_rfl, fun p v kn kx => by kernel_rfl⟩
theorem aqy (x : Val ab3) (k : Int → Option ρ) :
    adY (aed ρ) 167 (adD [ab9, aby, tI] x) (fun h v => ab8 (adR [tI] h v) k) = ai9 x.1 x.2.1 x.2.2 k := by kernel_rfl
theorem aFJ : (aw2 ρ).Ok (aeI ρ) := ⟨by kernel_rfl, fun p v kn kx => by kernel_rfl⟩
theorem aFK : (aw3 ρ).Ok (aeI ρ) := ⟨by kernel_rfl, fun p v kn kx => by kernel_rfl⟩
theorem aFI : (aw1 ρ).Ok (aeI ρ) := ⟨by kernel_rfl, fun p v kn kx => by kernel_rfl⟩
theorem aFH : (akK ρ).Ok (aeI ρ) := ⟨by kernel_rfl, fun p v kn kx => by kernel_rfl⟩
theorem aFG : (akJ ρ).Ok (aeI ρ) := ⟨by kernel_rfl, fun p v kn kx => by kernel_rfl⟩
theorem aFF : (akI ρ).Ok (aeI ρ) := ⟨by kernel_rfl, fun p v kn kx => by kernel_rfl⟩
theorem aKU (x : Val (.pair ab9 (.pair f6 f6))) (kA : Val abV → Val abr → Option ρ) : goC (aeI ρ) (agG (aeI ρ) 10) 79 [] 0 0 (preC 7 adr) { t := adD [ab9, f6, f6] x ++ List.replicate 127 .any, h := [] } (matK alV 0 afT ah7 kA) = ats x.1 x.2.1 x.2.2 kA := by kernel_rfl
theorem aNN (p : Val abV) (v : Val abr) (x : Val ach) (kk : Val abV → Val (.pair tI (.pair tI (.pair abo (.pair f6 (.pair abq (.pair wi (.pair f6 (.pair tI (.pair tI (.pair abo (.pair f6 (.pair abq (.pair wi (.pair f6 (.pair tI (.pair tI (.pair abo (.pair f6 (.pair abq (.pair wi (.pair f6 (.pair abv (.pair abv (.pair abo abA)))))))))))))))))))))))) → Option ρ) : goC (adm ρ) (agG (adm ρ) 10) 79 [] 9 4 (rfA (rfC 7 adr)) { t := upd (af6 alV afT ah7 p v).t 60 (.agg (flat ach x)), h := (af6 alV afT ah7 p v).h } (matK azS 9 afT apZ kk) = kk p (arU v x) := by kernel_rfl
theorem aNM (p : Val abV) (v : Val abr) (x : Val ach) (kk : Val abV → Val abr → Option ρ) : goC (adm ρ) (agG (adm ρ) 10) 79 [] 9 4 (rfB (rfC 7 adr)) (af6 azS afT apZ p (arU v x)) (matK alV 9 afT ah7 kk) = acX (acP ((List.length (amR v)) + (List.length [x]))) (kk p (adq v (amR v ++ [x]))) := by kernel_rfl
theorem aIu (p : Val abV) (v : Val abr) (k : Val abu → Option ρ) : goC (adm ρ) (agG (adm ρ) 10) 79 [] 0 0 (postC 7 adr) (af6 alV afT ah7 p v) (matR aj6 0 ago k) = aiH p v (fun y => k (ag4 y)) := by kernel_rfl
theorem aKT (y : Val ab9) : ajS Tryz.prog Tryz.f79 (af6 aj6 [] ago () (ag4 y)) = some (enc ab9 y) := by kernel_rfl
theorem aNL : rfC 7 adr = Code.block 4 (Code.rangeFunc (.tmp 59) #[60] (rfA (rfC 7 adr)) (rfB (rfC 7 adr))) := by kernel_rfl
theorem atr : aEU 7 adr = true := by kernel_rfl
theorem akH : Tryz.f79.body = some adr := by kernel_rfl
theorem aCz : (akK ρ).Ok (adm ρ) := ⟨by kernel_rfl, fun p v kn kx => by kernel_rfl⟩
theorem aCy : (akJ ρ).Ok (adm ρ) := ⟨by kernel_rfl, fun p v kn kx => by kernel_rfl⟩
theorem aCx : (akI ρ).Ok (adm ρ) := ⟨by kernel_rfl, fun p v kn kx => by kernel_rfl⟩
end Go.Proofs.ZzM
end
