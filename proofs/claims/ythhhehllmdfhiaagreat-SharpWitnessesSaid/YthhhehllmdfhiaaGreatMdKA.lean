/- lemmas -/
import Derived.Test.YthhhehllmdfhiaaGreatMdMA
set_option linter.all false
set_option linter.unusedSectionVars false
set_option linter.unusedVariables false
set_option linter.unusedSimpArgs false
noncomputable section
variable {ρ : Type}
set_option maxRecDepth 100000
namespace Go.Proofs.ZzM
open Go Go.Am
theorem aC3 (x : Val acg) (k : Bool → Option ρ) :
    adI (axy ρ) 29 (ady [acg] x) (fun h v => ab6 (adE [.bool] h v) k) = avT x k := by kernel_rfl
theorem aC2 : (atv ρ).Ok (avS ρ) := ⟨by kernel_rfl, fun p v kn kx => by kernel_rfl⟩
theorem aJs (x : Val ab7) (k : Bool → Option ρ) :
    adI (avS ρ) 13 (ady [ab7] x) (fun h v => ab6 (adE [.bool] h v) k) = aGf x k := by kernel_rfl
theorem aDV : (auN ρ).Ok (aqj ρ) := ⟨by kernel_rfl, fun p v kn kx => by kernel_rfl⟩
theorem aDU : (auM ρ).Ok (aqj ρ) := ⟨by kernel_rfl, fun p v kn kx => by kernel_rfl⟩
theorem aJ7 (x : Val (.pair ab7 (.pair ach ab5))) (k : Int → Option ρ) :
    adI (aqj ρ) 54 (ady [ab7, ach, tI, tI] x) (fun h v => ab6 (adE [tI] h v) k) = aHg x.1 x.2.1 x.2.2.1 x.2.2.2 k := by kernel_rfl
theorem ahz : (afj ρ).Ok (aek ρ) := ⟨by kernel_rfl, fun p v kn kx => by kernel_rfl⟩
theorem aib (x : Val abY) (k : Int → Option ρ) :
    adI (aek ρ) 130 (ady [eI, ab5] x) (fun h v => ab6 (adE [tI] h v) k) = aeD x.1 x.2 k := by kernel_rfl
theorem ayY (x : Val (.pair abE abC)) (k : Int → Option ρ) :
    adI (arw ρ) 87 (ady [abE, l5, tI] x) (fun h v => ab6 (adE [tI] h v) k) = apu x.1 x.2.1 x.2.2 k := by kernel_rfl
theorem aqL (x : Val (.pair abu l5)) (k : Val ab5 → Option ρ) :
    adI (ak7 ρ) 224 (ady [abu, l5] x) (fun h v => ab6 (adE [ab5] h v) k) = ajc x.1 x.2 k := by kernel_rfl
theorem aBe : (ars ρ).Ok (ass ρ) := ⟨by kernel_rfl, fun p v kn kx => by kernel_rfl⟩
theorem aGX (x : Val eI) (k : Int → Option ρ) :
    adI (ass ρ) 227 (ady [eI] x) (fun h v => ab6 (adE [tI] h v) k) = aBf x k := by kernel_rfl
theorem aBg (x : Val ab5) (k : Val ahr → Option ρ) :
    adI (auy ρ) 277 (ady [tI, tI] x) (fun h v => ab6 (adE [ab5, tI] h v) k) = ast x.1 x.2 k := by kernel_rfl
theorem aMh (x : Val ac0) (k : Val ahr → Option ρ) :
    adI (aJX ρ) 262 (ady [ab5, ab5] x) (fun h v => ab6 (adE [ab5, tI] h v) k) = aMi x.1 x.2 k := by kernel_rfl
theorem awy (x : Val ac0) (k : Val ab5 → Option ρ) :
    adI (apq ρ) 225 (ady [ab5, ab5] x) (fun h v => ab6 (adE [ab5] h v) k) = anl x.1 x.2 k := by kernel_rfl
theorem aMf (x : Val ac0) (k : Int → Option ρ) :
    adI (aJV ρ) 287 (ady [ab5, ab5] x) (fun h v => ab6 (adE [tI] h v) k) = aMg x.1 x.2 k := by kernel_rfl
theorem auB (x : Val ac0) (k : Bool → Option ρ) :
    adI (aoj ρ) 278 (ady [ac0] x) (fun h v => ab6 (adE [.bool] h v) k) = alE x k := by kernel_rfl
theorem aMj (x : Val ac0) (k : Val ahr → Option ρ) :
    adI (aJZ ρ) 281 (ady [ab5, ab5] x) (fun h v => ab6 (adE [ab5, tI] h v) k) = aMk x.1 x.2 k := by kernel_rfl
theorem aG2 (x : Val (.pair ac0 ab5)) (k : Val aPZ → Option ρ) :
    adI (asu ρ) 263 (ady [ac0, ab5] x) (fun h v => ab6 (adE [ac0, tI] h v) k) = aBp x.1 x.2 k := by kernel_rfl
theorem awx (x : Val ac0) (k : Val ac0 → Option ρ) :
    adI (apo ρ) 226 (ady [ab5, ab5] x) (fun h v => ab6 (adE [ac0] h v) k) = ank x.1 x.2 k := by kernel_rfl
theorem aD1 (x : Val abK) (k : Val ac0 → Option ρ) :
    adI (ax2 ρ) 171 (ady [ab7, acg] x) (fun h v => ab6 (adE [ac0] h v) k) = awC x.1 x.2 k := by kernel_rfl
theorem aHo (x : Val abK) (k : Val ab5 → Option ρ) :
    adI (aBH ρ) 172 (ady [ab7, acg] x) (fun h v => ab6 (adE [ab5] h v) k) = aBI x.1 x.2 k := by kernel_rfl
theorem aG0 (x : Val ab5) (k : Int → Option ρ) :
    adI (aBj ρ) 228 (ady [tI, tI] x) (fun h v => ab6 (adE [tI] h v) k) = aBk x.1 x.2 k := by kernel_rfl
theorem aJ1 (x : Val ab5) (k : Val ab5 → Option ρ) :
    adI (aEX ρ) 173 (ady [ab5] x) (fun h v => ab6 (adE [tI, tI] h v) k) = aG4 x k := by kernel_rfl
theorem aG3 (x : Val ab5) (k : Val ab5 → Option ρ) :
    adI (aBr ρ) 174 (ady [ab5] x) (fun h v => ab6 (adE [tI, tI] h v) k) = aBs x k := by kernel_rfl
theorem aJ4 (x : Val abK) (k : Val ab5 → Option ρ) :
    adI (aEY ρ) 200 (ady [ab7, acg] x) (fun h v => ab6 (adE [ab5] h v) k) = aG8 x.1 x.2 k := by kernel_rfl
theorem aDS : (auK ρ).Ok (amn ρ) := ⟨by kernel_rfl, fun p v kn kx => by kernel_rfl⟩
theorem aDT : (auL ρ).Ok (amn ρ) := ⟨by kernel_rfl, fun p v kn kx => by kernel_rfl⟩
theorem aDR : (auJ ρ).Ok (amn ρ) := ⟨by kernel_rfl, fun p v kn kx => by kernel_rfl⟩
theorem aJ6 (x : Val ab7) (k : (Val abE) → Option ρ) :
    adI (amn ρ) 62 (ady [ab7] x) (fun h v => ab6 (adE [abE] h v) k) = aHd x k := by kernel_rfl
theorem aD6 (x : Val ab7) (k : (Val (.pair acf (.pair eI tI))) → Option ρ) :
    adI (ax6 ρ) 20 (ady [ab7] x) (fun h v => ab6 (adE [acf, eI, tI] h v) k) = awG x k := by kernel_rfl
theorem aHA (x : Val abN) (k : Val ab5 → Option ρ) :
    adI (aBK ρ) 60 (ady [ab7, ab5] x) (fun h v => ab6 (adE [tI, tI] h v) k) = aBL x.1 x.2 k := by kernel_rfl
theorem aAu (x : Val abQ) (k : Int → Option ρ) :
    adI (atF ρ) 55 (ady [abx, ab5] x) (fun h v => ab6 (adE [tI] h v) k) = ase x.1 x.2 k := by kernel_rfl
theorem aJJ (x : Val (.pair acf tI)) (k : Bool → Option ρ) :
    adI (aER ρ) 134 (ady [acf, tI] x) (fun h v => ab6 (adE [.bool] h v) k) = aGM x.1 x.2 k := by kernel_rfl
theorem aA6 : (arn ρ).Ok (asr ρ) := ⟨by kernel_rfl, fun p v kn kx => by kernel_rfl⟩
theorem aGU (x : Val acf) (k : Val ab5 → Option ρ) :
    adI (asr ρ) 133 (ady [acf] x) (fun h v => ab6 (adE [tI, tI] h v) k) = aA7 x k := by kernel_rfl
theorem auj : (amk ρ).Ok (ae8 ρ) := ⟨by kernel_rfl, fun p v kn kx => by kernel_rfl⟩
theorem aui : (amj ρ).Ok (ae8 ρ) := ⟨by kernel_rfl, fun p v kn kx => by kernel_rfl⟩
theorem aug : (amh ρ).Ok (ae8 ρ) := ⟨by kernel_rfl, fun p v kn kx => by kernel_rfl⟩
theorem auh : (ami ρ).Ok (ae8 ρ) := ⟨by kernel_rfl, fun p v kn kx => by kernel_rfl⟩
theorem auf : (amg ρ).Ok (ae8 ρ) := ⟨by kernel_rfl, fun p v kn kx => by kernel_rfl⟩
theorem ayN (x : Val (.pair acf abq)) (k : (Val (.pair l5 .bool)) → Option ρ) :
    adI (ae8 ρ) 135 (ady [acf, abq] x) (fun h v => ab6 (adE [l5, .bool] h v) k) = apd x.1 x.2 k := by kernel_rfl
theorem aAX : (arf ρ).Ok (asq ρ) := ⟨by kernel_rfl, fun p v kn kx => by kernel_rfl⟩
theorem aGP (x : Val abT) (k : Int → Option ρ) :
    adI (asq ρ) 63 (ady [acf, l5] x) (fun h v => ab6 (adE [tI] h v) k) = aAY x.1 x.2 k := by kernel_rfl
theorem ayT : (apk ρ).Ok (agk ρ) := ⟨by kernel_rfl, fun p v kn kx => by kernel_rfl⟩
theorem ayS : (apj ρ).Ok (agk ρ) := ⟨by kernel_rfl, fun p v kn kx => by kernel_rfl⟩
theorem ayR : (aph ρ).Ok (agk ρ) := ⟨by kernel_rfl, fun p v kn kx => by kernel_rfl⟩
theorem ayP : (apf ρ).Ok (agk ρ) := ⟨by kernel_rfl, fun p v kn kx => by kernel_rfl⟩
theorem ayQ : (apg ρ).Ok (agk ρ) := ⟨by kernel_rfl, fun p v kn kx => by kernel_rfl⟩
theorem aDx (x : Val (.pair acf (.pair abq tI))) (k : (Val l5) → Option ρ) :
    adI (agk ρ) 64 (ady [acf, abq, tI] x) (fun h v => ab6 (adE [l5] h v) k) = awp x.1 x.2.1 x.2.2 k := by kernel_rfl
theorem aGW (x : Val abW) (k : Val ab5 → Option ρ) :
    adI (aBc ρ) 89 (ady [acf, tI, tI] x) (fun h v => ab6 (adE [tI, tI] h v) k) = aBd x.1 x.2.1 x.2.2 k := by kernel_rfl
theorem atD (x : Val abQ) (k : Int → Option ρ) :
    adI (an4 ρ) 56 (ady [abx, tI, tI] x) (fun h v => ab6 (adE [tI] h v) k) = als x.1 x.2.1 x.2.2 k := by kernel_rfl
theorem atC (x : Val abQ) (k : Int → Option ρ) :
    adI (an3 ρ) 121 (ady [abx, ab5] x) (fun h v => ab6 (adE [tI] h v) k) = alr x.1 x.2 k := by kernel_rfl
theorem aoX (x : Val abQ) (k : Int → Option ρ) :
    adI (aj9 ρ) 122 (ady [abx, ab5] x) (fun h v => ab6 (adE [tI] h v) k) = aig x.1 x.2 k := by kernel_rfl
theorem aoW (x : Val abQ) (k : Val ab5 → Option ρ) :
    adI (ag1 ρ) 51 (ady [abx, ab5] x) (fun h v => ab6 (adE [ab5] h v) k) = aif x.1 x.2 k := by kernel_rfl
theorem aD8 : (au1 ρ).Ok (awH ρ) := ⟨by kernel_rfl, fun p v kn kx => by kernel_rfl⟩
theorem aKf (x : Val abN) (k : (Val abR) → Option ρ) :
    adI (awH ρ) 61 (ady [ab7, ab5] x) (fun h v => ab6 (adE [ab7, tI] h v) k) = aHz x.1 x.2 k := by kernel_rfl
theorem aup (x : Val acf) (k : (Val abJ) → Option ρ) :
    adI (aog ρ) 123 (ady [acf] x) (fun h v => ab6 (adE [.bool, tI] h v) k) = alB x k := by kernel_rfl
theorem aub : (amd ρ).Ok (alw ρ) := ⟨by kernel_rfl, fun p v kn kx => by kernel_rfl⟩
theorem ayH (x : Val abN) (k : Val ahr → Option ρ) :
    adI (alw ρ) 15 (ady [ab7, ab5] x) (fun h v => ab6 (adE [ab5, tI] h v) k) = ao8 x.1 x.2 k := by kernel_rfl
theorem awg : (aoc ρ).Ok (ana ρ) := ⟨by kernel_rfl, fun p v kn kx => by kernel_rfl⟩
theorem aAO (x : Val abX) (k : Val ahr → Option ρ) :
    adI (ana ρ) 17 (ady [ab7, ab5, ab5] x) (fun h v => ab6 (adE [ab5, tI] h v) k) = aso x.1 x.2.1 x.2.2 k := by kernel_rfl
theorem aD9 (x : Val (.pair l5 l5)) (k : (Val (.pair l5 abC)) → Option ρ) :
    adI (aya ρ) 129 (ady [l5, l5] x) (fun h v => ab6 (adE [l5, l5, tI] h v) k) = awI x.1 x.2 k := by kernel_rfl
theorem aJt (x : Val abC) (k : Bool → Option ρ) :
    adI (aEQ ρ) 57 (ady [l5, tI] x) (fun h v => ab6 (adE [.bool] h v) k) = aGh x.1 x.2 k := by kernel_rfl
theorem aGv (x : Val tI) (k : Bool → Option ρ) :
    adI (aAA ρ) 58 (ady [tI] x) (fun h v => ab6 (adE [.bool] h v) k) = aAB x k := by kernel_rfl
theorem aAv : (aq4 ρ).Ok (asf ρ) := ⟨by kernel_rfl, fun p v kn kx => by kernel_rfl⟩
theorem aGt (x : Val (.pair tI abt)) (k : (Val eI) → Option ρ) :
    adI (asf ρ) 59 (ady [tI, abt] x) (fun h v => ab6 (adE [eI] h v) k) = aAw x.1 x.2 k := by kernel_rfl
theorem aDr : (at7 ρ).Ok (aqf ρ) := ⟨by kernel_rfl, fun p v kn kx => by kernel_rfl⟩
theorem aDq : (at6 ρ).Ok (aqf ρ) := ⟨by kernel_rfl, fun p v kn kx => by kernel_rfl⟩
theorem aJF (x : Val (.pair ab7 abz)) (k : Val ahr → Option ρ) :
    adI (aqf ρ) 18 (ady [ab7, tI, l5] x) (fun h v => ab6 (adE [ab5, tI] h v) k) = aGH x.1 x.2.1 x.2.2 k := by kernel_rfl
theorem aAs (x : Val ac0) (k : Int → Option ρ) :
    adI (atz ρ) 69 (ady [ab5, ab5] x) (fun h v => ab6 (adE [tI] h v) k) = asa x.1 x.2 k := by kernel_rfl
theorem aAI : (arc ρ).Ok (asm ρ) := ⟨by kernel_rfl, fun p v kn kx => by kernel_rfl⟩
theorem aGI (x : Val abX) (k : Val ab5 → Option ρ) :
    adI (asm ρ) 25 (ady [ab7, ab5, ab5] x) (fun h v => ab6 (adE [tI, tI] h v) k) = aAJ x.1 x.2.1 x.2.2 k := by kernel_rfl
theorem aD5 : (auZ ρ).Ok (awF ρ) := ⟨by kernel_rfl, fun p v kn kx => by kernel_rfl⟩
theorem aKd (x : Val abK) (k : (Val abR) → Option ρ) :
    adI (awF ρ) 41 (ady [ab7, acg] x) (fun h v => ab6 (adE [ab7, tI] h v) k) = aHv x.1 x.2 k := by kernel_rfl
theorem aG7 (x : Val (.pair ab7 (.pair acg ab5))) (k : Val ahr → Option ρ) :
    adI (aBv ρ) 90 (ady [ab7, acg, ab5] x) (fun h v => ab6 (adE [ab5, tI] h v) k) = aBw x.1 x.2.1 x.2.2 k := by kernel_rfl
theorem aBJ (x : Val abK) (k : Val ahr → Option ρ) :
    adI (au0 ρ) 40 (ady [ab7, acg] x) (fun h v => ab6 (adE [ab5, tI] h v) k) = asD x.1 x.2 k := by kernel_rfl
theorem aG6 (x : Val abR) (k : (Val (.pair acg tI)) → Option ρ) :
    adI (aBt ρ) 205 (ady [ab7, tI] x) (fun h v => ab6 (adE [acg, tI] h v) k) = aBu x.1 x.2 k := by kernel_rfl
theorem aKe (x : Val abR) (k : Val ahr → Option ρ) :
    adI (aEZ ρ) 142 (ady [ab7, tI] x) (fun h v => ab6 (adE [ab5, tI] h v) k) = aHx x.1 x.2 k := by kernel_rfl
theorem ayC (x : Val (.pair l5 (.pair abx (.ptr acg)))) (k : Int → Option ρ) :
    adI (aq7 ρ) 143 (ady [l5, abx, (.ptr acg)] x) (fun h v => ab6 (adE [tI] h v) k) = ao1 x.1 x.2.1 x.2.2 k := by kernel_rfl
theorem ayB (x : Val (.pair tI (.pair tI (.pair abx (.pair (.ptr tI) (.pair abS (.ptr tI))))))) (k : Val acT → Option ρ) :
    adI (aq6 ρ) 144 (ady [tI, tI, abx, (.ptr tI), abS, (.ptr tI)] x) (fun h v => ab6 (adE [acT] h v) k) = ao0 x.1 x.2.1 x.2.2.1 x.2.2.2.1 x.2.2.2.2.1 x.2.2.2.2.2 k := by kernel_rfl
theorem ayA : (aoZ ρ).Ok (akR ρ) := ⟨by kernel_rfl, fun p v kn kx => by kernel_rfl⟩
theorem aDi (x : Val (.pair abx abV)) (k : (Val (.pair aez tI)) → Option ρ) :
    adI (akR ρ) 71 (ady [abx, ab5, acg] x) (fun h v => ab6 (adE [aez, tI] h v) k) = av0 x.1 x.2.1 x.2.2 k := by kernel_rfl
theorem av1 (x : Val acT) (k : (Val l5) → Option ρ) :
    adI (ao2 ρ) 95 (ady [acT] x) (fun h v => ab6 (adE [l5] h v) k) = am0 x k := by kernel_rfl
theorem aDj (x : Val (.pair acT tI)) (k : Int → Option ρ) :
    adI (axB ρ) 177 (ady [acT, tI] x) (fun h v => ab6 (adE [tI] h v) k) = av3 x.1 x.2 k := by kernel_rfl
theorem atx (x : Val (.pair aez tI)) (k : Val ab5 → Option ρ) :
    adI (an1 ρ) 99 (ady [aez, tI] x) (fun h v => ab6 (adE [ab5] h v) k) = alp x.1 x.2 k := by kernel_rfl
theorem aqH : (aj7 ρ).Ok (agR ρ) := ⟨by kernel_rfl, fun p v kn kx => by kernel_rfl⟩
theorem aqI : (aj8 ρ).Ok (agR ρ) := ⟨by kernel_rfl, fun p v kn kx => by kernel_rfl⟩
theorem aty (x : Val (.pair aez l5)) (k : (Val l5) → Option ρ) :
    adI (agR ρ) 101 (ady [aez, l5] x) (fun h v => ab6 (adE [l5] h v) k) = alq x.1 x.2 k := by kernel_rfl
theorem aoT : (ajj ρ).Ok (aie ρ) := ⟨by kernel_rfl, fun p v kn kx => by kernel_rfl⟩
theorem ar7 (x : Val aez) (k : Int → Option ρ) :
    adI (aie ρ) 72 (ady [aez] x) (fun h v => ab6 (adE [tI] h v) k) = aj6 x k := by kernel_rfl
theorem aAE : (aq9 ρ).Ok (asi ρ) := ⟨by kernel_rfl, fun p v kn kx => by kernel_rfl⟩
theorem aGD (x : Val (.pair ab7 abV)) (k : Val ab5 → Option ρ) :
    adI (asi ρ) 31 (ady [ab7, ab5, acg] x) (fun h v => ab6 (adE [tI, tI] h v) k) = aAF x.1 x.2.1 x.2.2 k := by kernel_rfl
theorem awn : (aoe ρ).Ok (anc ρ) := ⟨by kernel_rfl, fun p v kn kx => by kernel_rfl⟩
theorem aAQ (x : Val abT) (k : Int → Option ρ) :
    adI (anc ρ) 145 (ady [acf, l5] x) (fun h v => ab6 (adE [tI] h v) k) = asp x.1 x.2 k := by kernel_rfl
theorem aDv : (aue ρ).Ok (awh ρ) := ⟨by kernel_rfl, fun p v kn kx => by kernel_rfl⟩
theorem aJI (x : Val (.pair acf abz)) (k : (Val (.pair tI (.pair tI .bool))) → Option ρ) :
    adI (awh ρ) 146 (ady [acf, tI, l5] x) (fun h v => ab6 (adE [tI, tI, .bool] h v) k) = aGL x.1 x.2.1 x.2.2 k := by kernel_rfl
theorem aut (x : Val (.pair acf (.pair tI abz))) (k : Val ab5 → Option ρ) :
    adI (aoi ρ) 76 (ady [acf, tI, tI, l5] x) (fun h v => ab6 (adE [tI, tI] h v) k) = alD x.1 x.2.1 x.2.2.1 x.2.2.2 k := by kernel_rfl
theorem awc (x : Val afg) (k : Int → Option ρ) :
    adI (ao9 ρ) 33 (ady [afg] x) (fun h v => ab6 (adE [tI] h v) k) = am8 x k := by kernel_rfl
theorem aus (x : Val abT) (k : Int → Option ρ) :
    adI (aoh ρ) 86 (ady [acf, l5] x) (fun h v => ab6 (adE [tI] h v) k) = alC x.1 x.2 k := by kernel_rfl
theorem aud (x : Val afg) (k : Int → Option ρ) :
    adI (an9 ρ) 39 (ady [afg] x) (fun h v => ab6 (adE [tI] h v) k) = alx x k := by kernel_rfl
theorem agZ : (aeN ρ).Ok (adY ρ) := ⟨by kernel_rfl, fun p v kn kx => by kernel_rfl⟩
theorem ahB (x : Val (.pair f6 ach)) (k : Int → Option ρ) :
    adI (adY ρ) 254 (ady [f6, ach] x) (fun h v => ab6 (adE [tI] h v) k) = aem x.1 x.2 k := by kernel_rfl
theorem agK (x : Val (.pair f6 ach)) (k : Bool → Option ρ) :
    adI (aeP ρ) 210 (ady [f6, ach] x) (fun h v => ab6 (adE [.bool] h v) k) = adS x.1 x.2 k := by kernel_rfl
theorem aia : (afG ρ).Ok (aeC ρ) := ⟨by kernel_rfl, fun p v kn kx => by kernel_rfl⟩
theorem ai9 (x : Val abY) (k : Int → Option ρ) :
    adI (aeC ρ) 256 (ady [eI, ab5] x) (fun h v => ab6 (adE [tI] h v) k) = ae7 x.1 x.2 k := by kernel_rfl
theorem ahX (x : Val abY) (k : Bool → Option ρ) :
    adI (afH ρ) 213 (ady [eI, ab5] x) (fun h v => ab6 (adE [.bool] h v) k) = aer x.1 x.2 k := by kernel_rfl
theorem ahA : (afk ρ).Ok (ael ρ) := ⟨by kernel_rfl, fun p v kn kx => by kernel_rfl⟩
theorem aic (x : Val (.pair m5 adL)) (k : Int → Option ρ) :
    adI (ael ρ) 258 (ady [m5, adL] x) (fun h v => ab6 (adE [tI] h v) k) = aeE x.1 x.2 k := by kernel_rfl
theorem ahp (x : Val (.pair m5 adL)) (k : Bool → Option ρ) :
    adI (afm ρ) 216 (ady [m5, adL] x) (fun h v => ab6 (adE [.bool] h v) k) = aea x.1 x.2 k := by kernel_rfl
theorem aDg : (atQ ρ).Ok (aeU ρ) := ⟨by kernel_rfl, fun p v kn kx => by kernel_rfl⟩
theorem aDd : (atM ρ).Ok (aeU ρ) := ⟨by kernel_rfl, fun p v kn kx => by kernel_rfl⟩
theorem aDc : (atL ρ).Ok (aeU ρ) := ⟨by kernel_rfl, fun p v kn kx => by kernel_rfl⟩
theorem aDe : (atN ρ).Ok (aeU ρ) := ⟨by kernel_rfl, fun p v kn kx => by kernel_rfl⟩
theorem aDf : (atO ρ).Ok (aeU ρ) := ⟨by kernel_rfl, fun p v kn kx => by kernel_rfl⟩
theorem aDb : (atK ρ).Ok (aeU ρ) := ⟨by kernel_rfl, fun p v kn kx => by kernel_rfl⟩
theorem aDa : (atJ ρ).Ok (aeU ρ) := ⟨by kernel_rfl, fun p v kn kx => by kernel_rfl⟩
theorem aC9 : (atI ρ).Ok (aeU ρ) := ⟨by kernel_rfl, fun p v kn kx => by kernel_rfl⟩
theorem aC8 : (atH ρ).Ok (aeU ρ) := ⟨by kernel_rfl, fun p v kn kx => by kernel_rfl⟩
theorem aC7 : (atG ρ).Ok (aeU ρ) := ⟨by kernel_rfl, fun p v kn kx => by kernel_rfl⟩
theorem aJu (x : Val (.pair ab7 ab7)) (k : Bool → Option ρ) :
    adI (aeU ρ) 77 (ady [ab7, ab7] x) (fun h v => ab6 (adE [.bool] h v) k) = aGs x.1 x.2 k := by kernel_rfl
theorem aDp (x : Val (.pair ab7 afg)) (k : (Val abJ) → Option ρ) :
    adI (axG ρ) 35 (ady [ab7, afg] x) (fun h v => ab6 (adE [.bool, tI] h v) k) = av6 x.1 x.2 k := by kernel_rfl
theorem aMa : (aEV ρ).Ok (awo ρ) := ⟨by kernel_rfl, fun p v kn kx => by kernel_rfl⟩
theorem aL8 : (aET ρ).Ok (awo ρ) := ⟨by kernel_rfl, fun p v kn kx => by kernel_rfl⟩
theorem aL7 : (aES ρ).Ok (awo ρ) := ⟨by kernel_rfl, fun p v kn kx => by kernel_rfl⟩
theorem aL9 : (aEU ρ).Ok (awo ρ) := ⟨by kernel_rfl, fun p v kn kx => by kernel_rfl⟩
theorem aQK (x : Val abW) (k : (Val abt) → Option ρ) :
    adI (awo ρ) 156 (ady [acf, tI, tI] x) (fun h v => ab6 (adE [abt] h v) k) = aAR x.1 x.2.1 x.2.2 k := by kernel_rfl
theorem aA4 : (arm ρ).Ok (ag3 ρ) := ⟨by kernel_rfl, fun p v kn kx => by kernel_rfl⟩
theorem aA0 : (ari ρ).Ok (ag3 ρ) := ⟨by kernel_rfl, fun p v kn kx => by kernel_rfl⟩
theorem aA1 : (arj ρ).Ok (ag3 ρ) := ⟨by kernel_rfl, fun p v kn kx => by kernel_rfl⟩
theorem aA2 : (ark ρ).Ok (ag3 ρ) := ⟨by kernel_rfl, fun p v kn kx => by kernel_rfl⟩
theorem aA3 : (arl ρ).Ok (ag3 ρ) := ⟨by kernel_rfl, fun p v kn kx => by kernel_rfl⟩
theorem aGT (x : Val acf) (k : (Val abC) → Option ρ) :
    adI (ag3 ρ) 78 (ady [acf] x) (fun h v => ab6 (adE [l5, tI] h v) k) = aA5 x k := by kernel_rfl
theorem avX : (an2 ρ).Ok (amX ρ) := ⟨by kernel_rfl, fun p v kn kx => by kernel_rfl⟩
theorem aAt (x : Val (.pair ab7 l5)) (k : (Val eI) → Option ρ) :
    adI (amX ρ) 80 (ady [ab7, l5] x) (fun h v => ab6 (adE [eI] h v) k) = asd x.1 x.2 k := by kernel_rfl
theorem aGJ (x : Val ab7) (k : (Val (.pair afg tI)) → Option ρ) :
    adI (aAL ρ) 36 (ady [ab7] x) (fun h v => ab6 (adE [afg, tI] h v) k) = aAM x k := by kernel_rfl
theorem av9 (x : Val tI) (k : Int → Option ρ) :
    adI (ao6 ρ) 96 (ady [tI] x) (fun h v => ab6 (adE [tI] h v) k) = am5 x k := by kernel_rfl
theorem av2 (x : Val (.pair acT tI)) (k : (Val l5) → Option ρ) :
    adI (ao3 ρ) 97 (ady [acT, tI] x) (fun h v => ab6 (adE [l5] h v) k) = am1 x.1 x.2 k := by kernel_rfl
theorem atZ : (((alj (ac5 ρ).P 50).elim [] (acF 0)).filter fun y => Nat.beq y.1 0).length = 1 := by kernel_rfl
theorem at0 (p : Val abv) (v : Val abB) (kn : Val abv → Val abB → Option ρ) (kx : (i : Nat) → Val abv → Val (tyL (aeW.zs i)) → Option ρ) :
    goC (ac5 ρ) (agQ (ac5 ρ) (10 - 2 / 2)) 50 [1, 3] 5 0 (ayb (alj (ac5 ρ).P 50) 0) (age aeW.head aeW.cs aeW.vs p v) (aIy aeW kn kx) = (ajb ρ).bF p v (kn p) (fun i => kx i p) := by kernel_rfl
theorem av8 : (ajb ρ).Ok (ac5 ρ) := ⟨atZ, at0⟩
theorem atX : (((alj (ac5 ρ).P 178).elim [] (acF 0)).filter fun y => Nat.beq y.1 0).length = 1 := by kernel_rfl
theorem atY (p : Val abr) (v : Val tI) (kn : Val abr → Val tI → Option ρ) (kx : (i : Nat) → Val abr → Val (tyL (aeV.zs i)) → Option ρ) :
    goC (ac5 ρ) (agQ (ac5 ρ) (10 - 4 / 2)) 178 [18, 4, 1, 2] 12 0 (ayb (alj (ac5 ρ).P 178) 0) (age aeV.head aeV.cs aeV.vs p v) (aIy aeV kn kx) = (aja ρ).bF p v (kn p) (fun i => kx i p) := by kernel_rfl
theorem av7 : (aja ρ).Ok (ac5 ρ) := ⟨atX, atY⟩
theorem aAH (x : Val (.pair ab7 (.pair ab5 abV))) (k : (Val abJ) → Option ρ) :
    adI (am4 ρ) 42 (ady [ab7, ab5, ab5, acg] x) (fun h v => ab6 (adE [.bool, tI] h v) k) = asl x.1 x.2.1 x.2.2.1 x.2.2.2 k := by kernel_rfl
theorem ayx (x : Unit) (k : Val ab7 → Option ρ) :
    adI (aq2 ρ) 48 (ady [] x) (fun h v => ab6 (adE [ab7] h v) k) = aoQ k := by kernel_rfl
theorem aBa : (arq ρ).Ok (akf ρ) := ⟨by kernel_rfl, fun p v kn kx => by kernel_rfl⟩
theorem aA8 : (aro ρ).Ok (akf ρ) := ⟨by kernel_rfl, fun p v kn kx => by kernel_rfl⟩
theorem aA9 : (arp ρ).Ok (akf ρ) := ⟨by kernel_rfl, fun p v kn kx => by kernel_rfl⟩
theorem aGV (x : Val abW) (k : (Val abC) → Option ρ) :
    adI (akf ρ) 120 (ady [acf, tI, tI] x) (fun h v => ab6 (adE [l5, tI] h v) k) = aBb x.1 x.2.1 x.2.2 k := by kernel_rfl
theorem awf (x : Val (.pair abx (.pair abS (.ptr .bool)))) (k : (Val l5) → Option ρ) :
    adI (apb ρ) 119 (ady [abx, abS, (.ptr .bool)] x) (fun h v => ab6 (adE [l5] h v) k) = am9 x.1 x.2.1 x.2.2 k := by kernel_rfl
theorem awe : (aob ρ).Ok (ahH ρ) := ⟨by kernel_rfl, fun p v kn kx => by kernel_rfl⟩
theorem awd : (aoa ρ).Ok (ahH ρ) := ⟨by kernel_rfl, fun p v kn kx => by kernel_rfl⟩
theorem aAN (x : Val (.pair ab7 (.pair ab5 .bool))) (k : (Val (.pair afg tI)) → Option ρ) :
    adI (ahH ρ) 49 (ady [ab7, ab5, .bool] x) (fun h v => ab6 (adE [afg, tI] h v) k) = asn x.1 x.2.1 x.2.2 k := by kernel_rfl
theorem aAp (x : Unit) (k : Bool → Option ρ) :
    adI (ats ρ) 14 (ady [] x) (fun h v => ab6 (adE [.bool] h v) k) = ar5 k := by kernel_rfl
theorem aAo : (aq0 ρ).Ok (ar4 ρ) := ⟨by kernel_rfl, fun p v kn kx => by kernel_rfl⟩
theorem aGc (x : Val (.pair ab7 eI)) (k : (Val (.pair ab7 .bool)) → Option ρ) :
    adI (ar4 ρ) 19 (ady [ab7, eI] x) (fun h v => ab6 (adE [ab7, .bool] h v) k) = atr x.1 x.2 k := by kernel_rfl
theorem ann : (ah3 ρ).Ok (ag4 ρ) := ⟨by kernel_rfl, fun p v kn kx => by kernel_rfl⟩
theorem apt (x : Val (.pair abE l5)) (k : Int → Option ρ) :
    adI (ag4 ρ) 67 (ady [abE, l5] x) (fun h v => ab6 (adE [tI] h v) k) = ail x.1 x.2 k := by kernel_rfl
theorem aDA : (auo ρ).Ok (aqh ρ) := ⟨by kernel_rfl, fun p v kn kx => by kernel_rfl⟩
theorem aDz : (aun ρ).Ok (aqh ρ) := ⟨by kernel_rfl, fun p v kn kx => by kernel_rfl⟩
theorem aJM (x : Val abT) (k : (Val abJ) → Option ρ) :
    adI (aqh ρ) 138 (ady [acf, l5] x) (fun h v => ab6 (adE [.bool, tI] h v) k) = aGS x.1 x.2 k := by kernel_rfl
theorem auI (x : Val (.pair abE l5)) (k : Bool → Option ρ) :
    adI (aom ρ) 68 (ady [abE, l5] x) (fun h v => ab6 (adE [.bool] h v) k) = alG x.1 x.2 k := by kernel_rfl
theorem aKh (x : Val (.pair ab7 l5)) (k : (Val abJ) → Option ρ) :
    adI (aE0 ρ) 23 (ady [ab7, l5] x) (fun h v => ab6 (adE [.bool, tI] h v) k) = aHB x.1 x.2 k := by kernel_rfl
theorem ayU (x : Val acf) (k : (Val abC) → Option ρ) :
    adI (arh ρ) 21 (ady [acf] x) (fun h v => ab6 (adE [l5, tI] h v) k) = apl x k := by kernel_rfl
theorem asc : (akN ρ).Ok (ahF ρ) := ⟨by kernel_rfl, fun p v kn kx => by kernel_rfl⟩
theorem asb : (akM ρ).Ok (ahF ρ) := ⟨by kernel_rfl, fun p v kn kx => by kernel_rfl⟩
theorem avW (x : Val (.pair acf tI)) (k : (Val wi) → Option ρ) :
    adI (ahF ρ) 70 (ady [acf, tI] x) (fun h v => ab6 (adE [wi] h v) k) = amW x.1 x.2 k := by kernel_rfl
theorem av5 : (an7 ρ).Ok (am3 ρ) := ⟨by kernel_rfl, fun p v kn kx => by kernel_rfl⟩
theorem aAG (x : Val (.pair ab7 (.pair ab5 (.pair ab5 .bool)))) (k : (Val abC) → Option ρ) :
    adI (am3 ρ) 26 (ady [ab7, ab5, ab5, .bool] x) (fun h v => ab6 (adE [l5, tI] h v) k) = asj x.1 x.2.1 x.2.2.1 x.2.2.2 k := by kernel_rfl
theorem aC0 (x : Val abN) (k : Int → Option ρ) :
    adI (axw ρ) 27 (ady [ab7, ab5] x) (fun h v => ab6 (adE [tI] h v) k) = avR x.1 x.2 k := by kernel_rfl
theorem aAq (x : Val acT) (k : Bool → Option ρ) :
    adI (atu ρ) 28 (ady [tI, ab5] x) (fun h v => ab6 (adE [.bool] h v) k) = ar6 x.1 x.2 k := by kernel_rfl
theorem amR (x : Val abX) (k : Bool → Option ρ) :
    adI (aiK ρ) 5 (ady [ab7, ab5, ab5] x) (fun h v => ab6 (adE [.bool] h v) k) = agX x.1 x.2.1 x.2.2 k := by kernel_rfl
end Go.Proofs.ZzM
end

noncomputable section
variable {ρ : Type}
set_option maxRecDepth 100000
namespace Go.Proofs.ZzM
open Go Go.Am
theorem awv : (aok ρ).Ok (anj ρ) := ⟨by kernel_rfl, fun p v kn kx => by kernel_rfl⟩
theorem aBx (x : Val ab7) (k : (Val abu) → Option ρ) :
    adI (anj ρ) 53 (ady [ab7] x) (fun h v => ab6 (adE [abu] h v) k) = asv x k := by kernel_rfl
theorem aD0 (x : Val ac0) (k : Bool → Option ρ) :
    adI (ax1 ρ) 82 (ady [ab5, tI, tI] x) (fun h v => ab6 (adE [.bool] h v) k) = awB x.1 x.2.1 x.2.2 k := by kernel_rfl
theorem aDM (x : Val acT) (k : Bool → Option ρ) :
    adI (axW ρ) 126 (ady [tI, tI, tI] x) (fun h v => ab6 (adE [.bool] h v) k) = awu x.1 x.2.1 x.2.2 k := by kernel_rfl
theorem aHl (x : Val tI) (k : Bool → Option ρ) :
    adI (aBF ρ) 125 (ady [tI] x) (fun h v => ab6 (adE [.bool] h v) k) = aBG x k := by kernel_rfl
theorem aJS (x : Val tI) (k : Int → Option ρ) :
    adI (aEW ρ) 259 (ady [tI] x) (fun h v => ab6 (adE [(.int .u64)] h v) k) = aGY x k := by kernel_rfl
theorem aGZ : (axS ρ).Ok (aBi ρ) := ⟨by kernel_rfl, fun p v kn kx => by kernel_rfl⟩
theorem aMd (x : Val abZ) (k : Int → Option ρ) :
    adI (aBi ρ) 260 (ady [(.int .u64), (.int .u64)] x) (fun h v => ab6 (adE [(.int .u64)] h v) k) = aMe x.1 x.2 k := by kernel_rfl
theorem aG1 (x : Val ab5) (k : Bool → Option ρ) :
    adI (aBm ρ) 219 (ady [ab5] x) (fun h v => ab6 (adE [.bool] h v) k) = aBn x k := by kernel_rfl
theorem aBE (x : Val ach) (k : Bool → Option ρ) :
    adI (auQ ρ) 162 (ady [ach] x) (fun h v => ab6 (adE [.bool] h v) k) = asy x k := by kernel_rfl
theorem apy : (ajl ρ).Ok (aim ρ) := ⟨by kernel_rfl, fun p v kn kx => by kernel_rfl⟩
theorem asB (x : Val ab7) (k : Int → Option ρ) :
    adI (aim ρ) 83 (ady [ab7] x) (fun h v => ab6 (adE [tI] h v) k) = akh x k := by kernel_rfl
theorem amS : (ah0 ρ).Ok (agY ρ) := ⟨by kernel_rfl, fun p v kn kx => by kernel_rfl⟩
theorem aoR (x : Val abC) (k : Int → Option ρ) :
    adI (agY ρ) 73 (ady [l5, tI] x) (fun h v => ab6 (adE [tI] h v) k) = ah9 x.1 x.2 k := by kernel_rfl
theorem al0 (x : Val abC) (k : Bool → Option ρ) :
    adI (ah1 ρ) 65 (ady [l5, tI] x) (fun h v => ab6 (adE [.bool] h v) k) = agE x.1 x.2 k := by kernel_rfl
theorem aD3 : (auU ρ).Ok (aql ρ) := ⟨by kernel_rfl, fun p v kn kx => by kernel_rfl⟩
theorem aD2 : (auT ρ).Ok (aql ρ) := ⟨by kernel_rfl, fun p v kn kx => by kernel_rfl⟩
theorem aKb (x : Val (.pair ab7 ach)) (k : (Val l5) → Option ρ) :
    adI (aql ρ) 168 (ady [ab7, ach] x) (fun h v => ab6 (adE [l5] h v) k) = aHr x.1 x.2 k := by kernel_rfl
theorem aBz : (aru ρ).Ok (anm ρ) := ⟨by kernel_rfl, fun p v kn kx => by kernel_rfl⟩
theorem aBA : (arv ρ).Ok (anm ρ) := ⟨by kernel_rfl, fun p v kn kx => by kernel_rfl⟩
theorem aG9 (x : Val ab7) (k : (Val eI) → Option ρ) :
    adI (anm ρ) 85 (ady [ab7] x) (fun h v => ab6 (adE [eI] h v) k) = aBB x k := by kernel_rfl
theorem auF (x : Val (.pair abu ab5)) (k : Int → Option ρ) :
    adI (aol ρ) 164 (ady [abu, tI, tI] x) (fun h v => ab6 (adE [tI] h v) k) = alF x.1 x.2.1 x.2.2 k := by kernel_rfl
theorem aBy (x : Val (.pair tI (.pair tI (.ptr abu)))) (k : Int → Option ρ) :
    adI (auG ρ) 163 (ady [tI, tI, (.ptr abu)] x) (fun h v => ab6 (adE [tI] h v) k) = asx x.1 x.2.1 x.2.2 k := by kernel_rfl
theorem asA : (ald ρ).Ok (ahI ρ) := ⟨by kernel_rfl, fun p v kn kx => by kernel_rfl⟩
theorem asz : (alc ρ).Ok (ahI ρ) := ⟨by kernel_rfl, fun p v kn kx => by kernel_rfl⟩
theorem awD (x : Val ab1) (k : Int → Option ρ) :
    adI (ahI ρ) 166 (ady [ab7, abu, tI] x) (fun h v => ab6 (adE [tI] h v) k) = anx x.1 x.2.1 x.2.2 k := by kernel_rfl
theorem aDX : (auP ρ).Ok (aqk ρ) := ⟨by kernel_rfl, fun p v kn kx => by kernel_rfl⟩
theorem aDW : (auO ρ).Ok (aqk ρ) := ⟨by kernel_rfl, fun p v kn kx => by kernel_rfl⟩
theorem aJ8 (x : Val (.pair l5 l5)) (k : (Val l5) → Option ρ) :
    adI (aqk ρ) 88 (ady [l5, l5] x) (fun h v => ab6 (adE [l5] h v) k) = aHj x.1 x.2 k := by kernel_rfl
theorem al2 : (ahE ρ).Ok (afq ρ) := ⟨by kernel_rfl, fun p v kn kx => by kernel_rfl⟩
theorem al1 : (ahD ρ).Ok (afq ρ) := ⟨by kernel_rfl, fun p v kn kx => by kernel_rfl⟩
theorem aot (x : Val abt) (k : (Val l5) → Option ρ) :
    adI (afq ρ) 94 (ady [abt] x) (fun h v => ab6 (adE [l5] h v) k) = agb x k := by kernel_rfl
theorem ayZ : (apv ρ).Ok (apw ρ) := ⟨by kernel_rfl, fun p v kn kx => by kernel_rfl⟩
theorem aDY (x : Val l5) (k : Bool → Option ρ) :
    adI (apw ρ) 198 (ady [l5] x) (fun h v => ab6 (adE [.bool] h v) k) = awA x k := by kernel_rfl
theorem aD4 : (auY ρ).Ok (awE ρ) := ⟨by kernel_rfl, fun p v kn kx => by kernel_rfl⟩
theorem aKc (x : Val abN) (k : (Val (.pair adL .bool)) → Option ρ) :
    adI (awE ρ) 223 (ady [ab7, tI, tI] x) (fun h v => ab6 (adE [adL, .bool] h v) k) = aHt x.1 x.2.1 x.2.2 k := by kernel_rfl
theorem aoy : (aiW ρ).Ok (aeh ρ) := ⟨by kernel_rfl, fun p v kn kx => by kernel_rfl⟩
theorem aow : (aiU ρ).Ok (aeh ρ) := ⟨by kernel_rfl, fun p v kn kx => by kernel_rfl⟩
theorem aox : (aiV ρ).Ok (aeh ρ) := ⟨by kernel_rfl, fun p v kn kx => by kernel_rfl⟩
theorem aov : (aiT ρ).Ok (aeh ρ) := ⟨by kernel_rfl, fun p v kn kx => by kernel_rfl⟩
theorem aqO (x : Val ab1) (k : Int → Option ρ) :
    adI (aeh ρ) 167 (ady [ab7, abu, tI] x) (fun h v => ab6 (adE [tI] h v) k) = ajd x.1 x.2.1 x.2.2 k := by kernel_rfl
theorem aGB : (axE ρ).Ok (aeF ρ) := ⟨by kernel_rfl, fun p v kn kx => by kernel_rfl⟩
theorem aGC : (axF ρ).Ok (aeF ρ) := ⟨by kernel_rfl, fun p v kn kx => by kernel_rfl⟩
theorem aGA : (axD ρ).Ok (aeF ρ) := ⟨by kernel_rfl, fun p v kn kx => by kernel_rfl⟩
theorem aGz : (akW ρ).Ok (aeF ρ) := ⟨by kernel_rfl, fun p v kn kx => by kernel_rfl⟩
theorem aGy : (akV ρ).Ok (aeF ρ) := ⟨by kernel_rfl, fun p v kn kx => by kernel_rfl⟩
theorem aGx : (akU ρ).Ok (aeF ρ) := ⟨by kernel_rfl, fun p v kn kx => by kernel_rfl⟩
theorem aL2 (x : Val (.pair ab7 (.pair eI eI))) (kA : Val abD → Val abo → Option ρ) : goC (aeF ρ) (agQ (aeF ρ) 10) 79 [] 0 0 (preC 7 adp) { t := ady [ab7, eI, eI] x ++ List.replicate 127 .any, h := [] } (matK al6 0 af4 aij kA) = atV x.1 x.2.1 x.2.2 kA := by kernel_rfl
theorem aOX (p : Val abD) (v : Val abo) (x : Val ach) (kk : Val abD → Val (.pair tI (.pair tI (.pair f6 (.pair eI (.pair m5 (.pair eW (.pair eI (.pair tI (.pair tI (.pair f6 (.pair eI (.pair m5 (.pair eW (.pair eI (.pair tI (.pair tI (.pair f6 (.pair eI (.pair m5 (.pair eW (.pair eI (.pair abq (.pair abq (.pair f6 abw)))))))))))))))))))))))) → Option ρ) : goC (adm ρ) (agQ (adm ρ) 10) 79 [] 9 4 (rfA (rfC 7 adp)) { t := upd (age al6 af4 aij p v).t 60 (.agg (flat ach x)), h := (age al6 af4 aij p v).h } (matK aAD 9 af4 aqd kk) = kk p (ash v x) := by kernel_rfl
theorem aOW (p : Val abD) (v : Val abo) (x : Val ach) (kk : Val abD → Val abo → Option ρ) : goC (adm ρ) (agQ (adm ρ) 10) 79 [] 9 4 (rfB (rfC 7 adp)) (age aAD af4 aqd p (ash v x)) (matK al6 9 af4 aij kk) = acH (acJ ((List.length (am2 v)) + (List.length [x]))) (kk p (ado v (am2 v ++ [x]))) := by kernel_rfl
theorem aJx (p : Val abD) (v : Val abo) (k : Val abp → Option ρ) : goC (adm ρ) (agQ (adm ρ) 10) 79 [] 0 0 (postC 7 adp) (age al6 af4 aij p v) (matR akd 0 agt k) = aiR p v (fun y => k (ahe y)) := by kernel_rfl
theorem aL1 (y : Val ab7) : ajY Tryz.prog Tryz.f79 (age akd [] agt () (ahe y)) = some (enc ab7 y) := by kernel_rfl
theorem aOV : rfC 7 adp = Code.block 4 (Code.rangeFunc (.tmp 59) #[60] (rfA (rfC 7 adp)) (rfB (rfC 7 adp))) := by kernel_rfl
theorem atU : aFK 7 adp = true := by kernel_rfl
theorem akT : Tryz.f79.body = some adp := by kernel_rfl
theorem aDm : (akW ρ).Ok (adm ρ) := ⟨by kernel_rfl, fun p v kn kx => by kernel_rfl⟩
theorem aDl : (akV ρ).Ok (adm ρ) := ⟨by kernel_rfl, fun p v kn kx => by kernel_rfl⟩
theorem aDk : (akU ρ).Ok (adm ρ) := ⟨by kernel_rfl, fun p v kn kx => by kernel_rfl⟩
end Go.Proofs.ZzM
end
