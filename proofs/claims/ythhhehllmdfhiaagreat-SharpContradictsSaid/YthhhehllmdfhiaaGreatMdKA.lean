/- lemmas -/
import Derived.Test.YthhhehllmdfhiaaGreatMdMA
set_option linter.all false
set_option linter.unusedSectionVars false
set_option linter.unusedVariables false
set_option linter.unusedSimpArgs false
noncomputable section
variable {ρ : Type}
set_option maxRecDepth 100000
namespace Go.Proofs.ZzM
open Go Go.Am
theorem aCW (x : Val ace) (k : Bool → Option ρ) :
    adR (axw ρ) 29 (adA [ace] x) (fun h v => ab4 (adH [.bool] h v) k) = avX x k := by kernel_rfl
theorem aCV : (atv ρ).Ok (avW ρ) := ⟨by kernel_rfl, fun p v kn kx => by kernel_rfl⟩
theorem aJd (x : Val ab6) (k : Bool → Option ρ) :
    adR (avW ρ) 13 (adA [ab6] x) (fun h v => ab4 (adH [.bool] h v) k) = aF0 x k := by kernel_rfl
theorem aDP : (auO ρ).Ok (aqp ρ) := ⟨by kernel_rfl, fun p v kn kx => by kernel_rfl⟩
theorem aDO : (auN ρ).Ok (aqp ρ) := ⟨by kernel_rfl, fun p v kn kx => by kernel_rfl⟩
theorem aJT (x : Val (.pair ab6 (.pair ach ab5))) (k : Int → Option ρ) :
    adR (aqp ρ) 54 (adA [ab6, ach, tI, tI] x) (fun h v => ab4 (adH [tI] h v) k) = aG2 x.1 x.2.1 x.2.2.1 x.2.2.2 k := by kernel_rfl
theorem ahA : (afg ρ).Ok (aej ρ) := ⟨by kernel_rfl, fun p v kn kx => by kernel_rfl⟩
theorem aid (x : Val abX) (k : Int → Option ρ) :
    adR (aej ρ) 130 (adA [eI, ab5] x) (fun h v => ab4 (adH [tI] h v) k) = aeD x.1 x.2 k := by kernel_rfl
theorem ayR (x : Val (.pair abC abE)) (k : Int → Option ρ) :
    adR (arC ρ) 87 (adA [abC, f6, tI] x) (fun h v => ab4 (adH [tI] h v) k) = apA x.1 x.2.1 x.2.2 k := by kernel_rfl
theorem aqS (x : Val (.pair abu f6)) (k : Val ab5 → Option ρ) :
    adR (alb ρ) 224 (adA [abu, f6] x) (fun h v => ab4 (adH [ab5] h v) k) = ajj x.1 x.2 k := by kernel_rfl
theorem aAX : (ary ρ).Ok (asw ρ) := ⟨by kernel_rfl, fun p v kn kx => by kernel_rfl⟩
theorem aGJ (x : Val eI) (k : Int → Option ρ) :
    adR (asw ρ) 227 (adA [eI] x) (fun h v => ab4 (adH [tI] h v) k) = aAY x k := by kernel_rfl
theorem aAZ (x : Val ab5) (k : Val ahs → Option ρ) :
    adR (auz ρ) 277 (adA [tI, tI] x) (fun h v => ab4 (adH [ab5, tI] h v) k) = asx x.1 x.2 k := by kernel_rfl
theorem aL2 (x : Val acY) (k : Val ahs → Option ρ) :
    adR (aJJ ρ) 262 (adA [ab5, ab5] x) (fun h v => ab4 (adH [ab5, tI] h v) k) = aL3 x.1 x.2 k := by kernel_rfl
theorem awB (x : Val acY) (k : Val ab5 → Option ρ) :
    adR (apx ρ) 225 (adA [ab5, ab5] x) (fun h v => ab4 (adH [ab5] h v) k) = anr x.1 x.2 k := by kernel_rfl
theorem aL0 (x : Val acY) (k : Int → Option ρ) :
    adR (aJH ρ) 287 (adA [ab5, ab5] x) (fun h v => ab4 (adH [tI] h v) k) = aL1 x.1 x.2 k := by kernel_rfl
theorem auC (x : Val acY) (k : Bool → Option ρ) :
    adR (aop ρ) 278 (adA [acY] x) (fun h v => ab4 (adH [.bool] h v) k) = alJ x k := by kernel_rfl
theorem aL4 (x : Val acY) (k : Val ahs → Option ρ) :
    adR (aJL ρ) 281 (adA [ab5, ab5] x) (fun h v => ab4 (adH [ab5, tI] h v) k) = aL5 x.1 x.2 k := by kernel_rfl
theorem aGO (x : Val (.pair acY ab5)) (k : Val aPJ → Option ρ) :
    adR (asy ρ) 263 (adA [acY, ab5] x) (fun h v => ab4 (adH [acY, tI] h v) k) = aA8 x.1 x.2 k := by kernel_rfl
theorem awA (x : Val acY) (k : Val acY → Option ρ) :
    adR (apw ρ) 226 (adA [ab5, ab5] x) (fun h v => ab4 (adH [acY] h v) k) = anq x.1 x.2 k := by kernel_rfl
theorem aDV (x : Val abI) (k : Val acY → Option ρ) :
    adR (axW ρ) 171 (adA [ab6, ace] x) (fun h v => ab4 (adH [acY] h v) k) = awF x.1 x.2 k := by kernel_rfl
theorem aHa (x : Val abI) (k : Val ab5 → Option ρ) :
    adR (aBq ρ) 172 (adA [ab6, ace] x) (fun h v => ab4 (adH [ab5] h v) k) = aBr x.1 x.2 k := by kernel_rfl
theorem aGM (x : Val ab5) (k : Int → Option ρ) :
    adR (aA2 ρ) 228 (adA [tI, tI] x) (fun h v => ab4 (adH [tI] h v) k) = aA3 x.1 x.2 k := by kernel_rfl
theorem aJN (x : Val ab5) (k : Val ab5 → Option ρ) :
    adR (aEL ρ) 173 (adA [ab5] x) (fun h v => ab4 (adH [tI, tI] h v) k) = aGQ x k := by kernel_rfl
theorem aGP (x : Val ab5) (k : Val ab5 → Option ρ) :
    adR (aBa ρ) 174 (adA [ab5] x) (fun h v => ab4 (adH [tI, tI] h v) k) = aBb x k := by kernel_rfl
theorem aJQ (x : Val abI) (k : Val ab5 → Option ρ) :
    adR (aEM ρ) 200 (adA [ab6, ace] x) (fun h v => ab4 (adH [ab5] h v) k) = aGU x.1 x.2 k := by kernel_rfl
theorem aDM : (auL ρ).Ok (amu ρ) := ⟨by kernel_rfl, fun p v kn kx => by kernel_rfl⟩
theorem aDN : (auM ρ).Ok (amu ρ) := ⟨by kernel_rfl, fun p v kn kx => by kernel_rfl⟩
theorem aDL : (auK ρ).Ok (amu ρ) := ⟨by kernel_rfl, fun p v kn kx => by kernel_rfl⟩
theorem aJS (x : Val ab6) (k : (Val abC) → Option ρ) :
    adR (amu ρ) 62 (adA [ab6] x) (fun h v => ab4 (adH [abC] h v) k) = aGZ x k := by kernel_rfl
theorem aD0 (x : Val ab6) (k : (Val (.pair acf abS)) → Option ρ) :
    adR (ax0 ρ) 20 (adA [ab6] x) (fun h v => ab4 (adH [acf, eI, tI] h v) k) = awJ x k := by kernel_rfl
theorem aHm (x : Val abQ) (k : Val ab5 → Option ρ) :
    adR (aBt ρ) 60 (adA [ab6, ab5] x) (fun h v => ab4 (adH [tI, tI] h v) k) = aBu x.1 x.2 k := by kernel_rfl
theorem aAe (x : Val abO) (k : Int → Option ρ) :
    adR (atC ρ) 55 (adA [abx, ab5] x) (fun h v => ab4 (adH [tI] h v) k) = asi x.1 x.2 k := by kernel_rfl
theorem aJu (x : Val (.pair acf tI)) (k : Bool → Option ρ) :
    adR (aEF ρ) 134 (adA [acf, tI] x) (fun h v => ab4 (adH [.bool] h v) k) = aGx x.1 x.2 k := by kernel_rfl
theorem aAP : (aru ρ).Ok (asv ρ) := ⟨by kernel_rfl, fun p v kn kx => by kernel_rfl⟩
theorem aGG (x : Val acf) (k : Val ab5 → Option ρ) :
    adR (asv ρ) 133 (adA [acf] x) (fun h v => ab4 (adH [tI, tI] h v) k) = aAQ x k := by kernel_rfl
theorem aui : (amr ρ).Ok (ae7 ρ) := ⟨by kernel_rfl, fun p v kn kx => by kernel_rfl⟩
theorem auh : (amq ρ).Ok (ae7 ρ) := ⟨by kernel_rfl, fun p v kn kx => by kernel_rfl⟩
theorem auf : (amn ρ).Ok (ae7 ρ) := ⟨by kernel_rfl, fun p v kn kx => by kernel_rfl⟩
theorem aug : (amo ρ).Ok (ae7 ρ) := ⟨by kernel_rfl, fun p v kn kx => by kernel_rfl⟩
theorem aue : (amm ρ).Ok (ae7 ρ) := ⟨by kernel_rfl, fun p v kn kx => by kernel_rfl⟩
theorem ayH (x : Val (.pair acf abq)) (k : (Val (.pair f6 .bool)) → Option ρ) :
    adR (ae7 ρ) 135 (adA [acf, abq] x) (fun h v => ab4 (adH [f6, .bool] h v) k) = apk x.1 x.2 k := by kernel_rfl
theorem aAF : (arl ρ).Ok (asu ρ) := ⟨by kernel_rfl, fun p v kn kx => by kernel_rfl⟩
theorem aGA (x : Val abU) (k : Int → Option ρ) :
    adR (asu ρ) 63 (adA [acf, f6] x) (fun h v => ab4 (adH [tI] h v) k) = aAG x.1 x.2 k := by kernel_rfl
theorem ayN : (apr ρ).Ok (age ρ) := ⟨by kernel_rfl, fun p v kn kx => by kernel_rfl⟩
theorem ayM : (apq ρ).Ok (age ρ) := ⟨by kernel_rfl, fun p v kn kx => by kernel_rfl⟩
theorem ayL : (apo ρ).Ok (age ρ) := ⟨by kernel_rfl, fun p v kn kx => by kernel_rfl⟩
theorem ayJ : (apm ρ).Ok (age ρ) := ⟨by kernel_rfl, fun p v kn kx => by kernel_rfl⟩
theorem ayK : (apn ρ).Ok (age ρ) := ⟨by kernel_rfl, fun p v kn kx => by kernel_rfl⟩
theorem aDp (x : Val (.pair acf (.pair abq tI))) (k : (Val f6) → Option ρ) :
    adR (age ρ) 64 (adA [acf, abq, tI] x) (fun h v => ab4 (adH [f6] h v) k) = aws x.1 x.2.1 x.2.2 k := by kernel_rfl
theorem aGI (x : Val abW) (k : Val ab5 → Option ρ) :
    adR (aAV ρ) 89 (adA [acf, tI, tI] x) (fun h v => ab4 (adH [tI, tI] h v) k) = aAW x.1 x.2.1 x.2.2 k := by kernel_rfl
theorem atB (x : Val abO) (k : Int → Option ρ) :
    adR (aoc ρ) 56 (adA [abx, tI, tI] x) (fun h v => ab4 (adH [tI] h v) k) = aly x.1 x.2.1 x.2.2 k := by kernel_rfl
theorem atA (x : Val abO) (k : Int → Option ρ) :
    adR (aob ρ) 121 (adA [abx, ab5] x) (fun h v => ab4 (adH [tI] h v) k) = alx x.1 x.2 k := by kernel_rfl
theorem ao3 (x : Val abO) (k : Int → Option ρ) :
    adR (akc ρ) 122 (adA [abx, ab5] x) (fun h v => ab4 (adH [tI] h v) k) = aii x.1 x.2 k := by kernel_rfl
theorem ao2 (x : Val abO) (k : Val ab5 → Option ρ) :
    adR (ag5 ρ) 51 (adA [abx, ab5] x) (fun h v => ab4 (adH [ab5] h v) k) = aih x.1 x.2 k := by kernel_rfl
theorem aD2 : (au2 ρ).Ok (awK ρ) := ⟨by kernel_rfl, fun p v kn kx => by kernel_rfl⟩
theorem aJ1 (x : Val abQ) (k : (Val abP) → Option ρ) :
    adR (awK ρ) 61 (adA [ab6, ab5] x) (fun h v => ab4 (adH [ab6, tI] h v) k) = aHl x.1 x.2 k := by kernel_rfl
theorem aup (x : Val acf) (k : (Val abG) → Option ρ) :
    adR (aom ρ) 123 (adA [acf] x) (fun h v => ab4 (adH [.bool, tI] h v) k) = alG x k := by kernel_rfl
theorem aua : (amj ρ).Ok (alB ρ) := ⟨by kernel_rfl, fun p v kn kx => by kernel_rfl⟩
theorem ayB (x : Val abQ) (k : Val ahs → Option ρ) :
    adR (alB ρ) 15 (adA [ab6, ab5] x) (fun h v => ab4 (adH [ab5, tI] h v) k) = apd x.1 x.2 k := by kernel_rfl
theorem awj : (aoj ρ).Ok (ang ρ) := ⟨by kernel_rfl, fun p v kn kx => by kernel_rfl⟩
theorem aAw (x : Val (.pair ab6 acY)) (k : Val ahs → Option ρ) :
    adR (ang ρ) 17 (adA [ab6, ab5, ab5] x) (fun h v => ab4 (adH [ab5, tI] h v) k) = ass x.1 x.2.1 x.2.2 k := by kernel_rfl
theorem aD3 (x : Val (.pair f6 f6)) (k : (Val (.pair f6 abE)) → Option ρ) :
    adR (ax4 ρ) 129 (adA [f6, f6] x) (fun h v => ab4 (adH [f6, f6, tI] h v) k) = awL x.1 x.2 k := by kernel_rfl
theorem aJe (x : Val abE) (k : Bool → Option ρ) :
    adR (aEE ρ) 57 (adA [f6, tI] x) (fun h v => ab4 (adH [.bool] h v) k) = aF2 x.1 x.2 k := by kernel_rfl
theorem aGg (x : Val tI) (k : Bool → Option ρ) :
    adR (aAk ρ) 58 (adA [tI] x) (fun h v => ab4 (adH [.bool] h v) k) = aAl x k := by kernel_rfl
theorem aAf : (aq9 ρ).Ok (asj ρ) := ⟨by kernel_rfl, fun p v kn kx => by kernel_rfl⟩
theorem aGe (x : Val (.pair tI abt)) (k : (Val eI) → Option ρ) :
    adR (asj ρ) 59 (adA [tI, abt] x) (fun h v => ab4 (adH [eI] h v) k) = aAg x.1 x.2 k := by kernel_rfl
theorem aDj : (at0 ρ).Ok (aql ρ) := ⟨by kernel_rfl, fun p v kn kx => by kernel_rfl⟩
theorem aDi : (atZ ρ).Ok (aql ρ) := ⟨by kernel_rfl, fun p v kn kx => by kernel_rfl⟩
theorem aJq (x : Val (.pair ab6 abz)) (k : Val ahs → Option ρ) :
    adR (aql ρ) 18 (adA [ab6, tI, f6] x) (fun h v => ab4 (adH [ab5, tI] h v) k) = aGs x.1 x.2.1 x.2.2 k := by kernel_rfl
theorem aAc (x : Val acY) (k : Int → Option ρ) :
    adR (atz ρ) 69 (adA [ab5, ab5] x) (fun h v => ab4 (adH [tI] h v) k) = asg x.1 x.2 k := by kernel_rfl
theorem aAr : (arj ρ).Ok (asp ρ) := ⟨by kernel_rfl, fun p v kn kx => by kernel_rfl⟩
theorem aGt (x : Val (.pair ab6 acY)) (k : Val ab5 → Option ρ) :
    adR (asp ρ) 25 (adA [ab6, ab5, ab5] x) (fun h v => ab4 (adH [tI, tI] h v) k) = aAs x.1 x.2.1 x.2.2 k := by kernel_rfl
theorem aDZ : (au0 ρ).Ok (awI ρ) := ⟨by kernel_rfl, fun p v kn kx => by kernel_rfl⟩
theorem aJZ (x : Val abI) (k : (Val abP) → Option ρ) :
    adR (awI ρ) 41 (adA [ab6, ace] x) (fun h v => ab4 (adH [ab6, tI] h v) k) = aHh x.1 x.2 k := by kernel_rfl
theorem aGT (x : Val (.pair ab6 (.pair ace ab5))) (k : Val ahs → Option ρ) :
    adR (aBe ρ) 90 (adA [ab6, ace, ab5] x) (fun h v => ab4 (adH [ab5, tI] h v) k) = aBf x.1 x.2.1 x.2.2 k := by kernel_rfl
theorem aBs (x : Val abI) (k : Val ahs → Option ρ) :
    adR (au1 ρ) 40 (adA [ab6, ace] x) (fun h v => ab4 (adH [ab5, tI] h v) k) = asH x.1 x.2 k := by kernel_rfl
theorem aGS (x : Val abP) (k : (Val (.pair ace tI)) → Option ρ) :
    adR (aBc ρ) 205 (adA [ab6, tI] x) (fun h v => ab4 (adH [ace, tI] h v) k) = aBd x.1 x.2 k := by kernel_rfl
theorem aJ0 (x : Val abP) (k : Val ahs → Option ρ) :
    adR (aEN ρ) 142 (adA [ab6, tI] x) (fun h v => ab4 (adH [ab5, tI] h v) k) = aHj x.1 x.2 k := by kernel_rfl
theorem ayw (x : Val (.pair f6 (.pair abx (.ptr ace)))) (k : Int → Option ρ) :
    adR (arc ρ) 143 (adA [f6, abx, (.ptr ace)] x) (fun h v => ab4 (adH [tI] h v) k) = ao7 x.1 x.2.1 x.2.2 k := by kernel_rfl
theorem ayv (x : Val (.pair tI (.pair tI (.pair abx (.pair (.ptr tI) (.pair abT (.ptr tI))))))) (k : Val ac8 → Option ρ) :
    adR (arb ρ) 144 (adA [tI, tI, abx, (.ptr tI), abT, (.ptr tI)] x) (fun h v => ab4 (adH [ac8] h v) k) = ao6 x.1 x.2.1 x.2.2.1 x.2.2.2.1 x.2.2.2.2.1 x.2.2.2.2.2 k := by kernel_rfl
theorem ayu : (ao5 ρ).Ok (akR ρ) := ⟨by kernel_rfl, fun p v kn kx => by kernel_rfl⟩
theorem aDb (x : Val (.pair abx abV)) (k : (Val (.pair aey tI)) → Option ρ) :
    adR (akR ρ) 71 (adA [abx, ab5, ace] x) (fun h v => ab4 (adH [aey, tI] h v) k) = av3 x.1 x.2.1 x.2.2 k := by kernel_rfl
theorem av4 (x : Val ac8) (k : (Val f6) → Option ρ) :
    adR (ao8 ρ) 95 (adA [ac8] x) (fun h v => ab4 (adH [f6] h v) k) = am5 x k := by kernel_rfl
theorem aDc (x : Val (.pair ac8 tI)) (k : Int → Option ρ) :
    adR (axz ρ) 177 (adA [ac8, tI] x) (fun h v => ab4 (adH [tI] h v) k) = av6 x.1 x.2 k := by kernel_rfl
theorem atx (x : Val (.pair aey tI)) (k : Val ab5 → Option ρ) :
    adR (an9 ρ) 99 (adA [aey, tI] x) (fun h v => ab4 (adH [ab5] h v) k) = alv x.1 x.2 k := by kernel_rfl
theorem aqO : (aka ρ).Ok (agU ρ) := ⟨by kernel_rfl, fun p v kn kx => by kernel_rfl⟩
theorem aqP : (akb ρ).Ok (agU ρ) := ⟨by kernel_rfl, fun p v kn kx => by kernel_rfl⟩
theorem aty (x : Val (.pair aey f6)) (k : (Val f6) → Option ρ) :
    adR (agU ρ) 101 (adA [aey, f6] x) (fun h v => ab4 (adH [f6] h v) k) = alw x.1 x.2 k := by kernel_rfl
theorem aoZ : (ajp ρ).Ok (aig ρ) := ⟨by kernel_rfl, fun p v kn kx => by kernel_rfl⟩
theorem asd (x : Val aey) (k : Int → Option ρ) :
    adR (aig ρ) 72 (adA [aey] x) (fun h v => ab4 (adH [tI] h v) k) = aj9 x k := by kernel_rfl
theorem aAo : (arf ρ).Ok (asn ρ) := ⟨by kernel_rfl, fun p v kn kx => by kernel_rfl⟩
theorem aGo (x : Val (.pair ab6 abV)) (k : Val ab5 → Option ρ) :
    adR (asn ρ) 31 (adA [ab6, ab5, ace] x) (fun h v => ab4 (adH [tI, tI] h v) k) = aAp x.1 x.2.1 x.2.2 k := by kernel_rfl
theorem awq : (aol ρ).Ok (ani ρ) := ⟨by kernel_rfl, fun p v kn kx => by kernel_rfl⟩
theorem aAy (x : Val abU) (k : Int → Option ρ) :
    adR (ani ρ) 145 (adA [acf, f6] x) (fun h v => ab4 (adH [tI] h v) k) = ast x.1 x.2 k := by kernel_rfl
theorem aDn : (aud ρ).Ok (awk ρ) := ⟨by kernel_rfl, fun p v kn kx => by kernel_rfl⟩
theorem aJt (x : Val (.pair acf abz)) (k : (Val (.pair tI (.pair tI .bool))) → Option ρ) :
    adR (awk ρ) 146 (adA [acf, tI, f6] x) (fun h v => ab4 (adH [tI, tI, .bool] h v) k) = aGw x.1 x.2.1 x.2.2 k := by kernel_rfl
theorem auu (x : Val (.pair acf (.pair tI abz))) (k : Val ab5 → Option ρ) :
    adR (aoo ρ) 76 (adA [acf, tI, tI, f6] x) (fun h v => ab4 (adH [tI, tI] h v) k) = alI x.1 x.2.1 x.2.2.1 x.2.2.2 k := by kernel_rfl
theorem awf (x : Val aec) (k : Int → Option ρ) :
    adR (apf ρ) 33 (adA [aec] x) (fun h v => ab4 (adH [tI] h v) k) = ane x k := by kernel_rfl
theorem aut (x : Val abU) (k : Int → Option ρ) :
    adR (aon ρ) 86 (adA [acf, f6] x) (fun h v => ab4 (adH [tI] h v) k) = alH x.1 x.2 k := by kernel_rfl
theorem auc (x : Val aec) (k : Int → Option ρ) :
    adR (aog ρ) 39 (adA [aec] x) (fun h v => ab4 (adH [tI] h v) k) = alC x k := by kernel_rfl
theorem ag3 : (aeK ρ).Ok (adX ρ) := ⟨by kernel_rfl, fun p v kn kx => by kernel_rfl⟩
theorem ahC (x : Val (.pair l5 ach)) (k : Int → Option ρ) :
    adR (adX ρ) 254 (adA [l5, ach] x) (fun h v => ab4 (adH [tI] h v) k) = ael x.1 x.2 k := by kernel_rfl
theorem agL (x : Val (.pair l5 ach)) (k : Bool → Option ρ) :
    adR (aeM ρ) 210 (adA [l5, ach] x) (fun h v => ab4 (adH [.bool] h v) k) = adU x.1 x.2 k := by kernel_rfl
theorem aic : (afA ρ).Ok (aeC ρ) := ⟨by kernel_rfl, fun p v kn kx => by kernel_rfl⟩
theorem ajf (x : Val abX) (k : Int → Option ρ) :
    adR (aeC ρ) 256 (adA [eI, ab5] x) (fun h v => ab4 (adH [tI] h v) k) = ae6 x.1 x.2 k := by kernel_rfl
theorem ahZ (x : Val abX) (k : Bool → Option ρ) :
    adR (afB ρ) 213 (adA [eI, ab5] x) (fun h v => ab4 (adH [.bool] h v) k) = aeq x.1 x.2 k := by kernel_rfl
theorem ahB : (afh ρ).Ok (aek ρ) := ⟨by kernel_rfl, fun p v kn kx => by kernel_rfl⟩
theorem aie (x : Val (.pair m5 adJ)) (k : Int → Option ρ) :
    adR (aek ρ) 258 (adA [m5, adJ] x) (fun h v => ab4 (adH [tI] h v) k) = aeE x.1 x.2 k := by kernel_rfl
theorem ahr (x : Val (.pair m5 adJ)) (k : Bool → Option ρ) :
    adR (afj ρ) 216 (adA [m5, adJ] x) (fun h v => ab4 (adH [.bool] h v) k) = ad9 x.1 x.2 k := by kernel_rfl
theorem aC9 : (atN ρ).Ok (aeS ρ) := ⟨by kernel_rfl, fun p v kn kx => by kernel_rfl⟩
theorem aC6 : (atK ρ).Ok (aeS ρ) := ⟨by kernel_rfl, fun p v kn kx => by kernel_rfl⟩
theorem aC5 : (atJ ρ).Ok (aeS ρ) := ⟨by kernel_rfl, fun p v kn kx => by kernel_rfl⟩
theorem aC7 : (atL ρ).Ok (aeS ρ) := ⟨by kernel_rfl, fun p v kn kx => by kernel_rfl⟩
theorem aC8 : (atM ρ).Ok (aeS ρ) := ⟨by kernel_rfl, fun p v kn kx => by kernel_rfl⟩
theorem aC4 : (atI ρ).Ok (aeS ρ) := ⟨by kernel_rfl, fun p v kn kx => by kernel_rfl⟩
theorem aC3 : (atH ρ).Ok (aeS ρ) := ⟨by kernel_rfl, fun p v kn kx => by kernel_rfl⟩
theorem aC2 : (atG ρ).Ok (aeS ρ) := ⟨by kernel_rfl, fun p v kn kx => by kernel_rfl⟩
theorem aC1 : (atF ρ).Ok (aeS ρ) := ⟨by kernel_rfl, fun p v kn kx => by kernel_rfl⟩
theorem aC0 : (atD ρ).Ok (aeS ρ) := ⟨by kernel_rfl, fun p v kn kx => by kernel_rfl⟩
theorem aJf (x : Val (.pair ab6 ab6)) (k : Bool → Option ρ) :
    adR (aeS ρ) 77 (adA [ab6, ab6] x) (fun h v => ab4 (adH [.bool] h v) k) = aGd x.1 x.2 k := by kernel_rfl
theorem aDh (x : Val (.pair ab6 aec)) (k : (Val abG) → Option ρ) :
    adR (axE ρ) 35 (adA [ab6, aec] x) (fun h v => ab4 (adH [.bool, tI] h v) k) = av8 x.1 x.2 k := by kernel_rfl
theorem aLV : (aEJ ρ).Ok (awr ρ) := ⟨by kernel_rfl, fun p v kn kx => by kernel_rfl⟩
theorem aLT : (aEH ρ).Ok (awr ρ) := ⟨by kernel_rfl, fun p v kn kx => by kernel_rfl⟩
theorem aLS : (aEG ρ).Ok (awr ρ) := ⟨by kernel_rfl, fun p v kn kx => by kernel_rfl⟩
theorem aLU : (aEI ρ).Ok (awr ρ) := ⟨by kernel_rfl, fun p v kn kx => by kernel_rfl⟩
theorem aQC (x : Val abW) (k : (Val abt) → Option ρ) :
    adR (awr ρ) 156 (adA [acf, tI, tI] x) (fun h v => ab4 (adH [abt] h v) k) = aAz x.1 x.2.1 x.2.2 k := by kernel_rfl
theorem aAO : (art ρ).Ok (ag7 ρ) := ⟨by kernel_rfl, fun p v kn kx => by kernel_rfl⟩
theorem aAK : (aro ρ).Ok (ag7 ρ) := ⟨by kernel_rfl, fun p v kn kx => by kernel_rfl⟩
theorem aAL : (arp ρ).Ok (ag7 ρ) := ⟨by kernel_rfl, fun p v kn kx => by kernel_rfl⟩
theorem aAM : (arq ρ).Ok (ag7 ρ) := ⟨by kernel_rfl, fun p v kn kx => by kernel_rfl⟩
theorem aAN : (ars ρ).Ok (ag7 ρ) := ⟨by kernel_rfl, fun p v kn kx => by kernel_rfl⟩
theorem aGF (x : Val acf) (k : (Val abE) → Option ρ) :
    adR (ag7 ρ) 78 (adA [acf] x) (fun h v => ab4 (adH [f6, tI] h v) k) = aur x k := by kernel_rfl
theorem av0 : (aoa ρ).Ok (am2 ρ) := ⟨by kernel_rfl, fun p v kn kx => by kernel_rfl⟩
theorem aAd (x : Val (.pair ab6 f6)) (k : (Val eI) → Option ρ) :
    adR (am2 ρ) 80 (adA [ab6, f6] x) (fun h v => ab4 (adH [eI] h v) k) = ash x.1 x.2 k := by kernel_rfl
theorem aGu (x : Val ab6) (k : (Val (.pair aec tI)) → Option ρ) :
    adR (aAu ρ) 36 (adA [ab6] x) (fun h v => ab4 (adH [aec, tI] h v) k) = ape x k := by kernel_rfl
theorem awb (x : Val tI) (k : Int → Option ρ) :
    adR (apb ρ) 96 (adA [tI] x) (fun h v => ab4 (adH [tI] h v) k) = am9 x k := by kernel_rfl
theorem av5 (x : Val (.pair ac8 tI)) (k : (Val f6) → Option ρ) :
    adR (ao9 ρ) 97 (adA [ac8, tI] x) (fun h v => ab4 (adH [f6] h v) k) = am6 x.1 x.2 k := by kernel_rfl
theorem atX : (((alp (ada ρ).P 50).elim [] (acG 0)).filter fun y => Nat.beq y.1 0).length = 1 := by kernel_rfl
theorem atY (p : Val abv) (v : Val abA) (kn : Val abv → Val abA → Option ρ) (kx : (i : Nat) → Val abv → Val (tyL (aeU.zs i)) → Option ρ) :
    goC (ada ρ) (agR (ada ρ) (10 - 2 / 2)) 50 [1, 3] 5 0 (ax5 (alp (ada ρ).P 50) 0) (af9 aeU.head aeU.cs aeU.vs p v) (aIm aeU kn kx) = (ajh ρ).bF p v (kn p) (fun i => kx i p) := by kernel_rfl
theorem awa : (ajh ρ).Ok (ada ρ) := ⟨atX, atY⟩
theorem atV : (((alp (ada ρ).P 178).elim [] (acG 0)).filter fun y => Nat.beq y.1 0).length = 1 := by kernel_rfl
theorem atW (p : Val abr) (v : Val tI) (kn : Val abr → Val tI → Option ρ) (kx : (i : Nat) → Val abr → Val (tyL (aeT.zs i)) → Option ρ) :
    goC (ada ρ) (agR (ada ρ) (10 - 4 / 2)) 178 [18, 4, 1, 2] 12 0 (ax5 (alp (ada ρ).P 178) 0) (af9 aeT.head aeT.cs aeT.vs p v) (aIm aeT kn kx) = (ajg ρ).bF p v (kn p) (fun i => kx i p) := by kernel_rfl
theorem av9 : (ajg ρ).Ok (ada ρ) := ⟨atV, atW⟩
theorem aAq (x : Val (.pair ab6 (.pair ab5 abV))) (k : (Val abG) → Option ρ) :
    adR (am8 ρ) 42 (adA [ab6, ab5, ab5, ace] x) (fun h v => ab4 (adH [.bool, tI] h v) k) = aso x.1 x.2.1 x.2.2.1 x.2.2.2 k := by kernel_rfl
theorem ays (x : Unit) (k : Val ab6 → Option ρ) :
    adR (aq7 ρ) 48 (adA [] x) (fun h v => ab4 (adH [ab6] h v) k) = aoW k := by kernel_rfl
theorem aAT : (arx ρ).Ok (akj ρ) := ⟨by kernel_rfl, fun p v kn kx => by kernel_rfl⟩
theorem aAR : (arv ρ).Ok (akj ρ) := ⟨by kernel_rfl, fun p v kn kx => by kernel_rfl⟩
theorem aAS : (arw ρ).Ok (akj ρ) := ⟨by kernel_rfl, fun p v kn kx => by kernel_rfl⟩
theorem aGH (x : Val abW) (k : (Val abE) → Option ρ) :
    adR (akj ρ) 120 (adA [acf, tI, tI] x) (fun h v => ab4 (adH [f6, tI] h v) k) = aAU x.1 x.2.1 x.2.2 k := by kernel_rfl
theorem awi (x : Val (.pair abx (.pair abT (.ptr .bool)))) (k : (Val f6) → Option ρ) :
    adR (aph ρ) 119 (adA [abx, abT, (.ptr .bool)] x) (fun h v => ab4 (adH [f6] h v) k) = anf x.1 x.2.1 x.2.2 k := by kernel_rfl
theorem awh : (aoi ρ).Ok (ahH ρ) := ⟨by kernel_rfl, fun p v kn kx => by kernel_rfl⟩
theorem awg : (aoh ρ).Ok (ahH ρ) := ⟨by kernel_rfl, fun p v kn kx => by kernel_rfl⟩
theorem aAv (x : Val (.pair ab6 (.pair ab5 .bool))) (k : (Val (.pair aec tI)) → Option ρ) :
    adR (ahH ρ) 49 (adA [ab6, ab5, .bool] x) (fun h v => ab4 (adH [aec, tI] h v) k) = asr x.1 x.2.1 x.2.2 k := by kernel_rfl
theorem aAa (x : Unit) (k : Bool → Option ρ) :
    adR (atu ρ) 14 (adA [] x) (fun h v => ab4 (adH [.bool] h v) k) = asc k := by kernel_rfl
theorem anu : (ah5 ρ).Ok (ag8 ρ) := ⟨by kernel_rfl, fun p v kn kx => by kernel_rfl⟩
theorem apz (x : Val (.pair abC f6)) (k : Int → Option ρ) :
    adR (ag8 ρ) 67 (adA [abC, f6] x) (fun h v => ab4 (adH [tI] h v) k) = ain x.1 x.2 k := by kernel_rfl
theorem aDu : (auo ρ).Ok (aqn ρ) := ⟨by kernel_rfl, fun p v kn kx => by kernel_rfl⟩
theorem aDt : (aun ρ).Ok (aqn ρ) := ⟨by kernel_rfl, fun p v kn kx => by kernel_rfl⟩
theorem aJy (x : Val abU) (k : (Val abG) → Option ρ) :
    adR (aqn ρ) 138 (adA [acf, f6] x) (fun h v => ab4 (adH [.bool, tI] h v) k) = aGE x.1 x.2 k := by kernel_rfl
theorem auJ (x : Val (.pair abC f6)) (k : Bool → Option ρ) :
    adR (aos ρ) 68 (adA [abC, f6] x) (fun h v => ab4 (adH [.bool] h v) k) = alL x.1 x.2 k := by kernel_rfl
theorem aJ3 (x : Val (.pair ab6 f6)) (k : (Val abG) → Option ρ) :
    adR (aEO ρ) 23 (adA [ab6, f6] x) (fun h v => ab4 (adH [.bool, tI] h v) k) = aHn x.1 x.2 k := by kernel_rfl
theorem aAI : (arn ρ).Ok (anm ρ) := ⟨by kernel_rfl, fun p v kn kx => by kernel_rfl⟩
theorem aAH : (arm ρ).Ok (anm ρ) := ⟨by kernel_rfl, fun p v kn kx => by kernel_rfl⟩
theorem aGB (x : Val acf) (k : (Val abS) → Option ρ) :
    adR (anm ρ) 81 (adA [acf] x) (fun h v => ab4 (adH [eI, tI] h v) k) = aAJ x k := by kernel_rfl
theorem asq : (akX ρ).Ok (aki ρ) := ⟨by kernel_rfl, fun p v kn kx => by kernel_rfl⟩
theorem awc (x : Val ab6) (k : (Val abS) → Option ρ) :
    adR (aki ρ) 37 (adA [ab6] x) (fun h v => ab4 (adH [eI, tI] h v) k) = anc x k := by kernel_rfl
theorem alu (x : Val (.pair ab6 (.pair aec f6))) (k : Bool → Option ρ) :
    adR (ahz ρ) 9 (adA [ab6, aec, f6] x) (fun h v => ab4 (adH [.bool] h v) k) = agb x.1 x.2.1 x.2.2 k := by kernel_rfl
end Go.Proofs.ZzM
end

noncomputable section
variable {ρ : Type}
set_option maxRecDepth 100000
namespace Go.Proofs.ZzM
open Go Go.Am
theorem awy : (aoq ρ).Ok (anp ρ) := ⟨by kernel_rfl, fun p v kn kx => by kernel_rfl⟩
theorem aBg (x : Val ab6) (k : (Val abu) → Option ρ) :
    adR (anp ρ) 53 (adA [ab6] x) (fun h v => ab4 (adH [abu] h v) k) = asz x k := by kernel_rfl
theorem aDU (x : Val acY) (k : Bool → Option ρ) :
    adR (axV ρ) 82 (adA [ab5, tI, tI] x) (fun h v => ab4 (adH [.bool] h v) k) = awE x.1 x.2.1 x.2.2 k := by kernel_rfl
theorem aDG (x : Val ac8) (k : Bool → Option ρ) :
    adR (axQ ρ) 126 (adA [tI, tI, tI] x) (fun h v => ab4 (adH [.bool] h v) k) = awx x.1 x.2.1 x.2.2 k := by kernel_rfl
theorem aG7 (x : Val tI) (k : Bool → Option ρ) :
    adR (aBo ρ) 125 (adA [tI] x) (fun h v => ab4 (adH [.bool] h v) k) = aBp x k := by kernel_rfl
theorem aJE (x : Val tI) (k : Int → Option ρ) :
    adR (aEK ρ) 259 (adA [tI] x) (fun h v => ab4 (adH [(.int .u64)] h v) k) = aGK x k := by kernel_rfl
theorem aGL : (axM ρ).Ok (aA1 ρ) := ⟨by kernel_rfl, fun p v kn kx => by kernel_rfl⟩
theorem aLY (x : Val abY) (k : Int → Option ρ) :
    adR (aA1 ρ) 260 (adA [(.int .u64), (.int .u64)] x) (fun h v => ab4 (adH [(.int .u64)] h v) k) = aLZ x.1 x.2 k := by kernel_rfl
theorem aGN (x : Val ab5) (k : Bool → Option ρ) :
    adR (aA5 ρ) 219 (adA [ab5] x) (fun h v => ab4 (adH [.bool] h v) k) = aA6 x k := by kernel_rfl
theorem aBn (x : Val ach) (k : Bool → Option ρ) :
    adR (auR ρ) 162 (adA [ach] x) (fun h v => ab4 (adH [.bool] h v) k) = asC x k := by kernel_rfl
theorem apE : (ajr ρ).Ok (aio ρ) := ⟨by kernel_rfl, fun p v kn kx => by kernel_rfl⟩
theorem asF (x : Val ab6) (k : Int → Option ρ) :
    adR (aio ρ) 83 (adA [ab6] x) (fun h v => ab4 (adH [tI] h v) k) = akl x k := by kernel_rfl
theorem amY : (ah2 ρ).Ok (ag2 ρ) := ⟨by kernel_rfl, fun p v kn kx => by kernel_rfl⟩
theorem aoX (x : Val abE) (k : Int → Option ρ) :
    adR (ag2 ρ) 73 (adA [f6, tI] x) (fun h v => ab4 (adH [tI] h v) k) = aib x.1 x.2 k := by kernel_rfl
theorem al6 (x : Val abE) (k : Bool → Option ρ) :
    adR (ah3 ρ) 65 (adA [f6, tI] x) (fun h v => ab4 (adH [.bool] h v) k) = agE x.1 x.2 k := by kernel_rfl
theorem aDX : (auV ρ).Ok (aqr ρ) := ⟨by kernel_rfl, fun p v kn kx => by kernel_rfl⟩
theorem aDW : (auU ρ).Ok (aqr ρ) := ⟨by kernel_rfl, fun p v kn kx => by kernel_rfl⟩
theorem aJX (x : Val (.pair ab6 ach)) (k : (Val f6) → Option ρ) :
    adR (aqr ρ) 168 (adA [ab6, ach] x) (fun h v => ab4 (adH [f6] h v) k) = aHd x.1 x.2 k := by kernel_rfl
theorem aBi : (arA ρ).Ok (ant ρ) := ⟨by kernel_rfl, fun p v kn kx => by kernel_rfl⟩
theorem aBj : (arB ρ).Ok (ant ρ) := ⟨by kernel_rfl, fun p v kn kx => by kernel_rfl⟩
theorem aGV (x : Val ab6) (k : (Val eI) → Option ρ) :
    adR (ant ρ) 85 (adA [ab6] x) (fun h v => ab4 (adH [eI] h v) k) = aBk x k := by kernel_rfl
theorem auG (x : Val (.pair abu ab5)) (k : Int → Option ρ) :
    adR (aor ρ) 164 (adA [abu, tI, tI] x) (fun h v => ab4 (adH [tI] h v) k) = alK x.1 x.2.1 x.2.2 k := by kernel_rfl
theorem aBh (x : Val (.pair tI (.pair tI (.ptr abu)))) (k : Int → Option ρ) :
    adR (auH ρ) 163 (adA [tI, tI, (.ptr abu)] x) (fun h v => ab4 (adH [tI] h v) k) = asB x.1 x.2.1 x.2.2 k := by kernel_rfl
theorem asE : (alh ρ).Ok (ahI ρ) := ⟨by kernel_rfl, fun p v kn kx => by kernel_rfl⟩
theorem asD : (alg ρ).Ok (ahI ρ) := ⟨by kernel_rfl, fun p v kn kx => by kernel_rfl⟩
theorem awG (x : Val ab0) (k : Int → Option ρ) :
    adR (ahI ρ) 166 (adA [ab6, abu, tI] x) (fun h v => ab4 (adH [tI] h v) k) = anE x.1 x.2.1 x.2.2 k := by kernel_rfl
theorem aDR : (auQ ρ).Ok (aqq ρ) := ⟨by kernel_rfl, fun p v kn kx => by kernel_rfl⟩
theorem aDQ : (auP ρ).Ok (aqq ρ) := ⟨by kernel_rfl, fun p v kn kx => by kernel_rfl⟩
theorem aJU (x : Val (.pair f6 f6)) (k : (Val f6) → Option ρ) :
    adR (aqq ρ) 88 (adA [f6, f6] x) (fun h v => ab4 (adH [f6] h v) k) = aG5 x.1 x.2 k := by kernel_rfl
theorem al8 : (ahF ρ).Ok (afl ρ) := ⟨by kernel_rfl, fun p v kn kx => by kernel_rfl⟩
theorem al7 : (ahE ρ).Ok (afl ρ) := ⟨by kernel_rfl, fun p v kn kx => by kernel_rfl⟩
theorem aox (x : Val abt) (k : (Val f6) → Option ρ) :
    adR (afl ρ) 94 (adA [abt] x) (fun h v => ab4 (adH [f6] h v) k) = af5 x k := by kernel_rfl
theorem ayS : (apB ρ).Ok (apC ρ) := ⟨by kernel_rfl, fun p v kn kx => by kernel_rfl⟩
theorem aDS (x : Val f6) (k : Bool → Option ρ) :
    adR (apC ρ) 198 (adA [f6] x) (fun h v => ab4 (adH [.bool] h v) k) = awD x k := by kernel_rfl
theorem aDY : (auZ ρ).Ok (awH ρ) := ⟨by kernel_rfl, fun p v kn kx => by kernel_rfl⟩
theorem aJY (x : Val abQ) (k : (Val (.pair adJ .bool)) → Option ρ) :
    adR (awH ρ) 223 (adA [ab6, tI, tI] x) (fun h v => ab4 (adH [adJ, .bool] h v) k) = aHf x.1 x.2.1 x.2.2 k := by kernel_rfl
theorem aoC : (ai2 ρ).Ok (aeg ρ) := ⟨by kernel_rfl, fun p v kn kx => by kernel_rfl⟩
theorem aoA : (ai0 ρ).Ok (aeg ρ) := ⟨by kernel_rfl, fun p v kn kx => by kernel_rfl⟩
theorem aoB : (ai1 ρ).Ok (aeg ρ) := ⟨by kernel_rfl, fun p v kn kx => by kernel_rfl⟩
theorem aoz : (aiZ ρ).Ok (aeg ρ) := ⟨by kernel_rfl, fun p v kn kx => by kernel_rfl⟩
theorem aqV (x : Val ab0) (k : Int → Option ρ) :
    adR (aeg ρ) 167 (adA [ab6, abu, tI] x) (fun h v => ab4 (adH [tI] h v) k) = ajk x.1 x.2.1 x.2.2 k := by kernel_rfl
theorem aGm : (axC ρ).Ok (aeF ρ) := ⟨by kernel_rfl, fun p v kn kx => by kernel_rfl⟩
theorem aGn : (axD ρ).Ok (aeF ρ) := ⟨by kernel_rfl, fun p v kn kx => by kernel_rfl⟩
theorem aGl : (axB ρ).Ok (aeF ρ) := ⟨by kernel_rfl, fun p v kn kx => by kernel_rfl⟩
theorem aGk : (akW ρ).Ok (aeF ρ) := ⟨by kernel_rfl, fun p v kn kx => by kernel_rfl⟩
theorem aGj : (akV ρ).Ok (aeF ρ) := ⟨by kernel_rfl, fun p v kn kx => by kernel_rfl⟩
theorem aGi : (akU ρ).Ok (aeF ρ) := ⟨by kernel_rfl, fun p v kn kx => by kernel_rfl⟩
theorem aLN (x : Val (.pair ab6 (.pair eI eI))) (kA : Val abR → Val wi → Option ρ) : goC (aeF ρ) (agR (aeF ρ) 10) 79 [] 0 0 (preC 7 adr) { t := adA [ab6, eI, eI] x ++ List.replicate 127 .any, h := [] } (matK amb 0 afW ail kA) = atT x.1 x.2.1 x.2.2 kA := by kernel_rfl
theorem aOH (p : Val abR) (v : Val wi) (x : Val ach) (kk : Val abR → Val (.pair tI (.pair tI (.pair l5 (.pair eI (.pair m5 (.pair eW (.pair eI (.pair tI (.pair tI (.pair l5 (.pair eI (.pair m5 (.pair eW (.pair eI (.pair tI (.pair tI (.pair l5 (.pair eI (.pair m5 (.pair eW (.pair eI (.pair abq (.pair abq (.pair l5 abw)))))))))))))))))))))))) → Option ρ) : goC (ado ρ) (agR (ado ρ) 10) 79 [] 9 4 (rfA (rfC 7 adr)) { t := upd (af9 amb afW ail p v).t 60 (.agg (flat ach x)), h := (af9 amb afW ail p v).h } (matK aAn 9 afW aqj kk) = kk p (asm v x) := by kernel_rfl
theorem aOG (p : Val abR) (v : Val wi) (x : Val ach) (kk : Val abR → Val wi → Option ρ) : goC (ado ρ) (agR (ado ρ) 10) 79 [] 9 4 (rfB (rfC 7 adr)) (af9 aAn afW aqj p (asm v x)) (matK amb 9 afW ail kk) = acU (acO ((List.length (am7 v)) + (List.length [x]))) (kk p (adq v (am7 v ++ [x]))) := by kernel_rfl
theorem aJi (p : Val abR) (v : Val wi) (k : Val abp → Option ρ) : goC (ado ρ) (agR (ado ρ) 10) 79 [] 0 0 (postC 7 adr) (af9 amb afW ail p v) (matR akg 0 agu k) = aiV p v (fun y => k (ahf y)) := by kernel_rfl
theorem aLM (y : Val ab6) : aj1 Tryz.prog Tryz.f79 (af9 akg [] agu () (ahf y)) = some (enc ab6 y) := by kernel_rfl
theorem aOF : rfC 7 adr = Code.block 4 (Code.rangeFunc (.tmp 59) #[60] (rfA (rfC 7 adr)) (rfB (rfC 7 adr))) := by kernel_rfl
theorem atS : aFx 7 adr = true := by kernel_rfl
theorem akT : Tryz.f79.body = some adr := by kernel_rfl
theorem aDf : (akW ρ).Ok (ado ρ) := ⟨by kernel_rfl, fun p v kn kx => by kernel_rfl⟩
theorem aDe : (akV ρ).Ok (ado ρ) := ⟨by kernel_rfl, fun p v kn kx => by kernel_rfl⟩
theorem aDd : (akU ρ).Ok (ado ρ) := ⟨by kernel_rfl, fun p v kn kx => by kernel_rfl⟩
end Go.Proofs.ZzM
end
