/- lemmas -/
import Derived.Test.YtmadligicacpkaaGreatMdMA
set_option linter.all false
set_option linter.unusedSectionVars false
set_option linter.unusedVariables false
set_option linter.unusedSimpArgs false
noncomputable section
variable {ρ:Type}
set_option maxRecDepth 100000
namespace Go.Proofs.ZzM
open Go Go.Am
theorem aGn (x:Val Í) (k:Bool→Option ρ) :
    ď (azj ρ) 30 (Ć [Í] x) (fun h v=>Â (Č [.bool] h v) k)=axt x k:=by kernel_rfl
theorem aGm:(auv ρ).Ok (axs ρ):=⟨by kernel_rfl,fun p v kn kx=>by kernel_rfl⟩
theorem aOu (x:Val Å) (k:Bool→Option ρ) :
    ď (axs ρ) 10 (Ć [Å] x) (fun h v=>Â (Č [.bool] h v) k)=aKj x k:=by kernel_rfl
theorem afD:(ς ρ).Ok (Ť ρ):=⟨by kernel_rfl,fun p v kn kx=>by kernel_rfl⟩
theorem agu (x:Val abY) (k:Int→Option ρ) :
    ď (Ť ρ) 136 (Ć [eI,Ã] x) (fun h v=>Â (Č [tI] h v) k)=Ŷ x.1 x.2 k:=by kernel_rfl
theorem aMi (x:Val abE) (k:Val Ã→Option ρ) :
    ď (aE1 ρ) 67 (Ć [Å,Ã] x) (fun h v=>Â (Č [tI,tI] h v) k)=aE2 x.1 x.2 k:=by kernel_rfl
theorem aDL (x:Val abR) (k:Int→Option ρ) :
    ď (au2 ρ) 50 (Ć [aby,Ã] x) (fun h v=>Â (Č [tI] h v) k)=asZ x.1 x.2 k:=by kernel_rfl
theorem avy:(aln ρ).Ok (δ ρ):=⟨by kernel_rfl,fun p v kn kx=>by kernel_rfl⟩
theorem avx:(alm ρ).Ok (δ ρ):=⟨by kernel_rfl,fun p v kn kx=>by kernel_rfl⟩
theorem avv:(alj ρ).Ok (δ ρ):=⟨by kernel_rfl,fun p v kn kx=>by kernel_rfl⟩
theorem avw:(alk ρ).Ok (δ ρ):=⟨by kernel_rfl,fun p v kn kx=>by kernel_rfl⟩
theorem avu:(ali ρ).Ok (δ ρ):=⟨by kernel_rfl,fun p v kn kx=>by kernel_rfl⟩
theorem aBf (x:Val (.pair Ð abq)) (k:(Val (.pair l5 .bool))→Option ρ) :
    ď (δ ρ) 117 (Ć [Ð,abq] x) (fun h v=>Â (Č [l5,.bool] h v) k)=ao4 x.1 x.2 k:=by kernel_rfl
theorem aPb (x:Val (.pair Ð tI)) (k:Bool→Option ρ) :
    ď (aIP ρ) 139 (Ć [Ð,tI] x) (fun h v=>Â (Č [.bool] h v) k)=aLw x.1 x.2 k:=by kernel_rfl
theorem aEo:(arV ρ).Ok (atb ρ):=⟨by kernel_rfl,fun p v kn kx=>by kernel_rfl⟩
theorem aLC (x:Val Ð) (k:Val Ã→Option ρ) :
    ď (atb ρ) 138 (Ć [Ð] x) (fun h v=>Â (Č [tI,tI] h v) k)=aEp x k:=by kernel_rfl
theorem aEd:(arN ρ).Ok (ata ρ):=⟨by kernel_rfl,fun p v kn kx=>by kernel_rfl⟩
theorem aLz (x:Val ab5) (k:Int→Option ρ) :
    ď (ata ρ) 112 (Ć [Ð,l5] x) (fun h v=>Â (Č [tI] h v) k)=aEe x.1 x.2 k:=by kernel_rfl
theorem aBl:(apa ρ).Ok (aee ρ):=⟨by kernel_rfl,fun p v kn kx=>by kernel_rfl⟩
theorem aBk:(ao9 ρ).Ok (aee ρ):=⟨by kernel_rfl,fun p v kn kx=>by kernel_rfl⟩
theorem aBj:(ao8 ρ).Ok (aee ρ):=⟨by kernel_rfl,fun p v kn kx=>by kernel_rfl⟩
theorem aBh:(ao6 ρ).Ok (aee ρ):=⟨by kernel_rfl,fun p v kn kx=>by kernel_rfl⟩
theorem aBi:(ao7 ρ).Ok (aee ρ):=⟨by kernel_rfl,fun p v kn kx=>by kernel_rfl⟩
theorem aHl (x:Val (.pair Ð (.pair abq tI))) (k:(Val l5)→Option ρ) :
    ď (aee ρ) 120 (Ć [Ð,abq,tI] x) (fun h v=>Â (Č [l5] h v) k)=ayf x.1 x.2.1 x.2.2 k:=by kernel_rfl
theorem aLE (x:Val abZ) (k:Val Ã→Option ρ) :
    ď (aEu ρ) 114 (Ć [Ð,tI,tI] x) (fun h v=>Â (Č [tI,tI] h v) k)=aEv x.1 x.2.1 x.2.2 k:=by kernel_rfl
theorem au1 (x:Val abR) (k:Int→Option ρ) :
    ď (ant ρ) 51 (Ć [aby,tI,tI] x) (fun h v=>Â (Č [tI] h v) k)=akm x.1 x.2.1 x.2.2 k:=by kernel_rfl
theorem au0 (x:Val abR) (k:Int→Option ρ) :
    ď (anr ρ) 64 (Ć [aby,Ã] x) (fun h v=>Â (Č [tI] h v) k)=akl x.1 x.2 k:=by kernel_rfl
theorem aoP (x:Val abR) (k:Int→Option ρ) :
    ď (aiI ρ) 65 (Ć [aby,Ã] x) (fun h v=>Â (Č [tI] h v) k)=agz x.1 x.2 k:=by kernel_rfl
theorem aoO (x:Val abR) (k:Val Ã→Option ρ) :
    ď (ae9 ρ) 48 (Ć [aby,Ã] x) (fun h v=>Â (Č [Ã] h v) k)=agy x.1 x.2 k:=by kernel_rfl
theorem aBp (x:Val (.pair abV abH)) (k:Int→Option ρ) :
    ď (ar4 ρ) 198 (Ć [abV,l5,tI] x) (fun h v=>Â (Č [tI] h v) k)=apg x.1 x.2.1 x.2.2 k:=by kernel_rfl
theorem aqT (x:Val (.pair abu l5)) (k:Val Ã→Option ρ) :
    ď (ajZ ρ) 263 (Ć [abu,l5] x) (fun h v=>Â (Č [Ã] h v) k)=ahB x.1 x.2 k:=by kernel_rfl
theorem aEw:(arZ ρ).Ok (atc ρ):=⟨by kernel_rfl,fun p v kn kx=>by kernel_rfl⟩
theorem aLF (x:Val eI) (k:Int→Option ρ) :
    ď (atc ρ) 266 (Ć [eI] x) (fun h v=>Â (Č [tI] h v) k)=aEx x k:=by kernel_rfl
theorem aEy (x:Val Ã) (k:Val ļ→Option ρ) :
    ď (avL ρ) 294 (Ć [tI,tI] x) (fun h v=>Â (Č [Ã,tI] h v) k)=atd x.1 x.2 k:=by kernel_rfl
theorem aRW (x:Val í) (k:Val ļ→Option ρ) :
    ď (aPp ρ) 283 (Ć [Ã,Ã] x) (fun h v=>Â (Č [Ã,tI] h v) k)=aRX x.1 x.2 k:=by kernel_rfl
theorem ayo (x:Val í) (k:Val Ã→Option ρ) :
    ď (ape ρ) 264 (Ć [Ã,Ã] x) (fun h v=>Â (Č [Ã] h v) k)=amC x.1 x.2 k:=by kernel_rfl
theorem aRU (x:Val í) (k:Int→Option ρ) :
    ď (aPn ρ) 300 (Ć [Ã,Ã] x) (fun h v=>Â (Č [tI] h v) k)=aRV x.1 x.2 k:=by kernel_rfl
theorem avP (x:Val í) (k:Bool→Option ρ) :
    ď (anH ρ) 295 (Ć [í] x) (fun h v=>Â (Č [.bool] h v) k)=akx x k:=by kernel_rfl
theorem aRY (x:Val í) (k:Val ļ→Option ρ) :
    ď (aPr ρ) 298 (Ć [Ã,Ã] x) (fun h v=>Â (Č [Ã,tI] h v) k)=aRZ x.1 x.2 k:=by kernel_rfl
theorem aLK (x:Val (.pair í Ã)) (k:Val akL→Option ρ) :
    ď (ate ρ) 284 (Ć [í,Ã] x) (fun h v=>Â (Č [í,tI] h v) k)=aEG x.1 x.2 k:=by kernel_rfl
theorem ayn (x:Val í) (k:Val í→Option ρ) :
    ď (apd ρ) 265 (Ć [Ã,Ã] x) (fun h v=>Â (Č [í] h v) k)=amB x.1 x.2 k:=by kernel_rfl
theorem aHP (x:Val abC) (k:Val í→Option ρ) :
    ď (az4 ρ) 238 (Ć [Å,Í] x) (fun h v=>Â (Č [í] h v) k)=ayr x.1 x.2 k:=by kernel_rfl
theorem aL6 (x:Val abC) (k:Val Ã→Option ρ) :
    ď (aEY ρ) 239 (Ć [Å,Í] x) (fun h v=>Â (Č [Ã] h v) k)=aEZ x.1 x.2 k:=by kernel_rfl
theorem aLI (x:Val Ã) (k:Int→Option ρ) :
    ď (aEB ρ) 267 (Ć [tI,tI] x) (fun h v=>Â (Č [tI] h v) k)=avN x.1 x.2 k:=by kernel_rfl
theorem aPt (x:Val Ã) (k:Val Ã→Option ρ) :
    ď (aIV ρ) 240 (Ć [Ã] x) (fun h v=>Â (Č [tI,tI] h v) k)=aLM x k:=by kernel_rfl
theorem aLL (x:Val Ã) (k:Val Ã→Option ρ) :
    ď (aEI ρ) 241 (Ć [Ã] x) (fun h v=>Â (Č [tI,tI] h v) k)=aEJ x k:=by kernel_rfl
theorem aPw (x:Val abC) (k:Val Ã→Option ρ) :
    ď (aIW ρ) 203 (Ć [Å,Í] x) (fun h v=>Â (Č [Ã] h v) k)=aLQ x.1 x.2 k:=by kernel_rfl
theorem aHJ:(av0 ρ).Ok (aqg ρ):=⟨by kernel_rfl,fun p v kn kx=>by kernel_rfl⟩
theorem aHI:(avZ ρ).Ok (aqg ρ):=⟨by kernel_rfl,fun p v kn kx=>by kernel_rfl⟩
theorem aPz (x:Val (.pair Å (.pair Ó Ã))) (k:Int→Option ρ) :
    ď (aqg ρ) 235 (Ć [Å,Ó,tI,tI] x) (fun h v=>Â (Č [tI] h v) k)=aLY x.1 x.2.1 x.2.2.1 x.2.2.2 k:=by kernel_rfl
theorem aHG:(avX ρ).Ok (alq ρ):=⟨by kernel_rfl,fun p v kn kx=>by kernel_rfl⟩
theorem aHH:(avY ρ).Ok (alq ρ):=⟨by kernel_rfl,fun p v kn kx=>by kernel_rfl⟩
theorem aHF:(avW ρ).Ok (alq ρ):=⟨by kernel_rfl,fun p v kn kx=>by kernel_rfl⟩
theorem aPy (x:Val Å) (k:(Val abV)→Option ρ) :
    ď (alq ρ) 137 (Ć [Å] x) (fun h v=>Â (Č [abV] h v) k)=aLV x k:=by kernel_rfl
theorem aHU (x:Val Å) (k:(Val (.pair Ð abT))→Option ρ) :
    ď (az8 ρ) 68 (Ć [Å] x) (fun h v=>Â (Č [Ð,eI,tI] h v) k)=ayv x k:=by kernel_rfl
theorem aHW:(awe ρ).Ok (ayw ρ):=⟨by kernel_rfl,fun p v kn kx=>by kernel_rfl⟩
theorem aPH (x:Val abE) (k:(Val abI)→Option ρ) :
    ď (ayw ρ) 110 (Ć [Å,Ã] x) (fun h v=>Â (Č [Å,tI] h v) k)=aMh x.1 x.2 k:=by kernel_rfl
theorem avD (x:Val Ð) (k:(Val abW)→Option ρ) :
    ď (anE ρ) 111 (Ć [Ð] x) (fun h v=>Â (Č [.bool,tI] h v) k)=aku x k:=by kernel_rfl
theorem avq:(alf ρ).Ok (akp ρ):=⟨by kernel_rfl,fun p v kn kx=>by kernel_rfl⟩
theorem aA9 (x:Val abE) (k:Val ļ→Option ρ) :
    ď (akp ρ) 12 (Ć [Å,Ã] x) (fun h v=>Â (Č [Ã,tI] h v) k)=aoZ x.1 x.2 k:=by kernel_rfl
theorem ax6:(anB ρ).Ok (ams ρ):=⟨by kernel_rfl,fun p v kn kx=>by kernel_rfl⟩
theorem aD4 (x:Val ab1) (k:Val ļ→Option ρ) :
    ď (ams ρ) 14 (Ć [Å,Ã,Ã] x) (fun h v=>Â (Č [Ã,tI] h v) k)=as8 x.1 x.2.1 x.2.2 k:=by kernel_rfl
theorem aDJ (x:Val í) (k:Int→Option ρ) :
    ď (auZ ρ) 57 (Ć [Ã,Ã] x) (fun h v=>Â (Č [tI] h v) k)=asX x.1 x.2 k:=by kernel_rfl
theorem aDY:(arL ρ).Ok (as5 ρ):=⟨by kernel_rfl,fun p v kn kx=>by kernel_rfl⟩
theorem aLs (x:Val ab1) (k:Val Ã→Option ρ) :
    ď (as5 ρ) 21 (Ć [Å,Ã,Ã] x) (fun h v=>Â (Č [tI,tI] h v) k)=aDZ x.1 x.2.1 x.2.2 k:=by kernel_rfl
theorem aRQ:(aIT ρ).Ok (aye ρ):=⟨by kernel_rfl,fun p v kn kx=>by kernel_rfl⟩
theorem aRO:(aIR ρ).Ok (aye ρ):=⟨by kernel_rfl,fun p v kn kx=>by kernel_rfl⟩
theorem aRN:(aIQ ρ).Ok (aye ρ):=⟨by kernel_rfl,fun p v kn kx=>by kernel_rfl⟩
theorem aRP:(aIS ρ).Ok (aye ρ):=⟨by kernel_rfl,fun p v kn kx=>by kernel_rfl⟩
theorem aW7 (x:Val abZ) (k:(Val abr)→Option ρ) :
    ď (aye ρ) 122 (Ć [Ð,tI,tI] x) (fun h v=>Â (Č [abr] h v) k)=aD7 x.1 x.2.1 x.2.2 k:=by kernel_rfl
theorem aEs:(arY ρ).Ok (aiP ρ):=⟨by kernel_rfl,fun p v kn kx=>by kernel_rfl⟩
theorem aEq:(arW ρ).Ok (aiP ρ):=⟨by kernel_rfl,fun p v kn kx=>by kernel_rfl⟩
theorem aEr:(arX ρ).Ok (aiP ρ):=⟨by kernel_rfl,fun p v kn kx=>by kernel_rfl⟩
theorem aLD (x:Val abZ) (k:(Val abH)→Option ρ) :
    ď (aiP ρ) 61 (Ć [Ð,tI,tI] x) (fun h v=>Â (Č [l5,tI] h v) k)=aEt x.1 x.2.1 x.2.2 k:=by kernel_rfl
theorem ax5 (x:Val (.pair aby (.pair abU (.ptr .bool)))) (k:(Val l5)→Option ρ) :
    ď (ao2 ρ) 60 (Ć [aby,abU,(.ptr .bool)] x) (fun h v=>Â (Č [l5] h v) k)=amr x.1 x.2.1 x.2.2 k:=by kernel_rfl
theorem axN:(anq ρ).Ok (ame ρ):=⟨by kernel_rfl,fun p v kn kx=>by kernel_rfl⟩
theorem aDK (x:Val (.pair Å l5)) (k:(Val eI)→Option ρ) :
    ď (ame ρ) 63 (Ć [Å,l5] x) (fun h v=>Â (Č [eI] h v) k)=asY x.1 x.2 k:=by kernel_rfl
theorem ax4:(anA ρ).Ok (afU ρ):=⟨by kernel_rfl,fun p v kn kx=>by kernel_rfl⟩
theorem ax3:(anz ρ).Ok (afU ρ):=⟨by kernel_rfl,fun p v kn kx=>by kernel_rfl⟩
theorem aD3 (x:Val (.pair Å (.pair Ã .bool))) (k:(Val (.pair κ tI))→Option ρ) :
    ď (afU ρ) 24 (Ć [Å,Ã,.bool] x) (fun h v=>Â (Č [κ,tI] h v) k)=as7 x.1 x.2.1 x.2.2 k:=by kernel_rfl
theorem ayd:(anD ρ).Ok (amu ρ):=⟨by kernel_rfl,fun p v kn kx=>by kernel_rfl⟩
theorem aD6 (x:Val ab5) (k:Int→Option ρ) :
    ď (amu ρ) 140 (Ć [Ð,l5] x) (fun h v=>Â (Č [tI] h v) k)=as9 x.1 x.2 k:=by kernel_rfl
theorem aHj:(avt ρ).Ok (ax7 ρ):=⟨by kernel_rfl,fun p v kn kx=>by kernel_rfl⟩
theorem aPa (x:Val (.pair Ð abv)) (k:(Val (.pair tI (.pair tI .bool)))→Option ρ) :
    ď (ax7 ρ) 141 (Ć [Ð,tI,l5] x) (fun h v=>Â (Č [tI,tI,.bool] h v) k)=aLv x.1 x.2.1 x.2.2 k:=by kernel_rfl
theorem avH (x:Val (.pair Ð (.pair tI abv))) (k:Val Ã→Option ρ) :
    ď (anG ρ) 69 (Ć [Ð,tI,tI,l5] x) (fun h v=>Â (Č [tI,tI] h v) k)=akw x.1 x.2.1 x.2.2.1 x.2.2.2 k:=by kernel_rfl
theorem ax2 (x:Val κ) (k:Int→Option ρ) :
    ď (ao0 ρ) 25 (Ć [κ] x) (fun h v=>Â (Č [tI] h v) k)=amq x k:=by kernel_rfl
theorem aHT:(awc ρ).Ok (ayu ρ):=⟨by kernel_rfl,fun p v kn kx=>by kernel_rfl⟩
theorem aPF (x:Val abC) (k:(Val abI)→Option ρ) :
    ď (ayu ρ) 147 (Ć [Å,Í] x) (fun h v=>Â (Č [Å,tI] h v) k)=aMd x.1 x.2 k:=by kernel_rfl
theorem aLP (x:Val (.pair Å (.pair Í Ã))) (k:Val ļ→Option ρ) :
    ď (aEM ρ) 200 (Ć [Å,Í,Ã] x) (fun h v=>Â (Č [Ã,tI] h v) k)=aEN x.1 x.2.1 x.2.2 k:=by kernel_rfl
theorem aE0 (x:Val abC) (k:Val ļ→Option ρ) :
    ď (awd ρ) 146 (Ć [Å,Í] x) (fun h v=>Â (Č [Ã,tI] h v) k)=atn x.1 x.2 k:=by kernel_rfl
theorem aLO (x:Val abI) (k:(Val (.pair Í tI))→Option ρ) :
    ď (aEK ρ) 202 (Ć [Å,tI] x) (fun h v=>Â (Č [Í,tI] h v) k)=aEL x.1 x.2 k:=by kernel_rfl
theorem aPG (x:Val abI) (k:Val ļ→Option ρ) :
    ď (aIX ρ) 148 (Ć [Å,tI] x) (fun h v=>Â (Č [Ã,tI] h v) k)=aMf x.1 x.2 k:=by kernel_rfl
theorem aHX (x:Val ab2) (k:(Val (.pair l5 abH))→Option ρ) :
    ď (aAb ρ) 149 (Ć [l5,l5] x) (fun h v=>Â (Č [l5,l5,tI] h v) k)=ayx x.1 x.2 k:=by kernel_rfl
theorem aA4 (x:Val (.pair l5 (.pair aby (.ptr Í)))) (k:Int→Option ρ) :
    ď (arE ρ) 150 (Ć [l5,aby,(.ptr Í)] x) (fun h v=>Â (Č [tI] h v) k)=aoT x.1 x.2.1 x.2.2 k:=by kernel_rfl
theorem aA3 (x:Val (.pair tI (.pair tI (.pair aby (.pair (.ptr tI) (.pair abU (.ptr tI))))))) (k:Val Ĉ→Option ρ) :
    ď (arD ρ) 151 (Ć [tI,tI,aby,(.ptr tI),abU,(.ptr tI)] x) (fun h v=>Â (Č [Ĉ] h v) k)=aoS x.1 x.2.1 x.2.2.1 x.2.2.2.1 x.2.2.2.2.1 x.2.2.2.2.2 k:=by kernel_rfl
theorem aA2:(aoR ρ).Ok (ajG ρ):=⟨by kernel_rfl,fun p v kn kx=>by kernel_rfl⟩
theorem aG7 (x:Val (.pair aby abX)) (k:(Val (.pair ű tI))→Option ρ) :
    ď (ajG ρ) 76 (Ć [aby,Ã,Í] x) (fun h v=>Â (Č [ű,tI] h v) k)=axQ x.1 x.2.1 x.2.2 k:=by kernel_rfl
theorem axR (x:Val Ĉ) (k:(Val l5)→Option ρ) :
    ď (aoU ρ) 82 (Ć [Ĉ] x) (fun h v=>Â (Č [l5] h v) k)=amh x k:=by kernel_rfl
theorem aG8 (x:Val (.pair Ĉ tI)) (k:Int→Option ρ) :
    ď (azE ρ) 154 (Ć [Ĉ,tI] x) (fun h v=>Â (Č [tI] h v) k)=axT x.1 x.2 k:=by kernel_rfl
theorem auX (x:Val (.pair ű tI)) (k:Val Ã→Option ρ) :
    ď (anp ρ) 86 (Ć [ű,tI] x) (fun h v=>Â (Č [Ã] h v) k)=akj x.1 x.2 k:=by kernel_rfl
theorem aqP:(aiG ρ).Ok (aeW ρ):=⟨by kernel_rfl,fun p v kn kx=>by kernel_rfl⟩
theorem aqQ:(aiH ρ).Ok (aeW ρ):=⟨by kernel_rfl,fun p v kn kx=>by kernel_rfl⟩
theorem auY (x:Val (.pair ű l5)) (k:(Val l5)→Option ρ) :
    ď (aeW ρ) 88 (Ć [ű,l5] x) (fun h v=>Â (Č [l5] h v) k)=akk x.1 x.2 k:=by kernel_rfl
theorem aoL:(ahH ρ).Ok (agx ρ):=⟨by kernel_rfl,fun p v kn kx=>by kernel_rfl⟩
theorem asU (x:Val ű) (k:Int→Option ρ) :
    ď (agx ρ) 77 (Ć [ű] x) (fun h v=>Â (Č [tI] h v) k)=aiF x k:=by kernel_rfl
theorem aDV:(arG ρ).Ok (as3 ρ):=⟨by kernel_rfl,fun p v kn kx=>by kernel_rfl⟩
theorem aLn (x:Val (.pair Å abX)) (k:Val Ã→Option ρ) :
    ď (as3 ρ) 31 (Ć [Å,Ã,Í] x) (fun h v=>Â (Č [tI,tI] h v) k)=aDW x.1 x.2.1 x.2.2 k:=by kernel_rfl
theorem axY (x:Val tI) (k:Int→Option ρ) :
    ď (aoX ρ) 83 (Ć [tI] x) (fun h v=>Â (Č [tI] h v) k)=aml x k:=by kernel_rfl
theorem axS (x:Val (.pair Ĉ tI)) (k:(Val l5)→Option ρ) :
    ď (aoV ρ) 84 (Ć [Ĉ,tI] x) (fun h v=>Â (Č [l5] h v) k)=ami x.1 x.2 k:=by kernel_rfl
theorem avk:(((akd (Ĕ ρ).P 47).elim [] (ó 0)).filter fun y=>Nat.beq y.1 0).length=1:=by kernel_rfl
theorem avl (p:Val abw) (v:Val abD) (kn:Val abw→Val abD→Option ρ) (kx:(i:Nat)→Val abw→Val (tyL (Ι.zs i))→Option ρ) :
    goC (Ĕ ρ) (aeS (Ĕ ρ) (10-2 / 2)) 47 [1,3] 5 0 (aAc (akd (Ĕ ρ).P 47) 0) (ad8 Ι.head Ι.cs Ι.vs p v) (aNr Ι kn kx)=(ahz ρ).bF p v (kn p) (fun i=>kx i p):=by kernel_rfl
theorem axX:(ahz ρ).Ok (Ĕ ρ):=⟨avk,avl⟩
theorem avi:(((akd (Ĕ ρ).P 155).elim [] (ó 0)).filter fun y=>Nat.beq y.1 0).length=1:=by kernel_rfl
theorem avj (p:Val abt) (v:Val tI) (kn:Val abt→Val tI→Option ρ) (kx:(i:Nat)→Val abt→Val (tyL (Θ.zs i))→Option ρ) :
    goC (Ĕ ρ) (aeS (Ĕ ρ) (10-4 / 2)) 155 [18,4,1,2] 12 0 (aAc (akd (Ĕ ρ).P 155) 0) (ad8 Θ.head Θ.cs Θ.vs p v) (aNr Θ kn kx)=(ahy ρ).bF p v (kn p) (fun i=>kx i p):=by kernel_rfl
theorem axW:(ahy ρ).Ok (Ĕ ρ):=⟨avi,avj⟩
theorem aDX (x:Val (.pair Å (.pair Ã abX))) (k:(Val abW)→Option ρ) :
    ď (amk ρ) 35 (Ć [Å,Ã,Ã,Í] x) (fun h v=>Â (Č [.bool,tI] h v) k)=as4 x.1 x.2.1 x.2.2.1 x.2.2.2 k:=by kernel_rfl
theorem aEm:(arU ρ).Ok (afb ρ):=⟨by kernel_rfl,fun p v kn kx=>by kernel_rfl⟩
theorem aEi:(arQ ρ).Ok (afb ρ):=⟨by kernel_rfl,fun p v kn kx=>by kernel_rfl⟩
theorem aEj:(arR ρ).Ok (afb ρ):=⟨by kernel_rfl,fun p v kn kx=>by kernel_rfl⟩
theorem aEk:(arS ρ).Ok (afb ρ):=⟨by kernel_rfl,fun p v kn kx=>by kernel_rfl⟩
theorem aEl:(arT ρ).Ok (afb ρ):=⟨by kernel_rfl,fun p v kn kx=>by kernel_rfl⟩
theorem aLB (x:Val Ð) (k:(Val abH)→Option ρ) :
    ď (afb ρ) 91 (Ć [Ð] x) (fun h v=>Â (Č [l5,tI] h v) k)=aEn x k:=by kernel_rfl
theorem aLt (x:Val Å) (k:(Val (.pair κ tI))→Option ρ) :
    ď (aD1 ρ) 38 (Ć [Å] x) (fun h v=>Â (Č [κ,tI] h v) k)=aD2 x k:=by kernel_rfl
theorem aAC (x:Unit) (k:Val Å→Option ρ) :
    ď (aq8 ρ) 44 (Ć [] x) (fun h v=>Â (Č [Å] h v) k)=aog k:=by kernel_rfl
theorem aOV (x:Val abH) (k:Bool→Option ρ) :
    ď (aIO ρ) 106 (Ć [l5,tI] x) (fun h v=>Â (Č [.bool] h v) k)=aK1 x.1 x.2 k:=by kernel_rfl
theorem aLf (x:Val tI) (k:Bool→Option ρ) :
    ď (aDR ρ) 107 (Ć [tI] x) (fun h v=>Â (Č [.bool] h v) k)=aDS x k:=by kernel_rfl
theorem aDM:(arB ρ).Ok (as0 ρ):=⟨by kernel_rfl,fun p v kn kx=>by kernel_rfl⟩
theorem aLd (x:Val abN) (k:(Val eI)→Option ρ) :
    ď (as0 ρ) 108 (Ć [tI,abr] x) (fun h v=>Â (Č [eI] h v) k)=aDN x.1 x.2 k:=by kernel_rfl
theorem aHf:(avn ρ).Ok (aqd ρ):=⟨by kernel_rfl,fun p v kn kx=>by kernel_rfl⟩
theorem aHe:(avm ρ).Ok (aqd ρ):=⟨by kernel_rfl,fun p v kn kx=>by kernel_rfl⟩
theorem aO7 (x:Val (.pair Å abv)) (k:Val ļ→Option ρ) :
    ď (aqd ρ) 45 (Ć [Å,tI,l5] x) (fun h v=>Â (Č [Ã,tI] h v) k)=aLr x.1 x.2.1 x.2.2 k:=by kernel_rfl
theorem avG (x:Val ab5) (k:Int→Option ρ) :
    ď (anF ρ) 92 (Ć [Ð,l5] x) (fun h v=>Â (Č [tI] h v) k)=akv x.1 x.2 k:=by kernel_rfl
theorem avs (x:Val κ) (k:Int→Option ρ) :
    ď (anx ρ) 39 (Ć [κ] x) (fun h v=>Â (Č [tI] h v) k)=akq x k:=by kernel_rfl
theorem ae6:(Α ρ).Ok (ŏ ρ):=⟨by kernel_rfl,fun p v kn kx=>by kernel_rfl⟩
theorem afF (x:Val (.pair f6 Ó)) (k:Int→Option ρ) :
    ď (ŏ ρ) 248 (Ć [f6,Ó] x) (fun h v=>Â (Č [tI] h v) k)=Ŧ x.1 x.2 k:=by kernel_rfl
theorem aeK (x:Val (.pair f6 Ó)) (k:Bool→Option ρ) :
    ď (Γ ρ) 216 (Ć [f6,Ó] x) (fun h v=>Â (Č [.bool] h v) k)=Ŋ x.1 x.2 k:=by kernel_rfl
theorem agt:(adr ρ).Ok (ŵ ρ):=⟨by kernel_rfl,fun p v kn kx=>by kernel_rfl⟩
theorem ahx (x:Val abY) (k:Int→Option ρ) :
    ď (ŵ ρ) 250 (Ć [eI,Ã] x) (fun h v=>Â (Č [tI] h v) k)=Ω x.1 x.2 k:=by kernel_rfl
theorem age (x:Val abY) (k:Bool→Option ρ) :
    ď (ads ρ) 219 (Ć [eI,Ã] x) (fun h v=>Â (Č [.bool] h v) k)=ũ x.1 x.2 k:=by kernel_rfl
theorem afE:(υ ρ).Ok (ť ρ):=⟨by kernel_rfl,fun p v kn kx=>by kernel_rfl⟩
theorem agv (x:Val (.pair m5 Ō)) (k:Int→Option ρ) :
    ď (ť ρ) 252 (Ć [m5,Ō] x) (fun h v=>Â (Č [tI] h v) k)=ŷ x.1 x.2 k:=by kernel_rfl
theorem afv (x:Val (.pair m5 Ō)) (k:Bool→Option ρ) :
    ď (ψ ρ) 222 (Ć [m5,Ō] x) (fun h v=>Â (Č [.bool] h v) k)=ř x.1 x.2 k:=by kernel_rfl
theorem aG5:(avc ρ).Ok (Η ρ):=⟨by kernel_rfl,fun p v kn kx=>by kernel_rfl⟩
theorem aG2:(au9 ρ).Ok (Η ρ):=⟨by kernel_rfl,fun p v kn kx=>by kernel_rfl⟩
theorem aG1:(au8 ρ).Ok (Η ρ):=⟨by kernel_rfl,fun p v kn kx=>by kernel_rfl⟩
theorem aG3:(ava ρ).Ok (Η ρ):=⟨by kernel_rfl,fun p v kn kx=>by kernel_rfl⟩
theorem aG4:(avb ρ).Ok (Η ρ):=⟨by kernel_rfl,fun p v kn kx=>by kernel_rfl⟩
theorem aG0:(au7 ρ).Ok (Η ρ):=⟨by kernel_rfl,fun p v kn kx=>by kernel_rfl⟩
theorem aGZ:(au6 ρ).Ok (Η ρ):=⟨by kernel_rfl,fun p v kn kx=>by kernel_rfl⟩
theorem aGY:(au5 ρ).Ok (Η ρ):=⟨by kernel_rfl,fun p v kn kx=>by kernel_rfl⟩
theorem aGX:(au4 ρ).Ok (Η ρ):=⟨by kernel_rfl,fun p v kn kx=>by kernel_rfl⟩
theorem aGW:(au3 ρ).Ok (Η ρ):=⟨by kernel_rfl,fun p v kn kx=>by kernel_rfl⟩
theorem aOW (x:Val (.pair Å Å)) (k:Bool→Option ρ) :
    ď (Η ρ) 109 (Ć [Å,Å] x) (fun h v=>Â (Č [.bool] h v) k)=aLc x.1 x.2 k:=by kernel_rfl
theorem aHd (x:Val (.pair Å κ)) (k:(Val abW)→Option ρ) :
    ď (azJ ρ) 46 (Ć [Å,κ] x) (fun h v=>Â (Č [.bool,tI] h v) k)=axV x.1 x.2 k:=by kernel_rfl
theorem aCN (x:Unit) (k:Bool→Option ρ) :
    ď (auu ρ) 11 (Ć [] x) (fun h v=>Â (Č [.bool] h v) k)=asF k:=by kernel_rfl
theorem aEg:(arP ρ).Ok (amy ρ):=⟨by kernel_rfl,fun p v kn kx=>by kernel_rfl⟩
theorem aEf:(arO ρ).Ok (amy ρ):=⟨by kernel_rfl,fun p v kn kx=>by kernel_rfl⟩
theorem aLA (x:Val Ð) (k:(Val abT)→Option ρ) :
    ď (amy ρ) 49 (Ć [Ð] x) (fun h v=>Â (Č [eI,tI] h v) k)=aEh x k:=by kernel_rfl
theorem as6:(ajM ρ).Ok (aiO ρ):=⟨by kernel_rfl,fun p v kn kx=>by kernel_rfl⟩
theorem axZ (x:Val Å) (k:(Val abT)→Option ρ) :
    ď (aiO ρ) 13 (Ć [Å] x) (fun h v=>Â (Č [eI,tI] h v) k)=amo x k:=by kernel_rfl
theorem aAE (x:Val í) (k:Bool→Option ρ) :
    ď (arc ρ) 94 (Ć [Ã,tI,tI] x) (fun h v=>Â (Č [.bool] h v) k)=aol x.1 x.2.1 x.2.2 k:=by kernel_rfl
theorem aRt (x:Val Ĉ) (k:Bool→Option ρ) :
    ď (aOH ρ) 164 (Ć [tI,tI,tI] x) (fun h v=>Â (Č [.bool] h v) k)=aRu x.1 x.2.1 x.2.2 k:=by kernel_rfl
theorem aOK (x:Val tI) (k:Bool→Option ρ) :
    ď (aII ρ) 100 (Ć [tI] x) (fun h v=>Â (Č [.bool] h v) k)=aKL x k:=by kernel_rfl
theorem aGR:(auU ρ).Ok (axJ ρ):=⟨by kernel_rfl,fun p v kn kx=>by kernel_rfl⟩
theorem aOR (x:Val Ã) (k:Int→Option ρ) :
    ď (axJ ρ) 209 (Ć [tI,tI] x) (fun h v=>Â (Č [tI] h v) k)=aKW x.1 x.2 k:=by kernel_rfl
theorem aOU (x:Val tI) (k:Int→Option ρ) :
    ď (aIN ρ) 210 (Ć [tI] x) (fun h v=>Â (Č [tI] h v) k)=aK0 x k:=by kernel_rfl
theorem aGP (x:Val Ã) (k:Bool→Option ρ) :
    ď (azt ρ) 163 (Ć [Ã] x) (fun h v=>Â (Č [.bool] h v) k)=axH x k:=by kernel_rfl
theorem aGt (x:Val Ó) (k:Bool→Option ρ) :
    ď (azn ρ) 95 (Ć [Ó] x) (fun h v=>Â (Č [.bool] h v) k)=axy x k:=by kernel_rfl
theorem aDo:(aru ρ).Ok (asS ρ):=⟨by kernel_rfl,fun p v kn kx=>by kernel_rfl⟩
theorem aKJ (x:Val abI) (k:Int→Option ρ) :
    ď (asS ρ) 166 (Ć [Å,tI] x) (fun h v=>Â (Č [tI] h v) k)=aDp x.1 x.2 k:=by kernel_rfl
theorem aGB (x:Val abE) (k:Int→Option ρ) :
    ď (azp ρ) 101 (Ć [Å,tI,tI] x) (fun h v=>Â (Č [tI] h v) k)=axA x.1 x.2.1 x.2.2 k:=by kernel_rfl
theorem aCR:(arb ρ).Ok (asH ρ):=⟨by kernel_rfl,fun p v kn kx=>by kernel_rfl⟩
theorem aKm (x:Val Å) (k:Int→Option ρ) :
    ď (asH ρ) 96 (Ć [Å] x) (fun h v=>Â (Č [tI] h v) k)=aCS x k:=by kernel_rfl
theorem aAG:(aon ρ).Ok (ag9 ρ):=⟨by kernel_rfl,fun p v kn kx=>by kernel_rfl⟩
theorem aAF:(aom ρ).Ok (ag9 ρ):=⟨by kernel_rfl,fun p v kn kx=>by kernel_rfl⟩
theorem aAH:(aoo ρ).Ok (ag9 ρ):=⟨by kernel_rfl,fun p v kn kx=>by kernel_rfl⟩
theorem aGr (x:Val Å) (k:Int→Option ρ) :
    ď (ag9 ρ) 97 (Ć [Å] x) (fun h v=>Â (Č [tI] h v) k)=axw x k:=by kernel_rfl
theorem aC5:(arn ρ).Ok (asN ρ):=⟨by kernel_rfl,fun p v kn kx=>by kernel_rfl⟩
theorem aKA (x:Val l5) (k:Bool→Option ρ) :
    ď (asN ρ) 165 (Ć [l5] x) (fun h v=>Â (Č [.bool] h v) k)=aC6 x k:=by kernel_rfl
theorem aGq (x:Val Í) (k:Bool→Option ρ) :
    ď (azk ρ) 98 (Ć [Í] x) (fun h v=>Â (Č [.bool] h v) k)=axv x k:=by kernel_rfl
theorem aDh:(arq ρ).Ok (asP ρ):=⟨by kernel_rfl,fun p v kn kx=>by kernel_rfl⟩
theorem aKE (x:Val abE) (k:(Val ab3)→Option ρ) :
    ď (asP ρ) 167 (Ć [Å,tI,tI] x) (fun h v=>Â (Č [Ō,.bool] h v) k)=aDi x.1 x.2.1 x.2.2 k:=by kernel_rfl
theorem aGI:(auO ρ).Ok (axD ρ):=⟨by kernel_rfl,fun p v kn kx=>by kernel_rfl⟩
theorem aOI (x:Val abH) (k:Bool→Option ρ) :
    ď (axD ρ) 211 (Ć [l5,tI] x) (fun h v=>Â (Č [.bool] h v) k)=aKI x.1 x.2 k:=by kernel_rfl
theorem aDj:(ars ρ).Ok (asQ ρ):=⟨by kernel_rfl,fun p v kn kx=>by kernel_rfl⟩
theorem aKF (x:Val ab2) (k:(Val l5)→Option ρ) :
    ď (asQ ρ) 168 (Ć [l5,l5] x) (fun h v=>Â (Č [l5] h v) k)=aDk x.1 x.2 k:=by kernel_rfl
theorem asK:(ajt ρ).Ok (aeb ρ):=⟨by kernel_rfl,fun p v kn kx=>by kernel_rfl⟩
theorem asJ:(ajs ρ).Ok (aeb ρ):=⟨by kernel_rfl,fun p v kn kx=>by kernel_rfl⟩
theorem asI:(ajr ρ).Ok (aeb ρ):=⟨by kernel_rfl,fun p v kn kx=>by kernel_rfl⟩
theorem axz (x:Val abC) (k:Int→Option ρ) :
    ď (aeb ρ) 99 (Ć [Å,Í] x) (fun h v=>Â (Č [tI] h v) k)=al8 x.1 x.2 k:=by kernel_rfl
theorem aOx (x:Val ab2) (k:Int→Option ρ) :
    ď (aIH ρ) 158 (Ć [l5,l5] x) (fun h v=>Â (Č [tI] h v) k)=aKo x.1 x.2 k:=by kernel_rfl
theorem aCY:(ark ρ).Ok (al9 ρ):=⟨by kernel_rfl,fun p v kn kx=>by kernel_rfl⟩
theorem aCX:(arj ρ).Ok (al9 ρ):=⟨by kernel_rfl,fun p v kn kx=>by kernel_rfl⟩
theorem aKs (x:Val (.pair Å (.pair Ó tI))) (k:Bool→Option ρ) :
    ď (al9 ρ) 169 (Ć [Å,Ó,tI] x) (fun h v=>Â (Č [.bool] h v) k)=aCZ x.1 x.2.1 x.2.2 k:=by kernel_rfl
theorem aAO:(aov ρ).Ok (adt ρ):=⟨by kernel_rfl,fun p v kn kx=>by kernel_rfl⟩
theorem aAN:(aou ρ).Ok (adt ρ):=⟨by kernel_rfl,fun p v kn kx=>by kernel_rfl⟩
theorem aAM:(aot ρ).Ok (adt ρ):=⟨by kernel_rfl,fun p v kn kx=>by kernel_rfl⟩
theorem aAJ:(aoq ρ).Ok (adt ρ):=⟨by kernel_rfl,fun p v kn kx=>by kernel_rfl⟩
theorem aAK:(aor ρ).Ok (adt ρ):=⟨by kernel_rfl,fun p v kn kx=>by kernel_rfl⟩
theorem aAL:(aos ρ).Ok (adt ρ):=⟨by kernel_rfl,fun p v kn kx=>by kernel_rfl⟩
theorem aGD (x:Val Å) (k:(Val eI)→Option ρ) :
    ď (adt ρ) 102 (Ć [Å] x) (fun h v=>Â (Č [eI] h v) k)=axB x k:=by kernel_rfl
theorem aAP:(aow ρ).Ok (aox ρ):=⟨by kernel_rfl,fun p v kn kx=>by kernel_rfl⟩
theorem aGH (x:Val abE) (k:Int→Option ρ) :
    ď (aox ρ) 52 (Ć [Å,Ã] x) (fun h v=>Â (Č [tI] h v) k)=axC x.1 x.2 k:=by kernel_rfl
theorem aC0:(arl ρ).Ok (asL ρ):=⟨by kernel_rfl,fun p v kn kx=>by kernel_rfl⟩
theorem aKt (x:Val abE) (k:Bool→Option ρ) :
    ď (asL ρ) 212 (Ć [Å,tI,tI] x) (fun h v=>Â (Č [.bool] h v) k)=aC1 x.1 x.2.1 x.2.2 k:=by kernel_rfl
theorem aDd:(arp ρ).Ok (asO ρ):=⟨by kernel_rfl,fun p v kn kx=>by kernel_rfl⟩
theorem aKC (x:Val (.pair Å Ĉ)) (k:Int→Option ρ) :
    ď (asO ρ) 170 (Ć [Å,tI,tI,tI] x) (fun h v=>Â (Č [tI] h v) k)=aDe x.1 x.2.1 x.2.2.1 x.2.2.2 k:=by kernel_rfl
theorem aDC (x:Val Ã) (k:Val ļ→Option ρ) :
    ď (auR ρ) 285 (Ć [tI,tI] x) (fun h v=>Â (Č [ļ] h v) k)=asT x.1 x.2 k:=by kernel_rfl
theorem aOT (x:Val í) (k:Val ļ→Option ρ) :
    ď (aIM ρ) 268 (Ć [Ã,Ã] x) (fun h v=>Â (Č [ļ] h v) k)=aKZ x.1 x.2 k:=by kernel_rfl
theorem aOP (x:Val Ã) (k:Val Ã→Option ρ) :
    ď (aIK ρ) 269 (Ć [Ã] x) (fun h v=>Â (Č [Ã] h v) k)=aKT x k:=by kernel_rfl
theorem aOO (x:Val í) (k:Val ļ→Option ρ) :
    ď (aIJ ρ) 242 (Ć [Ã,Ã] x) (fun h v=>Â (Č [ļ] h v) k)=aKR x.1 x.2 k:=by kernel_rfl
theorem aGs (x:Val abI) (k:Val Ã→Option ρ) :
    ď (azm ρ) 243 (Ć [Å,tI] x) (fun h v=>Â (Č [Ã] h v) k)=axx x.1 x.2 k:=by kernel_rfl
theorem aKP (x:Val (.pair ļ ļ)) (k:Val akL→Option ρ) :
    ď (aDF ρ) 270 (Ć [ļ,ļ] x) (fun h v=>Â (Č [akL] h v) k)=aDG x.1 x.2 k:=by kernel_rfl
theorem aOQ (x:Val í) (k:Val ļ→Option ρ) :
    ď (aIL ρ) 271 (Ć [Ã,Ã] x) (fun h v=>Â (Č [ļ] h v) k)=aKU x.1 x.2 k:=by kernel_rfl
theorem aGQ (x:Val (.pair í Ã)) (k:Val akL→Option ρ) :
    ď (azv ρ) 244 (Ć [í,Ã] x) (fun h v=>Â (Č [akL] h v) k)=axI x.1 x.2 k:=by kernel_rfl
theorem aDn (x:Val abC) (k:Val í→Option ρ) :
    ď (auP ρ) 205 (Ć [Å,Í] x) (fun h v=>Â (Č [í] h v) k)=asR x.1 x.2 k:=by kernel_rfl
theorem aGL (x:Val abC) (k:Val Ã→Option ρ) :
    ď (azr ρ) 206 (Ć [Å,Í] x) (fun h v=>Â (Č [Ã] h v) k)=axE x.1 x.2 k:=by kernel_rfl
theorem aRx (x:Val Ã) (k:Int→Option ρ) :
    ď (aOL ρ) 245 (Ć [tI,tI] x) (fun h v=>Â (Č [tI] h v) k)=aRy x.1 x.2 k:=by kernel_rfl
theorem aKY (x:Val Ã) (k:Int→Option ρ) :
    ď (aDH ρ) 207 (Ć [Ã] x) (fun h v=>Â (Č [tI] h v) k)=aDI x k:=by kernel_rfl
theorem aKO (x:Val Ã) (k:Int→Option ρ) :
    ď (aDD ρ) 246 (Ć [tI,tI] x) (fun h v=>Â (Č [tI] h v) k)=aDE x.1 x.2 k:=by kernel_rfl
theorem aGS (x:Val Ã) (k:Int→Option ρ) :
    ď (azz ρ) 208 (Ć [Ã] x) (fun h v=>Â (Č [tI] h v) k)=axK x k:=by kernel_rfl
theorem aKz (x:Val abC) (k:Val Ã→Option ρ) :
    ď (aC3 ρ) 171 (Ć [Å,Í] x) (fun h v=>Â (Č [Ã] h v) k)=aC4 x.1 x.2 k:=by kernel_rfl
theorem aGy:(auF ρ).Ok (ak4 ρ):=⟨by kernel_rfl,fun p v kn kx=>by kernel_rfl⟩
theorem aGz:(auG ρ).Ok (ak4 ρ):=⟨by kernel_rfl,fun p v kn kx=>by kernel_rfl⟩
theorem aGx:(auE ρ).Ok (ak4 ρ):=⟨by kernel_rfl,fun p v kn kx=>by kernel_rfl⟩
theorem aOA (x:Val Å) (k:Val ank→Option ρ) :
    ď (ak4 ρ) 103 (Ć [Å] x) (fun h v=>Â (Č [ank] h v) k)=aKx x k:=by kernel_rfl
theorem aAT:(aoC ρ).Ok (afl ρ):=⟨by kernel_rfl,fun p v kn kx=>by kernel_rfl⟩
theorem aAR:(aoA ρ).Ok (afl ρ):=⟨by kernel_rfl,fun p v kn kx=>by kernel_rfl⟩
theorem aAS:(aoB ρ).Ok (afl ρ):=⟨by kernel_rfl,fun p v kn kx=>by kernel_rfl⟩
theorem aAQ:(aoz ρ).Ok (afl ρ):=⟨by kernel_rfl,fun p v kn kx=>by kernel_rfl⟩
theorem aGM (x:Val Å) (k:Int→Option ρ) :
    ď (afl ρ) 41 (Ć [Å] x) (fun h v=>Â (Č [tI] h v) k)=axF x k:=by kernel_rfl
theorem aC2 (x:Val Å) (k:Val Ð→Option ρ) :
    ď (auH ρ) 43 (Ć [Å] x) (fun h v=>Â (Č [Ð] h v) k)=asM x k:=by kernel_rfl
theorem aKD (x:Val abE) (k:(Val abI)→Option ρ) :
    ď (aDf ρ) 53 (Ć [Å,Ã] x) (fun h v=>Â (Č [Å,tI] h v) k)=aDg x.1 x.2 k:=by kernel_rfl
theorem aAZ:(aoI ρ).Ok (Τ ρ):=⟨by kernel_rfl,fun p v kn kx=>by kernel_rfl⟩
theorem aA0:(aoJ ρ).Ok (Τ ρ):=⟨by kernel_rfl,fun p v kn kx=>by kernel_rfl⟩
theorem aAY:(aoH ρ).Ok (Τ ρ):=⟨by kernel_rfl,fun p v kn kx=>by kernel_rfl⟩
theorem aAV:(aoE ρ).Ok (Τ ρ):=⟨by kernel_rfl,fun p v kn kx=>by kernel_rfl⟩
theorem aAW:(aoF ρ).Ok (Τ ρ):=⟨by kernel_rfl,fun p v kn kx=>by kernel_rfl⟩
theorem aAU:(aoD ρ).Ok (Τ ρ):=⟨by kernel_rfl,fun p v kn kx=>by kernel_rfl⟩
theorem aAX:(aoG ρ).Ok (Τ ρ):=⟨by kernel_rfl,fun p v kn kx=>by kernel_rfl⟩
theorem aGN (x:Val Ð) (k:(Val (.pair abr .bool))→Option ρ) :
    ď (Τ ρ) 54 (Ć [Ð] x) (fun h v=>Â (Č [abr,.bool] h v) k)=axG x k:=by kernel_rfl
theorem aCP:(ara ρ).Ok (asG ρ):=⟨by kernel_rfl,fun p v kn kx=>by kernel_rfl⟩
theorem aKl (x:Val (.pair Å eI)) (k:Val Ų→Option ρ) :
    ď (asG ρ) 15 (Ć [Å,eI] x) (fun h v=>Â (Č [Ų] h v) k)=aCQ x.1 x.2 k:=by kernel_rfl
theorem al6 (x:Val (.pair Ų tI)) (k:Val Ã→Option ρ) :
    ď (ag7 ρ) 16 (Ć [Ų,tI] x) (fun h v=>Â (Č [Ã] h v) k)=ae8 x.1 x.2 k:=by kernel_rfl
theorem axu (x:Val (.pair Ų Ã)) (k:Int→Option ρ) :
    ď (aok ρ) 17 (Ć [Ų,Ã] x) (fun h v=>Â (Č [tI] h v) k)=al7 x.1 x.2 k:=by kernel_rfl
theorem anS (x:Val (.pair Ų Ã)) (k:Val Ã→Option ρ) :
    ď (ahG ρ) 18 (Ć [Ų,tI,tI] x) (fun h v=>Â (Č [Ã] h v) k)=afK x.1 x.2.1 x.2.2 k:=by kernel_rfl
theorem aki:(afj ρ).Ok (aea ρ):=⟨by kernel_rfl,fun p v kn kx=>by kernel_rfl⟩
theorem al1 (x:Val ab1) (k:Bool→Option ρ) :
    ď (aea ρ) 3 (Ć [Å,Ã,Ã] x) (fun h v=>Â (Č [.bool] h v) k)=ae4 x.1 x.2.1 x.2.2 k:=by kernel_rfl
end Go.Proofs.ZzM
end

noncomputable section
variable {ρ:Type}
set_option maxRecDepth 100000
namespace Go.Proofs.ZzM
open Go Go.Am
theorem ak1:(afI ρ).Ok (adf ρ):=⟨by kernel_rfl,fun p v kn kx=>by kernel_rfl⟩
theorem ak0:(afH ρ).Ok (adf ρ):=⟨by kernel_rfl,fun p v kn kx=>by kernel_rfl⟩
theorem anQ (x:Val abr) (k:(Val l5)→Option ρ) :
    ď (adf ρ) 81 (Ć [abr] x) (fun h v=>Â (Č [l5] h v) k)=ad5 x k:=by kernel_rfl
theorem aLl:(azH ρ).Ok (Ÿ ρ):=⟨by kernel_rfl,fun p v kn kx=>by kernel_rfl⟩
theorem aLm:(azI ρ).Ok (Ÿ ρ):=⟨by kernel_rfl,fun p v kn kx=>by kernel_rfl⟩
theorem aLk:(azG ρ).Ok (Ÿ ρ):=⟨by kernel_rfl,fun p v kn kx=>by kernel_rfl⟩
theorem aLj:(ajL ρ).Ok (Ÿ ρ):=⟨by kernel_rfl,fun p v kn kx=>by kernel_rfl⟩
theorem aLi:(ajK ρ).Ok (Ÿ ρ):=⟨by kernel_rfl,fun p v kn kx=>by kernel_rfl⟩
theorem aLh:(ajJ ρ).Ok (Ÿ ρ):=⟨by kernel_rfl,fun p v kn kx=>by kernel_rfl⟩
theorem aRI (x:Val (.pair Å (.pair eI eI))) (kA:Val abS→Val abp→Option ρ):goC (Ÿ ρ) (aeS (Ÿ ρ) 10) 62 [] 0 0 (preC 7 Ģ) {t:=Ć [Å,eI,eI] x++List.replicate 127 .any,h:=[]} (matK ak7 0 adX agC kA)=avg x.1 x.2.1 x.2.2 kA:=by kernel_rfl
theorem aU0 (p:Val abS) (v:Val abp) (x:Val Ó) (kk:Val abS→Val (.pair tI (.pair tI (.pair f6 (.pair eI (.pair m5 (.pair eW (.pair eI (.pair tI (.pair tI (.pair f6 (.pair eI (.pair m5 (.pair eW (.pair eI (.pair tI (.pair tI (.pair f6 (.pair eI (.pair m5 (.pair eW (.pair eI (.pair abq (.pair abq (.pair f6 aBC))))))))))))))))))))))))→Option ρ):goC (Ğ ρ) (aeS (Ğ ρ) 10) 62 [] 9 4 (rfA (rfC 7 Ģ)) {t:=upd (ad8 ak7 adX agC p v).t 60 (.agg (flat Ó x)),h:=(ad8 ak7 adX agC p v).h} (matK aDU 9 adX aqb kk)=kk p (as2 v x):=by kernel_rfl
theorem aUZ (p:Val abS) (v:Val abp) (x:Val Ó) (kk:Val abS→Val abp→Option ρ):goC (Ğ ρ) (aeS (Ğ ρ) 10) 62 [] 9 4 (rfB (rfC 7 Ģ)) (ad8 aDU adX aqb p (as2 v x)) (matK ak7 9 adX agC kk)=ï (ì ((List.length (amj v))+(List.length [x]))) (kk p (ġ v (amj v++[x]))):=by kernel_rfl
theorem aOZ (p:Val abS) (v:Val abp) (k:Val abo→Option ρ):goC (Ğ ρ) (aeS (Ğ ρ) 10) 62 [] 0 0 (postC 7 Ģ) (ad8 ak7 adX agC p v) (matR aiM 0 aer k)=ahd p v (fun y=>k (afm y)):=by kernel_rfl
theorem aRH (y:Val Å):aiy Tryz.prog Tryz.f62 (ad8 aiM [] aer () (afm y))=some (enc Å y):=by kernel_rfl
theorem aUY:rfC 7 Ģ=Code.block 4 (Code.rangeFunc (.tmp 59) #[60] (rfA (rfC 7 Ģ)) (rfB (rfC 7 Ģ))):=by kernel_rfl
theorem avf:aJI 7 Ģ=true:=by kernel_rfl
theorem ajI:Tryz.f62.body=some Ģ:=by kernel_rfl
theorem aHb:(ajL ρ).Ok (Ğ ρ):=⟨by kernel_rfl,fun p v kn kx=>by kernel_rfl⟩
theorem aHa:(ajK ρ).Ok (Ğ ρ):=⟨by kernel_rfl,fun p v kn kx=>by kernel_rfl⟩
theorem aG9:(ajJ ρ).Ok (Ğ ρ):=⟨by kernel_rfl,fun p v kn kx=>by kernel_rfl⟩
theorem aHO (x:Val í) (k:Bool→Option ρ) :
    ď (az3 ρ) 131 (Ć [Ã,tI,tI] x) (fun h v=>Â (Č [.bool] h v) k)=ayq x.1 x.2.1 x.2.2 k:=by kernel_rfl
theorem aHA (x:Val Ĉ) (k:Bool→Option ρ) :
    ď (azY ρ) 227 (Ć [tI,tI,tI] x) (fun h v=>Â (Č [.bool] h v) k)=ayk x.1 x.2.1 x.2.2 k:=by kernel_rfl
theorem aL3 (x:Val tI) (k:Bool→Option ρ) :
    ď (aEW ρ) 189 (Ć [tI] x) (fun h v=>Â (Č [.bool] h v) k)=aEX x k:=by kernel_rfl
theorem aPk (x:Val tI) (k:Int→Option ρ) :
    ď (aIU ρ) 258 (Ć [tI] x) (fun h v=>Â (Č [(.int .u64)] h v) k)=aLG x k:=by kernel_rfl
theorem aLH:(azU ρ).Ok (aEA ρ):=⟨by kernel_rfl,fun p v kn kx=>by kernel_rfl⟩
theorem aRS (x:Val ab4) (k:Int→Option ρ) :
    ď (aEA ρ) 259 (Ć [(.int .u64),(.int .u64)] x) (fun h v=>Â (Č [(.int .u64)] h v) k)=aRT x.1 x.2 k:=by kernel_rfl
theorem aLJ (x:Val Ã) (k:Bool→Option ρ) :
    ď (aED ρ) 226 (Ć [Ã] x) (fun h v=>Â (Č [.bool] h v) k)=aEE x k:=by kernel_rfl
theorem aEV (x:Val Ó) (k:Bool→Option ρ) :
    ď (av3 ρ) 187 (Ć [Ó] x) (fun h v=>Â (Č [.bool] h v) k)=ati x k:=by kernel_rfl
theorem apl:(ahJ ρ).Ok (agD ρ):=⟨by kernel_rfl,fun p v kn kx=>by kernel_rfl⟩
theorem atl (x:Val Å) (k:Int→Option ρ) :
    ď (agD ρ) 132 (Ć [Å] x) (fun h v=>Â (Č [tI] h v) k)=aiR x k:=by kernel_rfl
theorem ayl:(anI ρ).Ok (amA ρ):=⟨by kernel_rfl,fun p v kn kx=>by kernel_rfl⟩
theorem aEO (x:Val Å) (k:(Val abu)→Option ρ) :
    ď (amA ρ) 133 (Ć [Å] x) (fun h v=>Â (Č [abu] h v) k)=atf x k:=by kernel_rfl
theorem al2:(agi ρ).Ok (ae5 ρ):=⟨by kernel_rfl,fun p v kn kx=>by kernel_rfl⟩
theorem aoh (x:Val abH) (k:Int→Option ρ) :
    ď (ae5 ρ) 78 (Ć [l5,tI] x) (fun h v=>Â (Č [tI] h v) k)=ags x.1 x.2 k:=by kernel_rfl
theorem akZ (x:Val abH) (k:Bool→Option ρ) :
    ď (agj ρ) 121 (Ć [l5,tI] x) (fun h v=>Â (Č [.bool] h v) k)=aeC x.1 x.2 k:=by kernel_rfl
theorem aHR:(av7 ρ).Ok (aqi ρ):=⟨by kernel_rfl,fun p v kn kx=>by kernel_rfl⟩
theorem aHQ:(av6 ρ).Ok (aqi ρ):=⟨by kernel_rfl,fun p v kn kx=>by kernel_rfl⟩
theorem aPD (x:Val (.pair Å Ó)) (k:(Val l5)→Option ρ) :
    ď (aqi ρ) 194 (Ć [Å,Ó] x) (fun h v=>Â (Č [l5] h v) k)=aL9 x.1 x.2 k:=by kernel_rfl
theorem aEQ:(ar1 ρ).Ok (amD ρ):=⟨by kernel_rfl,fun p v kn kx=>by kernel_rfl⟩
theorem aER:(ar2 ρ).Ok (amD ρ):=⟨by kernel_rfl,fun p v kn kx=>by kernel_rfl⟩
theorem aLR (x:Val Å) (k:(Val eI)→Option ρ) :
    ď (amD ρ) 135 (Ć [Å] x) (fun h v=>Â (Č [eI] h v) k)=aES x k:=by kernel_rfl
theorem avT (x:Val (.pair abu Ã)) (k:Int→Option ρ) :
    ď (anJ ρ) 190 (Ć [abu,tI,tI] x) (fun h v=>Â (Č [tI] h v) k)=aky x.1 x.2.1 x.2.2 k:=by kernel_rfl
theorem aEP (x:Val (.pair tI (.pair tI (.ptr abu)))) (k:Int→Option ρ) :
    ď (avU ρ) 188 (Ć [tI,tI,(.ptr abu)] x) (fun h v=>Â (Č [tI] h v) k)=ath x.1 x.2.1 x.2.2 k:=by kernel_rfl
theorem atk:(aj6 ρ).Ok (afV ρ):=⟨by kernel_rfl,fun p v kn kx=>by kernel_rfl⟩
theorem atj:(aj3 ρ).Ok (afV ρ):=⟨by kernel_rfl,fun p v kn kx=>by kernel_rfl⟩
theorem ays (x:Val ab7) (k:Int→Option ρ) :
    ď (afV ρ) 192 (Ć [Å,abu,tI] x) (fun h v=>Â (Č [tI] h v) k)=amM x.1 x.2.1 x.2.2 k:=by kernel_rfl
theorem aHL:(av2 ρ).Ok (aqh ρ):=⟨by kernel_rfl,fun p v kn kx=>by kernel_rfl⟩
theorem aHK:(av1 ρ).Ok (aqh ρ):=⟨by kernel_rfl,fun p v kn kx=>by kernel_rfl⟩
theorem aPA (x:Val ab2) (k:(Val l5)→Option ρ) :
    ď (aqh ρ) 199 (Ć [l5,l5] x) (fun h v=>Â (Č [l5] h v) k)=aL1 x.1 x.2 k:=by kernel_rfl
theorem aBq:(aph ρ).Ok (apj ρ):=⟨by kernel_rfl,fun p v kn kx=>by kernel_rfl⟩
theorem aHM (x:Val l5) (k:Bool→Option ρ) :
    ď (apj ρ) 204 (Ć [l5] x) (fun h v=>Â (Č [.bool] h v) k)=ayp x k:=by kernel_rfl
theorem aHS:(awb ρ).Ok (ayt ρ):=⟨by kernel_rfl,fun p v kn kx=>by kernel_rfl⟩
theorem aPE (x:Val abE) (k:(Val ab3)→Option ρ) :
    ď (ayt ρ) 231 (Ć [Å,tI,tI] x) (fun h v=>Â (Č [Ō,.bool] h v) k)=aMb x.1 x.2.1 x.2.2 k:=by kernel_rfl
theorem anW:(ahh ρ).Ok (š ρ):=⟨by kernel_rfl,fun p v kn kx=>by kernel_rfl⟩
theorem anU:(ahf ρ).Ok (š ρ):=⟨by kernel_rfl,fun p v kn kx=>by kernel_rfl⟩
theorem anV:(ahg ρ).Ok (š ρ):=⟨by kernel_rfl,fun p v kn kx=>by kernel_rfl⟩
theorem anT:(ahe ρ).Ok (š ρ):=⟨by kernel_rfl,fun p v kn kx=>by kernel_rfl⟩
theorem aqV (x:Val ab7) (k:Int→Option ρ) :
    ď (š ρ) 193 (Ć [Å,abu,tI] x) (fun h v=>Â (Č [tI] h v) k)=ahC x.1 x.2.1 x.2.2 k:=by kernel_rfl
end Go.Proofs.ZzM
end
