/- lemmas -/
import Derived.Test.YthhhehllmdfhiaaGreatMdMA
set_option linter.all false
set_option linter.unusedSectionVars false
set_option linter.unusedVariables false
set_option linter.unusedSimpArgs false
noncomputable section
variable {ρ:Type}
set_option maxRecDepth 100000
namespace Go.Proofs.ZzM
open Go Go.Am
theorem aGb (x:Val Ê) (k:Bool→Option ρ) :
    ă (ay7 ρ) 29 (ý [Ê] x) (fun h v=>Â (Ă [.bool] h v) k)=aw8 x k:=by kernel_rfl
theorem aGa:(aub ρ).Ok (aw7 ρ):=⟨by kernel_rfl,fun p v kn kx=>by kernel_rfl⟩
theorem aOu (x:Val Ä) (k:Bool→Option ρ) :
    ă (aw7 ρ) 13 (ý [Ä] x) (fun h v=>Â (Ă [.bool] h v) k)=aKl x k:=by kernel_rfl
theorem aHF:(avL ρ).Ok (apM ρ):=⟨by kernel_rfl,fun p v kn kx=>by kernel_rfl⟩
theorem aHE:(avK ρ).Ok (apM ρ):=⟨by kernel_rfl,fun p v kn kx=>by kernel_rfl⟩
theorem aPA (x:Val (.pair Ä (.pair Ð Ã))) (k:Int→Option ρ) :
    ă (apM ρ) 54 (ý [Ä,Ð,tI,tI] x) (fun h v=>Â (Ă [tI] h v) k)=aL4 x.1 x.2.1 x.2.2.1 x.2.2.2 k:=by kernel_rfl
theorem afj:(Τ ρ).Ok (Ŕ ρ):=⟨by kernel_rfl,fun p v kn kx=>by kernel_rfl⟩
theorem afY (x:Val ab1) (k:Int→Option ρ) :
    ă (Ŕ ρ) 130 (ý [eI,Ã] x) (fun h v=>Â (Ă [tI] h v) k)=ū x.1 x.2 k:=by kernel_rfl
theorem aA5 (x:Val (.pair abY abI)) (k:Int→Option ρ) :
    ă (arJ ρ) 87 (ý [abY,m5,tI] x) (fun h v=>Â (Ă [tI] h v) k)=aoM x.1 x.2.1 x.2.2 k:=by kernel_rfl
theorem aqt (x:Val (.pair abu m5)) (k:Val Ã→Option ρ) :
    ă (ajA ρ) 224 (ý [abu,m5] x) (fun h v=>Â (Ă [Ã] h v) k)=ag5 x.1 x.2 k:=by kernel_rfl
theorem aEh:(arE ρ).Ok (asV ρ):=⟨by kernel_rfl,fun p v kn kx=>by kernel_rfl⟩
theorem aLL (x:Val eI) (k:Int→Option ρ) :
    ă (asV ρ) 227 (ý [eI] x) (fun h v=>Â (Ă [tI] h v) k)=aEi x k:=by kernel_rfl
theorem aEj (x:Val Ã) (k:Val į→Option ρ) :
    ă (avw ρ) 277 (ý [tI,tI] x) (fun h v=>Â (Ă [Ã,tI] h v) k)=asW x.1 x.2 k:=by kernel_rfl
theorem aRX (x:Val å) (k:Val į→Option ρ) :
    ă (aPq ρ) 262 (ý [Ã,Ã] x) (fun h v=>Â (Ă [Ã,tI] h v) k)=aRY x.1 x.2 k:=by kernel_rfl
theorem ax8 (x:Val å) (k:Val Ã→Option ρ) :
    ă (aoK ρ) 225 (ý [Ã,Ã] x) (fun h v=>Â (Ă [Ã] h v) k)=al6 x.1 x.2 k:=by kernel_rfl
theorem aRV (x:Val å) (k:Int→Option ρ) :
    ă (aPo ρ) 287 (ý [Ã,Ã] x) (fun h v=>Â (Ă [tI] h v) k)=aRW x.1 x.2 k:=by kernel_rfl
theorem avA (x:Val å) (k:Bool→Option ρ) :
    ă (ane ρ) 278 (ý [å] x) (fun h v=>Â (Ă [.bool] h v) k)=aka x k:=by kernel_rfl
theorem aRZ (x:Val å) (k:Val į→Option ρ) :
    ă (aPs ρ) 281 (ý [Ã,Ã] x) (fun h v=>Â (Ă [Ã,tI] h v) k)=aR0 x.1 x.2 k:=by kernel_rfl
theorem aLQ (x:Val (.pair å Ã)) (k:Val ako→Option ρ) :
    ă (asX ρ) 263 (ý [å,Ã] x) (fun h v=>Â (Ă [å,tI] h v) k)=aEr x.1 x.2 k:=by kernel_rfl
theorem ax7 (x:Val å) (k:Val å→Option ρ) :
    ă (aoJ ρ) 226 (ý [Ã,Ã] x) (fun h v=>Â (Ă [å] h v) k)=al5 x.1 x.2 k:=by kernel_rfl
theorem aHL (x:Val abC) (k:Val å→Option ρ) :
    ă (azU ρ) 171 (ý [Ä,Ê] x) (fun h v=>Â (Ă [å] h v) k)=ayb x.1 x.2 k:=by kernel_rfl
theorem aMc (x:Val abC) (k:Val Ã→Option ρ) :
    ă (aEJ ρ) 172 (ý [Ä,Ê] x) (fun h v=>Â (Ă [Ã] h v) k)=aEK x.1 x.2 k:=by kernel_rfl
theorem aLO (x:Val Ã) (k:Int→Option ρ) :
    ă (aEm ρ) 228 (ý [tI,tI] x) (fun h v=>Â (Ă [tI] h v) k)=avy x.1 x.2 k:=by kernel_rfl
theorem aPu (x:Val Ã) (k:Val Ã→Option ρ) :
    ă (aIZ ρ) 173 (ý [Ã] x) (fun h v=>Â (Ă [tI,tI] h v) k)=aLS x k:=by kernel_rfl
theorem aLR (x:Val Ã) (k:Val Ã→Option ρ) :
    ă (aEt ρ) 174 (ý [Ã] x) (fun h v=>Â (Ă [tI,tI] h v) k)=aEu x k:=by kernel_rfl
theorem aPx (x:Val abC) (k:Val Ã→Option ρ) :
    ă (aI0 ρ) 200 (ý [Ä,Ê] x) (fun h v=>Â (Ă [Ã] h v) k)=aLW x.1 x.2 k:=by kernel_rfl
theorem aHC:(avI ρ).Ok (ak3 ρ):=⟨by kernel_rfl,fun p v kn kx=>by kernel_rfl⟩
theorem aHD:(avJ ρ).Ok (ak3 ρ):=⟨by kernel_rfl,fun p v kn kx=>by kernel_rfl⟩
theorem aHB:(avH ρ).Ok (ak3 ρ):=⟨by kernel_rfl,fun p v kn kx=>by kernel_rfl⟩
theorem aPz (x:Val Ä) (k:(Val abY)→Option ρ) :
    ă (ak3 ρ) 62 (ý [Ä] x) (fun h v=>Â (Ă [abY] h v) k)=aL1 x k:=by kernel_rfl
theorem aHQ (x:Val Ä) (k:(Val (.pair Í (.pair eI tI)))→Option ρ) :
    ă (azY ρ) 20 (ý [Ä] x) (fun h v=>Â (Ă [Í,eI,tI] h v) k)=ayf x k:=by kernel_rfl
theorem aMo (x:Val abH) (k:Val Ã→Option ρ) :
    ă (aEM ρ) 60 (ý [Ä,Ã] x) (fun h v=>Â (Ă [tI,tI] h v) k)=aEN x.1 x.2 k:=by kernel_rfl
theorem aDx (x:Val abU) (k:Int→Option ρ) :
    ă (auP ρ) 55 (ý [abx,Ã] x) (fun h v=>Â (Ă [tI] h v) k)=asJ x.1 x.2 k:=by kernel_rfl
theorem aPd (x:Val (.pair Í tI)) (k:Bool→Option ρ) :
    ă (aIT ρ) 134 (ý [Í,tI] x) (fun h v=>Â (Ă [.bool] h v) k)=aLD x.1 x.2 k:=by kernel_rfl
theorem aD9:(arA ρ).Ok (asU ρ):=⟨by kernel_rfl,fun p v kn kx=>by kernel_rfl⟩
theorem aLI (x:Val Í) (k:Val Ã→Option ρ) :
    ă (asU ρ) 133 (ý [Í] x) (fun h v=>Â (Ă [tI,tI] h v) k)=aEa x k:=by kernel_rfl
theorem avk:(ak0 ρ).Ok (Η ρ):=⟨by kernel_rfl,fun p v kn kx=>by kernel_rfl⟩
theorem avj:(akZ ρ).Ok (Η ρ):=⟨by kernel_rfl,fun p v kn kx=>by kernel_rfl⟩
theorem avh:(akX ρ).Ok (Η ρ):=⟨by kernel_rfl,fun p v kn kx=>by kernel_rfl⟩
theorem avi:(akY ρ).Ok (Η ρ):=⟨by kernel_rfl,fun p v kn kx=>by kernel_rfl⟩
theorem avg:(akW ρ).Ok (Η ρ):=⟨by kernel_rfl,fun p v kn kx=>by kernel_rfl⟩
theorem aAV (x:Val (.pair Í abp)) (k:(Val (.pair m5 .bool))→Option ρ) :
    ă (Η ρ) 135 (ý [Í,abp] x) (fun h v=>Â (Ă [m5,.bool] h v) k)=aoA x.1 x.2 k:=by kernel_rfl
theorem aD1:(aru ρ).Ok (asT ρ):=⟨by kernel_rfl,fun p v kn kx=>by kernel_rfl⟩
theorem aLG (x:Val abT) (k:Int→Option ρ) :
    ă (asT ρ) 63 (ý [Í,m5] x) (fun h v=>Â (Ă [tI] h v) k)=aD2 x.1 x.2 k:=by kernel_rfl
theorem aA1:(aoG ρ).Ok (adX ρ):=⟨by kernel_rfl,fun p v kn kx=>by kernel_rfl⟩
theorem aA0:(aoF ρ).Ok (adX ρ):=⟨by kernel_rfl,fun p v kn kx=>by kernel_rfl⟩
theorem aAZ:(aoE ρ).Ok (adX ρ):=⟨by kernel_rfl,fun p v kn kx=>by kernel_rfl⟩
theorem aAX:(aoC ρ).Ok (adX ρ):=⟨by kernel_rfl,fun p v kn kx=>by kernel_rfl⟩
theorem aAY:(aoD ρ).Ok (adX ρ):=⟨by kernel_rfl,fun p v kn kx=>by kernel_rfl⟩
theorem aHj (x:Val (.pair Í (.pair abp tI))) (k:(Val m5)→Option ρ) :
    ă (adX ρ) 64 (ý [Í,abp,tI] x) (fun h v=>Â (Ă [m5] h v) k)=axZ x.1 x.2.1 x.2.2 k:=by kernel_rfl
theorem aLK (x:Val ab2) (k:Val Ã→Option ρ) :
    ă (aEf ρ) 89 (ý [Í,tI,tI] x) (fun h v=>Â (Ă [tI,tI] h v) k)=aEg x.1 x.2.1 x.2.2 k:=by kernel_rfl
theorem auO (x:Val abU) (k:Int→Option ρ) :
    ă (am0 ρ) 56 (ý [abx,tI,tI] x) (fun h v=>Â (Ă [tI] h v) k)=ajX x.1 x.2.1 x.2.2 k:=by kernel_rfl
theorem auN (x:Val abU) (k:Int→Option ρ) :
    ă (amZ ρ) 121 (ý [abx,Ã] x) (fun h v=>Â (Ă [tI] h v) k)=ajW x.1 x.2 k:=by kernel_rfl
theorem aok (x:Val abU) (k:Int→Option ρ) :
    ă (aif ρ) 122 (ý [abx,Ã] x) (fun h v=>Â (Ă [tI] h v) k)=af5 x.1 x.2 k:=by kernel_rfl
theorem aoj (x:Val abU) (k:Val Ã→Option ρ) :
    ă (aeV ρ) 51 (ý [abx,Ã] x) (fun h v=>Â (Ă [Ã] h v) k)=af4 x.1 x.2 k:=by kernel_rfl
theorem aHS:(avZ ρ).Ok (ayg ρ):=⟨by kernel_rfl,fun p v kn kx=>by kernel_rfl⟩
theorem aPI (x:Val abH) (k:(Val abL)→Option ρ) :
    ă (ayg ρ) 61 (ý [Ä,Ã] x) (fun h v=>Â (Ă [Ä,tI] h v) k)=aMn x.1 x.2 k:=by kernel_rfl
theorem avo (x:Val Í) (k:(Val abJ)→Option ρ) :
    ă (ana ρ) 123 (ý [Í] x) (fun h v=>Â (Ă [.bool,tI] h v) k)=aj7 x k:=by kernel_rfl
theorem avc:(akT ρ).Ok (aj0 ρ):=⟨by kernel_rfl,fun p v kn kx=>by kernel_rfl⟩
theorem aAP (x:Val abH) (k:Val į→Option ρ) :
    ă (aj0 ρ) 15 (ý [Ä,Ã] x) (fun h v=>Â (Ă [Ã,tI] h v) k)=aov x.1 x.2 k:=by kernel_rfl
theorem axQ:(am7 ρ).Ok (alX ρ):=⟨by kernel_rfl,fun p v kn kx=>by kernel_rfl⟩
theorem aDS (x:Val (.pair Ä å)) (k:Val į→Option ρ) :
    ă (alX ρ) 17 (ý [Ä,Ã,Ã] x) (fun h v=>Â (Ă [Ã,tI] h v) k)=asR x.1 x.2.1 x.2.2 k:=by kernel_rfl
theorem aHT (x:Val abM) (k:(Val (.pair m5 abI))→Option ρ) :
    ă (az1 ρ) 129 (ý [m5,m5] x) (fun h v=>Â (Ă [m5,m5,tI] h v) k)=ayh x.1 x.2 k:=by kernel_rfl
theorem aOW (x:Val abI) (k:Bool→Option ρ) :
    ă (aIS ρ) 57 (ý [m5,tI] x) (fun h v=>Â (Ă [.bool] h v) k)=aK7 x.1 x.2 k:=by kernel_rfl
theorem aLl (x:Val tI) (k:Bool→Option ρ) :
    ă (aDD ρ) 58 (ý [tI] x) (fun h v=>Â (Ă [.bool] h v) k)=aDE x k:=by kernel_rfl
theorem aDy:(arj ρ).Ok (asK ρ):=⟨by kernel_rfl,fun p v kn kx=>by kernel_rfl⟩
theorem aLj (x:Val (.pair tI abr)) (k:(Val eI)→Option ρ) :
    ă (asK ρ) 59 (ý [tI,abr] x) (fun h v=>Â (Ă [eI] h v) k)=aDz x.1 x.2 k:=by kernel_rfl
theorem aHd:(ava ρ).Ok (apJ ρ):=⟨by kernel_rfl,fun p v kn kx=>by kernel_rfl⟩
theorem aHc:(au9 ρ).Ok (apJ ρ):=⟨by kernel_rfl,fun p v kn kx=>by kernel_rfl⟩
theorem aO8 (x:Val (.pair Ä abz)) (k:Val į→Option ρ) :
    ă (apJ ρ) 18 (ý [Ä,tI,m5] x) (fun h v=>Â (Ă [Ã,tI] h v) k)=aLx x.1 x.2.1 x.2.2 k:=by kernel_rfl
theorem aDv (x:Val å) (k:Int→Option ρ) :
    ă (auM ρ) 69 (ý [Ã,Ã] x) (fun h v=>Â (Ă [tI] h v) k)=asH x.1 x.2 k:=by kernel_rfl
theorem aDM:(ars ρ).Ok (asP ρ):=⟨by kernel_rfl,fun p v kn kx=>by kernel_rfl⟩
theorem aLz (x:Val (.pair Ä å)) (k:Val Ã→Option ρ) :
    ă (asP ρ) 25 (ý [Ä,Ã,Ã] x) (fun h v=>Â (Ă [tI,tI] h v) k)=aDN x.1 x.2.1 x.2.2 k:=by kernel_rfl
theorem aHP:(avX ρ).Ok (aye ρ):=⟨by kernel_rfl,fun p v kn kx=>by kernel_rfl⟩
theorem aPG (x:Val abC) (k:(Val abL)→Option ρ) :
    ă (aye ρ) 41 (ý [Ä,Ê] x) (fun h v=>Â (Ă [Ä,tI] h v) k)=aMj x.1 x.2 k:=by kernel_rfl
theorem aLV (x:Val (.pair Ä (.pair Ê Ã))) (k:Val į→Option ρ) :
    ă (aEx ρ) 90 (ý [Ä,Ê,Ã] x) (fun h v=>Â (Ă [Ã,tI] h v) k)=aEy x.1 x.2.1 x.2.2 k:=by kernel_rfl
theorem aEL (x:Val abC) (k:Val į→Option ρ) :
    ă (avY ρ) 40 (ý [Ä,Ê] x) (fun h v=>Â (Ă [Ã,tI] h v) k)=as6 x.1 x.2 k:=by kernel_rfl
theorem aLU (x:Val abL) (k:(Val (.pair Ê tI))→Option ρ) :
    ă (aEv ρ) 205 (ý [Ä,tI] x) (fun h v=>Â (Ă [Ê,tI] h v) k)=aEw x.1 x.2 k:=by kernel_rfl
theorem aPH (x:Val abL) (k:Val į→Option ρ) :
    ă (aI1 ρ) 142 (ý [Ä,tI] x) (fun h v=>Â (Ă [Ã,tI] h v) k)=aMl x.1 x.2 k:=by kernel_rfl
theorem aAL (x:Val (.pair m5 (.pair abx (.ptr Ê)))) (k:Int→Option ρ) :
    ă (arm ρ) 143 (ý [m5,abx,(.ptr Ê)] x) (fun h v=>Â (Ă [tI] h v) k)=aoo x.1 x.2.1 x.2.2 k:=by kernel_rfl
theorem aAK (x:Val (.pair tI (.pair tI (.pair abx (.pair (.ptr tI) (.pair abX (.ptr tI))))))) (k:Val ÿ→Option ρ) :
    ă (arl ρ) 144 (ý [tI,tI,abx,(.ptr tI),abX,(.ptr tI)] x) (fun h v=>Â (Ă [ÿ] h v) k)=aon x.1 x.2.1 x.2.2.1 x.2.2.2.1 x.2.2.2.2.1 x.2.2.2.2.2 k:=by kernel_rfl
theorem aAJ:(aom ρ).Ok (ajk ρ):=⟨by kernel_rfl,fun p v kn kx=>by kernel_rfl⟩
theorem aG5 (x:Val (.pair abx ab0)) (k:(Val (.pair Ŧ tI))→Option ρ) :
    ă (ajk ρ) 71 (ý [abx,Ã,Ê] x) (fun h v=>Â (Ă [Ŧ,tI] h v) k)=axA x.1 x.2.1 x.2.2 k:=by kernel_rfl
theorem axB (x:Val ÿ) (k:(Val m5)→Option ρ) :
    ă (aop ρ) 95 (ý [ÿ] x) (fun h v=>Â (Ă [m5] h v) k)=alO x k:=by kernel_rfl
theorem aG6 (x:Val (.pair ÿ tI)) (k:Int→Option ρ) :
    ă (azu ρ) 177 (ý [ÿ,tI] x) (fun h v=>Â (Ă [tI] h v) k)=axD x.1 x.2 k:=by kernel_rfl
theorem auK (x:Val (.pair Ŧ tI)) (k:Val Ã→Option ρ) :
    ă (amX ρ) 99 (ý [Ŧ,tI] x) (fun h v=>Â (Ă [Ã] h v) k)=ajU x.1 x.2 k:=by kernel_rfl
theorem aqp:(aid ρ).Ok (aeJ ρ):=⟨by kernel_rfl,fun p v kn kx=>by kernel_rfl⟩
theorem aqq:(aie ρ).Ok (aeJ ρ):=⟨by kernel_rfl,fun p v kn kx=>by kernel_rfl⟩
theorem auL (x:Val (.pair Ŧ m5)) (k:(Val m5)→Option ρ) :
    ă (aeJ ρ) 101 (ý [Ŧ,m5] x) (fun h v=>Â (Ă [m5] h v) k)=ajV x.1 x.2 k:=by kernel_rfl
theorem aog:(ahb ρ).Ok (af2 ρ):=⟨by kernel_rfl,fun p v kn kx=>by kernel_rfl⟩
theorem asE (x:Val Ŧ) (k:Int→Option ρ) :
    ă (af2 ρ) 72 (ý [Ŧ] x) (fun h v=>Â (Ă [tI] h v) k)=aic x k:=by kernel_rfl
theorem aDH:(aro ρ).Ok (asN ρ):=⟨by kernel_rfl,fun p v kn kx=>by kernel_rfl⟩
theorem aLt (x:Val (.pair Ä ab0)) (k:Val Ã→Option ρ) :
    ă (asN ρ) 31 (ý [Ä,Ã,Ê] x) (fun h v=>Â (Ă [tI,tI] h v) k)=aDI x.1 x.2.1 x.2.2 k:=by kernel_rfl
theorem axX:(am9 ρ).Ok (alZ ρ):=⟨by kernel_rfl,fun p v kn kx=>by kernel_rfl⟩
theorem aDU (x:Val abT) (k:Int→Option ρ) :
    ă (alZ ρ) 145 (ý [Í,m5] x) (fun h v=>Â (Ă [tI] h v) k)=asS x.1 x.2 k:=by kernel_rfl
theorem aHh:(avf ρ).Ok (axR ρ):=⟨by kernel_rfl,fun p v kn kx=>by kernel_rfl⟩
theorem aPc (x:Val (.pair Í abz)) (k:(Val abQ)→Option ρ) :
    ă (axR ρ) 146 (ý [Í,tI,m5] x) (fun h v=>Â (Ă [tI,tI,.bool] h v) k)=aLC x.1 x.2.1 x.2.2 k:=by kernel_rfl
theorem avs (x:Val (.pair Í (.pair tI abz))) (k:Val Ã→Option ρ) :
    ă (anc ρ) 76 (ý [Í,tI,tI,m5] x) (fun h v=>Â (Ă [tI,tI] h v) k)=aj9 x.1 x.2.1 x.2.2.1 x.2.2.2 k:=by kernel_rfl
theorem axM (x:Val ĉ) (k:Int→Option ρ) :
    ă (aow ρ) 33 (ý [ĉ] x) (fun h v=>Â (Ă [tI] h v) k)=alV x k:=by kernel_rfl
theorem avr (x:Val abT) (k:Int→Option ρ) :
    ă (anb ρ) 86 (ý [Í,m5] x) (fun h v=>Â (Ă [tI] h v) k)=aj8 x.1 x.2 k:=by kernel_rfl
theorem ave (x:Val ĉ) (k:Int→Option ρ) :
    ă (am4 ρ) 39 (ý [ĉ] x) (fun h v=>Â (Ă [tI] h v) k)=aj1 x k:=by kernel_rfl
theorem aeT:(Ų ρ).Ok (Ń ρ):=⟨by kernel_rfl,fun p v kn kx=>by kernel_rfl⟩
theorem afl (x:Val (.pair f6 Ð)) (k:Int→Option ρ) :
    ă (Ń ρ) 254 (ý [f6,Ð] x) (fun h v=>Â (Ă [tI] h v) k)=Ŗ x.1 x.2 k:=by kernel_rfl
theorem aew (x:Val (.pair f6 Ð)) (k:Bool→Option ρ) :
    ă (Ŵ ρ) 210 (ý [f6,Ð] x) (fun h v=>Â (Ă [.bool] h v) k)=Ľ x.1 x.2 k:=by kernel_rfl
theorem afX:(adg ρ).Ok (Ū ρ):=⟨by kernel_rfl,fun p v kn kx=>by kernel_rfl⟩
theorem ag1 (x:Val ab1) (k:Int→Option ρ) :
    ă (Ū ρ) 256 (ý [eI,Ã] x) (fun h v=>Â (Ă [tI] h v) k)=Ζ x.1 x.2 k:=by kernel_rfl
theorem afM (x:Val ab1) (k:Bool→Option ρ) :
    ă (adh ρ) 213 (ý [eI,Ã] x) (fun h v=>Â (Ă [.bool] h v) k)=ś x.1 x.2 k:=by kernel_rfl
theorem afk:(Υ ρ).Ok (ŕ ρ):=⟨by kernel_rfl,fun p v kn kx=>by kernel_rfl⟩
theorem afZ (x:Val (.pair l5 Ł)) (k:Int→Option ρ) :
    ă (ŕ ρ) 258 (ý [l5,Ł] x) (fun h v=>Â (Ă [tI] h v) k)=Ŭ x.1 x.2 k:=by kernel_rfl
theorem afd (x:Val (.pair l5 Ł)) (k:Bool→Option ρ) :
    ă (Χ ρ) 216 (ý [l5,Ł] x) (fun h v=>Â (Ă [.bool] h v) k)=ŋ x.1 x.2 k:=by kernel_rfl
theorem aG3:(auZ ρ).Ok (Ÿ ρ):=⟨by kernel_rfl,fun p v kn kx=>by kernel_rfl⟩
theorem aG0:(auW ρ).Ok (Ÿ ρ):=⟨by kernel_rfl,fun p v kn kx=>by kernel_rfl⟩
theorem aGZ:(auV ρ).Ok (Ÿ ρ):=⟨by kernel_rfl,fun p v kn kx=>by kernel_rfl⟩
theorem aG1:(auX ρ).Ok (Ÿ ρ):=⟨by kernel_rfl,fun p v kn kx=>by kernel_rfl⟩
theorem aG2:(auY ρ).Ok (Ÿ ρ):=⟨by kernel_rfl,fun p v kn kx=>by kernel_rfl⟩
theorem aGY:(auU ρ).Ok (Ÿ ρ):=⟨by kernel_rfl,fun p v kn kx=>by kernel_rfl⟩
theorem aGX:(auT ρ).Ok (Ÿ ρ):=⟨by kernel_rfl,fun p v kn kx=>by kernel_rfl⟩
theorem aGW:(auS ρ).Ok (Ÿ ρ):=⟨by kernel_rfl,fun p v kn kx=>by kernel_rfl⟩
theorem aGV:(auR ρ).Ok (Ÿ ρ):=⟨by kernel_rfl,fun p v kn kx=>by kernel_rfl⟩
theorem aGU:(auQ ρ).Ok (Ÿ ρ):=⟨by kernel_rfl,fun p v kn kx=>by kernel_rfl⟩
theorem aOX (x:Val abV) (k:Bool→Option ρ) :
    ă (Ÿ ρ) 77 (ý [Ä,Ä] x) (fun h v=>Â (Ă [.bool] h v) k)=aLi x.1 x.2 k:=by kernel_rfl
theorem aHb (x:Val (.pair Ä ĉ)) (k:(Val abJ)→Option ρ) :
    ă (azz ρ) 35 (ý [Ä,ĉ] x) (fun h v=>Â (Ă [.bool,tI] h v) k)=axF x.1 x.2 k:=by kernel_rfl
theorem aRR:(aIX ρ).Ok (axY ρ):=⟨by kernel_rfl,fun p v kn kx=>by kernel_rfl⟩
theorem aRP:(aIV ρ).Ok (axY ρ):=⟨by kernel_rfl,fun p v kn kx=>by kernel_rfl⟩
theorem aRO:(aIU ρ).Ok (axY ρ):=⟨by kernel_rfl,fun p v kn kx=>by kernel_rfl⟩
theorem aRQ:(aIW ρ).Ok (axY ρ):=⟨by kernel_rfl,fun p v kn kx=>by kernel_rfl⟩
theorem aWZ (x:Val ab2) (k:(Val abr)→Option ρ) :
    ă (axY ρ) 156 (ý [Í,tI,tI] x) (fun h v=>Â (Ă [abr] h v) k)=aDV x.1 x.2.1 x.2.2 k:=by kernel_rfl
theorem aD7:(arz ρ).Ok (aeX ρ):=⟨by kernel_rfl,fun p v kn kx=>by kernel_rfl⟩
theorem aD3:(arv ρ).Ok (aeX ρ):=⟨by kernel_rfl,fun p v kn kx=>by kernel_rfl⟩
theorem aD4:(arw ρ).Ok (aeX ρ):=⟨by kernel_rfl,fun p v kn kx=>by kernel_rfl⟩
theorem aD5:(arx ρ).Ok (aeX ρ):=⟨by kernel_rfl,fun p v kn kx=>by kernel_rfl⟩
theorem aD6:(ary ρ).Ok (aeX ρ):=⟨by kernel_rfl,fun p v kn kx=>by kernel_rfl⟩
theorem aLH (x:Val Í) (k:(Val abI)→Option ρ) :
    ă (aeX ρ) 78 (ý [Í] x) (fun h v=>Â (Ă [m5,tI] h v) k)=aD8 x k:=by kernel_rfl
theorem axx:(amY ρ).Ok (alL ρ):=⟨by kernel_rfl,fun p v kn kx=>by kernel_rfl⟩
theorem aDw (x:Val (.pair Ä m5)) (k:(Val eI)→Option ρ) :
    ă (alL ρ) 80 (ý [Ä,m5] x) (fun h v=>Â (Ă [eI] h v) k)=asI x.1 x.2 k:=by kernel_rfl
theorem aLA (x:Val Ä) (k:(Val (.pair ĉ tI))→Option ρ) :
    ă (aDP ρ) 36 (ý [Ä] x) (fun h v=>Â (Ă [ĉ,tI] h v) k)=aDQ x k:=by kernel_rfl
theorem axI (x:Val tI) (k:Int→Option ρ) :
    ă (aos ρ) 96 (ý [tI] x) (fun h v=>Â (Ă [tI] h v) k)=alS x k:=by kernel_rfl
theorem axC (x:Val (.pair ÿ tI)) (k:(Val m5)→Option ρ) :
    ă (aoq ρ) 97 (ý [ÿ,tI] x) (fun h v=>Â (Ă [m5] h v) k)=alP x.1 x.2 k:=by kernel_rfl
theorem au7:(((ajN (Ď ρ).P 50).elim [] (ê 0)).filter fun y=>Nat.beq y.1 0).length=1:=by kernel_rfl
theorem au8 (p:Val abw) (v:Val abD) (kn:Val abw→Val abD→Option ρ) (kx:(i:Nat)→Val abw→Val (tyL (ź.zs i))→Option ρ) :
    goC (Ď ρ) (aeE (Ď ρ) (10-2 / 2)) 50 [1,3] 5 0 (az2 (ajN (Ď ρ).P 50) 0) (adS ź.head ź.cs ź.vs p v) (aNu ź kn kx)=(ag4 ρ).bF p v (kn p) (fun i=>kx i p):=by kernel_rfl
theorem axH:(ag4 ρ).Ok (Ď ρ):=⟨au7,au8⟩
theorem au5:(((ajN (Ď ρ).P 178).elim [] (ê 0)).filter fun y=>Nat.beq y.1 0).length=1:=by kernel_rfl
theorem au6 (p:Val abq) (v:Val tI) (kn:Val abq→Val tI→Option ρ) (kx:(i:Nat)→Val abq→Val (tyL (Ź.zs i))→Option ρ) :
    goC (Ď ρ) (aeE (Ď ρ) (10-4 / 2)) 178 [18,4,1,2] 12 0 (az2 (ajN (Ď ρ).P 178) 0) (adS Ź.head Ź.cs Ź.vs p v) (aNu Ź kn kx)=(ag3 ρ).bF p v (kn p) (fun i=>kx i p):=by kernel_rfl
theorem axG:(ag3 ρ).Ok (Ď ρ):=⟨au5,au6⟩
theorem aDJ (x:Val (.pair Ä (.pair Ã ab0))) (k:(Val abJ)→Option ρ) :
    ă (alR ρ) 42 (ý [Ä,Ã,Ã,Ê] x) (fun h v=>Â (Ă [.bool,tI] h v) k)=asO x.1 x.2.1 x.2.2.1 x.2.2.2 k:=by kernel_rfl
theorem aAn (x:Unit) (k:Val Ä→Option ρ) :
    ă (aqJ ρ) 48 (ý [] x) (fun h v=>Â (Ă [Ä] h v) k)=anO k:=by kernel_rfl
theorem aEd:(arD ρ).Ok (ail ρ):=⟨by kernel_rfl,fun p v kn kx=>by kernel_rfl⟩
theorem aEb:(arB ρ).Ok (ail ρ):=⟨by kernel_rfl,fun p v kn kx=>by kernel_rfl⟩
theorem aEc:(arC ρ).Ok (ail ρ):=⟨by kernel_rfl,fun p v kn kx=>by kernel_rfl⟩
theorem aLJ (x:Val ab2) (k:(Val abI)→Option ρ) :
    ă (ail ρ) 120 (ý [Í,tI,tI] x) (fun h v=>Â (Ă [m5,tI] h v) k)=aEe x.1 x.2.1 x.2.2 k:=by kernel_rfl
theorem axP (x:Val (.pair abx (.pair abX (.ptr .bool)))) (k:(Val m5)→Option ρ) :
    ă (aoy ρ) 119 (ý [abx,abX,(.ptr .bool)] x) (fun h v=>Â (Ă [m5] h v) k)=alW x.1 x.2.1 x.2.2 k:=by kernel_rfl
theorem axO:(am6 ρ).Ok (afu ρ):=⟨by kernel_rfl,fun p v kn kx=>by kernel_rfl⟩
theorem axN:(am5 ρ).Ok (afu ρ):=⟨by kernel_rfl,fun p v kn kx=>by kernel_rfl⟩
theorem aDR (x:Val (.pair Ä (.pair Ã .bool))) (k:(Val (.pair ĉ tI))→Option ρ) :
    ă (afu ρ) 49 (ý [Ä,Ã,.bool] x) (fun h v=>Â (Ă [ĉ,tI] h v) k)=asQ x.1 x.2.1 x.2.2 k:=by kernel_rfl
theorem aCx (x:Unit) (k:Bool→Option ρ) :
    ă (aua ρ) 14 (ý [] x) (fun h v=>Â (Ă [.bool] h v) k)=asl k:=by kernel_rfl
theorem aO9 (x:Val abV) (k:(Val abJ)→Option ρ) :
    ă (axJ ρ) 43 (ý [Ä,Ä] x) (fun h v=>Â (Ă [.bool,tI] h v) k)=aLy x.1 x.2 k:=by kernel_rfl
theorem aAq (x:Val å) (k:Bool→Option ρ) :
    ă (aqW ρ) 102 (ý [Ã,tI,tI] x) (fun h v=>Â (Ă [.bool] h v) k)=anV x.1 x.2.1 x.2.2 k:=by kernel_rfl
theorem aRs (x:Val ÿ) (k:Bool→Option ρ) :
    ă (aOH ρ) 180 (ý [tI,tI,tI] x) (fun h v=>Â (Ă [.bool] h v) k)=aRt x.1 x.2.1 x.2.2 k:=by kernel_rfl
theorem aOK (x:Val tI) (k:Bool→Option ρ) :
    ă (aIM ρ) 108 (ý [tI] x) (fun h v=>Â (Ă [.bool] h v) k)=aKQ x k:=by kernel_rfl
theorem aGP:(auH ρ).Ok (axt ρ):=⟨by kernel_rfl,fun p v kn kx=>by kernel_rfl⟩
theorem aOS (x:Val Ã) (k:Int→Option ρ) :
    ă (axt ρ) 234 (ý [tI,tI] x) (fun h v=>Â (Ă [tI] h v) k)=aK2 x.1 x.2 k:=by kernel_rfl
theorem aOV (x:Val tI) (k:Int→Option ρ) :
    ă (aIR ρ) 235 (ý [tI] x) (fun h v=>Â (Ă [tI] h v) k)=aK6 x k:=by kernel_rfl
theorem aGN (x:Val Ã) (k:Bool→Option ρ) :
    ă (azj ρ) 179 (ý [Ã] x) (fun h v=>Â (Ă [.bool] h v) k)=axr x k:=by kernel_rfl
theorem aGq (x:Val Ð) (k:Bool→Option ρ) :
    ă (azc ρ) 103 (ý [Ð] x) (fun h v=>Â (Ă [.bool] h v) k)=axg x k:=by kernel_rfl
theorem aDf:(arb ρ).Ok (asA ρ):=⟨by kernel_rfl,fun p v kn kx=>by kernel_rfl⟩
theorem aKO (x:Val abL) (k:Int→Option ρ) :
    ă (asA ρ) 182 (ý [Ä,tI] x) (fun h v=>Â (Ă [tI] h v) k)=aDg x.1 x.2 k:=by kernel_rfl
theorem aGy (x:Val abH) (k:Int→Option ρ) :
    ă (aze ρ) 109 (ý [Ä,tI,tI] x) (fun h v=>Â (Ă [tI] h v) k)=axi x.1 x.2.1 x.2.2 k:=by kernel_rfl
theorem aCK:(aqV ρ).Ok (asp ρ):=⟨by kernel_rfl,fun p v kn kx=>by kernel_rfl⟩
theorem aKs (x:Val Ä) (k:Int→Option ρ) :
    ă (asp ρ) 104 (ý [Ä] x) (fun h v=>Â (Ă [tI] h v) k)=aCL x k:=by kernel_rfl
theorem aAs:(anX ρ).Ok (agF ρ):=⟨by kernel_rfl,fun p v kn kx=>by kernel_rfl⟩
theorem aAr:(anW ρ).Ok (agF ρ):=⟨by kernel_rfl,fun p v kn kx=>by kernel_rfl⟩
theorem aAt:(anY ρ).Ok (agF ρ):=⟨by kernel_rfl,fun p v kn kx=>by kernel_rfl⟩
theorem aGo (x:Val Ä) (k:Int→Option ρ) :
    ă (agF ρ) 105 (ý [Ä] x) (fun h v=>Â (Ă [tI] h v) k)=axe x k:=by kernel_rfl
theorem aCY:(aq5 ρ).Ok (asv ρ):=⟨by kernel_rfl,fun p v kn kx=>by kernel_rfl⟩
theorem aKG (x:Val m5) (k:Bool→Option ρ) :
    ă (asv ρ) 181 (ý [m5] x) (fun h v=>Â (Ă [.bool] h v) k)=aCZ x k:=by kernel_rfl
theorem aGn (x:Val Ê) (k:Bool→Option ρ) :
    ă (ay9 ρ) 106 (ý [Ê] x) (fun h v=>Â (Ă [.bool] h v) k)=axd x k:=by kernel_rfl
theorem aC8:(aq8 ρ).Ok (asx ρ):=⟨by kernel_rfl,fun p v kn kx=>by kernel_rfl⟩
theorem aKJ (x:Val abH) (k:(Val ab3)→Option ρ) :
    ă (asx ρ) 183 (ý [Ä,tI,tI] x) (fun h v=>Â (Ă [Ł,.bool] h v) k)=aC9 x.1 x.2.1 x.2.2 k:=by kernel_rfl
theorem aGF:(auw ρ).Ok (axl ρ):=⟨by kernel_rfl,fun p v kn kx=>by kernel_rfl⟩
theorem aOI (x:Val abI) (k:Bool→Option ρ) :
    ă (axl ρ) 236 (ý [m5,tI] x) (fun h v=>Â (Ă [.bool] h v) k)=aKN x.1 x.2 k:=by kernel_rfl
theorem aDa:(aq9 ρ).Ok (asy ρ):=⟨by kernel_rfl,fun p v kn kx=>by kernel_rfl⟩
theorem aKK (x:Val abM) (k:(Val m5)→Option ρ) :
    ă (asy ρ) 184 (ý [m5,m5] x) (fun h v=>Â (Ă [m5] h v) k)=aDb x.1 x.2 k:=by kernel_rfl
theorem ass:(ai6 ρ).Ok (adU ρ):=⟨by kernel_rfl,fun p v kn kx=>by kernel_rfl⟩
theorem asr:(ai5 ρ).Ok (adU ρ):=⟨by kernel_rfl,fun p v kn kx=>by kernel_rfl⟩
theorem asq:(ai4 ρ).Ok (adU ρ):=⟨by kernel_rfl,fun p v kn kx=>by kernel_rfl⟩
theorem axh (x:Val abC) (k:Int→Option ρ) :
    ă (adU ρ) 107 (ý [Ä,Ê] x) (fun h v=>Â (Ă [tI] h v) k)=alD x.1 x.2 k:=by kernel_rfl
theorem aOy (x:Val abM) (k:Int→Option ρ) :
    ă (aIL ρ) 187 (ý [m5,m5] x) (fun h v=>Â (Ă [tI] h v) k)=aKu x.1 x.2 k:=by kernel_rfl
theorem aCR:(aq2 ρ).Ok (alE ρ):=⟨by kernel_rfl,fun p v kn kx=>by kernel_rfl⟩
theorem aCQ:(aq1 ρ).Ok (alE ρ):=⟨by kernel_rfl,fun p v kn kx=>by kernel_rfl⟩
theorem aKy (x:Val (.pair Ä (.pair Ð tI))) (k:Bool→Option ρ) :
    ă (alE ρ) 185 (ý [Ä,Ð,tI] x) (fun h v=>Â (Ă [.bool] h v) k)=aCS x.1 x.2.1 x.2.2 k:=by kernel_rfl
theorem aAA:(an5 ρ).Ok (adi ρ):=⟨by kernel_rfl,fun p v kn kx=>by kernel_rfl⟩
theorem aAz:(an4 ρ).Ok (adi ρ):=⟨by kernel_rfl,fun p v kn kx=>by kernel_rfl⟩
theorem aAy:(an3 ρ).Ok (adi ρ):=⟨by kernel_rfl,fun p v kn kx=>by kernel_rfl⟩
theorem aAv:(an0 ρ).Ok (adi ρ):=⟨by kernel_rfl,fun p v kn kx=>by kernel_rfl⟩
theorem aAw:(an1 ρ).Ok (adi ρ):=⟨by kernel_rfl,fun p v kn kx=>by kernel_rfl⟩
theorem aAx:(an2 ρ).Ok (adi ρ):=⟨by kernel_rfl,fun p v kn kx=>by kernel_rfl⟩
theorem aGA (x:Val Ä) (k:(Val eI)→Option ρ) :
    ă (adi ρ) 110 (ý [Ä] x) (fun h v=>Â (Ă [eI] h v) k)=axj x k:=by kernel_rfl
theorem aAB:(an6 ρ).Ok (an7 ρ):=⟨by kernel_rfl,fun p v kn kx=>by kernel_rfl⟩
theorem aGE (x:Val abH) (k:Int→Option ρ) :
    ă (an7 ρ) 115 (ý [Ä,Ã] x) (fun h v=>Â (Ă [tI] h v) k)=axk x.1 x.2 k:=by kernel_rfl
theorem aCT:(aq3 ρ).Ok (ast ρ):=⟨by kernel_rfl,fun p v kn kx=>by kernel_rfl⟩
theorem aKz (x:Val abH) (k:Bool→Option ρ) :
    ă (ast ρ) 237 (ý [Ä,tI,tI] x) (fun h v=>Â (Ă [.bool] h v) k)=aCU x.1 x.2.1 x.2.2 k:=by kernel_rfl
theorem aC6:(aq7 ρ).Ok (asw ρ):=⟨by kernel_rfl,fun p v kn kx=>by kernel_rfl⟩
theorem aKI (x:Val (.pair Ä ÿ)) (k:Int→Option ρ) :
    ă (asw ρ) 186 (ý [Ä,tI,tI,tI] x) (fun h v=>Â (Ă [tI] h v) k)=aC7 x.1 x.2.1 x.2.2.1 x.2.2.2 k:=by kernel_rfl
theorem aDo (x:Val Ã) (k:Val į→Option ρ) :
    ă (auE ρ) 290 (ý [tI,tI] x) (fun h v=>Â (Ă [į] h v) k)=asD x.1 x.2 k:=by kernel_rfl
theorem aOU (x:Val å) (k:Val į→Option ρ) :
    ă (aIQ ρ) 282 (ý [Ã,Ã] x) (fun h v=>Â (Ă [į] h v) k)=aK5 x.1 x.2 k:=by kernel_rfl
theorem aOQ (x:Val Ã) (k:Val Ã→Option ρ) :
    ă (aIO ρ) 283 (ý [Ã] x) (fun h v=>Â (Ă [Ã] h v) k)=aKZ x k:=by kernel_rfl
theorem aOP (x:Val å) (k:Val į→Option ρ) :
    ă (aIN ρ) 264 (ý [Ã,Ã] x) (fun h v=>Â (Ă [į] h v) k)=aKX x.1 x.2 k:=by kernel_rfl
theorem aGp (x:Val abL) (k:Val Ã→Option ρ) :
    ă (azb ρ) 265 (ý [Ä,tI] x) (fun h v=>Â (Ă [Ã] h v) k)=axf x.1 x.2 k:=by kernel_rfl
theorem aKV (x:Val (.pair į į)) (k:Val ako→Option ρ) :
    ă (aDr ρ) 284 (ý [į,į] x) (fun h v=>Â (Ă [ako] h v) k)=aDs x.1 x.2 k:=by kernel_rfl
theorem aOR (x:Val å) (k:Val į→Option ρ) :
    ă (aIP ρ) 285 (ý [Ã,Ã] x) (fun h v=>Â (Ă [į] h v) k)=aK0 x.1 x.2 k:=by kernel_rfl
theorem aGO (x:Val (.pair å Ã)) (k:Val ako→Option ρ) :
    ă (azl ρ) 266 (ý [å,Ã] x) (fun h v=>Â (Ă [ako] h v) k)=axs x.1 x.2 k:=by kernel_rfl
theorem aDe (x:Val abC) (k:Val å→Option ρ) :
    ă (auy ρ) 238 (ý [Ä,Ê] x) (fun h v=>Â (Ă [å] h v) k)=asz x.1 x.2 k:=by kernel_rfl
theorem aGI (x:Val abC) (k:Val Ã→Option ρ) :
    ă (azg ρ) 239 (ý [Ä,Ê] x) (fun h v=>Â (Ă [Ã] h v) k)=axm x.1 x.2 k:=by kernel_rfl
theorem aKU (x:Val Ã) (k:Int→Option ρ) :
    ă (aDp ρ) 267 (ý [tI,tI] x) (fun h v=>Â (Ă [tI] h v) k)=aDq x.1 x.2 k:=by kernel_rfl
theorem aGQ (x:Val Ã) (k:Int→Option ρ) :
    ă (azp ρ) 240 (ý [Ã] x) (fun h v=>Â (Ă [tI] h v) k)=axu x k:=by kernel_rfl
theorem aRx (x:Val Ã) (k:Int→Option ρ) :
    ă (aOM ρ) 268 (ý [tI,tI] x) (fun h v=>Â (Ă [tI] h v) k)=aRy x.1 x.2 k:=by kernel_rfl
theorem aK4 (x:Val Ã) (k:Int→Option ρ) :
    ă (aDt ρ) 241 (ý [Ã] x) (fun h v=>Â (Ă [tI] h v) k)=aDu x k:=by kernel_rfl
theorem aKF (x:Val abC) (k:Val Ã→Option ρ) :
    ă (aCW ρ) 188 (ý [Ä,Ê] x) (fun h v=>Â (Ă [Ã] h v) k)=aCX x.1 x.2 k:=by kernel_rfl
theorem aGv:(auo ρ).Ok (akH ρ):=⟨by kernel_rfl,fun p v kn kx=>by kernel_rfl⟩
theorem aGw:(aup ρ).Ok (akH ρ):=⟨by kernel_rfl,fun p v kn kx=>by kernel_rfl⟩
theorem aGu:(aun ρ).Ok (akH ρ):=⟨by kernel_rfl,fun p v kn kx=>by kernel_rfl⟩
theorem aOB (x:Val Ä) (k:Val amO→Option ρ) :
    ă (akH ρ) 111 (ý [Ä] x) (fun h v=>Â (Ă [amO] h v) k)=aKD x k:=by kernel_rfl
theorem aAF:(aoc ρ).Ok (ae5 ρ):=⟨by kernel_rfl,fun p v kn kx=>by kernel_rfl⟩
theorem aAD:(aoa ρ).Ok (ae5 ρ):=⟨by kernel_rfl,fun p v kn kx=>by kernel_rfl⟩
theorem aAE:(aob ρ).Ok (ae5 ρ):=⟨by kernel_rfl,fun p v kn kx=>by kernel_rfl⟩
theorem aAC:(an9 ρ).Ok (ae5 ρ):=⟨by kernel_rfl,fun p v kn kx=>by kernel_rfl⟩
theorem aGJ (x:Val Ä) (k:Int→Option ρ) :
    ă (ae5 ρ) 44 (ý [Ä] x) (fun h v=>Â (Ă [tI] h v) k)=axn x k:=by kernel_rfl
theorem aAp:(anT ρ).Ok (anU ρ):=⟨by kernel_rfl,fun p v kn kx=>by kernel_rfl⟩
theorem aGh (x:Val (.pair Ä Ð)) (k:Bool→Option ρ) :
    ă (anU ρ) 112 (ý [Ä,Ð] x) (fun h v=>Â (Ă [.bool] h v) k)=axa x.1 x.2 k:=by kernel_rfl
theorem asB:(aje ρ).Ok (aia ρ):=⟨by kernel_rfl,fun p v kn kx=>by kernel_rfl⟩
theorem axp (x:Val abM) (k:Bool→Option ρ) :
    ă (aia ρ) 189 (ý [m5,m5] x) (fun h v=>Â (Ă [.bool] h v) k)=alJ x.1 x.2 k:=by kernel_rfl
theorem aqn (x:Val (.pair Ê Ê)) (k:Bool→Option ρ) :
    ă (aiY ρ) 113 (ý [Ê,Ê] x) (fun h v=>Â (Ă [.bool] h v) k)=ag2 x.1 x.2 k:=by kernel_rfl
theorem aAo:(anR ρ).Ok (anS ρ):=⟨by kernel_rfl,fun p v kn kx=>by kernel_rfl⟩
theorem aGg (x:Val abL) (k:Bool→Option ρ) :
    ă (anS ρ) 190 (ý [Ä,tI] x) (fun h v=>Â (Ă [.bool] h v) k)=aw9 x.1 x.2 k:=by kernel_rfl
theorem aCB:(aqN ρ).Ok (af1 ρ):=⟨by kernel_rfl,fun p v kn kx=>by kernel_rfl⟩
theorem aCC:(aqO ρ).Ok (af1 ρ):=⟨by kernel_rfl,fun p v kn kx=>by kernel_rfl⟩
theorem aCz:(aqL ρ).Ok (af1 ρ):=⟨by kernel_rfl,fun p v kn kx=>by kernel_rfl⟩
theorem aCA:(aqM ρ).Ok (af1 ρ):=⟨by kernel_rfl,fun p v kn kx=>by kernel_rfl⟩
theorem aKn (x:Val (.pair Ä abV)) (k:Bool→Option ρ) :
    ă (af1 ρ) 114 (ý [Ä,Ä,Ä] x) (fun h v=>Â (Ă [.bool] h v) k)=aCD x.1 x.2.1 x.2.2 k:=by kernel_rfl
theorem aCI:(aqT ρ).Ok (ah6 ρ):=⟨by kernel_rfl,fun p v kn kx=>by kernel_rfl⟩
theorem aCG:(aqR ρ).Ok (ah6 ρ):=⟨by kernel_rfl,fun p v kn kx=>by kernel_rfl⟩
theorem aCH:(aqS ρ).Ok (ah6 ρ):=⟨by kernel_rfl,fun p v kn kx=>by kernel_rfl⟩
theorem aKq (x:Val abV) (k:Bool→Option ρ) :
    ă (ah6 ρ) 45 (ý [Ä,Ä] x) (fun h v=>Â (Ă [.bool] h v) k)=aCJ x.1 x.2 k:=by kernel_rfl
theorem aCV (x:Val Ä) (k:Val Í→Option ρ) :
    ă (auq ρ) 118 (ý [Ä] x) (fun h v=>Â (Ă [Í] h v) k)=asu x k:=by kernel_rfl
theorem aGK:(auA ρ).Ok (axo ρ):=⟨by kernel_rfl,fun p v kn kx=>by kernel_rfl⟩
theorem aOL (x:Val (.pair Í abz)) (k:(Val abQ)→Option ρ) :
    ă (axo ρ) 191 (ý [Í,tI,m5] x) (fun h v=>Â (Ă [tI,tI,.bool] h v) k)=aKT x.1 x.2.1 x.2.2 k:=by kernel_rfl
theorem aGl (x:Val ĉ) (k:Bool→Option ρ) :
    ă (ay8 ρ) 116 (ý [ĉ] x) (fun h v=>Â (Ă [.bool] h v) k)=axc x k:=by kernel_rfl
theorem aug (x:Val ĉ) (k:Int→Option ρ) :
    ă (amU ρ) 46 (ý [ĉ] x) (fun h v=>Â (Ă [tI] h v) k)=ajS x k:=by kernel_rfl
theorem auC:(akJ ρ).Ok (ajT ρ):=⟨by kernel_rfl,fun p v kn kx=>by kernel_rfl⟩
theorem aAH (x:Val abT) (k:Bool→Option ρ) :
    ă (ajT ρ) 192 (ý [Í,m5] x) (fun h v=>Â (Ă [.bool] h v) k)=aod x.1 x.2 k:=by kernel_rfl
theorem aDm (x:Val abT) (k:Bool→Option ρ) :
    ă (auD ρ) 117 (ý [Í,m5] x) (fun h v=>Â (Ă [.bool] h v) k)=asC x.1 x.2 k:=by kernel_rfl
theorem aso (x:Val ĉ) (k:Int→Option ρ) :
    ă (akF ρ) 47 (ý [ĉ] x) (fun h v=>Â (Ă [tI] h v) k)=ah8 x k:=by kernel_rfl
theorem asm (x:Val (.pair Ä (.pair Ä ĉ))) (k:Bool→Option ρ) :
    ă (akB ρ) 12 (ý [Ä,Ä,ĉ] x) (fun h v=>Â (Ă [.bool] h v) k)=ah5 x.1 x.2.1 x.2.2 k:=by kernel_rfl
end Go.Proofs.ZzM
end

noncomputable section
variable {ρ:Type}
set_option maxRecDepth 100000
namespace Go.Proofs.ZzM
open Go Go.Am
theorem ax5:(anf ρ).Ok (al4 ρ):=⟨by kernel_rfl,fun p v kn kx=>by kernel_rfl⟩
theorem aEz (x:Val Ä) (k:(Val abu)→Option ρ) :
    ă (al4 ρ) 53 (ý [Ä] x) (fun h v=>Â (Ă [abu] h v) k)=asY x k:=by kernel_rfl
theorem aHK (x:Val å) (k:Bool→Option ρ) :
    ă (azT ρ) 82 (ý [Ã,tI,tI] x) (fun h v=>Â (Ă [.bool] h v) k)=aya x.1 x.2.1 x.2.2 k:=by kernel_rfl
theorem aHw (x:Val ÿ) (k:Bool→Option ρ) :
    ă (azO ρ) 126 (ý [tI,tI,tI] x) (fun h v=>Â (Ă [.bool] h v) k)=ax4 x.1 x.2.1 x.2.2 k:=by kernel_rfl
theorem aL9 (x:Val tI) (k:Bool→Option ρ) :
    ă (aEH ρ) 125 (ý [tI] x) (fun h v=>Â (Ă [.bool] h v) k)=aEI x k:=by kernel_rfl
theorem aPl (x:Val tI) (k:Int→Option ρ) :
    ă (aIY ρ) 259 (ý [tI] x) (fun h v=>Â (Ă [(.int .u64)] h v) k)=aLM x k:=by kernel_rfl
theorem aLN:(azK ρ).Ok (aEl ρ):=⟨by kernel_rfl,fun p v kn kx=>by kernel_rfl⟩
theorem aRT (x:Val ab4) (k:Int→Option ρ) :
    ă (aEl ρ) 260 (ý [(.int .u64),(.int .u64)] x) (fun h v=>Â (Ă [(.int .u64)] h v) k)=aRU x.1 x.2 k:=by kernel_rfl
theorem aLP (x:Val Ã) (k:Bool→Option ρ) :
    ă (aEo ρ) 219 (ý [Ã] x) (fun h v=>Â (Ă [.bool] h v) k)=aEp x k:=by kernel_rfl
theorem aEG (x:Val Ð) (k:Bool→Option ρ) :
    ă (avO ρ) 162 (ý [Ð] x) (fun h v=>Â (Ă [.bool] h v) k)=as1 x k:=by kernel_rfl
theorem aoQ:(ahd ρ).Ok (af9 ρ):=⟨by kernel_rfl,fun p v kn kx=>by kernel_rfl⟩
theorem as4 (x:Val Ä) (k:Int→Option ρ) :
    ă (af9 ρ) 83 (ý [Ä] x) (fun h v=>Â (Ă [tI] h v) k)=ain x k:=by kernel_rfl
theorem alz:(afP ρ).Ok (aeS ρ):=⟨by kernel_rfl,fun p v kn kx=>by kernel_rfl⟩
theorem anP (x:Val abI) (k:Int→Option ρ) :
    ă (aeS ρ) 73 (ý [m5,tI] x) (fun h v=>Â (Ă [tI] h v) k)=afW x.1 x.2 k:=by kernel_rfl
theorem akC (x:Val abI) (k:Bool→Option ρ) :
    ă (afQ ρ) 65 (ý [m5,tI] x) (fun h v=>Â (Ă [.bool] h v) k)=aeq x.1 x.2 k:=by kernel_rfl
theorem aHN:(avS ρ).Ok (apO ρ):=⟨by kernel_rfl,fun p v kn kx=>by kernel_rfl⟩
theorem aHM:(avR ρ).Ok (apO ρ):=⟨by kernel_rfl,fun p v kn kx=>by kernel_rfl⟩
theorem aPE (x:Val (.pair Ä Ð)) (k:(Val m5)→Option ρ) :
    ă (apO ρ) 168 (ý [Ä,Ð] x) (fun h v=>Â (Ă [m5] h v) k)=aMf x.1 x.2 k:=by kernel_rfl
theorem aEB:(arG ρ).Ok (al7 ρ):=⟨by kernel_rfl,fun p v kn kx=>by kernel_rfl⟩
theorem aEC:(arH ρ).Ok (al7 ρ):=⟨by kernel_rfl,fun p v kn kx=>by kernel_rfl⟩
theorem aLX (x:Val Ä) (k:(Val eI)→Option ρ) :
    ă (al7 ρ) 85 (ý [Ä] x) (fun h v=>Â (Ă [eI] h v) k)=aED x k:=by kernel_rfl
theorem avE (x:Val (.pair abu Ã)) (k:Int→Option ρ) :
    ă (ang ρ) 164 (ý [abu,tI,tI] x) (fun h v=>Â (Ă [tI] h v) k)=akb x.1 x.2.1 x.2.2 k:=by kernel_rfl
theorem aEA (x:Val (.pair tI (.pair tI (.ptr abu)))) (k:Int→Option ρ) :
    ă (avF ρ) 163 (ý [tI,tI,(.ptr abu)] x) (fun h v=>Â (Ă [tI] h v) k)=as0 x.1 x.2.1 x.2.2 k:=by kernel_rfl
theorem as3:(ajF ρ).Ok (afv ρ):=⟨by kernel_rfl,fun p v kn kx=>by kernel_rfl⟩
theorem as2:(ajE ρ).Ok (afv ρ):=⟨by kernel_rfl,fun p v kn kx=>by kernel_rfl⟩
theorem ayc (x:Val ab6) (k:Int→Option ρ) :
    ă (afv ρ) 166 (ý [Ä,abu,tI] x) (fun h v=>Â (Ă [tI] h v) k)=amg x.1 x.2.1 x.2.2 k:=by kernel_rfl
theorem aHH:(avN ρ).Ok (apN ρ):=⟨by kernel_rfl,fun p v kn kx=>by kernel_rfl⟩
theorem aHG:(avM ρ).Ok (apN ρ):=⟨by kernel_rfl,fun p v kn kx=>by kernel_rfl⟩
theorem aPB (x:Val abM) (k:(Val m5)→Option ρ) :
    ă (apN ρ) 88 (ý [m5,m5] x) (fun h v=>Â (Ă [m5] h v) k)=aL7 x.1 x.2 k:=by kernel_rfl
theorem akE:(afo ρ).Ok (δ ρ):=⟨by kernel_rfl,fun p v kn kx=>by kernel_rfl⟩
theorem akD:(afn ρ).Ok (δ ρ):=⟨by kernel_rfl,fun p v kn kx=>by kernel_rfl⟩
theorem ann (x:Val abr) (k:(Val m5)→Option ρ) :
    ă (δ ρ) 94 (ý [abr] x) (fun h v=>Â (Ă [m5] h v) k)=adP x k:=by kernel_rfl
theorem aA6:(aoN ρ).Ok (aoO ρ):=⟨by kernel_rfl,fun p v kn kx=>by kernel_rfl⟩
theorem aHI (x:Val m5) (k:Bool→Option ρ) :
    ă (aoO ρ) 198 (ý [m5] x) (fun h v=>Â (Ă [.bool] h v) k)=ax9 x k:=by kernel_rfl
theorem aHO:(avW ρ).Ok (ayd ρ):=⟨by kernel_rfl,fun p v kn kx=>by kernel_rfl⟩
theorem aPF (x:Val abH) (k:(Val ab3)→Option ρ) :
    ă (ayd ρ) 223 (ý [Ä,tI,tI] x) (fun h v=>Â (Ă [Ł,.bool] h v) k)=aMh x.1 x.2.1 x.2.2 k:=by kernel_rfl
theorem anr:(agN ρ).Ok (Ő ρ):=⟨by kernel_rfl,fun p v kn kx=>by kernel_rfl⟩
theorem anp:(agL ρ).Ok (Ő ρ):=⟨by kernel_rfl,fun p v kn kx=>by kernel_rfl⟩
theorem anq:(agM ρ).Ok (Ő ρ):=⟨by kernel_rfl,fun p v kn kx=>by kernel_rfl⟩
theorem ano:(agK ρ).Ok (Ő ρ):=⟨by kernel_rfl,fun p v kn kx=>by kernel_rfl⟩
theorem aqv (x:Val ab6) (k:Int→Option ρ) :
    ă (Ő ρ) 167 (ý [Ä,abu,tI] x) (fun h v=>Â (Ă [tI] h v) k)=ag6 x.1 x.2.1 x.2.2 k:=by kernel_rfl
theorem aLr:(azx ρ).Ok (ŭ ρ):=⟨by kernel_rfl,fun p v kn kx=>by kernel_rfl⟩
theorem aLs:(azy ρ).Ok (ŭ ρ):=⟨by kernel_rfl,fun p v kn kx=>by kernel_rfl⟩
theorem aLq:(azw ρ).Ok (ŭ ρ):=⟨by kernel_rfl,fun p v kn kx=>by kernel_rfl⟩
theorem aLp:(ajp ρ).Ok (ŭ ρ):=⟨by kernel_rfl,fun p v kn kx=>by kernel_rfl⟩
theorem aLo:(ajo ρ).Ok (ŭ ρ):=⟨by kernel_rfl,fun p v kn kx=>by kernel_rfl⟩
theorem aLn:(ajn ρ).Ok (ŭ ρ):=⟨by kernel_rfl,fun p v kn kx=>by kernel_rfl⟩
theorem aRI (x:Val (.pair Ä (.pair eI eI))) (kA:Val abW→Val abo→Option ρ):goC (ŭ ρ) (aeE (ŭ ρ) 10) 79 [] 0 0 (preC 7 Ĝ) {t:=ý [Ä,eI,eI] x++List.replicate 127 .any,h:=[]} (matK akM 0 adG af8 kA)=au3 x.1 x.2.1 x.2.2 kA:=by kernel_rfl
theorem aUT (p:Val abW) (v:Val abo) (x:Val Ð) (kk:Val abW→Val (.pair tI (.pair tI (.pair f6 (.pair eI (.pair l5 (.pair eW (.pair eI (.pair tI (.pair tI (.pair f6 (.pair eI (.pair l5 (.pair eW (.pair eI (.pair tI (.pair tI (.pair f6 (.pair eI (.pair l5 (.pair eW (.pair eI (.pair abp (.pair abp (.pair f6 abt))))))))))))))))))))))))→Option ρ):goC (Ę ρ) (aeE (Ę ρ) 10) 79 [] 9 4 (rfA (rfC 7 Ĝ)) {t:=upd (adS akM adG af8 p v).t 60 (.agg (flat Ð x)),h:=(adS akM adG af8 p v).h} (matK aDG 9 adG apH kk)=kk p (asM v x):=by kernel_rfl
theorem aUS (p:Val abW) (v:Val abo) (x:Val Ð) (kk:Val abW→Val abo→Option ρ):goC (Ę ρ) (aeE (Ę ρ) 10) 79 [] 9 4 (rfB (rfC 7 Ĝ)) (adS aDG adG apH p (asM v x)) (matK akM 9 adG af8 kk)=ô (ì ((List.length (alQ v))+(List.length [x]))) (kk p (ě v (alQ v++[x]))):=by kernel_rfl
theorem aO0 (p:Val abW) (v:Val abo) (k:Val nn→Option ρ):goC (Ę ρ) (aeE (Ę ρ) 10) 79 [] 0 0 (postC 7 Ĝ) (adS akM adG af8 p v) (matR aij 0 aeb k)=agJ p v (fun y=>k (ae6 y)):=by kernel_rfl
theorem aRH (y:Val Ä):ah0 Tryz.prog Tryz.f79 (adS aij [] aeb () (ae6 y))=some (enc Ä y):=by kernel_rfl
theorem aUR:rfC 7 Ĝ=Code.block 4 (Code.rangeFunc (.tmp 59) #[60] (rfA (rfC 7 Ĝ)) (rfB (rfC 7 Ĝ))):=by kernel_rfl
theorem au2:aJL 7 Ĝ=true:=by kernel_rfl
theorem ajm:Tryz.f79.body=some Ĝ:=by kernel_rfl
theorem aG9:(ajp ρ).Ok (Ę ρ):=⟨by kernel_rfl,fun p v kn kx=>by kernel_rfl⟩
theorem aG8:(ajo ρ).Ok (Ę ρ):=⟨by kernel_rfl,fun p v kn kx=>by kernel_rfl⟩
theorem aG7:(ajn ρ).Ok (Ę ρ):=⟨by kernel_rfl,fun p v kn kx=>by kernel_rfl⟩
end Go.Proofs.ZzM
end
