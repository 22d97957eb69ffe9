/- lemmas -/
import Derived.Test.YthhhehllmdfhiaaGreatAmE
import Derived.KernelRfl
import Derived.Test.YthhhehllmdfhiaaGreatMdTA
import Derived.Test.YthhhehllmdfhiaaGreatProg
set_option linter.all false
set_option linter.unusedSectionVars false
set_option linter.unusedVariables false
set_option linter.unusedSimpArgs false
noncomputable section
set_option maxRecDepth 100000
namespace Go.Proofs.ZzM
open Go Go.Am
def aBT : Nat → Bool
  | 91 => true
  | 140 => true
  | 229 => true
  | 230 => true
  | 231 => true
  | 232 => true
  | 233 => true
  | _ => false
def aKt : Nat → Bool
  | 127 => true
  | _ => false
def apH : Nat → Bool
  | 128 => true
  | _ => false
def isInl : Nat → Bool
  | 2 => true
  | 50 => true
  | 66 => true
  | 74 => true
  | 84 => true
  | 92 => true
  | 93 => true
  | 98 => true
  | 100 => true
  | 124 => true
  | 131 => true
  | 132 => true
  | 136 => true
  | 137 => true
  | 139 => true
  | 141 => true
  | 147 => true
  | 148 => true
  | 149 => true
  | 150 => true
  | 151 => true
  | 152 => true
  | 153 => true
  | 154 => true
  | 155 => true
  | 157 => true
  | 158 => true
  | 159 => true
  | 160 => true
  | 161 => true
  | 165 => true
  | 169 => true
  | 170 => true
  | 175 => true
  | 176 => true
  | 178 => true
  | 193 => true
  | 194 => true
  | 195 => true
  | 196 => true
  | 199 => true
  | 201 => true
  | 202 => true
  | 203 => true
  | 204 => true
  | 206 => true
  | 207 => true
  | 208 => true
  | 209 => true
  | 211 => true
  | 212 => true
  | 214 => true
  | 215 => true
  | 217 => true
  | 218 => true
  | 220 => true
  | 221 => true
  | 222 => true
  | 242 => true
  | 243 => true
  | 244 => true
  | 245 => true
  | 246 => true
  | 247 => true
  | 249 => true
  | 250 => true
  | 253 => true
  | 255 => true
  | 257 => true
  | 261 => true
  | 269 => true
  | 270 => true
  | 272 => true
  | 273 => true
  | 275 => true
  | 276 => true
  | 279 => true
  | 280 => true
  | 286 => true
  | 288 => true
  | 289 => true
  | _ => false
def isFz : Nat → Bool
  | 59 => true
  | 79 => true
  | 94 => true
  | _ => false
def isEat : Nat → Nat → Bool
  | 41, 8 => true
  | 41, 11 => true
  | 49, 4 => true
  | 49, 5 => true
  | 50, 67 => true
  | 176, 25 => true
  | 202, 0 => true
  | _, _ => false
def acy {ρ : Type} (pt : List (Nat × acu)) (tab : List (acC ρ)) : Env ρ :=
  { P := Tryz.prog, eat := isEat, clone := aBT, sort := aKt, compact := apH, inl := isInl, fz := isFz, pure := aPd pt, loops := ajv tab }
def aT3 {ρ : Type} (pt : List (Nat × acu)) (tab : List (acC ρ)) (us : List aSm) : Env ρ :=
  { P := Tryz.prog, eat := isEat, clone := aBT, sort := aKt, compact := apH, inl := isInl, fz := isFz, pure := aPd pt, loops := aKk (acy pt tab) us }
end Go.Proofs.ZzM
end

noncomputable section
set_option maxRecDepth 100000
namespace Go.Proofs.ZzM
open Go Go.Am
def arY : acu := ⟨[ab7], [abu], fun (x : Val ab7) => afd x⟩
def ayV : ace := { pin := 0, cs := [f6, tI], vs := [tI, abu], head := ⟨20, .any :: .any :: .any :: .omp 0 :: aN 4 [.con f6, .con tI, .var tI], [.mapv tI ach]⟩, exits := [(.exit 0, ⟨20, .any :: .any :: .any :: .omp 0 :: aN 4 [.con f6, .con tI], [.mapv tI ach]⟩, [abu])] }
def aok (ρ : Type) : acC ρ := ⟨[], 53, 0, ayV, fun (p : Val (.pair f6 tI)) (v : Val (.pair tI abu)) kn kx => aiA p.1 p.2 v.1 v.2 (fun u0 u1 => kn (u0, u1)) (kx 0)⟩
def aDN : List (Nat × acu) := []
def apn (ρ : Type) : List (acC ρ) := [aok ρ]
def anj (ρ : Type) : Env ρ := acy aDN (apn ρ)
def alW : acu := ⟨[ab5, tI, tI], [.bool], fun (x : Val ac0) => aeY x.1 x.2.1 x.2.2⟩
def aHm : List (Nat × acu) := []
def ary (ρ : Type) : List (acC ρ) := []
def ax1 (ρ : Type) : Env ρ := acy aHm (ary ρ)
def agq : acu := ⟨[tI, tI, tI], [.bool], fun (x : Val acT) => ac8 x.1 x.2.1 x.2.2⟩
def aG5 : List (Nat × acu) := []
def art (ρ : Type) : List (acC ρ) := []
def axW (ρ : Type) : Env ρ := acy aG5 (art ρ)
def ath : acu := ⟨[tI], [.bool], fun (x : Val tI) => ai4 x⟩
def aJ9 : List (Nat × acu) := [(126, agq)]
def auR (ρ : Type) : List (acC ρ) := []
def aBF (ρ : Type) : Env ρ := acy aJ9 (auR ρ)
def aFW : acu := ⟨[tI], [(.int .u64)], fun (x : Val tI) => ali x⟩
def aMc : List (Nat × acu) := []
def axR (ρ : Type) : List (acC ρ) := []
def aEW (ρ : Type) : Env ρ := acy aMc (axR ρ)
def aLP : acu := ⟨[(.int .u64), (.int .u64)], [(.int .u64)], fun (x : Val abZ) => aCc x.1 x.2⟩
def aJT : ace := { pin := 0, cs := [], vs := [(.int .u64), (.int .u64)], head := ⟨12, [.var (.int .u64), .var (.int .u64)], []⟩, exits := [(.exit 0, ⟨12, [.var (.int .u64)], []⟩, [(.int .u64)])] }
def axS (ρ : Type) : acC ρ := ⟨[], 260, 0, aJT, fun (p : Unit) (v : Val abZ) kn kx => aqi v.1 v.2 (fun u0 u1 => kn (u0, u1)) (kx 0)⟩
def aO2 : List (Nat × acu) := []
def aBh (ρ : Type) : List (acC ρ) := [axS ρ]
def aBi (ρ : Type) : Env ρ := acy aO2 (aBh ρ)
def atd : acu := ⟨[ab5], [.bool], fun (x : Val ab5) => amA x⟩
def aJW : List (Nat × acu) := [(259, aFW), (260, aLP)]
def auA (ρ : Type) : List (acC ρ) := []
def aBm (ρ : Type) : Env ρ := acy aJW (auA ρ)
def aAe : acu := ⟨[ach], [.bool], fun (x : Val ach) => anM x⟩
def aDZ : List (Nat × acu) := [(82, alW), (125, ath), (126, agq), (219, atd)]
def apx (ρ : Type) : List (acC ρ) := []
def auQ (ρ : Type) : Env ρ := acy aDZ (apx ρ)
def aoL : acu := ⟨[ab7], [tI], fun (x : Val ab7) => aeH x⟩
def aqN : ace := { pin := 0, cs := [f6, tI, tI, tI, f6, eI, m5, eW, eI], vs := [tI], head := ⟨31, .any :: .box 0 0 :: aN 4 [.con f6, .con tI, .var tI], [.cells [.con tI, .con tI, .con f6, .con eI, .con m5, .con eW, .con eI]]⟩, exits := [(.ret, ⟨31, [.any, .box 0 0, .var tI, .any, .any, .any, .con f6, .con tI], [.cells [.con tI, .con tI, .con f6, .con eI, .con m5, .con eW, .con eI]]⟩, [tI]), (.exit 0, ⟨31, .any :: .box 0 0 :: aN 4 [.con f6, .con tI], [.cells [.con tI, .con tI, .con f6, .con eI, .con m5, .con eW, .con eI]]⟩, [])] }
def ajl (ρ : Type) : acC ρ := ⟨[], 83, 0, aqN, fun (p : Val (.pair f6 abB)) (v : Val tI) kn kx => agd p.1 p.2.1 p.2.2.2.2.1 v (fun u0 => kn u0) (kx 0) (kx 1)⟩
def auX : List (Nat × acu) := [(162, aAe)]
def akg (ρ : Type) : List (acC ρ) := [ajl ρ]
def aim (ρ : Type) : Env ρ := acy auX (akg ρ)
def alT : acu := ⟨[l5, tI], [tI], fun (x : Val abC) => agw x.1 x.2⟩
def aos : ace := { pin := 0, cs := [l5, tI, tI], vs := [tI], head := ⟨19, .con l5 :: .con tI :: aN 5 [.con tI, .var tI], []⟩, exits := [(.ret, ⟨19, [.con l5, .con tI, .any, .any, .var tI, .any, .any, .con tI], []⟩, [tI]), (.exit 0, ⟨19, .con l5 :: .con tI :: aN 5 [.con tI], []⟩, [])] }
def ah0 (ρ : Type) : acC ρ := ⟨[], 73, 0, aos, fun (p : Val (.pair l5 ab5)) (v : Val tI) kn kx => afp p.1 p.2.1 p.2.2 v (fun u0 => kn u0) (kx 0) (kx 1)⟩
def aqF : List (Nat × acu) := []
def aiL (ρ : Type) : List (acC ρ) := [ah0 ρ]
def agY (ρ : Type) : Env ρ := acy aqF (aiL ρ)
def afo : acu := ⟨[l5, tI], [.bool], fun (x : Val abC) => ac9 x.1 x.2⟩
def amT : List (Nat × acu) := [(73, alT)]
def ahd (ρ : Type) : List (acC ρ) := []
def ah1 (ρ : Type) : Env ρ := acy amT (ahd ρ)
def aFZ : acu := ⟨[ab7, ach], [l5], fun (x : Val (.pair ab7 ach)) => ajB x.1 x.2⟩
def aHq : ace := { pin := 0, cs := [eW, tI, tI, tI, f6, eI, m5, eW, eI, tI, tI, tI, tI, tI, tI, tI, tI], vs := [tI, l5], head := ⟨59, .any :: .any :: .box 0 0 :: .box 1 0 :: .any :: .own 2 :: aN 8 [.con eW, .con tI, .var tI], [.cells [.con tI, .con tI, .con f6, .con eI, .con m5, .con eW, .con eI], .cells [.con tI, .con tI, .con tI, .con tI, .con tI, .con tI, .con tI, .con tI], .rowv tI]⟩, exits := [(.exit 0, ⟨59, .any :: .any :: .box 0 0 :: .box 1 0 :: .any :: .own 2 :: aN 8 [.con eW, .con tI], [.cells [.con tI, .con tI, .con f6, .con eI, .con m5, .con eW, .con eI], .cells [.con tI, .con tI, .con tI, .con tI, .con tI, .con tI, .con tI, .con tI], .rowv tI]⟩, [l5])] }
def auU (ρ : Type) : acC ρ := ⟨[], 168, 0, aHq, fun (p : Val (.pair eW abM)) (v : Val abz) kn kx => anw p.1 p.2.1 p.2.2.2.2.2.2.2.2.2.1 v.1 v.2 (fun u0 u1 => kn (u0, u1)) (kx 0)⟩
def aHp : ace := { pin := 0, cs := [eI, tI, tI, tI, tI, tI, tI, tI, tI, tI], vs := [tI, l5], head := ⟨59, .any :: .any :: .any :: .box 0 0 :: .any :: .own 1 :: aN 32 [.con eI, .con tI, .var tI], [.cells [.con tI, .con tI, .con tI, .con tI, .con tI, .con tI, .con tI, .con tI], .rowv tI]⟩, exits := [(.exit 2, ⟨59, .any :: .any :: .any :: .box 0 0 :: .any :: .own 1 :: aN 32 [.con eI, .con tI], [.cells [.con tI, .con tI, .con tI, .con tI, .con tI, .con tI, .con tI, .con tI], .rowv tI]⟩, [l5])] }
def auT (ρ : Type) : acC ρ := ⟨[], 168, 2, aHp, fun (p : Val (.pair eI (.pair tI abw))) (v : Val abz) kn kx => anv p.1 p.2.1 p.2.2.1 v.1 v.2 (fun u0 u1 => kn (u0, u1)) (kx 0)⟩
def aMq : List (Nat × acu) := [(65, afo)]
def ax3 (ρ : Type) : List (acC ρ) := [auU ρ, auT ρ]
def aql (ρ : Type) : Env ρ := acy aMq (ax3 ρ)
def atg : acu := ⟨[ab7], [eI], fun (x : Val ab7) => akt x⟩
def aDP : ace := { pin := 0, cs := [f6, tI, tI, l5, tI, tI, tI, f6, eI, m5, eW, eI, tI, tI, tI, tI, tI, tI, tI, tI], vs := [tI, eI], head := ⟨33, .any :: .box 0 0 :: .any :: .own 1 :: .any :: .box 2 0 :: .any :: .any :: .any :: .con f6 :: .con tI :: .con tI :: aN 5 [.con l5, .con tI, .var tI], [.cells [.con tI, .con tI, .con f6, .con eI, .con m5, .con eW, .con eI], .rowv ab5, .cells [.con tI, .con tI, .con tI, .con tI, .con tI, .con tI, .con tI, .con tI]]⟩, exits := [(.exit 2, ⟨33, .any :: .box 0 0 :: .any :: .own 1 :: .any :: .box 2 0 :: .any :: .any :: .any :: .con f6 :: .con tI :: .con tI :: aN 5 [.con l5, .con tI], [.cells [.con tI, .con tI, .con f6, .con eI, .con m5, .con eW, .con eI], .rowv ab5, .cells [.con tI, .con tI, .con tI, .con tI, .con tI, .con tI, .con tI, .con tI]]⟩, [eI])] }
def aru (ρ : Type) : acC ρ := ⟨[], 85, 2, aDP, fun (p : Val (.pair f6 (.pair tI (.pair tI (.pair l5 abM))))) (v : Val abU) kn kx => ak9 p.2.2.2.1 p.2.2.2.2.1 p.2.2.2.2.2.2.2.2.2.2.2.2.1 v.1 v.2 (fun u0 u1 => kn (u0, u1)) (kx 0)⟩
def aDQ : ace := { pin := 0, cs := [f6, tI, tI, tI, f6, eI, m5, eW, eI], vs := [tI, eI], head := ⟨33, .any :: .box 0 0 :: .any :: .own 1 :: aN 5 [.con f6, .con tI, .var tI], [.cells [.con tI, .con tI, .con f6, .con eI, .con m5, .con eW, .con eI], .rowv ab5]⟩, exits := [(.exit 0, ⟨33, .any :: .box 0 0 :: .any :: .own 1 :: aN 5 [.con f6, .con tI], [.cells [.con tI, .con tI, .con f6, .con eI, .con m5, .con eW, .con eI], .rowv ab5]⟩, [eI])] }
def arv (ρ : Type) : acC ρ := ⟨[], 85, 0, aDQ, fun (p : Val (.pair f6 abB)) (v : Val abU) kn kx => ala p.1 p.2.1 p.2.2.1 p.2.2.2.1 p.2.2.2.2.1 p.2.2.2.2.2.1 p.2.2.2.2.2.2.1 p.2.2.2.2.2.2.2.1 p.2.2.2.2.2.2.2.2 v.1 v.2 (fun u0 u1 => kn (u0, u1)) (kx 0)⟩
def aJ5 : List (Nat × acu) := [(168, aFZ)]
def auH (ρ : Type) : List (acC ρ) := [aru ρ, arv ρ]
def anm (ρ : Type) : Env ρ := acy aJ5 (auH ρ)
def aiu : acu := ⟨[abu, tI, tI], [tI], fun (x : Val (.pair abu ab5)) => af5 x.1 x.2.1 x.2.2⟩
def aww : List (Nat × acu) := []
def ak8 (ρ : Type) : List (acC ρ) := []
def aol (ρ : Type) : Env ρ := acy aww (ak8 ρ)
def aLR : acu := ⟨[tI, tI, (.ptr abu)], [tI], fun (x : Val (.pair tI (.pair tI (.ptr abu)))) => adO x.1 x.2.1 x.2.2⟩
def aDO : List (Nat × acu) := [(125, ath), (164, aiu)]
def apr (ρ : Type) : List (acC ρ) := []
def auG (ρ : Type) : Env ρ := acy aDO (apr ρ)
def aF0 : acu := ⟨[ab7, abu, tI], [tI], fun (x : Val ab1) => ae2 x.1 x.2.1 x.2.2⟩
def auW : ace := { pin := 2, cs := [m5, tI, tI, tI, f6, eI, m5, eW, eI, tI, tI, tI, tI], vs := [tI], head := ⟨19, .con m5 :: .fn 220 [(1, 0)] :: aN 5 [.con tI, .var tI], [.cells [.con tI, .con tI, .con f6, .con eI, .con m5, .con eW, .con eI], .cells [.con tI, .con tI, .con tI, .con tI]]⟩, exits := [(.ret, ⟨19, [.con m5, .fn 220 [(1, 0)], .any, .any, .var tI, .any, .any, .con tI], [.cells [.con tI, .con tI, .con f6, .con eI, .con m5, .con eW, .con eI], .cells [.con tI, .con tI, .con tI, .con tI]]⟩, [tI]), (.exit 0, ⟨19, .con m5 :: .fn 220 [(1, 0)] :: aN 5 [.con tI], [.cells [.con tI, .con tI, .con f6, .con eI, .con m5, .con eW, .con eI], .cells [.con tI, .con tI, .con tI, .con tI]]⟩, [])] }
def ald (ρ : Type) : acC ρ := ⟨[9, 5, 1, 2], 257, 0, auW, fun (p : Val (.pair m5 (.pair tI (.pair tI (.pair tI (.pair f6 (.pair eI (.pair m5 (.pair eW (.pair eI (.pair tI acT))))))))))) (v : Val tI) kn kx => agT p.1 p.2.1 p.2.2.2.2.2.2.2.2.2.1 p.2.2.2.2.2.2.2.2.2.2.1 p.2.2.2.2.2.2.2.2.2.2.2.1 v (fun u0 => kn u0) (kx 0) (kx 1)⟩
def auV : ace := { pin := 2, cs := [eI, tI, tI, tI, f6, eI, m5, eW, eI, tI, tI, tI, tI], vs := [tI], head := ⟨19, .con eI :: .fn 221 [(1, 0)] :: aN 5 [.con tI, .var tI], [.cells [.con tI, .con tI, .con f6, .con eI, .con m5, .con eW, .con eI], .cells [.con tI, .con tI, .con tI, .con tI]]⟩, exits := [(.ret, ⟨19, [.con eI, .fn 221 [(1, 0)], .any, .any, .var tI, .any, .any, .con tI], [.cells [.con tI, .con tI, .con f6, .con eI, .con m5, .con eW, .con eI], .cells [.con tI, .con tI, .con tI, .con tI]]⟩, [tI]), (.exit 0, ⟨19, .con eI :: .fn 221 [(1, 0)] :: aN 5 [.con tI], [.cells [.con tI, .con tI, .con f6, .con eI, .con m5, .con eW, .con eI], .cells [.con tI, .con tI, .con tI, .con tI]]⟩, [])] }
def alc (ρ : Type) : acC ρ := ⟨[9, 10, 1, 2], 255, 0, auV, fun (p : Val (.pair eI (.pair tI (.pair tI (.pair tI (.pair f6 (.pair eI (.pair m5 (.pair eW (.pair eI (.pair tI acT))))))))))) (v : Val tI) kn kx => aeX p.1 p.2.1 p.2.2.2.2.2.2.2.2.2.1 p.2.2.2.2.2.2.2.2.2.2.1 p.2.2.2.2.2.2.2.2.2.2.2.1 v (fun u0 => kn u0) (kx 0) (kx 1)⟩
def ay0 : List (Nat × acu) := [(82, alW), (126, agq), (164, aiu)]
def amo (ρ : Type) : List (acC ρ) := [ald ρ, alc ρ]
def ahI (ρ : Type) : Env ρ := acy ay0 (amo ρ)
def aqa : acu := ⟨[l5, l5], [l5], fun (x : Val (.pair l5 l5)) => aet x.1 x.2⟩
def aHi : ace := { pin := 2, cs := [tI, l5, l5], vs := [tI], head := ⟨19, .own 1 :: .fn 170 [(0, 0)] :: aN 5 [.con tI, .var tI], [.cells [.con l5], .rowc tI]⟩, exits := [(.ret, ⟨19, [.own 1, .fn 170 [(0, 0)], .any, .any, .var tI, .any, .any, .con tI], [.cells [.con l5], .rowc tI]⟩, [tI]), (.exit 0, ⟨19, .own 1 :: .fn 170 [(0, 0)] :: aN 5 [.con tI], [.cells [.con l5], .rowc tI]⟩, [])] }
def auP (ρ : Type) : acC ρ := ⟨[1, 3, 1, 2], 178, 0, aHi, fun (p : Val (.pair tI (.pair l5 l5))) (v : Val tI) kn kx => anu p.1 p.2.1 p.2.2 v (fun u0 => kn u0) (kx 0) (kx 1)⟩
def aHh : ace := { pin := 2, cs := [l5], vs := [tI, tI, l5], head := ⟨42, [.own 1, .fn 170 [(0, 0)], .any, .any, .any, .var tI, .var tI], [.cells [.con l5], .rowv tI]⟩, exits := [(.exit 0, ⟨42, [.own 1, .fn 170 [(0, 0)], .any, .any, .any, .var tI], [.cells [.con l5], .rowv tI]⟩, [tI, l5])] }
def auO (ρ : Type) : acC ρ := ⟨[1, 3], 169, 0, aHh, fun (p : Val l5) (v : Val (.pair tI abz)) kn kx => ag5 p v.1 v.2.1 v.2.2 (fun u0 u1 u2 => kn (u0, u1, u2)) (kx 0)⟩
def aMp : List (Nat × acu) := [(65, afo)]
def ax0 (ρ : Type) : List (acC ρ) := [auP ρ, auO ρ]
def aqk (ρ : Type) : Env ρ := acy aMp (ax0 ρ)
def aee : acu := ⟨[abt], [l5], fun (x : Val abt) => acE x⟩
def amV : ace := { pin := 0, cs := [abt, abt, tI], vs := [tI, tI], head := ⟨36, .con abt :: .any :: .any :: .var tI :: aN 5 [.con abt, .con tI, .var tI], []⟩, exits := [(.exit 0, ⟨36, .con abt :: .any :: .any :: .var tI :: aN 5 [.con abt, .con tI], []⟩, [tI])] }
def ahE (ρ : Type) : acC ρ := ⟨[], 94, 0, amV, fun (p : Val (.pair abt (.pair abt tI))) (v : Val ab5) kn kx => adB p.2.1 p.2.2 v.1 v.2 (fun u0 u1 => kn (u0, u1)) (kx 0)⟩
def amU : ace := { pin := 0, cs := [abt, tI], vs := [tI, l5], head := ⟨36, aN 6 (.own 0 :: aN 18 [.con abt, .con tI, .var tI]), [.rowv tI]⟩, exits := [(.exit 2, ⟨36, aN 6 (.own 0 :: aN 18 [.con abt, .con tI]), [.rowv tI]⟩, [l5])] }
def ahD (ρ : Type) : acC ρ := ⟨[], 94, 2, amU, fun (p : Val (.pair abt tI)) (v : Val abz) kn kx => acI p.1 p.2 v.1 v.2 (fun u0 u1 => kn (u0, u1)) (kx 0)⟩
def aoS : List (Nat × acu) := []
def ah2 (ρ : Type) : List (acC ρ) := [ahE ρ, ahD ρ]
def afq (ρ : Type) : Env ρ := acy aoS (ah2 ρ)
def avM : acu := ⟨[l5], [.bool], fun (x : Val l5) => ais x⟩
def aBD : ace := { pin := 0, cs := [l5, l5, tI], vs := [tI], head := ⟨32, .con l5 :: aN 4 [.con l5, .con tI, .var tI], []⟩, exits := [(.ret, ⟨32, [.con l5, .any, .var .bool, .any, .any, .con l5, .con tI], []⟩, [.bool]), (.exit 0, ⟨32, .con l5 :: aN 4 [.con l5, .con tI], []⟩, [])] }
def apv (ρ : Type) : acC ρ := ⟨[], 198, 0, aBD, fun (p : Val (.pair l5 abC)) (v : Val tI) kn kx => aju p.1 p.2.1 p.2.2 v (fun u0 => kn u0) (kx 0) (kx 1)⟩
def aHk : List (Nat × acu) := [(126, agq)]
def arx (ρ : Type) : List (acC ρ) := [apv ρ]
def apw (ρ : Type) : Env ρ := acy aHk (arx ρ)
def aNI : acu := ⟨[ab7, tI, tI], [adL, .bool], fun (x : Val abN) => aqu x.1 x.2.1 x.2.2⟩
def aHs : ace := { pin := 4, cs := [m5, tI, tI, tI, f6, eI, m5, eW, eI, tI, tI, tI, tI, tI, tI], vs := [tI], head := ⟨19, .con m5 :: .fn 261 [(1, 0), (2, 0)] :: aN 5 [.con tI, .var tI], [.cells [.con tI, .con tI, .con f6, .con eI, .con m5, .con eW, .con eI], .cells [.con tI], .cells [.con tI], .cells [.con tI, .con tI, .con tI, .con tI]]⟩, exits := [(.ret, ⟨19, [.con m5, .fn 261 [(1, 0), (2, 0)], .any, .any, .var tI, .any, .any, .con tI], [.cells [.con tI, .con tI, .con f6, .con eI, .con m5, .con eW, .con eI], .cells [.con tI], .cells [.con tI], .cells [.con tI, .con tI, .con tI, .con tI]]⟩, [tI]), (.exit 0, ⟨19, .con m5 :: .fn 261 [(1, 0), (2, 0)] :: aN 5 [.con tI], [.cells [.con tI, .con tI, .con f6, .con eI, .con m5, .con eW, .con eI], .cells [.con tI], .cells [.con tI], .cells [.con tI, .con tI, .con tI, .con tI]]⟩, [])] }
def auY (ρ : Type) : acC ρ := ⟨[1, 3], 257, 0, aHs, fun (p : Val (.pair m5 (.pair tI (.pair tI (.pair tI (.pair f6 (.pair eI (.pair m5 (.pair eW (.pair eI (.pair tI (.pair tI (.pair tI acT))))))))))))) (v : Val tI) kn kx => anz p.1 p.2.1 p.2.2.2.2.2.2.2.2.2.1 p.2.2.2.2.2.2.2.2.2.2.1 v (fun u0 => kn u0) (kx 0) (kx 1)⟩
def aMr : List (Nat × acu) := [(126, agq)]
def ax4 (ρ : Type) : List (acC ρ) := [auY ρ]
def awE (ρ : Type) : Env ρ := acy aMr (ax4 ρ)
def ayv : acu := ⟨[ab7, abu, tI], [tI], fun (x : Val ab1) => adP x.1 x.2.1 x.2.2⟩
def apC : ace := { pin := 2, cs := [eW, tI, tI, tI, f6, eI, m5, eW, eI, tI, tI, l5, l5, tI, tI, tI, tI], vs := [tI], head := ⟨19, .con eW :: .fn 222 [(1, 0)] :: aN 5 [.con tI, .var tI], [.cells [.con tI, .con tI, .con f6, .con eI, .con m5, .con eW, .con eI], .cells [.con tI, .con tI, .con l5, .con l5, .con tI, .con tI, .con tI, .con tI]]⟩, exits := [(.ret, ⟨19, [.con eW, .fn 222 [(1, 0)], .any, .any, .var tI, .any, .any, .con tI], [.cells [.con tI, .con tI, .con f6, .con eI, .con m5, .con eW, .con eI], .cells [.con tI, .con tI, .con l5, .con l5, .con tI, .con tI, .con tI, .con tI]]⟩, [tI]), (.exit 0, ⟨19, .con eW :: .fn 222 [(1, 0)] :: aN 5 [.con tI], [.cells [.con tI, .con tI, .con f6, .con eI, .con m5, .con eW, .con eI], .cells [.con tI, .con tI, .con l5, .con l5, .con tI, .con tI, .con tI, .con tI]]⟩, [])] }
def aiW (ρ : Type) : acC ρ := ⟨[4, 5, 1, 2], 207, 0, apC, fun (p : Val (.pair eW (.pair tI (.pair tI (.pair tI (.pair f6 (.pair eI (.pair m5 (.pair eW (.pair eI acg)))))))))) (v : Val tI) kn kx => afQ p.1 p.2.1 p.2.2.2.2.2.2.2.2.2.1 v (fun u0 => kn u0) (kx 0) (kx 1)⟩
def apA : ace := { pin := 0, cs := [abu, l5, tI, tI, tI, l5, tI, tI, tI, f6, eI, m5, eW, eI, tI, tI, l5, l5, tI, tI, tI, tI, l5], vs := [tI], head := ⟨140, .any :: .con abu :: .any :: .box 0 0 :: .any :: .any :: .any :: .box 1 0 :: .con l5 :: .any :: .con tI :: aN 65 [.own 2, .con tI, .con tI, .any, .any, .any, .con l5, .con tI, .var tI], [.cells [.con tI, .con tI, .con f6, .con eI, .con m5, .con eW, .con eI], .cells [.con tI, .con tI, .con l5, .con l5, .con tI, .con tI, .con tI, .con tI], .rowc tI]⟩, exits := [(.ret, ⟨140, .any :: .con abu :: .any :: .box 0 0 :: .any :: .any :: .var tI :: .box 1 0 :: .con l5 :: .any :: .con tI :: aN 65 [.own 2, .con tI, .con tI, .any, .any, .any, .con l5, .con tI], [.cells [.con tI, .con tI, .con f6, .con eI, .con m5, .con eW, .con eI], .cells [.con tI, .con tI, .con l5, .con l5, .con tI, .con tI, .con tI, .con tI], .rowc tI]⟩, [tI]), (.exit 2, ⟨140, .any :: .con abu :: .any :: .box 0 0 :: .any :: .any :: .any :: .box 1 0 :: .con l5 :: .any :: .con tI :: aN 65 [.own 2, .con tI, .con tI, .any, .any, .any, .con l5, .con tI], [.cells [.con tI, .con tI, .con f6, .con eI, .con m5, .con eW, .con eI], .cells [.con tI, .con tI, .con l5, .con l5, .con tI, .con tI, .con tI, .con tI], .rowc tI]⟩, [])] }
def aiU (ρ : Type) : acC ρ := ⟨[], 167, 2, apA, fun (p : Val (.pair abu (.pair l5 (.pair tI (.pair tI (.pair tI (.pair l5 (.pair tI (.pair tI (.pair tI (.pair f6 (.pair eI (.pair m5 (.pair eW (.pair eI (.pair tI (.pair tI (.pair l5 (.pair l5 (.pair tI abH)))))))))))))))))))) (v : Val tI) kn kx => afP p.1 p.2.2.1 p.2.2.2.2.2.1 p.2.2.2.2.2.2.1 p.2.2.2.2.2.2.2.2.2.2.2.2.2.2.2.1 v (fun u0 => kn u0) (kx 0) (kx 1)⟩
def apB : ace := { pin := 0, cs := [abu, l5, tI, tI, tI, f6, eI, m5, eW, eI, tI, tI, l5, l5, tI, tI, tI, tI, l5], vs := [tI], head := ⟨140, .any :: .con abu :: .any :: .box 0 0 :: .any :: .any :: .any :: .box 1 0 :: .con l5 :: aN 67 [.own 2, .con tI, .var tI], [.cells [.con tI, .con tI, .con f6, .con eI, .con m5, .con eW, .con eI], .cells [.con tI, .con tI, .con l5, .con l5, .con tI, .con tI, .con tI, .con tI], .rowc tI]⟩, exits := [(.ret, ⟨140, .any :: .con abu :: .any :: .box 0 0 :: .any :: .any :: .var tI :: .box 1 0 :: .con l5 :: aN 67 [.own 2, .con tI], [.cells [.con tI, .con tI, .con f6, .con eI, .con m5, .con eW, .con eI], .cells [.con tI, .con tI, .con l5, .con l5, .con tI, .con tI, .con tI, .con tI], .rowc tI]⟩, [tI]), (.exit 0, ⟨140, .any :: .con abu :: .any :: .box 0 0 :: .any :: .any :: .any :: .box 1 0 :: .con l5 :: aN 67 [.own 2, .con tI], [.cells [.con tI, .con tI, .con f6, .con eI, .con m5, .con eW, .con eI], .cells [.con tI, .con tI, .con l5, .con l5, .con tI, .con tI, .con tI, .con tI], .rowc tI]⟩, [])] }
def aiV (ρ : Type) : acC ρ := ⟨[], 167, 0, apB, fun (p : Val (.pair abu (.pair l5 (.pair tI (.pair tI (.pair tI (.pair f6 (.pair eI (.pair m5 (.pair eW (.pair eI (.pair tI (.pair tI (.pair l5 (.pair l5 (.pair tI abH)))))))))))))))) (v : Val tI) kn kx => ad0 p.1 p.2.1 p.2.2.1 p.2.2.2.2.2.2.2.2.2.2.2.1 p.2.2.2.2.2.2.2.2.2.2.2.2.2.2.2.2.2.2 v (fun u0 => kn u0) (kx 0) (kx 1)⟩
def apz : ace := { pin := 0, cs := [l5, tI, tI, tI, f6, eI, m5, eW, eI, tI, tI, l5, l5, tI, tI, tI, tI], vs := [tI], head := ⟨140, .any :: .any :: .any :: .box 0 0 :: .any :: .any :: .any :: .box 1 0 :: aN 90 [.con l5, .con tI, .var tI], [.cells [.con tI, .con tI, .con f6, .con eI, .con m5, .con eW, .con eI], .cells [.con tI, .con tI, .con l5, .con l5, .con tI, .con tI, .con tI, .con tI]]⟩, exits := [(.ret, ⟨140, .any :: .any :: .any :: .box 0 0 :: .any :: .any :: .var tI :: .box 1 0 :: aN 90 [.con l5, .con tI], [.cells [.con tI, .con tI, .con f6, .con eI, .con m5, .con eW, .con eI], .cells [.con tI, .con tI, .con l5, .con l5, .con tI, .con tI, .con tI, .con tI]]⟩, [tI]), (.exit 4, ⟨140, .any :: .any :: .any :: .box 0 0 :: .any :: .any :: .any :: .box 1 0 :: aN 90 [.con l5, .con tI], [.cells [.con tI, .con tI, .con f6, .con eI, .con m5, .con eW, .con eI], .cells [.con tI, .con tI, .con l5, .con l5, .con tI, .con tI, .con tI, .con tI]]⟩, [])] }
def aiT (ρ : Type) : acC ρ := ⟨[], 167, 4, apz, fun (p : Val (.pair l5 (.pair tI (.pair tI (.pair tI (.pair f6 (.pair eI (.pair m5 (.pair eW (.pair eI acg)))))))))) (v : Val tI) kn kx => adZ p.1 p.2.1 p.2.2.1 p.2.2.2.1 p.2.2.2.2.1 p.2.2.2.2.2.1 p.2.2.2.2.2.2.1 p.2.2.2.2.2.2.2.1 p.2.2.2.2.2.2.2.2.1 p.2.2.2.2.2.2.2.2.2.2.1 v (fun u0 => kn u0) (kx 0) (kx 1)⟩
def asC : List (Nat × acu) := [(82, alW), (88, aqa), (94, aee), (125, ath), (126, agq), (164, aiu), (198, avM), (223, aNI)]
def ajm (ρ : Type) : List (acC ρ) := [aiW ρ, aiU ρ, aiV ρ, aiT ρ]
def aeh (ρ : Type) : Env ρ := acy asC (ajm ρ)
def adW : acu := ⟨[ab7], [tI], fun (x : Val ab7) => acP x⟩
def aj0 : acu := ⟨[ab7, eI, eI], [ab7], fun (x : Val (.pair ab7 (.pair eI eI))) => aCb x.1 x.2.1 x.2.2⟩
noncomputable def aJC : ace := { pin := 8, cs := [l5, tI, tI, tI, f6, eI, m5, eW, eI, tI, tI, abq, tI, tI], vs := [tI, abq], head := ⟨34, .any :: .any :: .any :: .box 2 0 :: aN 21 [.con l5, .con tI, .var tI], [.cells [.con tI, .con tI, .con f6, .con eI, .con m5, .con eW, .con eI], .cells [.con tI, .con tI, .nils, .nils, .nils, .nils, .nils], .cells [.omp 5], .cells [.omp 6], .cells [.nilfn, .fn 159 [(2, 0), (0, 0)], .fn 159 [(2, 0), (0, 0)], .fn 160 [(3, 0), (0, 0), (2, 0)]], .mapv tI .bool, .mapc tI .bool, .cells [.con tI, .con tI]]⟩, exits := [(.exit 0, ⟨34, .any :: .any :: .any :: .box 2 0 :: aN 21 [.con l5, .con tI], [.cells [.con tI, .con tI, .con f6, .con eI, .con m5, .con eW, .con eI], .cells [.con tI, .con tI, .nils, .nils, .nils, .nils, .nils], .cells [.omp 5], .cells [.omp 6], .cells [.nilfn, .fn 159 [(2, 0), (0, 0)], .fn 159 [(2, 0), (0, 0)], .fn 160 [(3, 0), (0, 0), (2, 0)]], .mapv tI .bool, .mapc tI .bool, .cells [.con tI, .con tI]]⟩, [abq])] }
noncomputable def axE (ρ : Type) : acC ρ := ⟨[7, 5], 160, 0, aJC, fun (p : Val (.pair l5 (.pair tI (.pair tI (.pair tI (.pair f6 (.pair eI (.pair m5 (.pair eW (.pair eI (.pair tI (.pair tI (.pair abq ab5))))))))))))) (v : Val (.pair tI abq)) kn kx => amb p.1 p.2.1 v.1 v.2 (fun u0 u1 => kn (u0, u1)) (kx 0)⟩
noncomputable def aJD : ace := { pin := 0, cs := [eI, eI, tI, tI, tI, f6, eI, m5, eW, eI, tI, tI], vs := [tI, abq, abq], head := ⟨130, .any :: .any :: .con eI :: .box 0 0 :: .any :: .any :: .box 1 0 :: .box 2 0 :: .box 3 0 :: .any :: .box 4 0 :: aN 19 [.con eI, .con tI, .var tI], [.cells [.con tI, .con tI, .con f6, .con eI, .con m5, .con eW, .con eI], .cells [.con tI, .con tI, .nils, .nils, .nils, .nils, .nils], .cells [.omp 5], .cells [.omp 6], .cells [.nilfn, .fn 159 [(2, 0), (0, 0)], .fn 159 [(2, 0), (0, 0)], .fn 160 [(3, 0), (0, 0), (2, 0)]], .mapv tI .bool, .mapv tI .bool]⟩, exits := [(.exit 0, ⟨130, .any :: .any :: .con eI :: .box 0 0 :: .any :: .any :: .box 1 0 :: .box 2 0 :: .box 3 0 :: .any :: .box 4 0 :: aN 19 [.con eI, .con tI], [.cells [.con tI, .con tI, .con f6, .con eI, .con m5, .con eW, .con eI], .cells [.con tI, .con tI, .nils, .nils, .nils, .nils, .nils], .cells [.omp 5], .cells [.omp 6], .cells [.nilfn, .fn 159 [(2, 0), (0, 0)], .fn 159 [(2, 0), (0, 0)], .fn 160 [(3, 0), (0, 0), (2, 0)]], .mapv tI .bool, .mapv tI .bool]⟩, [abq, abq])] }
noncomputable def axF (ρ : Type) : acC ρ := ⟨[], 79, 0, aJD, fun (p : Val (.pair eI (.pair eI (.pair tI (.pair tI (.pair tI (.pair f6 (.pair eI (.pair m5 (.pair eW abY)))))))))) (v : Val (.pair tI (.pair abq abq))) kn kx => aqe p.2.1 p.2.2.1 p.2.2.2.2.2.1 p.2.2.2.2.2.2.2.2.1 v.1 v.2.1 v.2.2 (fun u0 u1 u2 => kn (u0, u1, u2)) (kx 0)⟩
noncomputable def aJB : ace := { pin := 0, cs := [eI, eI, tI, tI, tI, f6, eI, m5, eW, eI, tI, tI, abq], vs := [tI, abq], head := ⟨130, .any :: .any :: .con eI :: .box 0 0 :: .any :: .any :: .box 1 0 :: .box 2 0 :: .box 3 0 :: aN 34 [.con eI, .con tI, .var tI], [.cells [.con tI, .con tI, .con f6, .con eI, .con m5, .con eW, .con eI], .cells [.con tI, .con tI, .nils, .nils, .nils, .nils, .nils], .cells [.omp 4], .cells [.omp 5], .mapv tI .bool, .mapc tI .bool]⟩, exits := [(.exit 2, ⟨130, .any :: .any :: .con eI :: .box 0 0 :: .any :: .any :: .box 1 0 :: .box 2 0 :: .box 3 0 :: aN 34 [.con eI, .con tI], [.cells [.con tI, .con tI, .con f6, .con eI, .con m5, .con eW, .con eI], .cells [.con tI, .con tI, .nils, .nils, .nils, .nils, .nils], .cells [.omp 4], .cells [.omp 5], .mapv tI .bool, .mapc tI .bool]⟩, [abq])] }
noncomputable def axD (ρ : Type) : acC ρ := ⟨[], 79, 2, aJB, fun (p : Val (.pair eI (.pair eI (.pair tI (.pair tI (.pair tI (.pair f6 (.pair eI (.pair m5 (.pair eW (.pair eI (.pair tI (.pair tI abq))))))))))))) (v : Val (.pair tI abq)) kn kx => ama p.2.1 p.2.2.1 v.1 v.2 (fun u0 u1 => kn (u0, u1)) (kx 0)⟩
noncomputable def aJA : ace := { pin := 0, cs := [eI, tI, tI, tI, f6, eI, m5, eW, eI, tI, tI, f6, eI, m5, eW, eI, tI, tI, eI, abq, abq, f6], vs := [tI, eI], head := ⟨130, .any :: .any :: .any :: .box 0 0 :: .any :: .any :: .box 1 0 :: .box 2 0 :: .box 3 0 :: aN 6 (.box 4 0 :: aN 52 [.con eI, .con tI, .var tI]), [.cells [.con tI, .con tI, .con f6, .con eI, .con m5, .con eW, .con eI], .cells [.con tI, .con tI, .con f6, .con eI, .con m5, .con eW, .con eI], .cells [.omp 5], .cells [.omp 6], .cells [.con tI, .con tI, .own 7, .own 8, .nils, .nils, .con eI], .mapc tI .bool, .mapc tI .bool, .rowc ach, .rowv ab5]⟩, exits := [(.exit 6, ⟨130, .any :: .any :: .any :: .box 0 0 :: .any :: .any :: .box 1 0 :: .box 2 0 :: .box 3 0 :: aN 6 (.box 4 0 :: aN 52 [.con eI, .con tI]), [.cells [.con tI, .con tI, .con f6, .con eI, .con m5, .con eW, .con eI], .cells [.con tI, .con tI, .con f6, .con eI, .con m5, .con eW, .con eI], .cells [.omp 5], .cells [.omp 6], .cells [.con tI, .con tI, .own 7, .own 8, .nils, .nils, .con eI], .mapc tI .bool, .mapc tI .bool, .rowc ach, .rowv ab5]⟩, [eI])] }
noncomputable def akW (ρ : Type) : acC ρ := ⟨[], 79, 6, aJA, fun (p : Val (.pair eI (.pair tI (.pair tI (.pair tI (.pair f6 (.pair eI (.pair m5 (.pair eW (.pair eI (.pair tI (.pair tI (.pair f6 (.pair eI (.pair m5 (.pair eW (.pair eI (.pair tI (.pair tI (.pair eI (.pair abq (.pair abq f6)))))))))))))))))))))) (v : Val abU) kn kx => al9 p.1 p.2.1 p.2.2.2.2.2.2.2.2.2.2.2.2.2.2.2.2.2.2.2.1 v.1 v.2 (fun u0 u1 => kn (u0, u1)) (kx 0)⟩
noncomputable def aJz : ace := { pin := 0, cs := [m5, tI, tI, tI, f6, eI, m5, eW, eI, tI, tI, f6, eI, m5, eW, eI, tI, tI, eI, abq, abq, f6, eI], vs := [tI, m5], head := ⟨130, .any :: .any :: .any :: .box 0 0 :: .any :: .any :: .box 1 0 :: .box 2 0 :: .box 3 0 :: aN 6 (.box 4 0 :: aN 70 [.con m5, .con tI, .var tI]), [.cells [.con tI, .con tI, .con f6, .con eI, .con m5, .con eW, .con eI], .cells [.con tI, .con tI, .con f6, .con eI, .con m5, .con eW, .con eI], .cells [.omp 5], .cells [.omp 6], .cells [.con tI, .con tI, .own 7, .own 8, .own 9, .nils, .con eI], .mapc tI .bool, .mapc tI .bool, .rowc ach, .rowc ab5, .rowv adL]⟩, exits := [(.exit 8, ⟨130, .any :: .any :: .any :: .box 0 0 :: .any :: .any :: .box 1 0 :: .box 2 0 :: .box 3 0 :: aN 6 (.box 4 0 :: aN 70 [.con m5, .con tI]), [.cells [.con tI, .con tI, .con f6, .con eI, .con m5, .con eW, .con eI], .cells [.con tI, .con tI, .con f6, .con eI, .con m5, .con eW, .con eI], .cells [.omp 5], .cells [.omp 6], .cells [.con tI, .con tI, .own 7, .own 8, .own 9, .nils, .con eI], .mapc tI .bool, .mapc tI .bool, .rowc ach, .rowc ab5, .rowv adL]⟩, [m5])] }
noncomputable def akV (ρ : Type) : acC ρ := ⟨[], 79, 8, aJz, fun (p : Val (.pair m5 (.pair tI (.pair tI (.pair tI (.pair f6 (.pair eI (.pair m5 (.pair eW (.pair eI (.pair tI (.pair tI (.pair f6 (.pair eI (.pair m5 (.pair eW (.pair eI (.pair tI (.pair tI (.pair eI (.pair abq (.pair abq (.pair f6 eI))))))))))))))))))))))) (v : Val (.pair tI m5)) kn kx => al8 p.1 p.2.1 p.2.2.2.2.2.2.2.2.2.2.2.2.2.2.2.2.2.2.2.1 v.1 v.2 (fun u0 u1 => kn (u0, u1)) (kx 0)⟩
noncomputable def aJy : ace := { pin := 0, cs := [eW, tI, tI, tI, f6, eI, m5, eW, eI, tI, tI, eI, abq, f6, eI, m5], vs := [tI, eW], head := ⟨130, aN 6 (.box 0 0 :: .any :: .box 1 0 :: aN 6 (.box 2 0 :: aN 88 [.con eW, .con tI, .var tI])), [.cells [.con tI, .con tI, .con f6, .con eI, .con m5, .con eW, .con eI], .cells [.omp 3], .cells [.con tI, .con tI, .own 4, .own 5, .own 6, .own 7, .con eI], .mapc tI .bool, .rowc ach, .rowc ab5, .rowc adL, .rowv acg]⟩, exits := [(.exit 10, ⟨130, aN 6 (.box 0 0 :: .any :: .box 1 0 :: aN 6 (.box 2 0 :: aN 88 [.con eW, .con tI])), [.cells [.con tI, .con tI, .con f6, .con eI, .con m5, .con eW, .con eI], .cells [.omp 3], .cells [.con tI, .con tI, .own 4, .own 5, .own 6, .own 7, .con eI], .mapc tI .bool, .rowc ach, .rowc ab5, .rowc adL, .rowv acg]⟩, [eW])] }
noncomputable def akU (ρ : Type) : acC ρ := ⟨[], 79, 10, aJy, fun (p : Val (.pair eW (.pair tI (.pair tI (.pair tI (.pair f6 (.pair eI (.pair m5 (.pair eW (.pair eI (.pair tI (.pair tI (.pair eI (.pair abq (.pair f6 (.pair eI m5)))))))))))))))) (v : Val (.pair tI eW)) kn kx => al7 p.1 p.2.1 p.2.2.2.2.2.2.2.2.2.2.2.2.1 v.1 v.2 (fun u0 u1 => kn (u0, u1)) (kx 0)⟩
noncomputable def av4 : List (Nat × acu) := [(94, aee)]
noncomputable def asg (ρ : Type) : List (acC ρ) := [axE ρ, axF ρ, axD ρ, akW ρ, akV ρ, akU ρ]
noncomputable def aeF (ρ : Type) : Env ρ := acy av4 (asg ρ)
noncomputable def al6 : Tpl := ⟨130, .any :: .any :: .any :: .box 0 0 :: .any :: .any :: .box 1 0 :: .box 2 0 :: .box 3 0 :: aN 6 (.box 4 0 :: aN 43 [.fn 218 [(5, 0), (6, 0)]]), [.cells [.var tI, .var tI, .var f6, .var eI, .var m5, .var eW, .var eI], .cells [.var tI, .var tI, .var f6, .var eI, .var m5, .var eW, .var eI], .cells [.omp 7], .cells [.omp 8], .cells [.con tI, .con tI, .own 9, .nils, .nils, .nils, .con eI], .cells [.var tI, .var tI, .var f6, .var eI, .var m5, .var eW, .var eI], .cells [.omp 7], .mapv tI .bool, .mapv tI .bool, .rowv ach]⟩
noncomputable def aAD : Tpl := ⟨130, .any :: .any :: .any :: .box 0 0 :: .any :: .any :: .box 1 0 :: .box 2 0 :: .box 3 0 :: aN 6 (.box 4 0 :: .box 10 0 :: aN 42 [.fn 218 [(5, 0), (6, 0)]]), [.cells [.var tI, .var tI, .var f6, .var eI, .var m5, .var eW, .var eI], .cells [.var tI, .var tI, .var f6, .var eI, .var m5, .var eW, .var eI], .cells [.omp 7], .cells [.omp 8], .cells [.con tI, .con tI, .own 9, .nils, .nils, .nils, .con eI], .cells [.var tI, .var tI, .var f6, .var eI, .var m5, .var eW, .var eI], .cells [.omp 7], .mapv tI .bool, .mapv tI .bool, .rowv ach, .cells [.var tI, .var tI, .var tI, .var tI, .var tI, .var tI, .var tI, .var tI]]⟩
noncomputable def akS (ρ : Type) : List (acC ρ) := [akW ρ, akV ρ, akU ρ]
noncomputable def adm (ρ : Type) : Env ρ := { acy av4 (akS ρ) with inl := fun _ => false }
noncomputable def akd : Tpl := ⟨130, aN 6 [.box 0 0], [.cells [.var tI, .var tI, .var f6, .var eI, .var m5, .var eW, .var eI]]⟩
abbrev agt : List Ty := [tI, tI, f6, eI, m5, eW, eI]
noncomputable def ahe (y : Val ab7) : Val abp := (y.1.1, y.1.2, y.2.1, y.2.2.1, y.2.2.2.1, y.2.2.2.2.1, y.2.2.2.2.2)
noncomputable def adp : Code := (alj Tryz.prog 79).getD .skip
abbrev af4 : List Ty := [tI, tI, eI]
abbrev aij : List Ty := [tI, tI, f6, eI, m5, eW, eI, tI, tI, f6, eI, m5, eW, eI, tI, tI, f6, eI, m5, eW, eI, abq, abq, f6]
abbrev aqd : List Ty := [tI, tI, f6, eI, m5, eW, eI, tI, tI, f6, eI, m5, eW, eI, tI, tI, f6, eI, m5, eW, eI, abq, abq, f6, tI, tI, tI, tI, tI, tI, tI, tI]
abbrev acK (v : Val abo) : List (Val ach) := v.2.2.2.2.2.2.2.2.2.2.2.2.2.2.2.2.1
abbrev aeg (v : Val abo) : List (Int × Bool) := v.2.2.2.2.2.2.2.2.2.2.2.2.2.2.2.2.2.2.2.2.2.1
abbrev am2 (v : Val abo) : List (Val ach) := v.2.2.2.2.2.2.2.2.2.2.2.2.2.2.2.2.2.2.2.2.2.2.2
noncomputable def ado (v : Val abo) (z : List (Val ach)) : Val abo := (v.1, v.2.1, v.2.2.1, v.2.2.2.1, v.2.2.2.2.1, v.2.2.2.2.2.1, v.2.2.2.2.2.2.1, v.2.2.2.2.2.2.2.1, v.2.2.2.2.2.2.2.2.1, v.2.2.2.2.2.2.2.2.2.1, v.2.2.2.2.2.2.2.2.2.2.1, v.2.2.2.2.2.2.2.2.2.2.2.1, v.2.2.2.2.2.2.2.2.2.2.2.2.1, v.2.2.2.2.2.2.2.2.2.2.2.2.2.1, v.2.2.2.2.2.2.2.2.2.2.2.2.2.2.1, v.2.2.2.2.2.2.2.2.2.2.2.2.2.2.2.1, v.2.2.2.2.2.2.2.2.2.2.2.2.2.2.2.2.1, v.2.2.2.2.2.2.2.2.2.2.2.2.2.2.2.2.2.1, v.2.2.2.2.2.2.2.2.2.2.2.2.2.2.2.2.2.2.1, v.2.2.2.2.2.2.2.2.2.2.2.2.2.2.2.2.2.2.2.1, v.2.2.2.2.2.2.2.2.2.2.2.2.2.2.2.2.2.2.2.2.1, v.2.2.2.2.2.2.2.2.2.2.2.2.2.2.2.2.2.2.2.2.2.1, v.2.2.2.2.2.2.2.2.2.2.2.2.2.2.2.2.2.2.2.2.2.2.1, z)
noncomputable def ash (v : Val abo) (x : Val ach) : Val (.pair tI (.pair tI (.pair f6 (.pair eI (.pair m5 (.pair eW (.pair eI (.pair tI (.pair tI (.pair f6 (.pair eI (.pair m5 (.pair eW (.pair eI (.pair tI (.pair tI (.pair f6 (.pair eI (.pair m5 (.pair eW (.pair eI (.pair abq (.pair abq (.pair f6 abw)))))))))))))))))))))))) := (v.1, v.2.1, v.2.2.1, v.2.2.2.1, v.2.2.2.2.1, v.2.2.2.2.2.1, v.2.2.2.2.2.2.1, v.2.2.2.2.2.2.2.1, v.2.2.2.2.2.2.2.2.1, v.2.2.2.2.2.2.2.2.2.1, v.2.2.2.2.2.2.2.2.2.2.1, v.2.2.2.2.2.2.2.2.2.2.2.1, v.2.2.2.2.2.2.2.2.2.2.2.2.1, v.2.2.2.2.2.2.2.2.2.2.2.2.2.1, v.2.2.2.2.2.2.2.2.2.2.2.2.2.2.1, v.2.2.2.2.2.2.2.2.2.2.2.2.2.2.2.1, v.2.2.2.2.2.2.2.2.2.2.2.2.2.2.2.2.1, v.2.2.2.2.2.2.2.2.2.2.2.2.2.2.2.2.2.1, v.2.2.2.2.2.2.2.2.2.2.2.2.2.2.2.2.2.2.1, v.2.2.2.2.2.2.2.2.2.2.2.2.2.2.2.2.2.2.2.1, v.2.2.2.2.2.2.2.2.2.2.2.2.2.2.2.2.2.2.2.2.1, v.2.2.2.2.2.2.2.2.2.2.2.2.2.2.2.2.2.2.2.2.2.1, v.2.2.2.2.2.2.2.2.2.2.2.2.2.2.2.2.2.2.2.2.2.2.1, v.2.2.2.2.2.2.2.2.2.2.2.2.2.2.2.2.2.2.2.2.2.2.2, x.1, x.2.1, x.2.2.1, x.2.2.2.1.1, x.2.2.2.1.2, x.2.2.2.2.1.1, x.2.2.2.2.1.2, x.2.2.2.2.2)
end Go.Proofs.ZzM
end

noncomputable section
set_option maxRecDepth 100000
namespace Go.Proofs.ZzM
open Go Go.Am
def aEC : acu := ⟨[acg], [.bool], fun (x : Val acg) => aqq x⟩
def aGg : List (Nat × acu) := []
def aq3 (ρ : Type) : List (acC ρ) := []
def axy (ρ : Type) : Env ρ := acy aGg (aq3 ρ)
def aNC : acu := ⟨[ab7], [.bool], fun (x : Val ab7) => azv x⟩
def aGe : ace := { pin := 0, cs := [tI, tI, f6, eI, m5, eW, eI], vs := [tI], head := ⟨50, [.any, .box 0 0, .any, .var tI], [.cells [.con tI, .con tI, .con f6, .con eI, .con m5, .con eW, .con eI]]⟩, exits := [(.ret, ⟨50, [.any, .box 0 0, .var .bool], [.cells [.con tI, .con tI, .con f6, .con eI, .con m5, .con eW, .con eI]]⟩, [.bool]), (.exit 0, ⟨50, [.any, .box 0 0], [.cells [.con tI, .con tI, .con f6, .con eI, .con m5, .con eW, .con eI]]⟩, [])] }
def atv (ρ : Type) : acC ρ := ⟨[], 13, 0, aGe, fun (p : Val abp) (v : Val tI) kn kx => amQ p.2.2.2.2.2.1 v (fun u0 => kn u0) (kx 0) (kx 1)⟩
def aLY : List (Nat × acu) := [(29, aEC)]
def axx (ρ : Type) : List (acC ρ) := [atv ρ]
def avS (ρ : Type) : Env ρ := acy aLY (axx ρ)
def aNH : acu := ⟨[ab7, ach, tI, tI], [tI], fun (x : Val (.pair ab7 (.pair ach ab5))) => aqt x.1 x.2.1 x.2.2.1 x.2.2.2⟩
def aHf : ace := { pin := 0, cs := [tI, tI, m5, tI, tI, tI, f6, eI, m5, eW, eI, tI, tI, tI, tI, tI, tI, tI, tI], vs := [tI, tI], head := ⟨88, .any :: .any :: .con tI :: .con tI :: .box 0 0 :: .box 1 0 :: .any :: .any :: .any :: .var tI :: aN 7 [.con m5, .con tI, .var tI], [.cells [.con tI, .con tI, .con f6, .con eI, .con m5, .con eW, .con eI], .cells [.con tI, .con tI, .con tI, .con tI, .con tI, .con tI, .con tI, .con tI]]⟩, exits := [(.exit 0, ⟨88, .any :: .any :: .con tI :: .con tI :: .box 0 0 :: .box 1 0 :: .any :: .any :: .any :: .var tI :: aN 7 [.con m5, .con tI], [.cells [.con tI, .con tI, .con f6, .con eI, .con m5, .con eW, .con eI], .cells [.con tI, .con tI, .con tI, .con tI, .con tI, .con tI, .con tI, .con tI]]⟩, [tI])] }
def auN (ρ : Type) : acC ρ := ⟨[], 54, 0, aHf, fun (p : Val (.pair tI (.pair tI (.pair m5 abM)))) (v : Val ab5) kn kx => ant p.1 p.2.1 p.2.2.1 p.2.2.2.1 p.2.2.2.2.2.2.2.2.2.2.2.1 v.1 v.2 (fun u0 u1 => kn (u0, u1)) (kx 0)⟩
def aHe : ace := { pin := 0, cs := [tI, tI, tI, eI, tI, tI, tI, tI, tI, tI, tI, tI, tI], vs := [tI, l5], head := ⟨88, .any :: .any :: .con tI :: .con tI :: .any :: .box 0 0 :: .any :: .any :: .any :: .con tI :: .any :: .any :: .any :: .own 1 :: aN 39 [.con eI, .con tI, .var tI], [.cells [.con tI, .con tI, .con tI, .con tI, .con tI, .con tI, .con tI, .con tI], .rowv tI]⟩, exits := [(.exit 2, ⟨88, .any :: .any :: .con tI :: .con tI :: .any :: .box 0 0 :: .any :: .any :: .any :: .con tI :: .any :: .any :: .any :: .own 1 :: aN 39 [.con eI, .con tI], [.cells [.con tI, .con tI, .con tI, .con tI, .con tI, .con tI, .con tI, .con tI], .rowv tI]⟩, [l5])] }
def auM (ρ : Type) : acC ρ := ⟨[], 54, 2, aHe, fun (p : Val (.pair tI (.pair tI (.pair tI (.pair eI (.pair tI abw)))))) (v : Val abz) kn kx => anr p.1 p.2.1 p.2.2.2.1 p.2.2.2.2.1 p.2.2.2.2.2.1 v.1 v.2 (fun u0 u1 => kn (u0, u1)) (kx 0)⟩
def aMo : List (Nat × acu) := [(126, agq)]
def axZ (ρ : Type) : List (acC ρ) := [auN ρ, auM ρ]
def aqj (ρ : Type) : Env ρ := acy aMo (axZ ρ)
def aeB : acu := ⟨[eI, ab5], [tI], fun (x : Val abY) => acQ x.1 x.2⟩
def ahU : ace := { pin := 0, cs := [eI, tI, tI, tI], vs := [tI], head := ⟨19, [.con eI, .any, .any, .box 0 0, .any, .any, .any, .con tI, .var tI], [.cells [.con tI, .con tI]]⟩, exits := [(.ret, ⟨19, [.con eI, .any, .any, .box 0 0, .var tI, .any, .any, .con tI], [.cells [.con tI, .con tI]]⟩, [tI]), (.exit 0, ⟨19, [.con eI, .any, .any, .box 0 0, .any, .any, .any, .con tI], [.cells [.con tI, .con tI]]⟩, [])] }
def afj (ρ : Type) : acC ρ := ⟨[], 130, 0, ahU, fun (p : Val (.pair eI acT)) (v : Val tI) kn kx => adw p.1 p.2.1 p.2.2.1 p.2.2.2 v (fun u0 => kn u0) (kx 0) (kx 1)⟩
def aiN : List (Nat × acu) := []
def afw (ρ : Type) : List (acC ρ) := [afj ρ]
def aek (ρ : Type) : Env ρ := acy aiN (afw ρ)
def aoK : acu := ⟨[abE, l5, tI], [tI], fun (x : Val (.pair abE abC)) => afJ x.1 x.2.1 x.2.2⟩
def aBC : List (Nat × acu) := [(130, aeB)]
def aon (ρ : Type) : List (acC ρ) := []
def arw (ρ : Type) : Env ρ := acy aBC (aon ρ)
def anZ : acu := ⟨[abu, l5], [ab5], fun (x : Val (.pair abu l5)) => af2 x.1 x.2⟩
def asw : List (Nat × acu) := []
def ajk (ρ : Type) : List (acC ρ) := []
def ak7 (ρ : Type) : Env ρ := acy asw (ajk ρ)
def alU : acu := ⟨[eI], [tI], fun (x : Val eI) => agP x⟩
def aDK : ace := { pin := 0, cs := [eI, tI], vs := [tI], head := ⟨15, aN 5 [.con eI, .con tI, .var tI], []⟩, exits := [(.ret, ⟨15, [.any, .any, .var tI, .any, .any, .con eI, .con tI], []⟩, [tI]), (.exit 0, ⟨15, aN 5 [.con eI, .con tI], []⟩, [])] }
def ars (ρ : Type) : acC ρ := ⟨[], 227, 0, aDK, fun (p : Val (.pair eI tI)) (v : Val tI) kn kx => ak5 p.1 p.2 v (fun u0 => kn u0) (kx 0) (kx 1)⟩
def aJR : List (Nat × acu) := [(219, atd)]
def auw (ρ : Type) : List (acC ρ) := [ars ρ]
def ass (ρ : Type) : Env ρ := acy aJR (auw ρ)
def arX : acu := ⟨[tI, tI], [ab5, tI], fun (x : Val ab5) => aks x.1 x.2⟩
def aDL : List (Nat × acu) := [(259, aFW), (260, aLP)]
def apm (ρ : Type) : List (acC ρ) := []
def auy (ρ : Type) : Env ρ := acy aDL (apm ρ)
def aQi : acu := ⟨[ab5, ab5], [ab5, tI], fun (x : Val ac0) => aHQ x.1 x.2⟩
def aO4 : List (Nat × acu) := [(227, alU), (277, arX)]
def aBo (ρ : Type) : List (acC ρ) := []
def aJX (ρ : Type) : Env ρ := acy aO4 (aBo ρ)
def atf : acu := ⟨[ab5, ab5], [ab5], fun (x : Val ac0) => anL x.1 x.2⟩
def ayX : List (Nat × acu) := [(262, aQi)]
def amm (ρ : Type) : List (acC ρ) := []
def apq (ρ : Type) : Env ρ := acy ayX (amm ρ)
def aLQ : acu := ⟨[ab5, ab5], [tI], fun (x : Val ac0) => aCd x.1 x.2⟩
def aO3 : List (Nat × acu) := []
def aBl (ρ : Type) : List (acC ρ) := []
def aJV (ρ : Type) : Env ρ := acy aO3 (aBl ρ)
def aqY : acu := ⟨[ac0], [.bool], fun (x : Val ac0) => alL x⟩
def awt : List (Nat × acu) := [(227, alU), (287, aLQ)]
def ak6 (ρ : Type) : List (acC ρ) := []
def aoj (ρ : Type) : Env ρ := acy awt (ak6 ρ)
def aQj : acu := ⟨[ab5, ab5], [ab5, tI], fun (x : Val ac0) => aCf x.1 x.2⟩
def aO5 : List (Nat × acu) := [(227, alU), (277, arX)]
def aBq (ρ : Type) : List (acC ρ) := []
def aJZ (ρ : Type) : Env ρ := acy aO5 (aBq ρ)
def aI6 : acu := ⟨[ac0, ab5], [ac0, tI], fun (x : Val (.pair ac0 ab5)) => aCe x.1 x.2⟩
def axU : List (Nat × acu) := [(219, atd), (278, aqY), (281, aQj), (287, aLQ)]
def ani (ρ : Type) : List (acC ρ) := []
def axT : List aSm := [⟨[3, 2], 279, 0, 4⟩]
def aJY (ρ : Type) : Env ρ := acy axU (ani ρ)
def asu (ρ : Type) : Env ρ := aT3 axU (ani ρ) axT
def ate : acu := ⟨[ab5, ab5], [ac0], fun (x : Val ac0) => ajA x.1 x.2⟩
def ayW : List (Nat × acu) := [(263, aI6)]
def aml (ρ : Type) : List (acC ρ) := []
def apo (ρ : Type) : Env ρ := acy ayW (aml ρ)
def avN : acu := ⟨[ab7, acg], [ac0], fun (x : Val abK) => ajR x.1 x.2⟩
def aHn : List (Nat × acu) := [(53, arY), (88, aqa), (224, anZ), (225, atf), (226, ate)]
def arz (ρ : Type) : List (acC ρ) := []
def ax2 (ρ : Type) : Env ρ := acy aHn (arz ρ)
def aAf : acu := ⟨[ab7, acg], [ab5], fun (x : Val abK) => amC x.1 x.2⟩
def aKa : List (Nat × acu) := []
def auS (ρ : Type) : List (acC ρ) := []
def aBH (ρ : Type) : Env ρ := acy aKa (auS ρ)
def aAc : acu := ⟨[tI, tI], [tI], fun (x : Val ab5) => apR x.1 x.2⟩
def aJU : List (Nat × acu) := []
def auz (ρ : Type) : List (acC ρ) := []
def aBj (ρ : Type) : Env ρ := acy aJU (auz ρ)
def aFX : acu := ⟨[ab5], [tI, tI], fun (x : Val ab5) => avk x⟩
def aMl : List (Nat × acu) := [(227, alU), (228, aAc)]
def axV (ρ : Type) : List (acC ρ) := []
def aEX (ρ : Type) : Env ρ := acy aMl (axV ρ)
def aAd : acu := ⟨[ab5], [tI, tI], fun (x : Val ab5) => apS x⟩
def aJ0 : List (Nat × acu) := [(227, alU), (228, aAc)]
def auC (ρ : Type) : List (acC ρ) := []
def aBr (ρ : Type) : Env ρ := acy aJ0 (auC ρ)
def aFY : acu := ⟨[ab7, acg], [ab5], fun (x : Val abK) => anK x.1 x.2⟩
def aMm : List (Nat × acu) := [(171, avN), (172, aAf), (173, aFX), (174, aAd)]
def axX (ρ : Type) : List (acC ρ) := []
def aEY (ρ : Type) : Env ρ := acy aMm (axX ρ)
def azh : acu := ⟨[ab7], [abE], fun (x : Val ab7) => aqs x⟩
def aHb : ace := { pin := 2, cs := [tI, l5, tI, f6, tI, tI, tI, tI, f6, eI, m5, eW, eI, tI, tI, f6, eI, m5, eW, eI, eI, tI, tI, tI, tI, tI, tI, tI, tI, tI], vs := [tI, wi, eI], head := ⟨144, .box 1 0 :: .any :: .con tI :: .box 2 0 :: .con l5 :: .con tI :: .var tI :: aN 24 [.con f6, .con tI, .con tI], [.cells [.con tI, .con tI, .con f6, .con eI, .con m5, .con eW, .con eI], .cells [.con tI, .con tI, .con f6, .con eI, .con m5, .con eW, .con eI, .con eI, .con tI, .own 3, .own 4], .cells [.con tI, .con tI, .con tI, .con tI, .con tI, .con tI, .con tI, .con tI], .rowv acT, .rowv ab5]⟩, exits := [(.exit 2, ⟨144, .box 1 0 :: .any :: .con tI :: .box 2 0 :: .con l5 :: .con tI :: aN 25 [.con f6, .con tI, .con tI], [.cells [.con tI, .con tI, .con f6, .con eI, .con m5, .con eW, .con eI], .cells [.con tI, .con tI, .con f6, .con eI, .con m5, .con eW, .con eI, .con eI, .con tI, .own 3, .own 4], .cells [.con tI, .con tI, .con tI, .con tI, .con tI, .con tI, .con tI, .con tI], .rowv acT, .rowv ab5]⟩, [wi, eI])] }
def auK (ρ : Type) : acC ρ := ⟨[2, 1], 132, 2, aHb, fun (p : Val (.pair tI (.pair l5 (.pair tI (.pair f6 (.pair tI (.pair tI (.pair tI (.pair tI (.pair f6 (.pair eI (.pair m5 (.pair eW (.pair eI (.pair tI (.pair tI (.pair f6 (.pair eI (.pair m5 (.pair eW (.pair eI (.pair eI (.pair tI abw))))))))))))))))))))))) (v : Val (.pair tI asV)) kn kx => anp p.1 p.2.1 p.2.2.1 p.2.2.2.2.2.2.2.2.2.2.2.2.2.1 p.2.2.2.2.2.2.2.2.2.2.2.2.2.2.1 p.2.2.2.2.2.2.2.2.2.2.2.2.2.2.2.1 p.2.2.2.2.2.2.2.2.2.2.2.2.2.2.2.2.1 p.2.2.2.2.2.2.2.2.2.2.2.2.2.2.2.2.2.1 p.2.2.2.2.2.2.2.2.2.2.2.2.2.2.2.2.2.2.1 p.2.2.2.2.2.2.2.2.2.2.2.2.2.2.2.2.2.2.2.1 p.2.2.2.2.2.2.2.2.2.2.2.2.2.2.2.2.2.2.2.2.2.2.1 p.2.2.2.2.2.2.2.2.2.2.2.2.2.2.2.2.2.2.2.2.2.2.2.1 p.2.2.2.2.2.2.2.2.2.2.2.2.2.2.2.2.2.2.2.2.2.2.2.2.1 p.2.2.2.2.2.2.2.2.2.2.2.2.2.2.2.2.2.2.2.2.2.2.2.2.2.1 p.2.2.2.2.2.2.2.2.2.2.2.2.2.2.2.2.2.2.2.2.2.2.2.2.2.2.1 p.2.2.2.2.2.2.2.2.2.2.2.2.2.2.2.2.2.2.2.2.2.2.2.2.2.2.2.1 p.2.2.2.2.2.2.2.2.2.2.2.2.2.2.2.2.2.2.2.2.2.2.2.2.2.2.2.2.1 p.2.2.2.2.2.2.2.2.2.2.2.2.2.2.2.2.2.2.2.2.2.2.2.2.2.2.2.2.2 v.1 v.2.1 v.2.2 (fun u0 u1 u2 => kn (u0, u1, u2)) (kx 0)⟩
def aHc : ace := { pin := 2, cs := [f6, tI, tI, tI, f6, eI, m5, eW, eI, tI, tI, f6, eI, m5, eW, eI, eI, tI], vs := [tI, wi, eI], head := ⟨144, .box 1 0 :: aN 30 [.con f6, .con tI, .var tI], [.cells [.con tI, .con tI, .con f6, .con eI, .con m5, .con eW, .con eI], .cells [.con tI, .con tI, .con f6, .con eI, .con m5, .con eW, .con eI, .con eI, .con tI, .own 2, .own 3], .rowv acT, .rowv ab5]⟩, exits := [(.exit 0, ⟨144, .box 1 0 :: aN 30 [.con f6, .con tI], [.cells [.con tI, .con tI, .con f6, .con eI, .con m5, .con eW, .con eI], .cells [.con tI, .con tI, .con f6, .con eI, .con m5, .con eW, .con eI, .con eI, .con tI, .own 2, .own 3], .rowv acT, .rowv ab5]⟩, [wi, eI])] }
def auL (ρ : Type) : acC ρ := ⟨[2, 1], 132, 0, aHc, fun (p : Val (.pair f6 (.pair tI (.pair tI (.pair tI (.pair f6 (.pair eI (.pair m5 (.pair eW (.pair eI (.pair tI (.pair tI (.pair f6 (.pair eI (.pair m5 (.pair eW (.pair eI (.pair eI tI)))))))))))))))))) (v : Val (.pair tI asV)) kn kx => anq p.1 p.2.1 p.2.2.2.2.2.2.2.2.2.1 p.2.2.2.2.2.2.2.2.2.2.1 p.2.2.2.2.2.2.2.2.2.2.2.1 p.2.2.2.2.2.2.2.2.2.2.2.2.1 p.2.2.2.2.2.2.2.2.2.2.2.2.2.1 p.2.2.2.2.2.2.2.2.2.2.2.2.2.2.1 p.2.2.2.2.2.2.2.2.2.2.2.2.2.2.2.1 p.2.2.2.2.2.2.2.2.2.2.2.2.2.2.2.2.1 p.2.2.2.2.2.2.2.2.2.2.2.2.2.2.2.2.2 v.1 v.2.1 v.2.2 (fun u0 u1 u2 => kn (u0, u1, u2)) (kx 0)⟩
def aHa : ace := { pin := 2, cs := [eW, tI, tI, tI, f6, eI, m5, eW, eI, tI, tI, f6, eI, m5, eW, eI, eI, tI], vs := [tI, wi, eI], head := ⟨144, .box 1 0 :: aN 107 [.con eW, .con tI, .var tI], [.cells [.con tI, .con tI, .con f6, .con eI, .con m5, .con eW, .con eI], .cells [.con tI, .con tI, .con f6, .con eI, .con m5, .con eW, .con eI, .con eI, .con tI, .own 2, .own 3], .rowv acT, .rowv ab5]⟩, exits := [(.exit 4, ⟨144, .box 1 0 :: aN 107 [.con eW, .con tI], [.cells [.con tI, .con tI, .con f6, .con eI, .con m5, .con eW, .con eI], .cells [.con tI, .con tI, .con f6, .con eI, .con m5, .con eW, .con eI, .con eI, .con tI, .own 2, .own 3], .rowv acT, .rowv ab5]⟩, [wi, eI])] }
def auJ (ρ : Type) : acC ρ := ⟨[2, 1], 132, 4, aHa, fun (p : Val (.pair eW (.pair tI (.pair tI (.pair tI (.pair f6 (.pair eI (.pair m5 (.pair eW (.pair eI (.pair tI (.pair tI (.pair f6 (.pair eI (.pair m5 (.pair eW (.pair eI (.pair eI tI)))))))))))))))))) (v : Val (.pair tI asV)) kn kx => ano p.1 p.2.1 p.2.2.2.2.2.2.2.2.2.1 p.2.2.2.2.2.2.2.2.2.2.1 p.2.2.2.2.2.2.2.2.2.2.2.1 p.2.2.2.2.2.2.2.2.2.2.2.2.1 p.2.2.2.2.2.2.2.2.2.2.2.2.2.1 p.2.2.2.2.2.2.2.2.2.2.2.2.2.2.1 p.2.2.2.2.2.2.2.2.2.2.2.2.2.2.2.1 p.2.2.2.2.2.2.2.2.2.2.2.2.2.2.2.2.1 p.2.2.2.2.2.2.2.2.2.2.2.2.2.2.2.2.2 v.1 v.2.1 v.2.2 (fun u0 u1 u2 => kn (u0, u1, u2)) (kx 0)⟩
def aMn : List (Nat × acu) := [(54, aNH), (85, atg), (87, aoK), (88, aqa), (168, aFZ), (200, aFY)]
def axY (ρ : Type) : List (acC ρ) := [auK ρ, auL ρ, auJ ρ]
def amn (ρ : Type) : Env ρ := acy aMn (axY ρ)
def aef : acu := ⟨[ab7], [acf, eI, tI], fun (x : Val ab7) => adu x⟩
def aHw : List (Nat × acu) := [(38, adW), (62, azh)]
def arA (ρ : Type) : List (acC ρ) := []
def ax6 (ρ : Type) : Env ρ := acy aHw (arA ρ)
def afv : acu := ⟨[ab7, ab5], [tI, tI], fun (x : Val abN) => adr x.1 x.2⟩
def aKg : List (Nat × acu) := [(38, adW), (85, atg), (130, aeB)]
def au2 (ρ : Type) : List (acC ρ) := []
def aBK (ρ : Type) : Env ρ := acy aKg (au2 ρ)
def agh : acu := ⟨[abx, ab5], [tI], fun (x : Val abQ) => adA x.1 x.2⟩
def aC6 : List (Nat × acu) := [(60, afv)]
def aoY (ρ : Type) : List (acC ρ) := []
def atF (ρ : Type) : Env ρ := acy aC6 (aoY ρ)
def azg : acu := ⟨[acf, tI], [.bool], fun (x : Val (.pair acf tI)) => alh x.1 x.2⟩
def aL6 : List (Nat × acu) := []
def axJ (ρ : Type) : List (acC ρ) := []
def aER (ρ : Type) : Env ρ := acy aL6 (axJ ρ)
def aj1 : acu := ⟨[acf], [tI, tI], fun (x : Val acf) => ahR x⟩
def aDG : ace := { pin := 0, cs := [wi, tI, tI, wi], vs := [tI], head := ⟨57, .any :: .box 0 0 :: aN 17 [.con wi, .con tI, .var tI], [.cells [.con tI, .con wi]]⟩, exits := [(.ret, ⟨57, .any :: .box 0 0 :: .var tI :: .var tI :: aN 15 [.con wi, .con tI], [.cells [.con tI, .con wi]]⟩, [tI, tI]), (.exit 0, ⟨57, .any :: .box 0 0 :: aN 17 [.con wi, .con tI], [.cells [.con tI, .con wi]]⟩, [])] }
def arn (ρ : Type) : acC ρ := ⟨[], 133, 0, aDG, fun (p : Val (.pair wi abG)) (v : Val tI) kn kx => ak0 p.1 p.2.1 p.2.2.1 p.2.2.2 v (fun u0 => kn u0) (kx 0) (kx 1)⟩
def aJO : List (Nat × acu) := [(134, azg)]
def aur (ρ : Type) : List (acC ρ) := [arn ρ]
def asr (ρ : Type) : Env ρ := acy aJO (aur ρ)
def akF : acu := ⟨[acf, abq], [l5, .bool], fun (x : Val (.pair acf abq)) => ahi x.1 x.2⟩
def awm : ace := { pin := 2, cs := [abq, wi, tI, tI, wi, l5, tI, wi, aby, l5], vs := [tI, tI], head := ⟨140, .any :: .con abq :: .own 1 :: .box 2 0 :: .any :: .any :: .any :: .box 3 0 :: .own 4 :: .own 5 :: .var tI :: aN 14 [.con wi, .con tI, .var tI], [.cells [.con tI, .con wi], .rowc tI, .cells [.con tI, .con wi], .cells [.nils], .rowc .bool, .rowc tI]⟩, exits := [(.exit 0, ⟨140, .any :: .con abq :: .own 1 :: .box 2 0 :: .any :: .any :: .any :: .box 3 0 :: .own 4 :: .own 5 :: .var tI :: aN 14 [.con wi, .con tI], [.cells [.con tI, .con wi], .rowc tI, .cells [.con tI, .con wi], .cells [.nils], .rowc .bool, .rowc tI]⟩, [tI])] }
def amk (ρ : Type) : acC ρ := ⟨[2, 3], 136, 0, awm, fun (p : Val (.pair abq (.pair wi (.pair tI (.pair tI (.pair wi (.pair l5 (.pair tI (.pair wi abL))))))))) (v : Val ab5) kn kx => afz p.2.1 p.2.2.1 v.1 v.2 (fun u0 u1 => kn (u0, u1)) (kx 0)⟩
def awl : ace := { pin := 2, cs := [abq, tI, tI, tI, wi, l5, tI, wi, l5], vs := [tI, aby, l5], head := ⟨140, .any :: .con abq :: .own 1 :: .box 2 0 :: .any :: .any :: .any :: .box 3 0 :: .own 4 :: .own 5 :: .con tI :: aN 27 [.con tI, .var tI], [.cells [.con tI, .con wi], .rowc tI, .cells [.con tI, .con wi], .cells [.own 6], .rowv .bool, .rowc tI, .rowv tI]⟩, exits := [(.exit 2, ⟨140, .any :: .con abq :: .own 1 :: .box 2 0 :: .any :: .any :: .any :: .box 3 0 :: .own 4 :: .own 5 :: .con tI :: aN 27 [.con tI], [.cells [.con tI, .con wi], .rowc tI, .cells [.con tI, .con wi], .cells [.own 6], .rowv .bool, .rowc tI, .rowv tI]⟩, [aby, l5])] }
def amj (ρ : Type) : acC ρ := ⟨[2, 3], 136, 2, awl, fun (p : Val (.pair abq (.pair tI (.pair tI (.pair tI (.pair wi (.pair l5 (.pair tI (.pair wi l5))))))))) (v : Val (.pair tI abL)) kn kx => aeb p.2.2.1 p.2.2.2.2.2.1 v.1 v.2.1 v.2.2 (fun u0 u1 u2 => kn (u0, u1, u2)) (kx 0)⟩
def awj : ace := { pin := 2, cs := [abq, tI, tI, wi, tI, tI, wi, tI, wi, l5], vs := [tI, l5, aby, l5], head := ⟨140, .any :: .con abq :: .own 1 :: .box 2 0 :: .any :: .any :: .any :: .box 3 0 :: .own 4 :: .own 5 :: .con tI :: .any :: .any :: .any :: .con tI :: aN 62 [.con wi, .con tI, .var tI], [.cells [.con tI, .con wi], .rowv tI, .cells [.con tI, .con wi], .cells [.own 6], .rowv .bool, .rowc tI, .rowv tI]⟩, exits := [(.ret, ⟨140, .any :: .con abq :: .own 1 :: .box 2 0 :: .any :: .any :: .var .bool :: .box 3 0 :: .own 4 :: .own 5 :: .con tI :: .any :: .any :: .any :: .con tI :: aN 62 [.con wi, .con tI], [.cells [.con tI, .con wi], .rowv tI, .cells [.con tI, .con wi], .cells [.own 6], .rowv .bool, .rowc tI, .rowv tI]⟩, [.bool, l5, aby, l5]), (.exit 6, ⟨140, .any :: .con abq :: .own 1 :: .box 2 0 :: .any :: .any :: .any :: .box 3 0 :: .own 4 :: .own 5 :: .con tI :: .any :: .any :: .any :: .con tI :: aN 62 [.con wi, .con tI], [.cells [.con tI, .con wi], .rowv tI, .cells [.con tI, .con wi], .cells [.own 6], .rowv .bool, .rowc tI, .rowv tI]⟩, [l5, aby, l5])] }
def amh (ρ : Type) : acC ρ := ⟨[2, 3], 136, 6, awj, fun (p : Val (.pair abq (.pair tI (.pair tI (.pair wi (.pair tI (.pair tI (.pair wi (.pair tI (.pair wi l5)))))))))) (v : Val (.pair tI ab0)) kn kx => agj p.1 p.2.1 p.2.2.1 p.2.2.2.1 p.2.2.2.2.1 v.1 v.2.1 v.2.2.1 v.2.2.2 (fun u0 u1 u2 u3 => kn (u0, u1, u2, u3)) (kx 0) (kx 1)⟩
def awk : ace := { pin := 2, cs := [abq, tI, tI, wi, tI, wi], vs := [l5, aby, l5, l5], head := ⟨140, [.any, .con abq, .own 1, .box 2 0, .any, .any, .any, .box 3 0, .own 4, .own 5, .con tI], [.cells [.con tI, .con wi], .rowv tI, .cells [.con tI, .con wi], .cells [.own 6], .rowv .bool, .rowv tI, .rowv tI]⟩, exits := [(.ret, ⟨140, [.any, .con abq, .own 1, .box 2 0, .any, .any, .var .bool, .box 3 0, .own 4, .own 5, .con tI], [.cells [.con tI, .con wi], .rowv tI, .cells [.con tI, .con wi], .cells [.own 6], .rowv .bool, .rowv tI, .rowv tI]⟩, [.bool, l5, aby, l5, l5])] }
def ami (ρ : Type) : acC ρ := ⟨[2, 3], 136, 4, awk, fun (p : Val (.pair abq ab2)) (v : Val abO) kn kx => adz p.1 p.2.1 p.2.2.2.2.1 p.2.2.2.2.2 v.1 v.2.1 v.2.2.1 v.2.2.2 (fun u0 u1 u2 u3 => kn (u0, u1, u2, u3)) (kx 0)⟩
def awi : ace := { pin := 0, cs := [tI, tI], vs := [tI, l5], head := ⟨34, aN 6 (.own 0 :: .con tI :: aN 13 [.con tI, .var tI]), [.rowv tI]⟩, exits := [(.exit 0, ⟨34, aN 6 (.own 0 :: .con tI :: aN 13 [.con tI]), [.rowv tI]⟩, [l5])] }
def amg (ρ : Type) : acC ρ := ⟨[], 135, 0, awi, fun (p : Val ab5) (v : Val abz) kn kx => agi p.1 p.2 v.1 v.2 (fun u0 u1 => kn (u0, u1)) (kx 0)⟩
def aAP : List (Nat × acu) := []
def aod (ρ : Type) : List (acC ρ) := [amk ρ, amj ρ, amh ρ, ami ρ, amg ρ]
def ae8 (ρ : Type) : Env ρ := acy aAP (aod ρ)
def aAb : acu := ⟨[acf, l5], [tI], fun (x : Val abT) => apO x.1 x.2⟩
def aDy : ace := { pin := 0, cs := [l5, tI, tI, wi], vs := [tI], head := ⟨37, .any :: .any :: .box 0 0 :: aN 16 [.con l5, .con tI, .var tI], [.cells [.con tI, .con wi]]⟩, exits := [(.ret, ⟨37, .any :: .any :: .box 0 0 :: .any :: .var tI :: aN 14 [.con l5, .con tI], [.cells [.con tI, .con wi]]⟩, [tI]), (.exit 0, ⟨37, .any :: .any :: .box 0 0 :: aN 16 [.con l5, .con tI], [.cells [.con tI, .con wi]]⟩, [])] }
def arf (ρ : Type) : acC ρ := ⟨[], 63, 0, aDy, fun (p : Val (.pair l5 abG)) (v : Val tI) kn kx => akY p.1 p.2.1 p.2.2.1 p.2.2.2 v (fun u0 => kn u0) (kx 0) (kx 1)⟩
def aJL : List (Nat × acu) := [(133, aj1), (134, azg), (135, akF)]
def aum (ρ : Type) : List (acC ρ) := [arf ρ]
def asq (ρ : Type) : Env ρ := acy aJL (aum ρ)
def avL : acu := ⟨[acf, abq, tI], [l5], fun (x : Val (.pair acf (.pair abq tI))) => amz x.1 x.2.1 x.2.2⟩
def aAW : ace := { pin := 0, cs := [abq, tI, tI, tI, wi], vs := [tI, l5], head := ⟨29, .any :: .con abq :: .con tI :: .box 0 0 :: .any :: .any :: .any :: .own 1 :: aN 5 [.con tI, .var tI], [.cells [.con tI, .con wi], .rowv tI]⟩, exits := [(.exit 0, ⟨29, .any :: .con abq :: .con tI :: .box 0 0 :: .any :: .any :: .any :: .own 1 :: aN 5 [.con tI], [.cells [.con tI, .con wi], .rowv tI]⟩, [l5])] }
def apk (ρ : Type) : acC ρ := ⟨[], 64, 0, aAW, fun (p : Val (.pair abq (.pair tI abG))) (v : Val abz) kn kx => ajt p.2.2.1 v.1 v.2 (fun u0 u1 => kn (u0, u1)) (kx 0)⟩
def aAV : ace := { pin := 2, cs := [abq, wi, tI, tI, wi, l5, tI, wi, aby, l5], vs := [tI, tI], head := ⟨140, .any :: .con abq :: .own 1 :: .box 2 0 :: .any :: .any :: .any :: .box 3 0 :: .own 4 :: .own 5 :: .var tI :: aN 14 [.con wi, .con tI, .var tI], [.cells [.con tI, .con wi], .rowc tI, .cells [.con tI, .con wi], .cells [.nils], .rowc .bool, .rowc tI]⟩, exits := [(.exit 0, ⟨140, .any :: .con abq :: .own 1 :: .box 2 0 :: .any :: .any :: .any :: .box 3 0 :: .own 4 :: .own 5 :: .var tI :: aN 14 [.con wi, .con tI], [.cells [.con tI, .con wi], .rowc tI, .cells [.con tI, .con wi], .cells [.nils], .rowc .bool, .rowc tI]⟩, [tI])] }
def apj (ρ : Type) : acC ρ := ⟨[8, 3], 136, 0, aAV, fun (p : Val (.pair abq (.pair wi (.pair tI (.pair tI (.pair wi (.pair l5 (.pair tI (.pair wi abL))))))))) (v : Val ab5) kn kx => ang p.2.1 p.2.2.1 v.1 v.2 (fun u0 u1 => kn (u0, u1)) (kx 0)⟩
def aAU : ace := { pin := 2, cs := [abq, tI, tI, tI, wi, l5, tI, wi, l5], vs := [tI, aby, l5], head := ⟨140, .any :: .con abq :: .own 1 :: .box 2 0 :: .any :: .any :: .any :: .box 3 0 :: .own 4 :: .own 5 :: .con tI :: aN 27 [.con tI, .var tI], [.cells [.con tI, .con wi], .rowc tI, .cells [.con tI, .con wi], .cells [.own 6], .rowv .bool, .rowc tI, .rowv tI]⟩, exits := [(.exit 2, ⟨140, .any :: .con abq :: .own 1 :: .box 2 0 :: .any :: .any :: .any :: .box 3 0 :: .own 4 :: .own 5 :: .con tI :: aN 27 [.con tI], [.cells [.con tI, .con wi], .rowc tI, .cells [.con tI, .con wi], .cells [.own 6], .rowv .bool, .rowc tI, .rowv tI]⟩, [aby, l5])] }
def aph (ρ : Type) : acC ρ := ⟨[8, 3], 136, 2, aAU, fun (p : Val (.pair abq (.pair tI (.pair tI (.pair tI (.pair wi (.pair l5 (.pair tI (.pair wi l5))))))))) (v : Val (.pair tI abL)) kn kx => anf p.2.2.1 p.2.2.2.2.2.1 v.1 v.2.1 v.2.2 (fun u0 u1 u2 => kn (u0, u1, u2)) (kx 0)⟩
def aAS : ace := { pin := 2, cs := [abq, tI, tI, wi, tI, tI, wi, tI, wi, l5], vs := [tI, l5, aby, l5], head := ⟨140, .any :: .con abq :: .own 1 :: .box 2 0 :: .any :: .any :: .any :: .box 3 0 :: .own 4 :: .own 5 :: .con tI :: .any :: .any :: .any :: .con tI :: aN 62 [.con wi, .con tI, .var tI], [.cells [.con tI, .con wi], .rowv tI, .cells [.con tI, .con wi], .cells [.own 6], .rowv .bool, .rowc tI, .rowv tI]⟩, exits := [(.ret, ⟨140, .any :: .con abq :: .own 1 :: .box 2 0 :: .any :: .any :: .var .bool :: .box 3 0 :: .own 4 :: .own 5 :: .con tI :: .any :: .any :: .any :: .con tI :: aN 62 [.con wi, .con tI], [.cells [.con tI, .con wi], .rowv tI, .cells [.con tI, .con wi], .cells [.own 6], .rowv .bool, .rowc tI, .rowv tI]⟩, [.bool, l5, aby, l5]), (.exit 6, ⟨140, .any :: .con abq :: .own 1 :: .box 2 0 :: .any :: .any :: .any :: .box 3 0 :: .own 4 :: .own 5 :: .con tI :: .any :: .any :: .any :: .con tI :: aN 62 [.con wi, .con tI], [.cells [.con tI, .con wi], .rowv tI, .cells [.con tI, .con wi], .cells [.own 6], .rowv .bool, .rowc tI, .rowv tI]⟩, [l5, aby, l5])] }
def apf (ρ : Type) : acC ρ := ⟨[8, 3], 136, 6, aAS, fun (p : Val (.pair abq (.pair tI (.pair tI (.pair wi (.pair tI (.pair tI (.pair wi (.pair tI (.pair wi l5)))))))))) (v : Val (.pair tI ab0)) kn kx => aul p.1 p.2.1 p.2.2.1 p.2.2.2.1 p.2.2.2.2.1 v.1 v.2.1 v.2.2.1 v.2.2.2 (fun u0 u1 u2 u3 => kn (u0, u1, u2, u3)) (kx 0) (kx 1)⟩
def aAT : ace := { pin := 2, cs := [abq, tI, tI, wi, tI, wi], vs := [l5, aby, l5, l5], head := ⟨140, [.any, .con abq, .own 1, .box 2 0, .any, .any, .any, .box 3 0, .own 4, .own 5, .con tI], [.cells [.con tI, .con wi], .rowv tI, .cells [.con tI, .con wi], .cells [.own 6], .rowv .bool, .rowv tI, .rowv tI]⟩, exits := [(.ret, ⟨140, [.any, .con abq, .own 1, .box 2 0, .any, .any, .var .bool, .box 3 0, .own 4, .own 5, .con tI], [.cells [.con tI, .con wi], .rowv tI, .cells [.con tI, .con wi], .cells [.own 6], .rowv .bool, .rowv tI, .rowv tI]⟩, [.bool, l5, aby, l5, l5])] }
def apg (ρ : Type) : acC ρ := ⟨[8, 3], 136, 4, aAT, fun (p : Val (.pair abq ab2)) (v : Val abO) kn kx => ane p.1 p.2.1 p.2.2.2.2.1 p.2.2.2.2.2 v.1 v.2.1 v.2.2.1 v.2.2.2 (fun u0 u1 u2 u3 => kn (u0, u1, u2, u3)) (kx 0)⟩
def aGO : List (Nat × acu) := []
def ard (ρ : Type) : List (acC ρ) := [apk ρ, apj ρ, aph ρ, apf ρ, apg ρ]
def agk (ρ : Type) : Env ρ := acy aGO (ard ρ)
def atc : acu := ⟨[acf, tI, tI], [tI, tI], fun (x : Val abW) => akr x.1 x.2.1 x.2.2⟩
def aJQ : List (Nat × acu) := [(63, aAb), (64, avL)]
def auv (ρ : Type) : List (acC ρ) := []
def aBc (ρ : Type) : Env ρ := acy aJQ (auv ρ)
def agH : acu := ⟨[abx, tI, tI], [tI], fun (x : Val abQ) => acZ x.1 x.2.1 x.2.2⟩
def avZ : List (Nat × acu) := [(89, atc)]
def akP (ρ : Type) : List (acC ρ) := []
def an4 (ρ : Type) : Env ρ := acy avZ (akP ρ)
def aln : acu := ⟨[abx, ab5], [tI], fun (x : Val abQ) => afc x.1 x.2⟩
def avY : List (Nat × acu) := [(55, agh), (56, agH)]
def akO (ρ : Type) : List (acC ρ) := []
def an3 (ρ : Type) : Env ρ := acy avY (akO ρ)
def ah7 : acu := ⟨[abx, ab5], [tI], fun (x : Val abQ) => afB x.1 x.2⟩
def aqK : List (Nat × acu) := [(55, agh), (56, agH)]
def aiQ (ρ : Type) : List (acC ρ) := []
def aj9 (ρ : Type) : Env ρ := acy aqK (aiQ ρ)
def afu : acu := ⟨[abx, ab5], [ab5], fun (x : Val abQ) => ad1 x.1 x.2⟩
def aqJ : List (Nat × acu) := [(121, aln), (122, ah7)]
def aiP (ρ : Type) : List (acC ρ) := []
def ag1 (ρ : Type) : Env ρ := { acy aqJ (aiP ρ) with hint := awS [(12, 121), (16, 122)] }
def aiv : acu := ⟨[ab7, ab5], [ab7, tI], fun (x : Val abN) => aeK x.1 x.2⟩
def aHy : ace := { pin := 6, cs := [tI, tI, tI, f6, eI, m5, eW, eI, tI, tI, tI, tI, tI, tI, f6, eI, m5, eW, eI, tI, tI, tI, tI, eW, tI, tI, f6, eI, m5, eI], vs := [tI, eW], head := ⟨50, .any :: .box 6 0 :: .box 7 0 :: .own 8 :: aN 21 [.own 8, .con tI, .var tI], [.cells [.con tI, .con tI, .con f6, .con eI, .con m5, .con eW, .con eI], .cells [.con tI, .con tI], .cells [.con tI, .con tI, .nils, .nils, .nils, .nils, .nils], .cells [.con tI, .con tI, .con f6, .con eI, .con m5, .con eW, .con eI], .cells [.con tI, .con tI, .nils, .nils, .nils, .nils, .nils], .dead, .cells [.con tI, .con tI, .own 9, .own 10, .own 11, .con eW, .own 12], .cells [.con tI, .con tI, .nils, .nils, .nils, .nils, .nils], .rowv acg, .rowc ach, .rowc ab5, .rowc adL, .rowc ab5]⟩, exits := [(.exit 0, ⟨50, .any :: .box 6 0 :: .box 7 0 :: .own 8 :: aN 21 [.own 8, .con tI], [.cells [.con tI, .con tI, .con f6, .con eI, .con m5, .con eW, .con eI], .cells [.con tI, .con tI], .cells [.con tI, .con tI, .nils, .nils, .nils, .nils, .nils], .cells [.con tI, .con tI, .con f6, .con eI, .con m5, .con eW, .con eI], .cells [.con tI, .con tI, .nils, .nils, .nils, .nils, .nils], .dead, .cells [.con tI, .con tI, .own 9, .own 10, .own 11, .con eW, .own 12], .cells [.con tI, .con tI, .nils, .nils, .nils, .nils, .nils], .rowv acg, .rowc ach, .rowc ab5, .rowc adL, .rowc ab5]⟩, [eW])] }
def au1 (ρ : Type) : acC ρ := ⟨[1, 2, 4, 1], 175, 0, aHy, fun (p : Val (.pair tI (.pair tI (.pair tI (.pair f6 (.pair eI (.pair m5 (.pair eW (.pair eI (.pair tI (.pair tI (.pair tI (.pair tI (.pair tI (.pair tI (.pair f6 (.pair eI (.pair m5 (.pair eW (.pair eI (.pair tI (.pair tI (.pair tI (.pair tI (.pair eW (.pair tI (.pair tI (.pair f6 (.pair eI (.pair m5 eI)))))))))))))))))))))))))))))) (v : Val (.pair tI eW)) kn kx => anB p.1 v.1 v.2 (fun u0 u1 => kn (u0, u1)) (kx 0)⟩
def aMu : List (Nat × acu) := [(38, adW)]
def ax8 (ρ : Type) : List (acC ρ) := [au1 ρ]
def awH (ρ : Type) : Env ρ := acy aMu (ax8 ρ)
def ad5 : acu := ⟨[acf], [.bool, tI], fun (x : Val acf) => ac7 x⟩
def awq : List (Nat × acu) := [(133, aj1), (135, akF)]
def akZ (ρ : Type) : List (acC ρ) := []
def aog (ρ : Type) : Env ρ := acy awq (akZ ρ)
def axu : acu := ⟨[ab7, ab5], [ab5, tI], fun (x : Val abN) => ai3 x.1 x.2⟩
def awa : ace := { pin := 4, cs := [tI, tI, tI, f6, eI, m5, eW, eI, tI, tI, tI, tI, eI], vs := [tI, tI, tI, f6, eI, m5, eW, eI], head := ⟨68, .any :: .any :: .box 4 0 :: aN 20 [.own 3, .con tI, .var tI], [.cells [.con tI, .con tI, .con f6, .con eI, .con m5, .con eW, .con eI], .cells [.con tI, .con tI], .cells [.con tI, .con tI], .rowc ab5, .cells [.var tI, .var tI, .var f6, .var eI, .var m5, .var eW, .var eI]]⟩, exits := [(.ret, ⟨68, .any :: .any :: .box 4 0 :: .any :: .nilp :: .var tI :: aN 17 [.own 3, .con tI], [.cells [.con tI, .con tI, .con f6, .con eI, .con m5, .con eW, .con eI], .cells [.con tI, .con tI], .cells [.con tI, .con tI], .rowc ab5, .cells [.var tI, .var tI, .var f6, .var eI, .var m5, .var eW, .var eI]]⟩, [tI, tI, tI, f6, eI, m5, eW, eI]), (.exit 0, ⟨68, .any :: .any :: .box 4 0 :: aN 20 [.own 3, .con tI], [.cells [.con tI, .con tI, .con f6, .con eI, .con m5, .con eW, .con eI], .cells [.con tI, .con tI], .cells [.con tI, .con tI], .rowc ab5, .cells [.var tI, .var tI, .var f6, .var eI, .var m5, .var eW, .var eI]]⟩, [tI, tI, f6, eI, m5, eW, eI])] }
def amd (ρ : Type) : acC ρ := ⟨[1, 3], 50, 0, awa, fun (p : Val abI) (v : Val abB) kn kx => acY p.1 p.2.2.2.2.2.2.2.2.2.2.2.2 v.1 v.2.1 v.2.2.1 v.2.2.2.1 v.2.2.2.2.1 v.2.2.2.2.2.1 v.2.2.2.2.2.2.1 v.2.2.2.2.2.2.2 (fun u0 u1 u2 u3 u4 u5 u6 u7 => kn (u0, u1, u2, u3, u4, u5, u6, u7)) (kx 0) (kx 1)⟩
def aAK : List (Nat × acu) := [(20, aef), (38, adW), (51, afu), (60, afv), (61, aiv), (123, ad5)]
def an8 (ρ : Type) : List (acC ρ) := [amd ρ]
def alw (ρ : Type) : Env ρ := acy aAK (an8 ρ)
def az9 : acu := ⟨[ab7, ab5, ab5], [ab5, tI], fun (x : Val abX) => anJ x.1 x.2.1 x.2.2⟩
def ayM : ace := { pin := 5, cs := [tI, tI, tI, f6, eI, m5, eW, eI, tI, tI, tI, tI, tI, tI, eI], vs := [tI, tI, tI, f6, eI, m5, eW, eI], head := ⟨68, .any :: .any :: .box 5 0 :: aN 20 [.own 4, .con tI, .var tI], [.cells [.con tI, .con tI, .con f6, .con eI, .con m5, .con eW, .con eI], .cells [.con tI, .con tI], .cells [.con tI, .con tI], .cells [.con tI, .con tI], .rowc ab5, .cells [.var tI, .var tI, .var f6, .var eI, .var m5, .var eW, .var eI]]⟩, exits := [(.ret, ⟨68, .any :: .any :: .box 5 0 :: .any :: .nilp :: .var tI :: aN 17 [.own 4, .con tI], [.cells [.con tI, .con tI, .con f6, .con eI, .con m5, .con eW, .con eI], .cells [.con tI, .con tI], .cells [.con tI, .con tI], .cells [.con tI, .con tI], .rowc ab5, .cells [.var tI, .var tI, .var f6, .var eI, .var m5, .var eW, .var eI]]⟩, [tI, tI, tI, f6, eI, m5, eW, eI]), (.exit 0, ⟨68, .any :: .any :: .box 5 0 :: aN 20 [.own 4, .con tI], [.cells [.con tI, .con tI, .con f6, .con eI, .con m5, .con eW, .con eI], .cells [.con tI, .con tI], .cells [.con tI, .con tI], .cells [.con tI, .con tI], .rowc ab5, .cells [.var tI, .var tI, .var f6, .var eI, .var m5, .var eW, .var eI]]⟩, [tI, tI, f6, eI, m5, eW, eI])] }
def aoc (ρ : Type) : acC ρ := ⟨[1, 4], 50, 0, ayM, fun (p : Val (.pair tI (.pair tI (.pair tI (.pair f6 (.pair eI (.pair m5 (.pair eW (.pair eI (.pair tI (.pair tI (.pair tI (.pair tI abD))))))))))))) (v : Val abB) kn kx => alA p.1 p.2.2.2.2.2.2.2.2.2.2.2.2.2.2 v.1 v.2.1 v.2.2.1 v.2.2.2.1 v.2.2.2.2.1 v.2.2.2.2.2.1 v.2.2.2.2.2.2.1 v.2.2.2.2.2.2.2 (fun u0 u1 u2 u3 u4 u5 u6 u7 => kn (u0, u1, u2, u3, u4, u5, u6, u7)) (kx 0) (kx 1)⟩
def aDu : List (Nat × acu) := [(20, aef), (38, adW), (55, agh), (56, agH), (60, afv), (61, aiv), (123, ad5)]
def apc (ρ : Type) : List (acC ρ) := [aoc ρ]
def ana (ρ : Type) : Env ρ := acy aDu (apc ρ)
def avO : acu := ⟨[l5, l5], [l5, l5, tI], fun (x : Val (.pair l5 l5)) => amD x.1 x.2⟩
def aHC : List (Nat × acu) := [(88, aqa), (198, avM)]
def arB (ρ : Type) : List (acC ρ) := []
def aya (ρ : Type) : Env ρ := acy aHC (arB ρ)
def aND : acu := ⟨[l5, tI], [.bool], fun (x : Val abC) => azw x.1 x.2⟩
def aLZ : List (Nat × acu) := [(129, avO)]
def axz (ρ : Type) : List (acC ρ) := []
def aEQ (ρ : Type) : Env ρ := acy aLZ (axz ρ)
def aI1 : acu := ⟨[tI], [.bool], fun (x : Val tI) => avh x⟩
def aJw : List (Nat × acu) := []
def atT (ρ : Type) : List (acC ρ) := []
def aAA (ρ : Type) : Env ρ := acy aJw (atT ρ)
def aI0 : acu := ⟨[tI, abt], [eI], fun (x : Val (.pair tI abt)) => avg x.1 x.2⟩
def aDh : ace := { pin := 0, cs := [tI, l5, tI], vs := [tI, eI], head := ⟨23, .con tI :: aN 4 [.own 0, .any, .any, .any, .con l5, .con tI, .var tI], [.rowv ab5]⟩, exits := [(.exit 0, ⟨23, .con tI :: aN 4 [.own 0, .any, .any, .any, .con l5, .con tI], [.rowv ab5]⟩, [eI])] }
def aq4 (ρ : Type) : acC ρ := ⟨[], 59, 0, aDh, fun (p : Val (.pair tI abC)) (v : Val abU) kn kx => akQ p.1 p.2.1 p.2.2 v.1 v.2 (fun u0 u1 => kn (u0, u1)) (kx 0)⟩
def aJv : List (Nat × acu) := [(94, aee)]
def atS (ρ : Type) : List (acC ρ) := [aq4 ρ]
def asf (ρ : Type) : Env ρ := acy aJv (atS ρ)
def aNF : acu := ⟨[ab7, tI, l5], [ab5, tI], fun (x : Val (.pair ab7 abz)) => azx x.1 x.2.1 x.2.2⟩
def aGG : ace := { pin := 3, cs := [eI, tI, tI, tI, f6, eI, m5, eW, eI, tI, tI, abt], vs := [tI, tI, tI, f6, eI, m5, eW, eI], head := ⟨68, .any :: .any :: .box 3 0 :: aN 20 [.con eI, .con tI, .var tI], [.cells [.con tI, .con tI, .con f6, .con eI, .con m5, .con eW, .con eI], .cells [.con tI, .con tI], .rowf l5 0, .cells [.var tI, .var tI, .var f6, .var eI, .var m5, .var eW, .var eI]]⟩, exits := [(.ret, ⟨68, .any :: .any :: .box 3 0 :: .any :: .nilp :: .var tI :: aN 17 [.con eI, .con tI], [.cells [.con tI, .con tI, .con f6, .con eI, .con m5, .con eW, .con eI], .cells [.con tI, .con tI], .rowf l5 0, .cells [.var tI, .var tI, .var f6, .var eI, .var m5, .var eW, .var eI]]⟩, [tI, tI, tI, f6, eI, m5, eW, eI]), (.exit 0, ⟨68, .any :: .any :: .box 3 0 :: aN 20 [.con eI, .con tI], [.cells [.con tI, .con tI, .con f6, .con eI, .con m5, .con eW, .con eI], .cells [.con tI, .con tI], .rowf l5 0, .cells [.var tI, .var tI, .var f6, .var eI, .var m5, .var eW, .var eI]]⟩, [tI, tI, f6, eI, m5, eW, eI])] }
def at7 (ρ : Type) : acC ρ := ⟨[7, 2], 50, 0, aGG, fun (p : Val (.pair eI (.pair tI (.pair tI (.pair tI (.pair f6 (.pair eI (.pair m5 (.pair eW (.pair eI (.pair tI (.pair tI abt)))))))))))) (v : Val abB) kn kx => am7 p.1 p.2.1 v.1 v.2.1 v.2.2.1 v.2.2.2.1 v.2.2.2.2.1 v.2.2.2.2.2.1 v.2.2.2.2.2.2.1 v.2.2.2.2.2.2.2 (fun u0 u1 u2 u3 u4 u5 u6 u7 => kn (u0, u1, u2, u3, u4, u5, u6, u7)) (kx 0) (kx 1)⟩
def aGF : ace := { pin := 0, cs := [abx, eI, tI, tI, tI], vs := [tI, tI, tI], head := ⟨87, aN 6 (.box 0 0 :: .any :: .any :: .any :: .con abx :: .any :: .any :: .box 1 0 :: aN 51 [.con eI, .con tI, .var tI]), [.cells [.con tI, .con tI], .cells [.var tI, .var tI]]⟩, exits := [(.exit 0, ⟨87, aN 6 (.box 0 0 :: .any :: .any :: .any :: .con abx :: .any :: .any :: .box 1 0 :: aN 51 [.con eI, .con tI]), [.cells [.con tI, .con tI], .cells [.var tI, .var tI]]⟩, [tI, tI])] }
def at6 (ρ : Type) : acC ρ := ⟨[], 18, 0, aGF, fun (p : Val (.pair abx (.pair eI acT))) (v : Val acT) kn kx => am6 p.1 p.2.1 p.2.2.1 v.1 v.2.1 v.2.2 (fun u0 u1 u2 => kn (u0, u1, u2)) (kx 0)⟩
def aL4 : List (Nat × acu) := [(20, aef), (38, adW), (51, afu), (57, aND), (58, aI1), (59, aI0), (60, afv), (61, aiv), (123, ad5)]
def axH (ρ : Type) : List (acC ρ) := [at7 ρ, at6 ρ]
def aqf (ρ : Type) : Env ρ := acy aL4 (axH ρ)
def arU : acu := ⟨[ab5, ab5], [tI], fun (x : Val ac0) => akm x.1 x.2⟩
def aC4 : List (Nat × acu) := []
def aoU (ρ : Type) : List (acC ρ) := []
def atz (ρ : Type) : Env ρ := acy aC4 (aoU ρ)
def az7 : acu := ⟨[ab7, ab5, ab5], [tI, tI], fun (x : Val abX) => apM x.1 x.2.1 x.2.2⟩
def aDs : ace := { pin := 4, cs := [tI, tI, tI, f6, eI, m5, eW, eI, tI, tI, tI, tI, eI], vs := [tI, tI, tI, f6, eI, m5, eW, eI], head := ⟨68, .any :: .any :: .box 4 0 :: aN 20 [.own 3, .con tI, .var tI], [.cells [.con tI, .con tI, .con f6, .con eI, .con m5, .con eW, .con eI], .cells [.con tI, .con tI], .cells [.con tI, .con tI], .rowc ab5, .cells [.var tI, .var tI, .var f6, .var eI, .var m5, .var eW, .var eI]]⟩, exits := [(.ret, ⟨68, .any :: .any :: .box 4 0 :: .any :: .nilp :: .var tI :: aN 17 [.own 3, .con tI], [.cells [.con tI, .con tI, .con f6, .con eI, .con m5, .con eW, .con eI], .cells [.con tI, .con tI], .cells [.con tI, .con tI], .rowc ab5, .cells [.var tI, .var tI, .var f6, .var eI, .var m5, .var eW, .var eI]]⟩, [tI, tI, tI, f6, eI, m5, eW, eI]), (.exit 0, ⟨68, .any :: .any :: .box 4 0 :: aN 20 [.own 3, .con tI], [.cells [.con tI, .con tI, .con f6, .con eI, .con m5, .con eW, .con eI], .cells [.con tI, .con tI], .cells [.con tI, .con tI], .rowc ab5, .cells [.var tI, .var tI, .var f6, .var eI, .var m5, .var eW, .var eI]]⟩, [tI, tI, f6, eI, m5, eW, eI])] }
def arc (ρ : Type) : acC ρ := ⟨[1, 3], 50, 0, aDs, fun (p : Val abI) (v : Val abB) kn kx => ao7 p.1 p.2.2.2.2.2.2.2.2.2.2.2.2 v.1 v.2.1 v.2.2.1 v.2.2.2.1 v.2.2.2.2.1 v.2.2.2.2.2.1 v.2.2.2.2.2.2.1 v.2.2.2.2.2.2.2 (fun u0 u1 u2 u3 u4 u5 u6 u7 => kn (u0, u1, u2, u3, u4, u5, u6, u7)) (kx 0) (kx 1)⟩
def aJG : List (Nat × acu) := [(20, aef), (38, adW), (51, afu), (60, afv), (61, aiv), (69, arU), (123, ad5)]
def aua (ρ : Type) : List (acC ρ) := [arc ρ]
def asm (ρ : Type) : Env ρ := acy aJG (aua ρ)
def aF1 : acu := ⟨[ab7, acg], [ab7, tI], fun (x : Val abK) => ajC x.1 x.2⟩
def aHu : ace := { pin := 8, cs := [tI, tI, tI, f6, eI, m5, eW, eI, tI, tI, l5, l5, tI, tI, tI, tI, tI, tI, tI, tI, f6, eI, m5, eW, eI, tI, tI, tI, tI, eW, tI, tI, f6, eI, m5, eI], vs := [tI, eW], head := ⟨50, .any :: .box 8 0 :: .box 9 0 :: .own 10 :: aN 21 [.own 10, .con tI, .var tI], [.cells [.con tI, .con tI, .con f6, .con eI, .con m5, .con eW, .con eI], .cells [.con tI, .con tI, .con l5, .con l5, .con tI, .con tI, .con tI, .con tI], .cells [.con tI, .con tI, .nils, .nils, .nils, .nils, .nils], .dead, .dead, .cells [.con tI, .con tI, .con f6, .con eI, .con m5, .con eW, .con eI], .cells [.con tI, .con tI, .nils, .nils, .nils, .nils, .nils], .dead, .cells [.con tI, .con tI, .own 11, .own 12, .own 13, .con eW, .own 14], .cells [.con tI, .con tI, .nils, .nils, .nils, .nils, .nils], .rowv acg, .rowc ach, .rowc ab5, .rowc adL, .rowc ab5]⟩, exits := [(.exit 0, ⟨50, .any :: .box 8 0 :: .box 9 0 :: .own 10 :: aN 21 [.own 10, .con tI], [.cells [.con tI, .con tI, .con f6, .con eI, .con m5, .con eW, .con eI], .cells [.con tI, .con tI, .con l5, .con l5, .con tI, .con tI, .con tI, .con tI], .cells [.con tI, .con tI, .nils, .nils, .nils, .nils, .nils], .dead, .dead, .cells [.con tI, .con tI, .con f6, .con eI, .con m5, .con eW, .con eI], .cells [.con tI, .con tI, .nils, .nils, .nils, .nils, .nils], .dead, .cells [.con tI, .con tI, .own 11, .own 12, .own 13, .con eW, .own 14], .cells [.con tI, .con tI, .nils, .nils, .nils, .nils, .nils], .rowv acg, .rowc ach, .rowc ab5, .rowc adL, .rowc ab5]⟩, [eW])] }
def auZ (ρ : Type) : acC ρ := ⟨[2, 2, 4, 1], 175, 0, aHu, fun (p : Val (.pair tI (.pair tI (.pair tI (.pair f6 (.pair eI (.pair m5 (.pair eW (.pair eI (.pair tI (.pair tI (.pair l5 (.pair l5 (.pair tI (.pair tI (.pair tI (.pair tI (.pair tI (.pair tI (.pair tI (.pair tI (.pair f6 (.pair eI (.pair m5 (.pair eW (.pair eI (.pair tI (.pair tI (.pair tI (.pair tI (.pair eW (.pair tI (.pair tI (.pair f6 (.pair eI (.pair m5 eI)))))))))))))))))))))))))))))))))))) (v : Val (.pair tI eW)) kn kx => anA p.1 v.1 v.2 (fun u0 u1 => kn (u0, u1)) (kx 0)⟩
def aMs : List (Nat × acu) := [(38, adW)]
def ax5 (ρ : Type) : List (acC ρ) := [auZ ρ]
def awF (ρ : Type) : Env ρ := acy aMs (ax5 ρ)
def aI8 : acu := ⟨[ab7, acg, ab5], [ab5, tI], fun (x : Val (.pair ab7 (.pair acg ab5))) => amB x.1 x.2.1 x.2.2⟩
def aJ3 : List (Nat × acu) := [(171, avN), (172, aAf), (173, aFX), (174, aAd)]
def auE (ρ : Type) : List (acC ρ) := []
def aBv (ρ : Type) : Env ρ := acy aJ3 (auE ρ)
def aAg : acu := ⟨[ab7, acg], [ab5, tI], fun (x : Val abK) => anN x.1 x.2⟩
def aD7 : List (Nat × acu) := [(41, aF1), (62, azh), (87, aoK), (88, aqa), (89, atc), (90, aI8)]
def apD (ρ : Type) : List (acC ρ) := []
def au0 (ρ : Type) : Env ρ := acy aD7 (apD ρ)
def aI7 : acu := ⟨[ab7, tI], [acg, tI], fun (x : Val abR) => avl x.1 x.2⟩
def aJ2 : List (Nat × acu) := [(38, adW)]
def auD (ρ : Type) : List (acC ρ) := []
def aBt (ρ : Type) : Env ρ := acy aJ2 (auD ρ)
def aNJ : acu := ⟨[ab7, tI], [ab5, tI], fun (x : Val abR) => azz x.1 x.2⟩
def aMt : List (Nat × acu) := [(200, aFY), (205, aI7)]
def ax7 (ρ : Type) : List (acC ρ) := []
def aEZ (ρ : Type) : Env ρ := acy aMt (ax7 ρ)
def axt : acu := ⟨[l5, abx, (.ptr acg)], [tI], fun (x : Val (.pair l5 (.pair abx (.ptr acg)))) => ai2 x.1 x.2.1 x.2.2⟩
def aAz : List (Nat × acu) := [(55, agh)]
def an6 (ρ : Type) : List (acC ρ) := []
def aq7 (ρ : Type) : Env ρ := acy aAz (an6 ρ)
def axs : acu := ⟨[tI, tI, abx, (.ptr tI), abS, (.ptr tI)], [acT], fun (x : Val (.pair tI (.pair tI (.pair abx (.pair (.ptr tI) (.pair abS (.ptr tI))))))) => ai1 x.1 x.2.1 x.2.2.1 x.2.2.2.1 x.2.2.2.2.1 x.2.2.2.2.2⟩
def aAy : List (Nat × acu) := [(56, agH)]
def an5 (ρ : Type) : List (acC ρ) := []
def aq6 (ρ : Type) : Env ρ := acy aAy (an5 ρ)
def avK : acu := ⟨[abx, ab5, acg], [aez, tI], fun (x : Val (.pair abx abV)) => amx x.1 x.2.1 x.2.2⟩
def aAx : ace := { pin := 0, cs := [tI, l5, l5, eI, wi, tI, tI, tI, tI, tI, l5, l5, tI, tI, tI, tI, tI, tI, tI, tI, tI, tI, tI, tI, tI, tI, tI, tI, tI, tI, f6, eI, m5, eW, eI, tI], vs := [tI, wi], head := ⟨127, aN 4 (.box 0 0 :: .box 1 0 :: .box 2 0 :: .any :: .box 3 0 :: .any :: .any :: .con tI :: .box 4 0 :: .any :: .con l5 :: .con l5 :: .any :: .any :: .con eI :: .any :: .box 5 0 :: aN 65 [.con wi, .con tI, .var tI]), [.cells [.con tI, .con tI], .cells [.con tI, .con tI, .con l5, .con l5, .con tI, .con tI, .con tI, .con tI], .cells [.con tI, .con tI, .con tI, .con tI, .con tI, .con tI, .con tI, .con tI], .cells [.con tI, .con tI], .cells [.con tI, .con tI], .cells [.con tI, .con tI, .con f6, .con eI, .con m5, .con eW, .con eI, .con tI, .own 6], .rowv acT]⟩, exits := [(.exit 0, ⟨127, aN 4 (.box 0 0 :: .box 1 0 :: .box 2 0 :: .any :: .box 3 0 :: .any :: .any :: .con tI :: .box 4 0 :: .any :: .con l5 :: .con l5 :: .any :: .any :: .con eI :: .any :: .box 5 0 :: aN 65 [.con wi, .con tI]), [.cells [.con tI, .con tI], .cells [.con tI, .con tI, .con l5, .con l5, .con tI, .con tI, .con tI, .con tI], .cells [.con tI, .con tI, .con tI, .con tI, .con tI, .con tI, .con tI, .con tI], .cells [.con tI, .con tI], .cells [.con tI, .con tI], .cells [.con tI, .con tI, .con f6, .con eI, .con m5, .con eW, .con eI, .con tI, .own 6], .rowv acT]⟩, [wi])] }
def aoZ (ρ : Type) : acC ρ := ⟨[], 71, 0, aAx, fun (p : Val (.pair tI (.pair l5 (.pair l5 (.pair eI (.pair wi (.pair tI (.pair tI (.pair tI (.pair tI (.pair tI (.pair l5 (.pair l5 (.pair tI (.pair tI (.pair tI (.pair tI (.pair tI (.pair tI (.pair tI (.pair tI (.pair tI (.pair tI (.pair tI (.pair tI (.pair tI (.pair tI (.pair tI (.pair tI (.pair tI (.pair tI (.pair f6 (.pair eI (.pair m5 (.pair eW (.pair eI tI)))))))))))))))))))))))))))))))))))) (v : Val acf) kn kx => ahG p.1 p.2.2.2.1 p.2.2.2.2.1 p.2.2.2.2.2.1 v.1 v.2 (fun u0 u1 => kn (u0, u1)) (kx 0)⟩
def aGu : List (Nat × acu) := [(20, aef), (40, aAg), (41, aF1), (55, agh), (129, avO), (142, aNJ), (143, axt), (144, axs)]
def aq5 (ρ : Type) : List (acC ρ) := [aoZ ρ]
def akR (ρ : Type) : Env ρ := { acy aGu (aq5 ρ) with hint := awS [(110, 143), (113, 143), (120, 144), (123, 144)] }
def amM : acu := ⟨[acT], [l5], fun (x : Val acT) => afT x⟩
def ayD : List (Nat × acu) := []
def al4 (ρ : Type) : List (acC ρ) := []
def ao2 (ρ : Type) : Env ρ := acy ayD (al4 ρ)
def aED : acu := ⟨[acT, tI], [tI], fun (x : Val (.pair acT tI)) => amy x.1 x.2⟩
def aGw : List (Nat × acu) := []
def aq8 (ρ : Type) : List (acC ρ) := []
def axB (ρ : Type) : Env ρ := acy aGw (aq8 ρ)
def alk : acu := ⟨[aez, tI], [ab5], fun (x : Val (.pair aez tI)) => ad7 x.1 x.2⟩
def avU : List (Nat × acu) := [(177, aED)]
def akK (ρ : Type) : List (acC ρ) := []
def an1 (ρ : Type) : Env ρ := acy avU (akK ρ)
def alm : acu := ⟨[aez, l5], [l5], fun (x : Val (.pair aez l5)) => agN x.1 x.2⟩
def ar8 : ace := { pin := 0, cs := [tI, l5, tI, tI, tI, tI, tI, tI, tI, tI, tI, tI], vs := [tI, l5], head := ⟨48, .any :: .any :: .box 0 0 :: .any :: .any :: .own 1 :: .any :: .con tI :: .var tI :: aN 7 [.con l5, .con tI, .con tI], [.cells [.con tI, .con tI, .con tI, .con tI, .con tI, .con tI, .con tI, .con tI], .rowv tI]⟩, exits := [(.exit 2, ⟨48, .any :: .any :: .box 0 0 :: .any :: .any :: .own 1 :: .any :: .con tI :: aN 8 [.con l5, .con tI, .con tI], [.cells [.con tI, .con tI, .con tI, .con tI, .con tI, .con tI, .con tI, .con tI], .rowv tI]⟩, [l5])] }
def aj7 (ρ : Type) : acC ρ := ⟨[], 101, 2, ar8, fun (p : Val (.pair tI (.pair l5 (.pair tI (.pair tI abw))))) (v : Val abz) kn kx => afy p.1 p.2.2.2.2.1 p.2.2.2.2.2.1 v.1 v.2 (fun u0 u1 => kn (u0, u1)) (kx 0)⟩
def ar9 : ace := { pin := 0, cs := [l5, tI, tI, tI, tI, tI, tI, tI, tI, tI], vs := [tI, l5], head := ⟨48, .any :: .any :: .box 0 0 :: .any :: .any :: .own 1 :: aN 10 [.con l5, .con tI, .var tI], [.cells [.con tI, .con tI, .con tI, .con tI, .con tI, .con tI, .con tI, .con tI], .rowv tI]⟩, exits := [(.exit 0, ⟨48, .any :: .any :: .box 0 0 :: .any :: .any :: .own 1 :: aN 10 [.con l5, .con tI], [.cells [.con tI, .con tI, .con tI, .con tI, .con tI, .con tI, .con tI, .con tI], .rowv tI]⟩, [l5])] }
def aj8 (ρ : Type) : acC ρ := ⟨[], 101, 0, ar9, fun (p : Val (.pair l5 (.pair tI abw))) (v : Val abz) kn kx => ags p.1 p.2.1 p.2.2.1 p.2.2.2.1 v.1 v.2 (fun u0 u1 => kn (u0, u1)) (kx 0)⟩
def avV : List (Nat × acu) := []
def akL (ρ : Type) : List (acC ρ) := [aj7 ρ, aj8 ρ]
def agR (ρ : Type) : Env ρ := acy avV (akL ρ)
def aoJ : acu := ⟨[aez], [tI], fun (x : Val aez) => ahN x⟩
def aqG : ace := { pin := 0, cs := [l5, tI, tI, tI, tI, tI, tI, tI, tI, tI], vs := [tI, tI], head := ⟨34, .any :: .box 0 0 :: .any :: .var tI :: aN 12 [.con l5, .con tI, .var tI], [.cells [.con tI, .con tI, .con tI, .con tI, .con tI, .con tI, .con tI, .con tI]]⟩, exits := [(.exit 0, ⟨34, .any :: .box 0 0 :: .any :: .var tI :: aN 12 [.con l5, .con tI], [.cells [.con tI, .con tI, .con tI, .con tI, .con tI, .con tI, .con tI, .con tI]]⟩, [tI])] }
def ajj (ρ : Type) : acC ρ := ⟨[], 72, 0, aqG, fun (p : Val (.pair l5 (.pair tI abw))) (v : Val ab5) kn kx => agc p.1 p.2.1 p.2.2.1 p.2.2.2.1 p.2.2.2.2.1 p.2.2.2.2.2.1 p.2.2.2.2.2.2.1 p.2.2.2.2.2.2.2.1 p.2.2.2.2.2.2.2.2.1 p.2.2.2.2.2.2.2.2.2 v.1 v.2 (fun u0 u1 => kn (u0, u1)) (kx 0)⟩
def atw : List (Nat × acu) := [(94, aee), (95, amM), (99, alk), (101, alm)]
def aj3 (ρ : Type) : List (acC ρ) := [ajj ρ]
def aie (ρ : Type) : Env ρ := acy atw (aj3 ρ)
def aI2 : acu := ⟨[ab7, ab5, acg], [tI, tI], fun (x : Val (.pair ab7 abV)) => apL x.1 x.2.1 x.2.2⟩
def aDn : ace := { pin := 4, cs := [tI, tI, tI, f6, eI, m5, eW, eI, tI, tI, tI, tI, l5, l5, tI, tI, tI, tI, eI], vs := [tI, tI, tI, f6, eI, m5, eW, eI], head := ⟨68, .any :: .any :: .box 4 0 :: aN 20 [.own 3, .con tI, .var tI], [.cells [.con tI, .con tI, .con f6, .con eI, .con m5, .con eW, .con eI], .cells [.con tI, .con tI], .cells [.con tI, .con tI, .con l5, .con l5, .con tI, .con tI, .con tI, .con tI], .rowc ab5, .cells [.var tI, .var tI, .var f6, .var eI, .var m5, .var eW, .var eI]]⟩, exits := [(.ret, ⟨68, .any :: .any :: .box 4 0 :: .any :: .nilp :: .var tI :: aN 17 [.own 3, .con tI], [.cells [.con tI, .con tI, .con f6, .con eI, .con m5, .con eW, .con eI], .cells [.con tI, .con tI], .cells [.con tI, .con tI, .con l5, .con l5, .con tI, .con tI, .con tI, .con tI], .rowc ab5, .cells [.var tI, .var tI, .var f6, .var eI, .var m5, .var eW, .var eI]]⟩, [tI, tI, tI, f6, eI, m5, eW, eI]), (.exit 0, ⟨68, .any :: .any :: .box 4 0 :: aN 20 [.own 3, .con tI], [.cells [.con tI, .con tI, .con f6, .con eI, .con m5, .con eW, .con eI], .cells [.con tI, .con tI], .cells [.con tI, .con tI, .con l5, .con l5, .con tI, .con tI, .con tI, .con tI], .rowc ab5, .cells [.var tI, .var tI, .var f6, .var eI, .var m5, .var eW, .var eI]]⟩, [tI, tI, f6, eI, m5, eW, eI])] }
def aq9 (ρ : Type) : acC ρ := ⟨[1, 3], 50, 0, aDn, fun (p : Val (.pair tI (.pair tI (.pair tI (.pair f6 (.pair eI (.pair m5 (.pair eW (.pair eI (.pair tI (.pair tI (.pair tI (.pair tI (.pair l5 (.pair l5 (.pair tI (.pair tI abD))))))))))))))))) (v : Val abB) kn kx => ao4 p.1 p.2.2.2.2.2.2.2.2.2.2.2.2.2.2.2.2.2.2 v.1 v.2.1 v.2.2.1 v.2.2.2.1 v.2.2.2.2.1 v.2.2.2.2.2.1 v.2.2.2.2.2.2.1 v.2.2.2.2.2.2.2 (fun u0 u1 u2 u3 u4 u5 u6 u7 => kn (u0, u1, u2, u3, u4, u5, u6, u7)) (kx 0) (kx 1)⟩
def aJE : List (Nat × acu) := [(20, aef), (38, adW), (60, afv), (61, aiv), (71, avK), (72, aoJ), (123, ad5)]
def atW (ρ : Type) : List (acC ρ) := [aq9 ρ]
def asi (ρ : Type) : Env ρ := acy aJE (atW ρ)
def arW : acu := ⟨[acf, l5], [tI], fun (x : Val abT) => akq x.1 x.2⟩
def ayO : ace := { pin := 1, cs := [l5, tI, tI, wi], vs := [tI], head := ⟨19, .con l5 :: .fn 206 [(0, 0)] :: aN 5 [.con tI, .var tI], [.cells [.con tI, .con wi]]⟩, exits := [(.ret, ⟨19, [.con l5, .fn 206 [(0, 0)], .any, .any, .var tI, .any, .any, .con tI], [.cells [.con tI, .con wi]]⟩, [tI]), (.exit 0, ⟨19, .con l5 :: .fn 206 [(0, 0)] :: aN 5 [.con tI], [.cells [.con tI, .con wi]]⟩, [])] }
def aoe (ρ : Type) : acC ρ := ⟨[3, 2, 1, 2], 178, 0, ayO, fun (p : Val (.pair l5 abG)) (v : Val tI) kn kx => aiz p.1 p.2.1 p.2.2.2 v (fun u0 => kn u0) (kx 0) (kx 1)⟩
def aDw : List (Nat × acu) := []
def ape (ρ : Type) : List (acC ρ) := [aoe ρ]
def anc (ρ : Type) : Env ρ := acy aDw (ape ρ)
def aFV : acu := ⟨[acf, tI, l5], [tI, tI, .bool], fun (x : Val (.pair acf abz)) => avj x.1 x.2.1 x.2.2⟩
def aGK : ace := { pin := 0, cs := [l5, tI, tI, wi], vs := [tI, tI, tI], head := ⟨37, .any :: .var tI :: .any :: .box 0 0 :: aN 5 [.var tI, .any, .any, .any, .con l5, .con tI, .var tI], [.cells [.con tI, .con wi]]⟩, exits := [(.ret, ⟨37, .any :: .any :: .any :: .box 0 0 :: .any :: .any :: .var tI :: .var tI :: .var .bool :: aN 4 [.con l5, .con tI], [.cells [.con tI, .con wi]]⟩, [tI, tI, .bool]), (.exit 0, ⟨37, .any :: .var tI :: .any :: .box 0 0 :: aN 5 [.var tI, .any, .any, .any, .con l5, .con tI], [.cells [.con tI, .con wi]]⟩, [tI, tI])] }
def aue (ρ : Type) : acC ρ := ⟨[], 146, 0, aGK, fun (p : Val (.pair l5 abG)) (v : Val acT) kn kx => anb p.1 p.2.1 p.2.2.2 v.1 v.2.1 v.2.2 (fun u0 u1 u2 => kn (u0, u1, u2)) (kx 0) (kx 1)⟩
def aL5 : List (Nat × acu) := []
def axI (ρ : Type) : List (acC ρ) := [aue ρ]
def awh (ρ : Type) : Env ρ := acy aL5 (axI ρ)
def aqX : acu := ⟨[acf, tI, tI, l5], [tI, tI], fun (x : Val (.pair acf (.pair tI abz))) => agO x.1 x.2.1 x.2.2.1 x.2.2.2⟩
def aws : List (Nat × acu) := [(133, aj1), (134, azg), (145, arW), (146, aFV)]
def ak2 (ρ : Type) : List (acC ρ) := []
def aoi (ρ : Type) : Env ρ := acy aws (ak2 ρ)
def amN : acu := ⟨[afg], [tI], fun (x : Val afg) => ahP x⟩
def ayI : List (Nat × acu) := [(20, aef), (38, adW), (60, afv), (76, aqX)]
def ame (ρ : Type) : List (acC ρ) := []
def ao9 (ρ : Type) : Env ρ := acy ayI (ame ρ)
def aqW : acu := ⟨[acf, l5], [tI], fun (x : Val abT) => aiC x.1 x.2⟩
def awr : List (Nat × acu) := [(133, aj1), (145, arW), (146, aFV)]
def ak1 (ρ : Type) : List (acC ρ) := []
def aoh (ρ : Type) : Env ρ := acy awr (ak1 ρ)
def aqV : acu := ⟨[afg], [tI], fun (x : Val afg) => aiB x⟩
def awb : List (Nat × acu) := [(20, aef), (38, adW), (86, aqW)]
def akX (ρ : Type) : List (acC ρ) := []
def an9 (ρ : Type) : Env ρ := acy awb (akX ρ)
def afZ : acu := ⟨[f6, ach], [tI], fun (x : Val (.pair f6 ach)) => aeo x.1 x.2⟩
def aho : ace := { pin := 0, cs := [f6, tI, tI, tI, tI, tI, tI, tI, tI, tI], vs := [tI], head := ⟨19, [.con f6, .any, .any, .box 0 0, .any, .any, .any, .con tI, .var tI], [.cells [.con tI, .con tI, .con tI, .con tI, .con tI, .con tI, .con tI, .con tI]]⟩, exits := [(.ret, ⟨19, [.con f6, .any, .any, .box 0 0, .var tI, .any, .any, .con tI], [.cells [.con tI, .con tI, .con tI, .con tI, .con tI, .con tI, .con tI, .con tI]]⟩, [tI]), (.exit 0, ⟨19, [.con f6, .any, .any, .box 0 0, .any, .any, .any, .con tI], [.cells [.con tI, .con tI, .con tI, .con tI, .con tI, .con tI, .con tI, .con tI]]⟩, [])] }
def aeN (ρ : Type) : acC ρ := ⟨[], 254, 0, aho, fun (p : Val (.pair f6 (.pair tI abw))) (v : Val tI) kn kx => acW p.1 p.2.1 p.2.2.1 p.2.2.2.1 p.2.2.2.2.1 p.2.2.2.2.2.1 p.2.2.2.2.2.2.1 p.2.2.2.2.2.2.2.1 p.2.2.2.2.2.2.2.2.1 p.2.2.2.2.2.2.2.2.2 v (fun u0 => kn u0) (kx 0) (kx 1)⟩
def ahW : List (Nat × acu) := []
def ae1 (ρ : Type) : List (acC ρ) := [aeN ρ]
def adY (ρ : Type) : Env ρ := acy ahW (ae1 ρ)
def afi : acu := ⟨[f6, ach], [.bool], fun (x : Val (.pair f6 ach)) => adn x.1 x.2⟩
def ag0 : List (Nat × acu) := [(254, afZ)]
def aev (ρ : Type) : List (acC ρ) := []
def aeP (ρ : Type) : Env ρ := acy ag0 (aev ρ)
def agG : acu := ⟨[eI, ab5], [tI], fun (x : Val abY) => afb x.1 x.2⟩
def aiM : ace := { pin := 0, cs := [eI, tI, tI, tI], vs := [tI], head := ⟨19, [.con eI, .any, .any, .box 0 0, .any, .any, .any, .con tI, .var tI], [.cells [.con tI, .con tI]]⟩, exits := [(.ret, ⟨19, [.con eI, .any, .any, .box 0 0, .var tI, .any, .any, .con tI], [.cells [.con tI, .con tI]]⟩, [tI]), (.exit 0, ⟨19, [.con eI, .any, .any, .box 0 0, .any, .any, .any, .con tI], [.cells [.con tI, .con tI]]⟩, [])] }
def afG (ρ : Type) : acC ρ := ⟨[], 256, 0, aiM, fun (p : Val (.pair eI acT)) (v : Val tI) kn kx => ade p.1 p.2.1 p.2.2.1 p.2.2.2 v (fun u0 => kn u0) (kx 0) (kx 1)⟩
def ajs : List (Nat × acu) := []
def af0 (ρ : Type) : List (acC ρ) := [afG ρ]
def aeC (ρ : Type) : Env ρ := acy ajs (af0 ρ)
def aga : acu := ⟨[eI, ab5], [.bool], fun (x : Val abY) => adi x.1 x.2⟩
def aid : List (Nat × acu) := [(256, agG)]
def afl (ρ : Type) : List (acC ρ) := []
def afH (ρ : Type) : Env ρ := acy aid (afl ρ)
def agf : acu := ⟨[m5, adL], [tI], fun (x : Val (.pair m5 adL)) => aeG x.1 x.2⟩
def ahV : ace := { pin := 0, cs := [m5, tI, tI, tI, tI, tI], vs := [tI], head := ⟨19, [.con m5, .any, .any, .box 0 0, .any, .any, .any, .con tI, .var tI], [.cells [.con tI, .con tI, .con tI, .con tI]]⟩, exits := [(.ret, ⟨19, [.con m5, .any, .any, .box 0 0, .var tI, .any, .any, .con tI], [.cells [.con tI, .con tI, .con tI, .con tI]]⟩, [tI]), (.exit 0, ⟨19, [.con m5, .any, .any, .box 0 0, .any, .any, .any, .con tI], [.cells [.con tI, .con tI, .con tI, .con tI]]⟩, [])] }
def afk (ρ : Type) : acC ρ := ⟨[], 258, 0, ahV, fun (p : Val (.pair m5 (.pair tI (.pair tI acT)))) (v : Val tI) kn kx => ac1 p.1 p.2.1 p.2.2.1 p.2.2.2.1 p.2.2.2.2.1 p.2.2.2.2.2 v (fun u0 => kn u0) (kx 0) (kx 1)⟩
def aiO : List (Nat × acu) := []
def afx (ρ : Type) : List (acC ρ) := [afk ρ]
def ael (ρ : Type) : Env ρ := acy aiO (afx ρ)
def afF : acu := ⟨[m5, adL], [.bool], fun (x : Val (.pair m5 adL)) => ac2 x.1 x.2⟩
def ahC : List (Nat × acu) := [(258, agf)]
def aeO (ρ : Type) : List (acC ρ) := []
def afm (ρ : Type) : Env ρ := acy ahC (aeO ρ)
def aNE : acu := ⟨[ab7, ab7], [.bool], fun (x : Val (.pair ab7 ab7)) => avf x.1 x.2⟩
def aGr : ace := { pin := 0, cs := [f6, tI, tI, tI, f6, eI, m5, eW, eI, tI, tI, f6, eI, m5, eW, eI], vs := [tI, abq], head := ⟨87, .any :: .any :: .box 0 0 :: .box 1 0 :: .any :: .box 2 0 :: aN 10 [.con f6, .con tI, .var tI], [.cells [.con tI, .con tI, .con f6, .con eI, .con m5, .con eW, .con eI], .cells [.con tI, .con tI, .con f6, .con eI, .con m5, .con eW, .con eI], .cells [.omp 3], .mapv tI .bool]⟩, exits := [(.exit 0, ⟨87, .any :: .any :: .box 0 0 :: .box 1 0 :: .any :: .box 2 0 :: aN 10 [.con f6, .con tI], [.cells [.con tI, .con tI, .con f6, .con eI, .con m5, .con eW, .con eI], .cells [.con tI, .con tI, .con f6, .con eI, .con m5, .con eW, .con eI], .cells [.omp 3], .mapv tI .bool]⟩, [abq])] }
def atQ (ρ : Type) : acC ρ := ⟨[], 77, 0, aGr, fun (p : Val (.pair f6 (.pair tI abA))) (v : Val (.pair tI abq)) kn kx => amZ p.1 p.2.1 v.1 v.2 (fun u0 u1 => kn (u0, u1)) (kx 0)⟩
def aGo : ace := { pin := 6, cs := [l5, l5, tI, tI, tI, f6, eI, m5, eW, eI, tI, tI, f6, eI, m5, eW, eI, abq, tI, tI, l5, l5, tI, tI, tI, tI, tI, tI, l5, l5, tI, tI, tI, tI], vs := [tI], head := ⟨26, .con l5 :: .con l5 :: aN 10 [.con tI, .var tI], [.cells [.con tI, .con tI, .con f6, .con eI, .con m5, .con eW, .con eI], .cells [.con tI, .con tI, .con f6, .con eI, .con m5, .con eW, .con eI], .cells [.omp 3], .mapc tI .bool, .cells [.con tI, .con tI, .con l5, .con l5, .con tI, .con tI, .con tI, .con tI], .cells [.con tI, .con tI, .con l5, .con l5, .con tI, .con tI, .con tI, .con tI]]⟩, exits := [(.ret, ⟨26, .con l5 :: .con l5 :: .any :: .any :: .var .bool :: aN 7 [.con tI], [.cells [.con tI, .con tI, .con f6, .con eI, .con m5, .con eW, .con eI], .cells [.con tI, .con tI, .con f6, .con eI, .con m5, .con eW, .con eI], .cells [.omp 3], .mapc tI .bool, .cells [.con tI, .con tI, .con l5, .con l5, .con tI, .con tI, .con tI, .con tI], .cells [.con tI, .con tI, .con l5, .con l5, .con tI, .con tI, .con tI, .con tI]]⟩, [.bool]), (.exit 0, ⟨26, .con l5 :: .con l5 :: aN 10 [.con tI], [.cells [.con tI, .con tI, .con f6, .con eI, .con m5, .con eW, .con eI], .cells [.con tI, .con tI, .con f6, .con eI, .con m5, .con eW, .con eI], .cells [.omp 3], .mapc tI .bool, .cells [.con tI, .con tI, .con l5, .con l5, .con tI, .con tI, .con tI, .con tI], .cells [.con tI, .con tI, .con l5, .con l5, .con tI, .con tI, .con tI, .con tI]]⟩, [])] }
def atM (ρ : Type) : acC ρ := ⟨[14, 3, 1, 2, 4, 5, 1, 38], 151, 0, aGo, fun (p : Val (.pair l5 (.pair l5 (.pair tI (.pair tI (.pair tI (.pair f6 (.pair eI (.pair m5 (.pair eW (.pair eI (.pair tI (.pair tI (.pair f6 (.pair eI (.pair m5 (.pair eW (.pair eI (.pair abq (.pair tI (.pair tI (.pair l5 (.pair l5 (.pair tI (.pair tI (.pair tI (.pair tI acg))))))))))))))))))))))))))) (v : Val tI) kn kx => aii p.1 p.2.1 p.2.2.1 v (fun u0 => kn u0) (kx 0) (kx 1)⟩
def aGn : ace := { pin := 6, cs := [l5, l5, tI, tI, tI, f6, eI, m5, eW, eI, tI, tI, f6, eI, m5, eW, eI, abq, tI, tI, l5, l5, tI, tI, tI, tI, tI, tI, l5, l5, tI, tI, tI, tI], vs := [tI], head := ⟨26, .con l5 :: .con l5 :: aN 10 [.con tI, .var tI], [.cells [.con tI, .con tI, .con f6, .con eI, .con m5, .con eW, .con eI], .cells [.con tI, .con tI, .con f6, .con eI, .con m5, .con eW, .con eI], .cells [.omp 3], .mapc tI .bool, .cells [.con tI, .con tI, .con l5, .con l5, .con tI, .con tI, .con tI, .con tI], .cells [.con tI, .con tI, .con l5, .con l5, .con tI, .con tI, .con tI, .con tI]]⟩, exits := [(.ret, ⟨26, .con l5 :: .con l5 :: .any :: .any :: .var .bool :: aN 7 [.con tI], [.cells [.con tI, .con tI, .con f6, .con eI, .con m5, .con eW, .con eI], .cells [.con tI, .con tI, .con f6, .con eI, .con m5, .con eW, .con eI], .cells [.omp 3], .mapc tI .bool, .cells [.con tI, .con tI, .con l5, .con l5, .con tI, .con tI, .con tI, .con tI], .cells [.con tI, .con tI, .con l5, .con l5, .con tI, .con tI, .con tI, .con tI]]⟩, [.bool]), (.exit 0, ⟨26, .con l5 :: .con l5 :: aN 10 [.con tI], [.cells [.con tI, .con tI, .con f6, .con eI, .con m5, .con eW, .con eI], .cells [.con tI, .con tI, .con f6, .con eI, .con m5, .con eW, .con eI], .cells [.omp 3], .mapc tI .bool, .cells [.con tI, .con tI, .con l5, .con l5, .con tI, .con tI, .con tI, .con tI], .cells [.con tI, .con tI, .con l5, .con l5, .con tI, .con tI, .con tI, .con tI]]⟩, [])] }
def atL (ρ : Type) : acC ρ := ⟨[14, 3, 1, 2, 4, 5, 1, 45], 151, 0, aGn, fun (p : Val (.pair l5 (.pair l5 (.pair tI (.pair tI (.pair tI (.pair f6 (.pair eI (.pair m5 (.pair eW (.pair eI (.pair tI (.pair tI (.pair f6 (.pair eI (.pair m5 (.pair eW (.pair eI (.pair abq (.pair tI (.pair tI (.pair l5 (.pair l5 (.pair tI (.pair tI (.pair tI (.pair tI acg))))))))))))))))))))))))))) (v : Val tI) kn kx => amY p.1 p.2.1 p.2.2.1 v (fun u0 => kn u0) (kx 0) (kx 1)⟩
def aGp : ace := { pin := 5, cs := [eW, tI, tI, tI, f6, eI, m5, eW, eI, tI, tI, f6, eI, m5, eW, eI, abq, tI, tI, l5, l5, tI, tI, tI, tI], vs := [tI], head := ⟨19, .con eW :: .fn 150 [(4, 0)] :: aN 5 [.con tI, .var tI], [.cells [.con tI, .con tI, .con f6, .con eI, .con m5, .con eW, .con eI], .cells [.con tI, .con tI, .con f6, .con eI, .con m5, .con eW, .con eI], .cells [.omp 3], .mapc tI .bool, .cells [.con tI, .con tI, .con l5, .con l5, .con tI, .con tI, .con tI, .con tI]]⟩, exits := [(.ret, ⟨19, [.con eW, .fn 150 [(4, 0)], .any, .any, .var tI, .any, .any, .con tI], [.cells [.con tI, .con tI, .con f6, .con eI, .con m5, .con eW, .con eI], .cells [.con tI, .con tI, .con f6, .con eI, .con m5, .con eW, .con eI], .cells [.omp 3], .mapc tI .bool, .cells [.con tI, .con tI, .con l5, .con l5, .con tI, .con tI, .con tI, .con tI]]⟩, [tI]), (.exit 0, ⟨19, .con eW :: .fn 150 [(4, 0)] :: aN 5 [.con tI], [.cells [.con tI, .con tI, .con f6, .con eI, .con m5, .con eW, .con eI], .cells [.con tI, .con tI, .con f6, .con eI, .con m5, .con eW, .con eI], .cells [.omp 3], .mapc tI .bool, .cells [.con tI, .con tI, .con l5, .con l5, .con tI, .con tI, .con tI, .con tI]]⟩, [])] }
def atN (ρ : Type) : acC ρ := ⟨[14, 3, 1, 2], 207, 0, aGp, fun (p : Val (.pair eW (.pair tI (.pair tI (.pair tI (.pair f6 (.pair eI (.pair m5 (.pair eW (.pair eI (.pair tI (.pair tI (.pair f6 (.pair eI (.pair m5 (.pair eW (.pair eI (.pair abq acg)))))))))))))))))) (v : Val tI) kn kx => akb p.1 p.2.1 p.2.2.2.2.2.2.2.2.2.2.2.2.2.2.2.2.2.1 p.2.2.2.2.2.2.2.2.2.2.2.2.2.2.2.2.2.2.1 p.2.2.2.2.2.2.2.2.2.2.2.2.2.2.2.2.2.2.2.1 p.2.2.2.2.2.2.2.2.2.2.2.2.2.2.2.2.2.2.2.2.1 p.2.2.2.2.2.2.2.2.2.2.2.2.2.2.2.2.2.2.2.2.2.1 p.2.2.2.2.2.2.2.2.2.2.2.2.2.2.2.2.2.2.2.2.2.2.1 p.2.2.2.2.2.2.2.2.2.2.2.2.2.2.2.2.2.2.2.2.2.2.2.1 p.2.2.2.2.2.2.2.2.2.2.2.2.2.2.2.2.2.2.2.2.2.2.2.2 v (fun u0 => kn u0) (kx 0) (kx 1)⟩
def aGq : ace := { pin := 0, cs := [eW, tI, tI, tI, f6, eI, m5, eW, eI, tI, tI, f6, eI, m5, eW, eI, abq], vs := [tI], head := ⟨87, .any :: .any :: .box 0 0 :: .box 1 0 :: aN 4 (.fn 147 [] :: .fn 148 [(2, 0)] :: .fn 149 [(2, 0)] :: aN 18 [.con eW, .con tI, .var tI]), [.cells [.con tI, .con tI, .con f6, .con eI, .con m5, .con eW, .con eI], .cells [.con tI, .con tI, .con f6, .con eI, .con m5, .con eW, .con eI], .cells [.omp 3], .mapc tI .bool]⟩, exits := [(.ret, ⟨87, .any :: .any :: .box 0 0 :: .box 1 0 :: .var .bool :: .any :: .any :: .any :: .fn 147 [] :: .fn 148 [(2, 0)] :: .fn 149 [(2, 0)] :: aN 18 [.con eW, .con tI], [.cells [.con tI, .con tI, .con f6, .con eI, .con m5, .con eW, .con eI], .cells [.con tI, .con tI, .con f6, .con eI, .con m5, .con eW, .con eI], .cells [.omp 3], .mapc tI .bool]⟩, [.bool]), (.exit 2, ⟨87, .any :: .any :: .box 0 0 :: .box 1 0 :: aN 4 (.fn 147 [] :: .fn 148 [(2, 0)] :: .fn 149 [(2, 0)] :: aN 18 [.con eW, .con tI]), [.cells [.con tI, .con tI, .con f6, .con eI, .con m5, .con eW, .con eI], .cells [.con tI, .con tI, .con f6, .con eI, .con m5, .con eW, .con eI], .cells [.omp 3], .mapc tI .bool]⟩, [])] }
def atO (ρ : Type) : acC ρ := ⟨[], 77, 2, aGq, fun (p : Val (.pair eW (.pair tI (.pair tI (.pair tI (.pair f6 (.pair eI (.pair m5 (.pair eW (.pair eI (.pair tI (.pair tI (.pair f6 (.pair eI (.pair m5 (.pair eW (.pair eI abq))))))))))))))))) (v : Val tI) kn kx => akc p.1 p.2.1 p.2.2.2.2.2.2.2.2.2.2.2.2.2.2.1 v (fun u0 => kn u0) (kx 0) (kx 1)⟩
def aGm : ace := { pin := 6, cs := [f6, tI, tI, tI, f6, eI, m5, eW, eI, tI, tI, f6, eI, m5, eW, eI, abq, f6], vs := [tI], head := ⟨19, .con f6 :: .fn 209 [(5, 0), (4, 0)] :: aN 5 [.con tI, .var tI], [.cells [.con tI, .con tI, .con f6, .con eI, .con m5, .con eW, .con eI], .cells [.con tI, .con tI, .con f6, .con eI, .con m5, .con eW, .con eI], .cells [.omp 3], .mapc tI .bool, .cells [.con f6], .cells [.fn 147 []]]⟩, exits := [(.ret, ⟨19, [.con f6, .fn 209 [(5, 0), (4, 0)], .any, .any, .var tI, .any, .any, .con tI], [.cells [.con tI, .con tI, .con f6, .con eI, .con m5, .con eW, .con eI], .cells [.con tI, .con tI, .con f6, .con eI, .con m5, .con eW, .con eI], .cells [.omp 3], .mapc tI .bool, .cells [.con f6], .cells [.fn 147 []]]⟩, [tI]), (.exit 0, ⟨19, .con f6 :: .fn 209 [(5, 0), (4, 0)] :: aN 5 [.con tI], [.cells [.con tI, .con tI, .con f6, .con eI, .con m5, .con eW, .con eI], .cells [.con tI, .con tI, .con f6, .con eI, .con m5, .con eW, .con eI], .cells [.omp 3], .mapc tI .bool, .cells [.con f6], .cells [.fn 147 []]]⟩, [])] }
def atK (ρ : Type) : acC ρ := ⟨[17, 11, 1, 2, 1, 2], 253, 0, aGm, fun (p : Val (.pair f6 (.pair tI (.pair tI (.pair tI (.pair f6 (.pair eI (.pair m5 (.pair eW (.pair eI (.pair tI (.pair tI (.pair f6 (.pair eI (.pair m5 (.pair eW (.pair eI (.pair abq f6)))))))))))))))))) (v : Val tI) kn kx => aka p.1 p.2.1 p.2.2.2.2.2.2.2.2.2.2.2.2.2.2.2.2.2 v (fun u0 => kn u0) (kx 0) (kx 1)⟩
def aGl : ace := { pin := 8, cs := [eI, tI, tI, tI, f6, eI, m5, eW, eI, tI, tI, f6, eI, m5, eW, eI, abq, f6, eI], vs := [tI], head := ⟨19, .con eI :: .fn 212 [(7, 0), (6, 0)] :: aN 5 [.con tI, .var tI], [.cells [.con tI, .con tI, .con f6, .con eI, .con m5, .con eW, .con eI], .cells [.con tI, .con tI, .con f6, .con eI, .con m5, .con eW, .con eI], .cells [.omp 3], .mapc tI .bool, .cells [.con f6], .cells [.fn 147 []], .cells [.con eI], .cells [.fn 148 [(2, 0)]]]⟩, exits := [(.ret, ⟨19, [.con eI, .fn 212 [(7, 0), (6, 0)], .any, .any, .var tI, .any, .any, .con tI], [.cells [.con tI, .con tI, .con f6, .con eI, .con m5, .con eW, .con eI], .cells [.con tI, .con tI, .con f6, .con eI, .con m5, .con eW, .con eI], .cells [.omp 3], .mapc tI .bool, .cells [.con f6], .cells [.fn 147 []], .cells [.con eI], .cells [.fn 148 [(2, 0)]]]⟩, [tI]), (.exit 0, ⟨19, .con eI :: .fn 212 [(7, 0), (6, 0)] :: aN 5 [.con tI], [.cells [.con tI, .con tI, .con f6, .con eI, .con m5, .con eW, .con eI], .cells [.con tI, .con tI, .con f6, .con eI, .con m5, .con eW, .con eI], .cells [.omp 3], .mapc tI .bool, .cells [.con f6], .cells [.fn 147 []], .cells [.con eI], .cells [.fn 148 [(2, 0)]]]⟩, [])] }
def atJ (ρ : Type) : acC ρ := ⟨[17, 19, 1, 2, 1, 2], 255, 0, aGl, fun (p : Val (.pair eI (.pair tI (.pair tI (.pair tI (.pair f6 (.pair eI (.pair m5 (.pair eW (.pair eI (.pair tI (.pair tI (.pair f6 (.pair eI (.pair m5 (.pair eW (.pair eI (.pair abq (.pair f6 eI))))))))))))))))))) (v : Val tI) kn kx => ag2 p.1 p.2.1 p.2.2.2.2.2.2.2.2.2.2.2.2.2.2.2.2.1 p.2.2.2.2.2.2.2.2.2.2.2.2.2.2.2.2.2.2 v (fun u0 => kn u0) (kx 0) (kx 1)⟩
def aGk : ace := { pin := 10, cs := [eI, tI, tI, tI, f6, eI, m5, eW, eI, tI, tI, f6, eI, m5, eW, eI, abq, f6, eI, eI], vs := [tI], head := ⟨19, .con eI :: .fn 212 [(9, 0), (8, 0)] :: aN 5 [.con tI, .var tI], [.cells [.con tI, .con tI, .con f6, .con eI, .con m5, .con eW, .con eI], .cells [.con tI, .con tI, .con f6, .con eI, .con m5, .con eW, .con eI], .cells [.omp 3], .mapc tI .bool, .cells [.con f6], .cells [.fn 147 []], .cells [.con eI], .cells [.fn 148 [(2, 0)]], .cells [.con eI], .cells [.fn 148 [(2, 0)]]]⟩, exits := [(.ret, ⟨19, [.con eI, .fn 212 [(9, 0), (8, 0)], .any, .any, .var tI, .any, .any, .con tI], [.cells [.con tI, .con tI, .con f6, .con eI, .con m5, .con eW, .con eI], .cells [.con tI, .con tI, .con f6, .con eI, .con m5, .con eW, .con eI], .cells [.omp 3], .mapc tI .bool, .cells [.con f6], .cells [.fn 147 []], .cells [.con eI], .cells [.fn 148 [(2, 0)]], .cells [.con eI], .cells [.fn 148 [(2, 0)]]]⟩, [tI]), (.exit 0, ⟨19, .con eI :: .fn 212 [(9, 0), (8, 0)] :: aN 5 [.con tI], [.cells [.con tI, .con tI, .con f6, .con eI, .con m5, .con eW, .con eI], .cells [.con tI, .con tI, .con f6, .con eI, .con m5, .con eW, .con eI], .cells [.omp 3], .mapc tI .bool, .cells [.con f6], .cells [.fn 147 []], .cells [.con eI], .cells [.fn 148 [(2, 0)]], .cells [.con eI], .cells [.fn 148 [(2, 0)]]]⟩, [])] }
def atI (ρ : Type) : acC ρ := ⟨[17, 27, 1, 2, 1, 2], 255, 0, aGk, fun (p : Val (.pair eI (.pair tI (.pair tI (.pair tI (.pair f6 (.pair eI (.pair m5 (.pair eW (.pair eI (.pair tI (.pair tI (.pair f6 (.pair eI (.pair m5 (.pair eW (.pair eI (.pair abq (.pair f6 (.pair eI eI)))))))))))))))))))) (v : Val tI) kn kx => aih p.1 p.2.1 p.2.2.2.2.2.2.2.2.2.2.2.2.2.2.2.2.1 p.2.2.2.2.2.2.2.2.2.2.2.2.2.2.2.2.2.2.2 v (fun u0 => kn u0) (kx 0) (kx 1)⟩
def aGj : ace := { pin := 12, cs := [m5, tI, tI, tI, f6, eI, m5, eW, eI, tI, tI, f6, eI, m5, eW, eI, abq, f6, eI, eI, m5], vs := [tI], head := ⟨19, .con m5 :: .fn 215 [(11, 0), (10, 0)] :: aN 5 [.con tI, .var tI], [.cells [.con tI, .con tI, .con f6, .con eI, .con m5, .con eW, .con eI], .cells [.con tI, .con tI, .con f6, .con eI, .con m5, .con eW, .con eI], .cells [.omp 3], .mapc tI .bool, .cells [.con f6], .cells [.fn 147 []], .cells [.con eI], .cells [.fn 148 [(2, 0)]], .cells [.con eI], .cells [.fn 148 [(2, 0)]], .cells [.con m5], .cells [.fn 149 [(2, 0)]]]⟩, exits := [(.ret, ⟨19, [.con m5, .fn 215 [(11, 0), (10, 0)], .any, .any, .var tI, .any, .any, .con tI], [.cells [.con tI, .con tI, .con f6, .con eI, .con m5, .con eW, .con eI], .cells [.con tI, .con tI, .con f6, .con eI, .con m5, .con eW, .con eI], .cells [.omp 3], .mapc tI .bool, .cells [.con f6], .cells [.fn 147 []], .cells [.con eI], .cells [.fn 148 [(2, 0)]], .cells [.con eI], .cells [.fn 148 [(2, 0)]], .cells [.con m5], .cells [.fn 149 [(2, 0)]]]⟩, [tI]), (.exit 0, ⟨19, .con m5 :: .fn 215 [(11, 0), (10, 0)] :: aN 5 [.con tI], [.cells [.con tI, .con tI, .con f6, .con eI, .con m5, .con eW, .con eI], .cells [.con tI, .con tI, .con f6, .con eI, .con m5, .con eW, .con eI], .cells [.omp 3], .mapc tI .bool, .cells [.con f6], .cells [.fn 147 []], .cells [.con eI], .cells [.fn 148 [(2, 0)]], .cells [.con eI], .cells [.fn 148 [(2, 0)]], .cells [.con m5], .cells [.fn 149 [(2, 0)]]]⟩, [])] }
def atH (ρ : Type) : acC ρ := ⟨[17, 35, 1, 2, 1, 2], 257, 0, aGj, fun (p : Val (.pair m5 (.pair tI (.pair tI (.pair tI (.pair f6 (.pair eI (.pair m5 (.pair eW (.pair eI (.pair tI (.pair tI (.pair f6 (.pair eI (.pair m5 (.pair eW (.pair eI (.pair abq (.pair f6 (.pair eI (.pair eI m5))))))))))))))))))))) (v : Val tI) kn kx => adM p.1 p.2.1 p.2.2.2.2.2.2.2.2.2.2.2.2.2.2.2.2.1 p.2.2.2.2.2.2.2.2.2.2.2.2.2.2.2.2.2.2.2.2 v (fun u0 => kn u0) (kx 0) (kx 1)⟩
def aGi : ace := { pin := 14, cs := [m5, tI, tI, tI, f6, eI, m5, eW, eI, tI, tI, f6, eI, m5, eW, eI, abq, f6, eI, eI, m5, m5], vs := [tI], head := ⟨19, .con m5 :: .fn 215 [(13, 0), (12, 0)] :: aN 5 [.con tI, .var tI], [.cells [.con tI, .con tI, .con f6, .con eI, .con m5, .con eW, .con eI], .cells [.con tI, .con tI, .con f6, .con eI, .con m5, .con eW, .con eI], .cells [.omp 3], .mapc tI .bool, .cells [.con f6], .cells [.fn 147 []], .cells [.con eI], .cells [.fn 148 [(2, 0)]], .cells [.con eI], .cells [.fn 148 [(2, 0)]], .cells [.con m5], .cells [.fn 149 [(2, 0)]], .cells [.con m5], .cells [.fn 149 [(2, 0)]]]⟩, exits := [(.ret, ⟨19, [.con m5, .fn 215 [(13, 0), (12, 0)], .any, .any, .var tI, .any, .any, .con tI], [.cells [.con tI, .con tI, .con f6, .con eI, .con m5, .con eW, .con eI], .cells [.con tI, .con tI, .con f6, .con eI, .con m5, .con eW, .con eI], .cells [.omp 3], .mapc tI .bool, .cells [.con f6], .cells [.fn 147 []], .cells [.con eI], .cells [.fn 148 [(2, 0)]], .cells [.con eI], .cells [.fn 148 [(2, 0)]], .cells [.con m5], .cells [.fn 149 [(2, 0)]], .cells [.con m5], .cells [.fn 149 [(2, 0)]]]⟩, [tI]), (.exit 0, ⟨19, .con m5 :: .fn 215 [(13, 0), (12, 0)] :: aN 5 [.con tI], [.cells [.con tI, .con tI, .con f6, .con eI, .con m5, .con eW, .con eI], .cells [.con tI, .con tI, .con f6, .con eI, .con m5, .con eW, .con eI], .cells [.omp 3], .mapc tI .bool, .cells [.con f6], .cells [.fn 147 []], .cells [.con eI], .cells [.fn 148 [(2, 0)]], .cells [.con eI], .cells [.fn 148 [(2, 0)]], .cells [.con m5], .cells [.fn 149 [(2, 0)]], .cells [.con m5], .cells [.fn 149 [(2, 0)]]]⟩, [])] }
def atG (ρ : Type) : acC ρ := ⟨[17, 43, 1, 2, 1, 2], 257, 0, aGi, fun (p : Val (.pair m5 (.pair tI (.pair tI (.pair tI (.pair f6 (.pair eI (.pair m5 (.pair eW (.pair eI (.pair tI (.pair tI (.pair f6 (.pair eI (.pair m5 (.pair eW (.pair eI (.pair abq (.pair f6 (.pair eI (.pair eI (.pair m5 m5)))))))))))))))))))))) (v : Val tI) kn kx => ada p.1 p.2.1 p.2.2.2.2.2.2.2.2.2.2.2.2.2.2.2.2.1 p.2.2.2.2.2.2.2.2.2.2.2.2.2.2.2.2.2.2.2.2.2 v (fun u0 => kn u0) (kx 0) (kx 1)⟩
def aL0 : List (Nat × acu) := [(210, afi), (213, aga), (216, afF)]
def axA (ρ : Type) : List (acC ρ) := [atQ ρ, atM ρ, atL ρ, atN ρ, atO ρ, atK ρ, atJ ρ, atI ρ, atH ρ, atG ρ]
def aeU (ρ : Type) : Env ρ := acy aL0 (axA ρ)
def aEE : acu := ⟨[ab7, afg], [.bool, tI], fun (x : Val (.pair ab7 afg)) => aqr x.1 x.2⟩
def aGE : List (Nat × acu) := [(33, amN), (38, adW), (39, aqV), (77, aNE)]
def ara (ρ : Type) : List (acC ρ) := []
def axG (ρ : Type) : Env ρ := acy aGE (ara ρ)
def aAa : acu := ⟨[acf, tI, tI], [abt], fun (x : Val abW) => apN x.1 x.2.1 x.2.2⟩
def aO1 : ace := { pin := 0, cs := [tI, tI, tI, tI, wi], vs := [tI, l5], head := ⟨45, .any :: .con tI :: .con tI :: .box 0 0 :: .any :: .any :: .any :: .own 1 :: aN 7 [.con tI, .var tI], [.cells [.con tI, .con wi], .rowv tI]⟩, exits := [(.exit 0, ⟨45, .any :: .con tI :: .con tI :: .box 0 0 :: .any :: .any :: .any :: .own 1 :: aN 7 [.con tI], [.cells [.con tI, .con wi], .rowv tI]⟩, [l5])] }
def aEV (ρ : Type) : acC ρ := ⟨[], 156, 0, aO1, fun (p : Val (.pair tI (.pair tI abG))) (v : Val abz) kn kx => aqg p.2.2.1 v.1 v.2 (fun u0 u1 => kn (u0, u1)) (kx 0)⟩
def aOZ : ace := { pin := 4, cs := [l5, tI, abt, tI, wi], vs := [tI, l5], head := ⟨53, .con l5 :: .box 1 0 :: .any :: .any :: .own 4 :: aN 7 [.con tI, .var tI], [.rowc l5, .cells [.con tI, .con wi], .dead, .dead, .rowv tI]⟩, exits := [(.exit 0, ⟨53, .con l5 :: .box 1 0 :: .any :: .any :: .own 4 :: aN 7 [.con tI], [.rowc l5, .cells [.con tI, .con wi], .dead, .dead, .rowv tI]⟩, [l5])] }
def aET (ρ : Type) : acC ρ := ⟨[12, 8], 217, 0, aOZ, fun (p : Val (.pair l5 (.pair tI (.pair abt acf)))) (v : Val abz) kn kx => aGN p.2.1 v.1 v.2 (fun u0 u1 => kn (u0, u1)) (kx 0)⟩
def aOY : ace := { pin := 4, cs := [l5, wi, tI, abt, tI, wi], vs := [tI, l5], head := ⟨53, .con l5 :: .any :: .any :: .any :: .own 4 :: aN 16 [.con wi, .con tI, .var tI], [.rowc l5, .cells [.con tI, .con wi], .dead, .dead, .rowv tI]⟩, exits := [(.exit 2, ⟨53, .con l5 :: .any :: .any :: .any :: .own 4 :: aN 16 [.con wi, .con tI], [.rowc l5, .cells [.con tI, .con wi], .dead, .dead, .rowv tI]⟩, [l5])] }
def aES (ρ : Type) : acC ρ := ⟨[12, 8], 217, 2, aOY, fun (p : Val (.pair l5 (.pair wi (.pair tI (.pair abt acf))))) (v : Val abz) kn kx => auk p.1 p.2.1 p.2.2.1 v.1 v.2 (fun u0 u1 => kn (u0, u1)) (kx 0)⟩
def aO0 : ace := { pin := 0, cs := [tI, tI, wi], vs := [tI, abt], head := ⟨45, aN 9 (.own 0 :: .fn 217 [(1, 0)] :: aN 18 [.con tI, .var tI]), [.rowv l5, .cells [.con tI, .con wi]]⟩, exits := [(.exit 2, ⟨45, aN 9 (.own 0 :: .fn 217 [(1, 0)] :: aN 18 [.con tI]), [.rowv l5, .cells [.con tI, .con wi]]⟩, [abt])] }
def aEU (ρ : Type) : acC ρ := ⟨[], 156, 2, aO0, fun (p : Val abG) (v : Val (.pair tI abt)) kn kx => azn p.1 p.2.1 p.2.2 v.1 v.2 (fun u0 u1 => kn (u0, u1)) (kx 0)⟩
def aS0 : List (Nat × acu) := []
def aJK (ρ : Type) : List (acC ρ) := [aEV ρ, aET ρ, aES ρ, aEU ρ]
def awo (ρ : Type) : Env ρ := acy aS0 (aJK ρ)
def aI4 : acu := ⟨[acf], [l5, tI], fun (x : Val acf) => apP x⟩
def aDF : ace := { pin := 0, cs := [tI, tI, wi], vs := [tI, abP], head := ⟨93, .any :: .box 0 0 :: aN 6 (.own 1 :: aN 24 [.con tI, .var tI]), [.cells [.con tI, .con wi], .rowv abt]⟩, exits := [(.exit 0, ⟨93, .any :: .box 0 0 :: aN 6 (.own 1 :: aN 24 [.con tI]), [.cells [.con tI, .con wi], .rowv abt]⟩, [abP])] }
def arm (ρ : Type) : acC ρ := ⟨[], 78, 0, aDF, fun (p : Val abG) (v : Val (.pair tI abP)) kn kx => axP p.1 p.2.1 p.2.2 v.1 v.2 (fun u0 u1 => kn (u0, u1)) (kx 0)⟩
def aDB : ace := { pin := 3, cs := [tI, abt, wi, tI, tI, wi, abP, tI, tI, tI, tI, wi], vs := [tI, tI, tI, l5], head := ⟨73, .any :: .var tI :: .con tI :: .con abt :: .fn 157 [] :: .box 3 0 :: aN 5 (.own 4 :: .var tI :: aN 7 [.con wi, .con tI, .var tI]), [.cells [.con tI, .con wi], .rowc abt, .cells [.con tI, .con tI, .con tI], .cells [.con tI, .con wi], .rowv tI]⟩, exits := [(.exit 2, ⟨73, .any :: .var tI :: .con tI :: .con abt :: .fn 157 [] :: .box 3 0 :: aN 5 (.own 4 :: .var tI :: aN 7 [.con wi, .con tI]), [.cells [.con tI, .con wi], .rowc abt, .cells [.con tI, .con tI, .con tI], .cells [.con tI, .con wi], .rowv tI]⟩, [tI, tI, l5])] }
def ari (ρ : Type) : acC ρ := ⟨[22, 10], 158, 2, aDB, fun (p : Val (.pair tI (.pair abt (.pair wi (.pair tI (.pair tI (.pair wi (.pair abP (.pair tI (.pair tI abG)))))))))) (v : Val abH) kn kx => axL p.1 p.2.1 p.2.2.1 p.2.2.2.1 v.1 v.2.1 v.2.2.1 v.2.2.2 (fun u0 u1 u2 u3 => kn (u0, u1, u2, u3)) (kx 0)⟩
def aDC : ace := { pin := 3, cs := [abt, tI, wi, abP, tI, tI, tI, tI, wi], vs := [tI, tI, tI, l5], head := ⟨73, .any :: .var tI :: .var tI :: .con abt :: .fn 157 [] :: .box 3 0 :: aN 5 [.own 4, .var tI], [.cells [.con tI, .con wi], .rowc abt, .cells [.con tI, .con tI, .con tI], .cells [.con tI, .con wi], .rowv tI]⟩, exits := [(.exit 0, ⟨73, .any :: .any :: .any :: .con abt :: .fn 157 [] :: .box 3 0 :: aN 5 [.own 4], [.cells [.con tI, .con wi], .rowc abt, .cells [.con tI, .con tI, .con tI], .cells [.con tI, .con wi], .rowv tI]⟩, [l5])] }
def arj (ρ : Type) : acC ρ := ⟨[22, 10], 158, 0, aDC, fun (p : Val (.pair abt (.pair tI (.pair wi (.pair abP (.pair tI (.pair tI abG))))))) (v : Val abH) kn kx => axM p.1 p.2.2.2.2.2.2.2.2 v.1 v.2.1 v.2.2.1 v.2.2.2 (fun u0 u1 u2 u3 => kn (u0, u1, u2, u3)) (kx 0)⟩
def aDD : ace := { pin := 0, cs := [tI, wi, tI, tI, wi, abP], vs := [tI], head := ⟨93, .any :: .box 0 0 :: aN 6 (.own 1 :: .any :: .fn 157 [] :: .con tI :: aN 37 [.con wi, .con tI, .var tI]), [.cells [.con tI, .con wi], .rowc abt]⟩, exits := [(.exit 2, ⟨93, .any :: .box 0 0 :: aN 6 (.own 1 :: .any :: .fn 157 [] :: .con tI :: aN 37 [.con wi, .con tI]), [.cells [.con tI, .con wi], .rowc abt]⟩, []), (.ret, ⟨93, .any :: .box 0 0 :: .own 2 :: .var tI :: aN 4 (.own 1 :: .any :: .fn 157 [] :: .con tI :: aN 37 [.con wi, .con tI]), [.cells [.con tI, .con wi], .rowc abt, .rowv tI]⟩, [tI, l5]), (.exit 4, ⟨93, .any :: .box 0 0 :: aN 6 (.own 1 :: .any :: .fn 157 [] :: .con tI :: aN 37 [.con wi, .con tI]), [.cells [.con tI, .con wi], .rowc abt]⟩, [])] }
def ark (ρ : Type) : acC ρ := ⟨[], 78, 4, aDD, fun (p : Val (.pair tI (.pair wi (.pair tI (.pair tI (.pair wi abP)))))) (v : Val tI) kn kx => axN p.1 p.2.1 p.2.2.1 p.2.2.2.1 p.2.2.2.2.1 p.2.2.2.2.2 v (fun u0 => kn u0) (kx 0) (kx 1) (kx 2)⟩
def aDE : ace := { pin := 0, cs := [tI, wi, abP], vs := [tI], head := ⟨93, .any :: .box 0 0 :: aN 6 [.own 1, .any, .fn 157 [], .var tI], [.cells [.con tI, .con wi], .rowc abt]⟩, exits := [(.exit 2, ⟨93, .any :: .box 0 0 :: aN 6 [.own 1, .any, .fn 157 []], [.cells [.con tI, .con wi], .rowc abt]⟩, []), (.ret, ⟨93, .any :: .box 0 0 :: .own 2 :: .var tI :: aN 4 [.own 1, .any, .fn 157 []], [.cells [.con tI, .con wi], .rowc abt, .rowv tI]⟩, [tI, l5])] }
def arl (ρ : Type) : acC ρ := ⟨[], 78, 2, aDE, fun (p : Val (.pair tI (.pair wi abP))) (v : Val tI) kn kx => axO p.1 p.2.1 p.2.2 v (fun u0 => kn u0) (kx 0) (kx 1)⟩
def aJN : List (Nat × acu) := [(133, aj1), (135, akF), (156, aAa)]
def auq (ρ : Type) : List (acC ρ) := [arm ρ, ari ρ, arj ρ, ark ρ, arl ρ]
def ag3 (ρ : Type) : Env ρ := acy aJN (auq ρ)
def arV : acu := ⟨[ab7, l5], [eI], fun (x : Val (.pair ab7 l5)) => akn x.1 x.2⟩
def ayz : ace := { pin := 0, cs := [eI, l5, tI], vs := [tI, eI], head := ⟨32, aN 6 (.con eI :: .any :: .own 0 :: aN 8 [.con l5, .con tI, .var tI]), [.rowv ab5]⟩, exits := [(.exit 0, ⟨32, aN 6 (.con eI :: .any :: .own 0 :: aN 8 [.con l5, .con tI]), [.rowv ab5]⟩, [eI])] }
def an2 (ρ : Type) : acC ρ := ⟨[], 80, 0, ayz, fun (p : Val (.pair eI abC)) (v : Val abU) kn kx => aix p.1 p.2.1 p.2.2 v.1 v.2 (fun u0 u1 => kn (u0, u1)) (kx 0)⟩
def aC5 : List (Nat × acu) := [(20, aef)]
def aoV (ρ : Type) : List (acC ρ) := [an2 ρ]
def amX (ρ : Type) : Env ρ := acy aC5 (aoV ρ)
def aI3 : acu := ⟨[ab7], [afg, tI], fun (x : Val ab7) => avi x⟩
def aJH : List (Nat × acu) := [(20, aef), (78, aI4), (79, aj0), (80, arV)]
def auc (ρ : Type) : List (acC ρ) := []
def aAL (ρ : Type) : Env ρ := acy aJH (auc ρ)
def ata : acu := ⟨[tI], [tI], fun (x : Val tI) => ahO x⟩
def ayG : List (Nat × acu) := []
def amc (ρ : Type) : List (acC ρ) := []
def ao6 (ρ : Type) : Env ρ := acy ayG (amc ρ)
def as9 : acu := ⟨[acT, tI], [l5], fun (x : Val (.pair acT tI)) => afU x.1 x.2⟩
def ayE : List (Nat × acu) := []
def al5 (ρ : Type) : List (acC ρ) := []
def ao3 (ρ : Type) : Env ρ := acy ayE (al5 ρ)
def az6 : acu := ⟨[ab7, ab5, ab5, acg], [.bool, tI], fun (x : Val (.pair ab7 (.pair ab5 abV))) => akp x.1 x.2.1 x.2.2.1 x.2.2.2⟩
def aeW : ace := { pin := 5, cs := [tI, tI, tI, f6, eI, m5, eW, eI, tI, tI, tI, tI, tI, tI, l5, l5, tI, tI, tI, tI, eI], vs := [tI, tI, tI, f6, eI, m5, eW, eI], head := ⟨68, .any :: .any :: .box 5 0 :: aN 20 [.own 4, .con tI, .var tI], [.cells [.con tI, .con tI, .con f6, .con eI, .con m5, .con eW, .con eI], .cells [.con tI, .con tI], .cells [.con tI, .con tI], .cells [.con tI, .con tI, .con l5, .con l5, .con tI, .con tI, .con tI, .con tI], .rowc ab5, .cells [.var tI, .var tI, .var f6, .var eI, .var m5, .var eW, .var eI]]⟩, exits := [(.ret, ⟨68, .any :: .any :: .box 5 0 :: .any :: .nilp :: .var tI :: aN 17 [.own 4, .con tI], [.cells [.con tI, .con tI, .con f6, .con eI, .con m5, .con eW, .con eI], .cells [.con tI, .con tI], .cells [.con tI, .con tI], .cells [.con tI, .con tI, .con l5, .con l5, .con tI, .con tI, .con tI, .con tI], .rowc ab5, .cells [.var tI, .var tI, .var f6, .var eI, .var m5, .var eW, .var eI]]⟩, [tI, tI, tI, f6, eI, m5, eW, eI]), (.exit 0, ⟨68, .any :: .any :: .box 5 0 :: aN 20 [.own 4, .con tI], [.cells [.con tI, .con tI, .con f6, .con eI, .con m5, .con eW, .con eI], .cells [.con tI, .con tI], .cells [.con tI, .con tI], .cells [.con tI, .con tI, .con l5, .con l5, .con tI, .con tI, .con tI, .con tI], .rowc ab5, .cells [.var tI, .var tI, .var f6, .var eI, .var m5, .var eW, .var eI]]⟩, [tI, tI, f6, eI, m5, eW, eI])] }
def ajb (ρ : Type) : acC ρ := ⟨[1, 3], 50, 0, aeW, fun (p : Val abv) (v : Val abB) kn kx => alv p.1 p.2.2.2.2.2.2.2.2.2.2.2.2.2.2.2.2.2.2.2.2 v.1 v.2.1 v.2.2.1 v.2.2.2.1 v.2.2.2.2.1 v.2.2.2.2.2.1 v.2.2.2.2.2.2.1 v.2.2.2.2.2.2.2 (fun u0 u1 u2 u3 u4 u5 u6 u7 => kn (u0, u1, u2, u3, u4, u5, u6, u7)) (kx 0) (kx 1)⟩
def aeV : ace := { pin := 12, cs := [l5, tI, tI, tI, f6, eI, m5, eW, eI, tI, tI, tI, tI, tI, tI, l5, l5, tI, tI, tI, tI, eI, tI, tI, f6, eI, m5, eW, eI, tI, wi, tI, tI, tI, tI, tI, tI, tI, tI, abt, abt, abt], vs := [tI], head := ⟨19, .con l5 :: .fn 98 [(8, 0), (2, 0)] :: aN 5 [.con tI, .var tI], [.cells [.con tI, .con tI, .con f6, .con eI, .con m5, .con eW, .con eI], .cells [.con tI, .con tI], .cells [.con tI, .con tI], .cells [.con tI, .con tI, .con l5, .con l5, .con tI, .con tI, .con tI, .con tI], .rowc ab5, .cells [.con tI, .con tI, .con f6, .con eI, .con m5, .con eW, .con eI], .cells [.con tI, .con wi], .dead, .cells [.con tI, .con tI, .con tI, .con tI, .con tI, .con tI, .con tI, .con tI], .rowf l5 0, .rowf l5 0, .rowf l5 0]⟩, exits := [(.ret, ⟨19, [.con l5, .fn 98 [(8, 0), (2, 0)], .any, .any, .var tI, .any, .any, .con tI], [.cells [.con tI, .con tI, .con f6, .con eI, .con m5, .con eW, .con eI], .cells [.con tI, .con tI], .cells [.con tI, .con tI], .cells [.con tI, .con tI, .con l5, .con l5, .con tI, .con tI, .con tI, .con tI], .rowc ab5, .cells [.con tI, .con tI, .con f6, .con eI, .con m5, .con eW, .con eI], .cells [.con tI, .con wi], .dead, .cells [.con tI, .con tI, .con tI, .con tI, .con tI, .con tI, .con tI, .con tI], .rowf l5 0, .rowf l5 0, .rowf l5 0]⟩, [tI]), (.exit 0, ⟨19, .con l5 :: .fn 98 [(8, 0), (2, 0)] :: aN 5 [.con tI], [.cells [.con tI, .con tI, .con f6, .con eI, .con m5, .con eW, .con eI], .cells [.con tI, .con tI], .cells [.con tI, .con tI], .cells [.con tI, .con tI, .con l5, .con l5, .con tI, .con tI, .con tI, .con tI], .rowc ab5, .cells [.con tI, .con tI, .con f6, .con eI, .con m5, .con eW, .con eI], .cells [.con tI, .con wi], .dead, .cells [.con tI, .con tI, .con tI, .con tI, .con tI, .con tI, .con tI, .con tI], .rowf l5 0, .rowf l5 0, .rowf l5 0]⟩, [])] }
def aja (ρ : Type) : acC ρ := ⟨[18, 4, 1, 2], 178, 0, aeV, fun (p : Val abr) (v : Val tI) kn kx => aiy p.1 p.2.1 p.2.2.2.2.2.2.2.2.2.2.2.1 p.2.2.2.2.2.2.2.2.2.2.2.2.1 p.2.2.2.2.2.2.2.2.2.2.2.2.2.2.2.2.2.2.2.2.2.2.2.2.2.2.2.2.2.2.2.1 p.2.2.2.2.2.2.2.2.2.2.2.2.2.2.2.2.2.2.2.2.2.2.2.2.2.2.2.2.2.2.2.2.1 p.2.2.2.2.2.2.2.2.2.2.2.2.2.2.2.2.2.2.2.2.2.2.2.2.2.2.2.2.2.2.2.2.2.1 p.2.2.2.2.2.2.2.2.2.2.2.2.2.2.2.2.2.2.2.2.2.2.2.2.2.2.2.2.2.2.2.2.2.2.1 p.2.2.2.2.2.2.2.2.2.2.2.2.2.2.2.2.2.2.2.2.2.2.2.2.2.2.2.2.2.2.2.2.2.2.2.1 p.2.2.2.2.2.2.2.2.2.2.2.2.2.2.2.2.2.2.2.2.2.2.2.2.2.2.2.2.2.2.2.2.2.2.2.2.1 p.2.2.2.2.2.2.2.2.2.2.2.2.2.2.2.2.2.2.2.2.2.2.2.2.2.2.2.2.2.2.2.2.2.2.2.2.2.1 p.2.2.2.2.2.2.2.2.2.2.2.2.2.2.2.2.2.2.2.2.2.2.2.2.2.2.2.2.2.2.2.2.2.2.2.2.2.2.1 v (fun u0 => kn u0) (kx 0) (kx 1)⟩
def arb : List (Nat × acu) := [(20, aef), (38, adW), (60, afv), (61, aiv), (69, arU), (71, avK), (94, aee), (95, amM), (96, ata), (97, as9), (99, alk), (101, alm), (123, ad5)]
def ake (ρ : Type) : List (acC ρ) := [ajb ρ, aja ρ]
def alu : List aSm := [⟨[], 42, 0, 4⟩]
def ac5 (ρ : Type) : Env ρ := { acy arb (ake ρ) with hint := awS [(51, 96), (55, 96)] }
def am4 (ρ : Type) : Env ρ := { { aT3 arb (ake ρ) alu with loops := aKk (ac5 ρ) alu } with hint := awS [(51, 96), (55, 96)] }
def axr : acu := ⟨[], [ab7], fun (_ : Unit) => apK⟩
def aAr : List (Nat × acu) := []
def an0 (ρ : Type) : List (acC ρ) := []
def aq2 (ρ : Type) : Env ρ := acy aAr (an0 ρ)
def aI5 : acu := ⟨[acf, tI, tI], [l5, tI], fun (x : Val abW) => apQ x.1 x.2.1 x.2.2⟩
def aDJ : ace := { pin := 3, cs := [abt, tI, tI, wi, tI, tI], vs := [tI], head := ⟨19, .con abt :: .fn 194 [(1, 0), (2, 0)] :: aN 5 [.con tI, .var tI], [.cells [.con tI, .con wi], .cells [.con tI], .cells [.con tI]]⟩, exits := [(.ret, ⟨19, [.con abt, .fn 194 [(1, 0), (2, 0)], .any, .any, .var tI, .any, .any, .con tI], [.cells [.con tI, .con wi], .cells [.con tI], .cells [.con tI]]⟩, [tI]), (.exit 0, ⟨19, .con abt :: .fn 194 [(1, 0), (2, 0)] :: aN 5 [.con tI], [.cells [.con tI, .con wi], .cells [.con tI], .cells [.con tI]]⟩, [])] }
def arq (ρ : Type) : acC ρ := ⟨[5, 2], 193, 0, aDJ, fun (p : Val (.pair abt (.pair tI (.pair tI (.pair wi ab5))))) (v : Val tI) kn kx => ak4 p.1 p.2.1 p.2.2.2.2.1 p.2.2.2.2.2 v (fun u0 => kn u0) (kx 0) (kx 1)⟩
def aDH : ace := { pin := 3, cs := [tI, abt, wi, tI, tI, wi, tI, tI, tI, wi], vs := [tI, tI, tI, l5], head := ⟨73, .any :: .var tI :: .con tI :: .con abt :: .fn 195 [(2, 0)] :: .box 3 0 :: aN 5 (.own 4 :: .var tI :: aN 7 [.con wi, .con tI, .var tI]), [.cells [.con tI, .con wi], .cells [.con tI], .cells [.con tI], .cells [.con tI, .con wi], .rowv tI]⟩, exits := [(.exit 2, ⟨73, .any :: .var tI :: .con tI :: .con abt :: .fn 195 [(2, 0)] :: .box 3 0 :: aN 5 (.own 4 :: .var tI :: aN 7 [.con wi, .con tI]), [.cells [.con tI, .con wi], .cells [.con tI], .cells [.con tI], .cells [.con tI, .con wi], .rowv tI]⟩, [tI, tI, l5])] }
def aro (ρ : Type) : acC ρ := ⟨[6, 5], 158, 2, aDH, fun (p : Val (.pair tI (.pair abt (.pair wi (.pair tI (.pair tI (.pair wi (.pair tI abG)))))))) (v : Val abH) kn kx => axQ p.1 p.2.1 p.2.2.1 p.2.2.2.1 p.2.2.2.2.2.2.2.1 v.1 v.2.1 v.2.2.1 v.2.2.2 (fun u0 u1 u2 u3 => kn (u0, u1, u2, u3)) (kx 0)⟩
def aDI : ace := { pin := 3, cs := [abt, tI, wi, tI, tI, tI, wi], vs := [tI, tI, tI, l5], head := ⟨73, .any :: .var tI :: .var tI :: .con abt :: .fn 195 [(2, 0)] :: .box 3 0 :: aN 5 [.own 4, .var tI], [.cells [.con tI, .con wi], .cells [.con tI], .cells [.con tI], .cells [.con tI, .con wi], .rowv tI]⟩, exits := [(.exit 0, ⟨73, .any :: .any :: .any :: .con abt :: .fn 195 [(2, 0)] :: .box 3 0 :: aN 5 [.own 4], [.cells [.con tI, .con wi], .cells [.con tI], .cells [.con tI], .cells [.con tI, .con wi], .rowv tI]⟩, [l5])] }
def arp (ρ : Type) : acC ρ := ⟨[6, 5], 158, 0, aDI, fun (p : Val (.pair abt (.pair tI (.pair wi (.pair tI abG))))) (v : Val abH) kn kx => ak3 p.1 p.2.2.2.2.1 p.2.2.2.2.2.2 v.1 v.2.1 v.2.2.1 v.2.2.2 (fun u0 u1 u2 u3 => kn (u0, u1, u2, u3)) (kx 0)⟩
def aJP : List (Nat × acu) := [(89, atc), (156, aAa)]
def auu (ρ : Type) : List (acC ρ) := [arq ρ, aro ρ, arp ρ]
def akf (ρ : Type) : Env ρ := acy aJP (auu ρ)
def atb : acu := ⟨[abx, abS, (.ptr .bool)], [l5], fun (x : Val (.pair abx (.pair abS (.ptr .bool)))) => ahQ x.1 x.2.1 x.2.2⟩
def ayL : List (Nat × acu) := [(55, agh), (120, aI5)]
def amf (ρ : Type) : List (acC ρ) := []
def apb (ρ : Type) : Env ρ := acy ayL (amf ρ)
def az8 : acu := ⟨[ab7, ab5, .bool], [afg, tI], fun (x : Val (.pair ab7 (.pair ab5 .bool))) => anI x.1 x.2.1 x.2.2⟩
def ayK : ace := { pin := 5, cs := [tI, tI, tI, f6, eI, m5, eW, eI, tI, tI, tI, tI, .bool, tI, eI], vs := [tI, tI, tI, f6, eI, m5, eW, eI], head := ⟨68, .any :: .any :: .box 5 0 :: aN 20 [.own 4, .con tI, .var tI], [.cells [.con tI, .con tI, .con f6, .con eI, .con m5, .con eW, .con eI], .dead, .dead, .cells [.con tI, .con tI, .nils, .nils, .nils, .nils, .nils, .con tI, .con tI, .con .bool, .con tI, .nils], .rowc ab5, .cells [.var tI, .var tI, .var f6, .var eI, .var m5, .var eW, .var eI]]⟩, exits := [(.ret, ⟨68, .any :: .any :: .box 5 0 :: .any :: .nilp :: .var tI :: aN 17 [.own 4, .con tI], [.cells [.con tI, .con tI, .con f6, .con eI, .con m5, .con eW, .con eI], .dead, .dead, .cells [.con tI, .con tI, .nils, .nils, .nils, .nils, .nils, .con tI, .con tI, .con .bool, .con tI, .nils], .rowc ab5, .cells [.var tI, .var tI, .var f6, .var eI, .var m5, .var eW, .var eI]]⟩, [tI, tI, tI, f6, eI, m5, eW, eI]), (.exit 0, ⟨68, .any :: .any :: .box 5 0 :: aN 20 [.own 4, .con tI], [.cells [.con tI, .con tI, .con f6, .con eI, .con m5, .con eW, .con eI], .dead, .dead, .cells [.con tI, .con tI, .nils, .nils, .nils, .nils, .nils, .con tI, .con tI, .con .bool, .con tI, .nils], .rowc ab5, .cells [.var tI, .var tI, .var f6, .var eI, .var m5, .var eW, .var eI]]⟩, [tI, tI, f6, eI, m5, eW, eI])] }
def aob (ρ : Type) : acC ρ := ⟨[1, 3], 50, 0, ayK, fun (p : Val (.pair tI (.pair tI (.pair tI (.pair f6 (.pair eI (.pair m5 (.pair eW (.pair eI (.pair tI (.pair tI (.pair tI (.pair tI (.pair .bool abU)))))))))))))) (v : Val abB) kn kx => alz p.1 p.2.2.2.2.2.2.2.2.2.2.2.2.2.2 v.1 v.2.1 v.2.2.1 v.2.2.2.1 v.2.2.2.2.1 v.2.2.2.2.2.1 v.2.2.2.2.2.2.1 v.2.2.2.2.2.2.2 (fun u0 u1 u2 u3 u4 u5 u6 u7 => kn (u0, u1, u2, u3, u4, u5, u6, u7)) (kx 0) (kx 1)⟩
def ayJ : ace := { pin := 10, cs := [tI, tI, tI, f6, eI, m5, eW, eI, tI, tI, tI, tI, .bool, tI, eI, tI, tI, f6, eI, m5, eW, eI, tI, wi, eI, tI, tI, f6, eI, m5, eW, eI, tI, tI, f6, eI, m5, eW, eI], vs := [tI], head := ⟨68, .any :: .any :: .box 10 0 :: aN 20 [.nils, .con tI, .var tI], [.cells [.con tI, .con tI, .con f6, .con eI, .con m5, .con eW, .con eI], .dead, .dead, .cells [.con tI, .con tI, .nils, .nils, .nils, .nils, .nils, .con tI, .con tI, .con .bool, .con tI, .nils], .rowc ab5, .cells [.con tI, .con tI, .con f6, .con eI, .con m5, .con eW, .con eI], .cells [.con tI, .con wi], .dead, .rowf ab5 0, .cells [.con tI, .con tI, .con f6, .con eI, .con m5, .con eW, .con eI], .cells [.con tI, .con tI, .con f6, .con eI, .con m5, .con eW, .con eI]]⟩, exits := [(.exit 0, ⟨68, .any :: .any :: .box 10 0 :: aN 20 [.nils, .con tI], [.cells [.con tI, .con tI, .con f6, .con eI, .con m5, .con eW, .con eI], .dead, .dead, .cells [.con tI, .con tI, .nils, .nils, .nils, .nils, .nils, .con tI, .con tI, .con .bool, .con tI, .nils], .rowc ab5, .cells [.con tI, .con tI, .con f6, .con eI, .con m5, .con eW, .con eI], .cells [.con tI, .con wi], .dead, .rowf ab5 0, .cells [.con tI, .con tI, .con f6, .con eI, .con m5, .con eW, .con eI], .cells [.con tI, .con tI, .con f6, .con eI, .con m5, .con eW, .con eI]]⟩, [])] }
def aoa (ρ : Type) : acC ρ := ⟨[6, 1], 50, 0, ayJ, fun (p : Val (.pair tI (.pair tI (.pair tI (.pair f6 (.pair eI (.pair m5 (.pair eW (.pair eI (.pair tI (.pair tI (.pair tI (.pair tI (.pair .bool (.pair tI (.pair eI (.pair tI (.pair tI (.pair f6 (.pair eI (.pair m5 (.pair eW (.pair eI (.pair tI (.pair wi (.pair eI abA)))))))))))))))))))))))))) (v : Val tI) kn kx => aly p.1 v (fun u0 => kn u0) (kx 0)⟩
def aDt : List (Nat × acu) := [(20, aef), (38, adW), (60, afv), (61, aiv), (79, aj0), (80, arV), (119, atb), (121, aln), (122, ah7), (123, ad5)]
def apa (ρ : Type) : List (acC ρ) := [aob ρ, aoa ρ]
def ahH (ρ : Type) : Env ρ := { acy aDt (apa ρ) with hint := awS [(34, 119), (56, 119)] }
def az3 : acu := ⟨[], [.bool], fun (_ : Unit) => acV⟩
def aCZ : List (Nat × acu) := [(15, axu), (17, az9), (18, aNF), (25, az7), (31, aI2), (33, amN), (35, aEE), (36, aI3), (42, az6), (48, axr), (49, az8)]
def aoO (ρ : Type) : List (acC ρ) := []
def ats (ρ : Type) : Env ρ := acy aCZ (aoO ρ)
def aIZ : acu := ⟨[ab7, eI], [ab7, .bool], fun (x : Val (.pair ab7 eI)) => agM x.1 x.2⟩
def aCY : ace := { pin := 0, cs := [eI], vs := [tI, tI, tI, f6, eI, m5, eW, eI, tI, tI, f6, eI, m5, eW, eI], head := ⟨42, [.any, .con eI, .box 0 0, .any, .box 1 0, .any, .var tI], [.cells [.var tI, .var tI, .var f6, .var eI, .var m5, .var eW, .var eI], .cells [.var tI, .var tI, .var f6, .var eI, .var m5, .var eW, .var eI]]⟩, exits := [(.ret, ⟨42, [.any, .con eI, .box 0 0, .any, .box 1 0, .var .bool], [.cells [.var tI, .var tI, .var f6, .var eI, .var m5, .var eW, .var eI], .cells [.var tI, .var tI, .var f6, .var eI, .var m5, .var eW, .var eI]]⟩, [.bool, tI, tI, f6, eI, m5, eW, eI, tI, tI, f6, eI, m5, eW, eI]), (.exit 0, ⟨42, [.any, .con eI, .box 0 0, .any, .box 1 0], [.cells [.var tI, .var tI, .var f6, .var eI, .var m5, .var eW, .var eI], .cells [.var tI, .var tI, .var f6, .var eI, .var m5, .var eW, .var eI]]⟩, [tI, tI, f6, eI, m5, eW, eI, tI, tI, f6, eI, m5, eW, eI])] }
def aq0 (ρ : Type) : acC ρ := ⟨[], 19, 0, aCY, fun (p : Val eI) (v : Val (.pair tI abA)) kn kx => aiJ p v.1 v.2.1 v.2.2.1 v.2.2.2.1 v.2.2.2.2.1 v.2.2.2.2.2.1 v.2.2.2.2.2.2.1 v.2.2.2.2.2.2.2.1 v.2.2.2.2.2.2.2.2.1 v.2.2.2.2.2.2.2.2.2.1 v.2.2.2.2.2.2.2.2.2.2.1 v.2.2.2.2.2.2.2.2.2.2.2.1 v.2.2.2.2.2.2.2.2.2.2.2.2.1 v.2.2.2.2.2.2.2.2.2.2.2.2.2.1 v.2.2.2.2.2.2.2.2.2.2.2.2.2.2 (fun u0 u1 u2 u3 u4 u5 u6 u7 u8 u9 u10 u11 u12 u13 u14 => kn (u0, u1, u2, u3, u4, u5, u6, u7, u8, u9, u10, u11, u12, u13, u14)) (kx 0) (kx 1)⟩
def aJr : List (Nat × acu) := [(60, afv), (61, aiv)]
def atq (ρ : Type) : List (acC ρ) := [aq0 ρ]
def ar4 (ρ : Type) : Env ρ := acy aJr (atq ρ)
def alV : acu := ⟨[abE, l5], [tI], fun (x : Val (.pair abE l5)) => agx x.1 x.2⟩
def aou : ace := { pin := 0, cs := [l5, tI], vs := [tI], head := ⟨19, .con l5 :: .fn 137 [] :: aN 5 [.con tI, .var tI], []⟩, exits := [(.ret, ⟨19, [.con l5, .fn 137 [], .any, .any, .var tI, .any, .any, .con tI], []⟩, [tI]), (.exit 0, ⟨19, .con l5 :: .fn 137 [] :: aN 5 [.con tI], []⟩, [])] }
def ah3 (ρ : Type) : acC ρ := ⟨[1, 10, 1, 2], 178, 0, aou, fun (p : Val abC) (v : Val tI) kn kx => afr p.1 p.2 v (fun u0 => kn u0) (kx 0) (kx 1)⟩
def aqM : List (Nat × acu) := [(126, agq)]
def aiS (ρ : Type) : List (acC ρ) := [ah3 ρ]
def ag4 (ρ : Type) : Env ρ := acy aqM (aiS ρ)
def aNG : acu := ⟨[acf, l5], [.bool, tI], fun (x : Val abT) => azy x.1 x.2⟩
def aGR : ace := { pin := 1, cs := [l5, tI, tI, wi], vs := [tI], head := ⟨19, .con l5 :: .fn 203 [] :: aN 5 [.con tI, .var tI], [.cells [.con tI, .con wi]]⟩, exits := [(.ret, ⟨19, [.con l5, .fn 203 [], .any, .any, .var tI, .any, .any, .con tI], [.cells [.con tI, .con wi]]⟩, [tI]), (.exit 0, ⟨19, .con l5 :: .fn 203 [] :: aN 5 [.con tI], [.cells [.con tI, .con wi]]⟩, [])] }
def auo (ρ : Type) : acC ρ := ⟨[4, 7, 1, 2], 178, 0, aGR, fun (p : Val (.pair l5 abG)) (v : Val tI) kn kx => anh p.1 p.2.1 v (fun u0 => kn u0) (kx 0) (kx 1)⟩
def aGQ : ace := { pin := 0, cs := [l5, wi, tI], vs := [tI], head := ⟨53, .any :: .con l5 :: aN 26 [.con wi, .con tI, .var tI], []⟩, exits := [(.ret, ⟨53, .any :: .con l5 :: .any :: .any :: .var .bool :: .var tI :: aN 22 [.con wi, .con tI], []⟩, [.bool, tI]), (.exit 0, ⟨53, .any :: .con l5 :: aN 26 [.con wi, .con tI], []⟩, [])] }
def aun (ρ : Type) : acC ρ := ⟨[], 138, 0, aGQ, fun (p : Val (.pair l5 (.pair wi tI))) (v : Val tI) kn kx => aik p.1 p.2.1 p.2.2 v (fun u0 => kn u0) (kx 0) (kx 1)⟩
def aMb : List (Nat × acu) := [(133, aj1)]
def axK (ρ : Type) : List (acC ρ) := [auo ρ, aun ρ]
def aqh (ρ : Type) : Env ρ := acy aMb (axK ρ)
def aqZ : acu := ⟨[abE, l5], [.bool], fun (x : Val (.pair abE l5)) => aiD x.1 x.2⟩
def awz : List (Nat × acu) := [(138, aNG)]
def alb (ρ : Type) : List (acC ρ) := []
def aom (ρ : Type) : Env ρ := acy awz (alb ρ)
def aNK : acu := ⟨[ab7, l5], [.bool, tI], fun (x : Val (.pair ab7 l5)) => ae3 x.1 x.2⟩
def aMv : List (Nat × acu) := [(38, adW), (62, azh), (67, alV), (68, aqZ)]
def ax9 (ρ : Type) : List (acC ρ) := []
def aE0 (ρ : Type) : Env ρ := acy aMv (ax9 ρ)
def axv : acu := ⟨[acf], [l5, tI], fun (x : Val acf) => aew x⟩
def aAZ : List (Nat × acu) := [(63, aAb), (64, avL), (65, afo)]
def aof (ρ : Type) : List (acC ρ) := []
def arh (ρ : Type) : Env ρ := acy aAZ (aof ρ)
def as8 : acu := ⟨[acf, tI], [wi], fun (x : Val (.pair acf tI)) => aes x.1 x.2⟩
def atB : ace := { pin := 3, cs := [tI, tI, wi, tI, wi], vs := [tI], head := ⟨19, .own 2 :: .fn 141 [(1, 0)] :: aN 5 [.con tI, .var tI], [.cells [.con tI, .con wi], .cells [.con tI], .rowc acT]⟩, exits := [(.ret, ⟨19, [.own 2, .fn 141 [(1, 0)], .any, .any, .var tI, .any, .any, .con tI], [.cells [.con tI, .con wi], .cells [.con tI], .rowc acT]⟩, [tI]), (.exit 0, ⟨19, .own 2 :: .fn 141 [(1, 0)] :: aN 5 [.con tI], [.cells [.con tI, .con wi], .cells [.con tI], .rowc acT]⟩, [])] }
def akN (ρ : Type) : acC ρ := ⟨[1, 4, 1, 2], 204, 0, atB, fun (p : Val ab2) (v : Val tI) kn kx => agS p.1 p.2.2.2.1 p.2.2.2.2 v (fun u0 => kn u0) (kx 0) (kx 1)⟩
def atA : ace := { pin := 3, cs := [tI, wi, tI], vs := [tI, tI, wi], head := ⟨42, [.own 2, .fn 141 [(1, 0)], .any, .any, .any, .var tI, .var tI], [.cells [.con tI, .con wi], .cells [.con tI], .rowv acT]⟩, exits := [(.exit 0, ⟨42, [.own 2, .fn 141 [(1, 0)], .any, .any, .any, .var tI], [.cells [.con tI, .con wi], .cells [.con tI], .rowv acT]⟩, [tI, wi])] }
def akM (ρ : Type) : acC ρ := ⟨[1, 4], 139, 0, atA, fun (p : Val (.pair tI (.pair wi tI))) (v : Val abG) kn kx => aen p.2.2 v.1 v.2.1 v.2.2 (fun u0 u1 u2 => kn (u0, u1, u2)) (kx 0)⟩
def ayy : List (Nat × acu) := []
def al3 (ρ : Type) : List (acC ρ) := [akN ρ, akM ρ]
def ahF (ρ : Type) : Env ρ := acy ayy (al3 ρ)
def az5 : acu := ⟨[ab7, ab5, ab5, .bool], [l5, tI], fun (x : Val (.pair ab7 (.pair ab5 (.pair ab5 .bool)))) => ako x.1 x.2.1 x.2.2.1 x.2.2.2⟩
def ayF : ace := { pin := 4, cs := [tI, tI, tI, f6, eI, m5, eW, eI, tI, tI, tI, tI, eI], vs := [tI, tI, tI, f6, eI, m5, eW, eI], head := ⟨68, .any :: .any :: .box 4 0 :: aN 20 [.own 3, .con tI, .var tI], [.cells [.con tI, .con tI, .con f6, .con eI, .con m5, .con eW, .con eI], .cells [.con tI, .con tI], .cells [.con tI, .con tI], .rowc ab5, .cells [.var tI, .var tI, .var f6, .var eI, .var m5, .var eW, .var eI]]⟩, exits := [(.ret, ⟨68, .any :: .any :: .box 4 0 :: .any :: .nilp :: .var tI :: aN 17 [.own 3, .con tI], [.cells [.con tI, .con tI, .con f6, .con eI, .con m5, .con eW, .con eI], .cells [.con tI, .con tI], .cells [.con tI, .con tI], .rowc ab5, .cells [.var tI, .var tI, .var f6, .var eI, .var m5, .var eW, .var eI]]⟩, [tI, tI, tI, f6, eI, m5, eW, eI]), (.exit 0, ⟨68, .any :: .any :: .box 4 0 :: aN 20 [.own 3, .con tI], [.cells [.con tI, .con tI, .con f6, .con eI, .con m5, .con eW, .con eI], .cells [.con tI, .con tI], .cells [.con tI, .con tI], .rowc ab5, .cells [.var tI, .var tI, .var f6, .var eI, .var m5, .var eW, .var eI]]⟩, [tI, tI, f6, eI, m5, eW, eI])] }
def an7 (ρ : Type) : acC ρ := ⟨[1, 3], 50, 0, ayF, fun (p : Val abI) (v : Val abB) kn kx => alt p.1 p.2.2.2.2.2.2.2.2.2.2.2.2 v.1 v.2.1 v.2.2.1 v.2.2.2.1 v.2.2.2.2.1 v.2.2.2.2.2.1 v.2.2.2.2.2.2.1 v.2.2.2.2.2.2.2 (fun u0 u1 u2 u3 u4 u5 u6 u7 => kn (u0, u1, u2, u3, u4, u5, u6, u7)) (kx 0) (kx 1)⟩
def aDo : List (Nat × acu) := [(20, aef), (21, axv), (38, adW), (51, afu), (55, agh), (60, afv), (61, aiv), (70, as8), (123, ad5)]
def ao5 (ρ : Type) : List (acC ρ) := [an7 ρ]
def am3 (ρ : Type) : Env ρ := acy aDo (ao5 ρ)
def aEB : acu := ⟨[ab7, ab5], [tI], fun (x : Val abN) => ahh x.1 x.2⟩
def aGd : List (Nat × acu) := [(60, afv)]
def aq1 (ρ : Type) : List (acC ρ) := []
def axw (ρ : Type) : Env ρ := acy aGd (aq1 ρ)
def az4 : acu := ⟨[tI, ab5], [.bool], fun (x : Val acT) => adq x.1 x.2⟩
def aC1 : List (Nat × acu) := []
def aoP (ρ : Type) : List (acC ρ) := []
def atu (ρ : Type) : Env ρ := acy aC1 (aoP ρ)
def afM : acu := ⟨[ab7, ab5, ab5], [.bool], fun (x : Val abX) => ag8 x.1 x.2.1 x.2.2⟩
def aor : List (Nat × acu) := [(13, aNC), (14, az3), (19, aIZ), (23, aNK), (25, az7), (26, az5), (27, aEB), (28, az4)]
def ahy (ρ : Type) : List (acC ρ) := []
def aiK (ρ : Type) : Env ρ := acy aor (ahy ρ)
end Go.Proofs.ZzM
end
