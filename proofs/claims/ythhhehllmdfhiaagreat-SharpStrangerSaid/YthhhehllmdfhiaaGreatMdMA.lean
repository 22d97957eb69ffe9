/- lemmas -/
import Derived.Test.YthhhehllmdfhiaaGreatAmE
import Derived.KernelRfl
import Derived.Test.YthhhehllmdfhiaaGreatMdTA
import Derived.Test.YthhhehllmdfhiaaGreatProg
set_option linter.all false
set_option linter.unusedSectionVars false
set_option linter.unusedVariables false
set_option linter.unusedSimpArgs false
noncomputable section
set_option maxRecDepth 100000
namespace Go.Proofs.ZzM
open Go Go.Am
def aA9 : Nat → Bool
  | 91 => true
  | 140 => true
  | 229 => true
  | 230 => true
  | 231 => true
  | 232 => true
  | 233 => true
  | _ => false
def aJF : Nat → Bool
  | 127 => true
  | _ => false
def apg : Nat → Bool
  | 128 => true
  | _ => false
def isInl : Nat → Bool
  | 2 => true
  | 50 => true
  | 66 => true
  | 74 => true
  | 84 => true
  | 92 => true
  | 93 => true
  | 98 => true
  | 100 => true
  | 124 => true
  | 131 => true
  | 132 => true
  | 136 => true
  | 137 => true
  | 139 => true
  | 141 => true
  | 147 => true
  | 148 => true
  | 149 => true
  | 150 => true
  | 151 => true
  | 152 => true
  | 153 => true
  | 154 => true
  | 155 => true
  | 157 => true
  | 158 => true
  | 159 => true
  | 160 => true
  | 161 => true
  | 165 => true
  | 169 => true
  | 170 => true
  | 175 => true
  | 176 => true
  | 178 => true
  | 193 => true
  | 194 => true
  | 195 => true
  | 196 => true
  | 199 => true
  | 201 => true
  | 202 => true
  | 203 => true
  | 204 => true
  | 206 => true
  | 207 => true
  | 208 => true
  | 209 => true
  | 211 => true
  | 212 => true
  | 214 => true
  | 215 => true
  | 217 => true
  | 218 => true
  | 220 => true
  | 221 => true
  | 222 => true
  | 242 => true
  | 243 => true
  | 244 => true
  | 245 => true
  | 246 => true
  | 247 => true
  | 249 => true
  | 250 => true
  | 253 => true
  | 255 => true
  | 257 => true
  | 261 => true
  | 269 => true
  | 270 => true
  | 272 => true
  | 273 => true
  | 275 => true
  | 276 => true
  | 279 => true
  | 280 => true
  | 286 => true
  | 288 => true
  | 289 => true
  | _ => false
def isFz : Nat → Bool
  | 59 => true
  | 79 => true
  | 94 => true
  | _ => false
def isEat : Nat → Nat → Bool
  | 41, 8 => true
  | 41, 11 => true
  | 49, 4 => true
  | 49, 5 => true
  | 50, 67 => true
  | 176, 25 => true
  | 202, 0 => true
  | _, _ => false
def acr {ρ : Type} (pt : List (Nat × acq)) (tab : List (acD ρ)) : Env ρ :=
  { P := Tryz.prog, eat := isEat, clone := aA9, sort := aJF, compact := apg, inl := isInl, fz := isFz, pure := aOd pt, loops := ajf tab }
def aS0 {ρ : Type} (pt : List (Nat × acq)) (tab : List (acD ρ)) (us : List aRq) : Env ρ :=
  { P := Tryz.prog, eat := isEat, clone := aA9, sort := aJF, compact := apg, inl := isInl, fz := isFz, pure := aOd pt, loops := aJu (acr pt tab) us }
end Go.Proofs.ZzM
end

noncomputable section
set_option maxRecDepth 100000
namespace Go.Proofs.ZzM
open Go Go.Am
def arD : acq := ⟨[ab3], [abu], fun (x : Val ab3) => ae0 x⟩
def ayk : ab8 := { pin := 0, cs := [l5, tI], vs := [tI, abu], head := ⟨20, .any :: .any :: .any :: .omp 0 :: aN 4 [.con l5, .con tI, .var tI], [.mapv tI acd]⟩, exits := [(.exit 0, ⟨20, .any :: .any :: .any :: .omp 0 :: aN 4 [.con l5, .con tI], [.mapv tI acd]⟩, [abu])] }
def anY (ρ : Type) : acD ρ := ⟨[], 53, 0, ayk, fun (p : Val (.pair l5 tI)) (v : Val (.pair tI abu)) kn kx => aij p.1 p.2 v.1 v.2 (fun u0 u1 => kn (u0, u1)) (kx 0)⟩
def aC1 : List (Nat × acq) := []
def aoY (ρ : Type) : List (acD ρ) := [anY ρ]
def amW (ρ : Type) : Env ρ := acr aC1 (aoY ρ)
def alG : acq := ⟨[ab1, tI, tI], [.bool], fun (x : Val acQ) => aeM x.1 x.2.1 x.2.2⟩
def aGz : List (Nat × acq) := []
def aq9 (ρ : Type) : List (acD ρ) := []
def axw (ρ : Type) : Env ρ := acr aGz (aq9 ρ)
def af8 : acq := ⟨[tI, tI, tI], [.bool], fun (x : Val ac1) => ac5 x.1 x.2.1 x.2.2⟩
def aGi : List (Nat × acq) := []
def aq4 (ρ : Type) : List (acD ρ) := []
def axr (ρ : Type) : Env ρ := acr aGi (aq4 ρ)
def asR : acq := ⟨[tI], [.bool], fun (x : Val tI) => aiJ x⟩
def aJj : List (Nat × acq) := [(126, af8)]
def aul (ρ : Type) : List (acD ρ) := []
def aAV (ρ : Type) : Env ρ := acr aJj (aul ρ)
def aE8 : acq := ⟨[tI], [(.int .u64)], fun (x : Val tI) => akY x⟩
def aLh : List (Nat × acq) := []
def axm (ρ : Type) : List (acD ρ) := []
def aD9 (ρ : Type) : Env ρ := acr aLh (axm ρ)
def aKU : acq := ⟨[(.int .u64), (.int .u64)], [(.int .u64)], fun (x : Val abW) => aBs x.1 x.2⟩
def aI3 : ab8 := { pin := 0, cs := [], vs := [(.int .u64), (.int .u64)], head := ⟨12, [.var (.int .u64), .var (.int .u64)], []⟩, exits := [(.exit 0, ⟨12, [.var (.int .u64)], []⟩, [(.int .u64)])] }
def axn (ρ : Type) : acD ρ := ⟨[], 260, 0, aI3, fun (p : Unit) (v : Val abW) kn kx => apW v.1 v.2 (fun u0 u1 => kn (u0, u1)) (kx 0)⟩
def aN2 : List (Nat × acq) := []
def aAx (ρ : Type) : List (acD ρ) := [axn ρ]
def aAy (ρ : Type) : Env ρ := acr aN2 (aAx ρ)
def asN : acq := ⟨[ab1], [.bool], fun (x : Val ab1) => amh x⟩
def aI6 : List (Nat × acq) := [(259, aE8), (260, aKU)]
def atX (ρ : Type) : List (acD ρ) := []
def aAC (ρ : Type) : Env ρ := acr aI6 (atX ρ)
def azy : acq := ⟨[acd], [.bool], fun (x : Val acd) => ano x⟩
def aDd : List (Nat × acq) := [(82, alG), (125, asR), (126, af8), (219, asN)]
def ao6 (ρ : Type) : List (acD ρ) := []
def auk (ρ : Type) : Env ρ := acr aDd (ao6 ρ)
def aop : acq := ⟨[ab3], [tI], fun (x : Val ab3) => aez x⟩
def aqs : ab8 := { pin := 0, cs := [l5, tI, tI, tI, l5, eI, m5, eW, eI], vs := [tI], head := ⟨31, .any :: .box 0 0 :: aN 4 [.con l5, .con tI, .var tI], [.cells [.con tI, .con tI, .con l5, .con eI, .con m5, .con eW, .con eI]]⟩, exits := [(.ret, ⟨31, [.any, .box 0 0, .var tI, .any, .any, .any, .con l5, .con tI], [.cells [.con tI, .con tI, .con l5, .con eI, .con m5, .con eW, .con eI]]⟩, [tI]), (.exit 0, ⟨31, .any :: .box 0 0 :: aN 4 [.con l5, .con tI], [.cells [.con tI, .con tI, .con l5, .con eI, .con m5, .con eW, .con eI]]⟩, [])] }
def ai3 (ρ : Type) : acD ρ := ⟨[], 83, 0, aqs, fun (p : Val (.pair l5 abA)) (v : Val tI) kn kx => afR p.1 p.2.1 p.2.2.2.2.1 v (fun u0 => kn u0) (kx 0) (kx 1)⟩
def aur : List (Nat × acq) := [(162, azy)]
def ajU (ρ : Type) : List (acD ρ) := [ai3 ρ]
def ah3 (ρ : Type) : Env ρ := acr aur (ajU ρ)
def alD : acq := ⟨[f6, tI], [tI], fun (x : Val abE) => agh x.1 x.2⟩
def an5 : ab8 := { pin := 0, cs := [f6, tI, tI], vs := [tI], head := ⟨19, .con f6 :: .con tI :: aN 5 [.con tI, .var tI], []⟩, exits := [(.ret, ⟨19, [.con f6, .con tI, .any, .any, .var tI, .any, .any, .con tI], []⟩, [tI]), (.exit 0, ⟨19, .con f6 :: .con tI :: aN 5 [.con tI], []⟩, [])] }
def ahI (ρ : Type) : acD ρ := ⟨[], 73, 0, an5, fun (p : Val (.pair f6 ab1)) (v : Val tI) kn kx => ae9 p.1 p.2.1 p.2.2 v (fun u0 => kn u0) (kx 0) (kx 1)⟩
def aqk : List (Nat × acq) := []
def ais (ρ : Type) : List (acD ρ) := [ahI ρ]
def agN (ρ : Type) : Env ρ := acr aqk (ais ρ)
def agp : acq := ⟨[f6, tI], [.bool], fun (x : Val abE) => adn x.1 x.2⟩
def amz : List (Nat × acq) := [(73, alD)]
def agZ (ρ : Type) : List (acD ρ) := []
def ahJ (ρ : Type) : Env ρ := acr amz (agZ ρ)
def aFb : acq := ⟨[ab3, acd], [f6], fun (x : Val (.pair ab3 acd)) => ajk x.1 x.2⟩
def aGD : ab8 := { pin := 0, cs := [eW, tI, tI, tI, l5, eI, m5, eW, eI, tI, tI, tI, tI, tI, tI, tI, tI], vs := [tI, f6], head := ⟨59, .any :: .any :: .box 0 0 :: .box 1 0 :: .any :: .own 2 :: aN 8 [.con eW, .con tI, .var tI], [.cells [.con tI, .con tI, .con l5, .con eI, .con m5, .con eW, .con eI], .cells [.con tI, .con tI, .con tI, .con tI, .con tI, .con tI, .con tI, .con tI], .rowv tI]⟩, exits := [(.exit 0, ⟨59, .any :: .any :: .box 0 0 :: .box 1 0 :: .any :: .own 2 :: aN 8 [.con eW, .con tI], [.cells [.con tI, .con tI, .con l5, .con eI, .con m5, .con eW, .con eI], .cells [.con tI, .con tI, .con tI, .con tI, .con tI, .con tI, .con tI, .con tI], .rowv tI]⟩, [f6])] }
def auo (ρ : Type) : acD ρ := ⟨[], 168, 0, aGD, fun (p : Val (.pair eW abK)) (v : Val abz) kn kx => am8 p.1 p.2.1 p.2.2.2.2.2.2.2.2.2.1 v.1 v.2 (fun u0 u1 => kn (u0, u1)) (kx 0)⟩
def aGC : ab8 := { pin := 0, cs := [eI, tI, tI, tI, tI, tI, tI, tI, tI, tI], vs := [tI, f6], head := ⟨59, .any :: .any :: .any :: .box 0 0 :: .any :: .own 1 :: aN 32 [.con eI, .con tI, .var tI], [.cells [.con tI, .con tI, .con tI, .con tI, .con tI, .con tI, .con tI, .con tI], .rowv tI]⟩, exits := [(.exit 2, ⟨59, .any :: .any :: .any :: .box 0 0 :: .any :: .own 1 :: aN 32 [.con eI, .con tI], [.cells [.con tI, .con tI, .con tI, .con tI, .con tI, .con tI, .con tI, .con tI], .rowv tI]⟩, [f6])] }
def aun (ρ : Type) : acD ρ := ⟨[], 168, 2, aGC, fun (p : Val (.pair eI (.pair tI abw))) (v : Val abz) kn kx => am7 p.1 p.2.1 p.2.2.1 v.1 v.2 (fun u0 u1 => kn (u0, u1)) (kx 0)⟩
def aLv : List (Nat × acq) := [(65, agp)]
def axy (ρ : Type) : List (acD ρ) := [auo ρ, aun ρ]
def apZ (ρ : Type) : Env ρ := acr aLv (axy ρ)
def asQ : acq := ⟨[ab3], [eI], fun (x : Val ab3) => aka x⟩
def aC3 : ab8 := { pin := 0, cs := [l5, tI, tI, f6, tI, tI, tI, l5, eI, m5, eW, eI, tI, tI, tI, tI, tI, tI, tI, tI], vs := [tI, eI], head := ⟨33, .any :: .box 0 0 :: .any :: .own 1 :: .any :: .box 2 0 :: .any :: .any :: .any :: .con l5 :: .con tI :: .con tI :: aN 5 [.con f6, .con tI, .var tI], [.cells [.con tI, .con tI, .con l5, .con eI, .con m5, .con eW, .con eI], .rowv ab1, .cells [.con tI, .con tI, .con tI, .con tI, .con tI, .con tI, .con tI, .con tI]]⟩, exits := [(.exit 2, ⟨33, .any :: .box 0 0 :: .any :: .own 1 :: .any :: .box 2 0 :: .any :: .any :: .any :: .con l5 :: .con tI :: .con tI :: aN 5 [.con f6, .con tI], [.cells [.con tI, .con tI, .con l5, .con eI, .con m5, .con eW, .con eI], .rowv ab1, .cells [.con tI, .con tI, .con tI, .con tI, .con tI, .con tI, .con tI, .con tI]]⟩, [eI])] }
def aq5 (ρ : Type) : acD ρ := ⟨[], 85, 2, aC3, fun (p : Val (.pair l5 (.pair tI (.pair tI (.pair f6 abK))))) (v : Val abC) kn kx => akP p.2.2.2.1 p.2.2.2.2.1 p.2.2.2.2.2.2.2.2.2.2.2.2.1 v.1 v.2 (fun u0 u1 => kn (u0, u1)) (kx 0)⟩
def aC4 : ab8 := { pin := 0, cs := [l5, tI, tI, tI, l5, eI, m5, eW, eI], vs := [tI, eI], head := ⟨33, .any :: .box 0 0 :: .any :: .own 1 :: aN 5 [.con l5, .con tI, .var tI], [.cells [.con tI, .con tI, .con l5, .con eI, .con m5, .con eW, .con eI], .rowv ab1]⟩, exits := [(.exit 0, ⟨33, .any :: .box 0 0 :: .any :: .own 1 :: aN 5 [.con l5, .con tI], [.cells [.con tI, .con tI, .con l5, .con eI, .con m5, .con eW, .con eI], .rowv ab1]⟩, [eI])] }
def aq6 (ρ : Type) : acD ρ := ⟨[], 85, 0, aC4, fun (p : Val (.pair l5 abA)) (v : Val abC) kn kx => akQ p.1 p.2.1 p.2.2.1 p.2.2.2.1 p.2.2.2.2.1 p.2.2.2.2.2.1 p.2.2.2.2.2.2.1 p.2.2.2.2.2.2.2.1 p.2.2.2.2.2.2.2.2 v.1 v.2 (fun u0 u1 => kn (u0, u1)) (kx 0)⟩
def aJf : List (Nat × acq) := [(168, aFb)]
def aub (ρ : Type) : List (acD ρ) := [aq5 ρ, aq6 ρ]
def amZ (ρ : Type) : Env ρ := acr aJf (aub ρ)
def aie : acq := ⟨[abu, tI, tI], [tI], fun (x : Val (.pair abu ab1)) => afJ x.1 x.2.1 x.2.2⟩
def av3 : List (Nat × acq) := []
def akO (ρ : Type) : List (acD ρ) := []
def anZ (ρ : Type) : Env ρ := acr av3 (akO ρ)
def aKW : acq := ⟨[tI, tI, (.ptr abu)], [tI], fun (x : Val (.pair tI (.pair tI (.ptr abu)))) => adJ x.1 x.2.1 x.2.2⟩
def aC2 : List (Nat × acq) := [(125, asR), (164, aie)]
def ao1 (ρ : Type) : List (acD ρ) := []
def aua (ρ : Type) : Env ρ := acr aC2 (ao1 ρ)
def aFc : acq := ⟨[ab3, abu, tI], [tI], fun (x : Val abY) => aeQ x.1 x.2.1 x.2.2⟩
def auq : ab8 := { pin := 2, cs := [m5, tI, tI, tI, l5, eI, m5, eW, eI, tI, tI, tI, tI], vs := [tI], head := ⟨19, .con m5 :: .fn 220 [(1, 0)] :: aN 5 [.con tI, .var tI], [.cells [.con tI, .con tI, .con l5, .con eI, .con m5, .con eW, .con eI], .cells [.con tI, .con tI, .con tI, .con tI]]⟩, exits := [(.ret, ⟨19, [.con m5, .fn 220 [(1, 0)], .any, .any, .var tI, .any, .any, .con tI], [.cells [.con tI, .con tI, .con l5, .con eI, .con m5, .con eW, .con eI], .cells [.con tI, .con tI, .con tI, .con tI]]⟩, [tI]), (.exit 0, ⟨19, .con m5 :: .fn 220 [(1, 0)] :: aN 5 [.con tI], [.cells [.con tI, .con tI, .con l5, .con eI, .con m5, .con eW, .con eI], .cells [.con tI, .con tI, .con tI, .con tI]]⟩, [])] }
def akT (ρ : Type) : acD ρ := ⟨[9, 5, 1, 2], 257, 0, auq, fun (p : Val (.pair m5 (.pair tI (.pair tI (.pair tI (.pair l5 (.pair eI (.pair m5 (.pair eW (.pair eI (.pair tI ac1))))))))))) (v : Val tI) kn kx => agG p.1 p.2.1 p.2.2.2.2.2.2.2.2.2.1 p.2.2.2.2.2.2.2.2.2.2.1 p.2.2.2.2.2.2.2.2.2.2.2.1 v (fun u0 => kn u0) (kx 0) (kx 1)⟩
def aup : ab8 := { pin := 2, cs := [eI, tI, tI, tI, l5, eI, m5, eW, eI, tI, tI, tI, tI], vs := [tI], head := ⟨19, .con eI :: .fn 221 [(1, 0)] :: aN 5 [.con tI, .var tI], [.cells [.con tI, .con tI, .con l5, .con eI, .con m5, .con eW, .con eI], .cells [.con tI, .con tI, .con tI, .con tI]]⟩, exits := [(.ret, ⟨19, [.con eI, .fn 221 [(1, 0)], .any, .any, .var tI, .any, .any, .con tI], [.cells [.con tI, .con tI, .con l5, .con eI, .con m5, .con eW, .con eI], .cells [.con tI, .con tI, .con tI, .con tI]]⟩, [tI]), (.exit 0, ⟨19, .con eI :: .fn 221 [(1, 0)] :: aN 5 [.con tI], [.cells [.con tI, .con tI, .con l5, .con eI, .con m5, .con eW, .con eI], .cells [.con tI, .con tI, .con tI, .con tI]]⟩, [])] }
def akS (ρ : Type) : acD ρ := ⟨[9, 10, 1, 2], 255, 0, aup, fun (p : Val (.pair eI (.pair tI (.pair tI (.pair tI (.pair l5 (.pair eI (.pair m5 (.pair eW (.pair eI (.pair tI ac1))))))))))) (v : Val tI) kn kx => aeL p.1 p.2.1 p.2.2.2.2.2.2.2.2.2.1 p.2.2.2.2.2.2.2.2.2.2.1 p.2.2.2.2.2.2.2.2.2.2.2.1 v (fun u0 => kn u0) (kx 0) (kx 1)⟩
def ayp : List (Nat × acq) := [(82, alG), (126, af8), (164, aie)]
def al7 (ρ : Type) : List (acD ρ) := [akT ρ, akS ρ]
def ahq (ρ : Type) : Env ρ := acr ayp (al7 ρ)
def apN : acq := ⟨[f6, f6], [f6], fun (x : Val (.pair f6 f6)) => aeg x.1 x.2⟩
def aGv : ab8 := { pin := 2, cs := [tI, f6, f6], vs := [tI], head := ⟨19, .own 1 :: .fn 170 [(0, 0)] :: aN 5 [.con tI, .var tI], [.cells [.con f6], .rowc tI]⟩, exits := [(.ret, ⟨19, [.own 1, .fn 170 [(0, 0)], .any, .any, .var tI, .any, .any, .con tI], [.cells [.con f6], .rowc tI]⟩, [tI]), (.exit 0, ⟨19, .own 1 :: .fn 170 [(0, 0)] :: aN 5 [.con tI], [.cells [.con f6], .rowc tI]⟩, [])] }
def auj (ρ : Type) : acD ρ := ⟨[1, 3, 1, 2], 178, 0, aGv, fun (p : Val (.pair tI (.pair f6 f6))) (v : Val tI) kn kx => am6 p.1 p.2.1 p.2.2 v (fun u0 => kn u0) (kx 0) (kx 1)⟩
def aGu : ab8 := { pin := 2, cs := [f6], vs := [tI, tI, f6], head := ⟨42, [.own 1, .fn 170 [(0, 0)], .any, .any, .any, .var tI, .var tI], [.cells [.con f6], .rowv tI]⟩, exits := [(.exit 0, ⟨42, [.own 1, .fn 170 [(0, 0)], .any, .any, .any, .var tI], [.cells [.con f6], .rowv tI]⟩, [tI, f6])] }
def aui (ρ : Type) : acD ρ := ⟨[1, 3], 169, 0, aGu, fun (p : Val f6) (v : Val (.pair tI abz)) kn kx => agU p v.1 v.2.1 v.2.2 (fun u0 u1 u2 => kn (u0, u1, u2)) (kx 0)⟩
def aLu : List (Nat × acq) := [(65, agp)]
def axv (ρ : Type) : List (acD ρ) := [auj ρ, aui ρ]
def apY (ρ : Type) : Env ρ := acr aLu (axv ρ)
def ad4 : acq := ⟨[abt], [f6], fun (x : Val abt) => acy x⟩
def amB : ab8 := { pin := 0, cs := [abt, abt, tI], vs := [tI, tI], head := ⟨36, .con abt :: .any :: .any :: .var tI :: aN 5 [.con abt, .con tI, .var tI], []⟩, exits := [(.exit 0, ⟨36, .con abt :: .any :: .any :: .var tI :: aN 5 [.con abt, .con tI], []⟩, [tI])] }
def ahn (ρ : Type) : acD ρ := ⟨[], 94, 0, amB, fun (p : Val (.pair abt (.pair abt tI))) (v : Val ab1) kn kx => adt p.2.1 p.2.2 v.1 v.2 (fun u0 u1 => kn (u0, u1)) (kx 0)⟩
def amA : ab8 := { pin := 0, cs := [abt, tI], vs := [tI, f6], head := ⟨36, aN 6 (.own 0 :: aN 18 [.con abt, .con tI, .var tI]), [.rowv tI]⟩, exits := [(.exit 2, ⟨36, aN 6 (.own 0 :: aN 18 [.con abt, .con tI]), [.rowv tI]⟩, [f6])] }
def ahm (ρ : Type) : acD ρ := ⟨[], 94, 2, amA, fun (p : Val (.pair abt tI)) (v : Val abz) kn kx => acE p.1 p.2 v.1 v.2 (fun u0 u1 => kn (u0, u1)) (kx 0)⟩
def aow : List (Nat × acq) := []
def ahK (ρ : Type) : List (acD ρ) := [ahn ρ, ahm ρ]
def afa (ρ : Type) : Env ρ := acr aow (ahK ρ)
def avl : acq := ⟨[f6], [.bool], fun (x : Val f6) => ah9 x⟩
def aAT : ab8 := { pin := 0, cs := [f6, f6, tI], vs := [tI], head := ⟨32, .con f6 :: aN 4 [.con f6, .con tI, .var tI], []⟩, exits := [(.ret, ⟨32, [.con f6, .any, .var .bool, .any, .any, .con f6, .con tI], []⟩, [.bool]), (.exit 0, ⟨32, .con f6 :: aN 4 [.con f6, .con tI], []⟩, [])] }
def ao4 (ρ : Type) : acD ρ := ⟨[], 198, 0, aAT, fun (p : Val (.pair f6 abE)) (v : Val tI) kn kx => aje p.1 p.2.1 p.2.2 v (fun u0 => kn u0) (kx 0) (kx 1)⟩
def aGx : List (Nat × acq) := [(126, af8)]
def aq8 (ρ : Type) : List (acD ρ) := [ao4 ρ]
def ao5 (ρ : Type) : Env ρ := acr aGx (aq8 ρ)
def aMK : acq := ⟨[ab3, tI, tI], [adD, .bool], fun (x : Val abL) => ap9 x.1 x.2.1 x.2.2⟩
def aGF : ab8 := { pin := 4, cs := [m5, tI, tI, tI, l5, eI, m5, eW, eI, tI, tI, tI, tI, tI, tI], vs := [tI], head := ⟨19, .con m5 :: .fn 261 [(1, 0), (2, 0)] :: aN 5 [.con tI, .var tI], [.cells [.con tI, .con tI, .con l5, .con eI, .con m5, .con eW, .con eI], .cells [.con tI], .cells [.con tI], .cells [.con tI, .con tI, .con tI, .con tI]]⟩, exits := [(.ret, ⟨19, [.con m5, .fn 261 [(1, 0), (2, 0)], .any, .any, .var tI, .any, .any, .con tI], [.cells [.con tI, .con tI, .con l5, .con eI, .con m5, .con eW, .con eI], .cells [.con tI], .cells [.con tI], .cells [.con tI, .con tI, .con tI, .con tI]]⟩, [tI]), (.exit 0, ⟨19, .con m5 :: .fn 261 [(1, 0), (2, 0)] :: aN 5 [.con tI], [.cells [.con tI, .con tI, .con l5, .con eI, .con m5, .con eW, .con eI], .cells [.con tI], .cells [.con tI], .cells [.con tI, .con tI, .con tI, .con tI]]⟩, [])] }
def aus (ρ : Type) : acD ρ := ⟨[1, 3], 257, 0, aGF, fun (p : Val (.pair m5 (.pair tI (.pair tI (.pair tI (.pair l5 (.pair eI (.pair m5 (.pair eW (.pair eI (.pair tI (.pair tI (.pair tI ac1))))))))))))) (v : Val tI) kn kx => ana p.1 p.2.1 p.2.2.2.2.2.2.2.2.2.1 p.2.2.2.2.2.2.2.2.2.2.1 v (fun u0 => kn u0) (kx 0) (kx 1)⟩
def aLw : List (Nat × acq) := [(126, af8)]
def axz (ρ : Type) : List (acD ρ) := [aus ρ]
def awb (ρ : Type) : Env ρ := acr aLw (axz ρ)
def axX : acq := ⟨[ab3, abu, tI], [tI], fun (x : Val abY) => adL x.1 x.2.1 x.2.2⟩
def apb : ab8 := { pin := 2, cs := [eW, tI, tI, tI, l5, eI, m5, eW, eI, tI, tI, f6, f6, tI, tI, tI, tI], vs := [tI], head := ⟨19, .con eW :: .fn 222 [(1, 0)] :: aN 5 [.con tI, .var tI], [.cells [.con tI, .con tI, .con l5, .con eI, .con m5, .con eW, .con eI], .cells [.con tI, .con tI, .con f6, .con f6, .con tI, .con tI, .con tI, .con tI]]⟩, exits := [(.ret, ⟨19, [.con eW, .fn 222 [(1, 0)], .any, .any, .var tI, .any, .any, .con tI], [.cells [.con tI, .con tI, .con l5, .con eI, .con m5, .con eW, .con eI], .cells [.con tI, .con tI, .con f6, .con f6, .con tI, .con tI, .con tI, .con tI]]⟩, [tI]), (.exit 0, ⟨19, .con eW :: .fn 222 [(1, 0)] :: aN 5 [.con tI], [.cells [.con tI, .con tI, .con l5, .con eI, .con m5, .con eW, .con eI], .cells [.con tI, .con tI, .con f6, .con f6, .con tI, .con tI, .con tI, .con tI]]⟩, [])] }
def aiD (ρ : Type) : acD ρ := ⟨[4, 5, 1, 2], 207, 0, apb, fun (p : Val (.pair eW (.pair tI (.pair tI (.pair tI (.pair l5 (.pair eI (.pair m5 (.pair eW (.pair eI ab9)))))))))) (v : Val tI) kn kx => afw p.1 p.2.1 p.2.2.2.2.2.2.2.2.2.1 v (fun u0 => kn u0) (kx 0) (kx 1)⟩
def ao9 : ab8 := { pin := 0, cs := [abu, f6, tI, tI, tI, f6, tI, tI, tI, l5, eI, m5, eW, eI, tI, tI, f6, f6, tI, tI, tI, tI, f6], vs := [tI], head := ⟨140, .any :: .con abu :: .any :: .box 0 0 :: .any :: .any :: .any :: .box 1 0 :: .con f6 :: .any :: .con tI :: aN 65 [.own 2, .con tI, .con tI, .any, .any, .any, .con f6, .con tI, .var tI], [.cells [.con tI, .con tI, .con l5, .con eI, .con m5, .con eW, .con eI], .cells [.con tI, .con tI, .con f6, .con f6, .con tI, .con tI, .con tI, .con tI], .rowc tI]⟩, exits := [(.ret, ⟨140, .any :: .con abu :: .any :: .box 0 0 :: .any :: .any :: .var tI :: .box 1 0 :: .con f6 :: .any :: .con tI :: aN 65 [.own 2, .con tI, .con tI, .any, .any, .any, .con f6, .con tI], [.cells [.con tI, .con tI, .con l5, .con eI, .con m5, .con eW, .con eI], .cells [.con tI, .con tI, .con f6, .con f6, .con tI, .con tI, .con tI, .con tI], .rowc tI]⟩, [tI]), (.exit 2, ⟨140, .any :: .con abu :: .any :: .box 0 0 :: .any :: .any :: .any :: .box 1 0 :: .con f6 :: .any :: .con tI :: aN 65 [.own 2, .con tI, .con tI, .any, .any, .any, .con f6, .con tI], [.cells [.con tI, .con tI, .con l5, .con eI, .con m5, .con eW, .con eI], .cells [.con tI, .con tI, .con f6, .con f6, .con tI, .con tI, .con tI, .con tI], .rowc tI]⟩, [])] }
def aiB (ρ : Type) : acD ρ := ⟨[], 167, 2, ao9, fun (p : Val (.pair abu (.pair f6 (.pair tI (.pair tI (.pair tI (.pair f6 (.pair tI (.pair tI (.pair tI (.pair l5 (.pair eI (.pair m5 (.pair eW (.pair eI (.pair tI (.pair tI (.pair f6 (.pair f6 (.pair tI abD)))))))))))))))))))) (v : Val tI) kn kx => afv p.1 p.2.2.1 p.2.2.2.2.2.1 p.2.2.2.2.2.2.1 p.2.2.2.2.2.2.2.2.2.2.2.2.2.2.2.1 v (fun u0 => kn u0) (kx 0) (kx 1)⟩
def apa : ab8 := { pin := 0, cs := [abu, f6, tI, tI, tI, l5, eI, m5, eW, eI, tI, tI, f6, f6, tI, tI, tI, tI, f6], vs := [tI], head := ⟨140, .any :: .con abu :: .any :: .box 0 0 :: .any :: .any :: .any :: .box 1 0 :: .con f6 :: aN 67 [.own 2, .con tI, .var tI], [.cells [.con tI, .con tI, .con l5, .con eI, .con m5, .con eW, .con eI], .cells [.con tI, .con tI, .con f6, .con f6, .con tI, .con tI, .con tI, .con tI], .rowc tI]⟩, exits := [(.ret, ⟨140, .any :: .con abu :: .any :: .box 0 0 :: .any :: .any :: .var tI :: .box 1 0 :: .con f6 :: aN 67 [.own 2, .con tI], [.cells [.con tI, .con tI, .con l5, .con eI, .con m5, .con eW, .con eI], .cells [.con tI, .con tI, .con f6, .con f6, .con tI, .con tI, .con tI, .con tI], .rowc tI]⟩, [tI]), (.exit 0, ⟨140, .any :: .con abu :: .any :: .box 0 0 :: .any :: .any :: .any :: .box 1 0 :: .con f6 :: aN 67 [.own 2, .con tI], [.cells [.con tI, .con tI, .con l5, .con eI, .con m5, .con eW, .con eI], .cells [.con tI, .con tI, .con f6, .con f6, .con tI, .con tI, .con tI, .con tI], .rowc tI]⟩, [])] }
def aiC (ρ : Type) : acD ρ := ⟨[], 167, 0, apa, fun (p : Val (.pair abu (.pair f6 (.pair tI (.pair tI (.pair tI (.pair l5 (.pair eI (.pair m5 (.pair eW (.pair eI (.pair tI (.pair tI (.pair f6 (.pair f6 (.pair tI abD)))))))))))))))) (v : Val tI) kn kx => adR p.1 p.2.1 p.2.2.1 p.2.2.2.2.2.2.2.2.2.2.2.1 p.2.2.2.2.2.2.2.2.2.2.2.2.2.2.2.2.2.2 v (fun u0 => kn u0) (kx 0) (kx 1)⟩
def ao8 : ab8 := { pin := 0, cs := [f6, tI, tI, tI, l5, eI, m5, eW, eI, tI, tI, f6, f6, tI, tI, tI, tI], vs := [tI], head := ⟨140, .any :: .any :: .any :: .box 0 0 :: .any :: .any :: .any :: .box 1 0 :: aN 90 [.con f6, .con tI, .var tI], [.cells [.con tI, .con tI, .con l5, .con eI, .con m5, .con eW, .con eI], .cells [.con tI, .con tI, .con f6, .con f6, .con tI, .con tI, .con tI, .con tI]]⟩, exits := [(.ret, ⟨140, .any :: .any :: .any :: .box 0 0 :: .any :: .any :: .var tI :: .box 1 0 :: aN 90 [.con f6, .con tI], [.cells [.con tI, .con tI, .con l5, .con eI, .con m5, .con eW, .con eI], .cells [.con tI, .con tI, .con f6, .con f6, .con tI, .con tI, .con tI, .con tI]]⟩, [tI]), (.exit 4, ⟨140, .any :: .any :: .any :: .box 0 0 :: .any :: .any :: .any :: .box 1 0 :: aN 90 [.con f6, .con tI], [.cells [.con tI, .con tI, .con l5, .con eI, .con m5, .con eW, .con eI], .cells [.con tI, .con tI, .con f6, .con f6, .con tI, .con tI, .con tI, .con tI]]⟩, [])] }
def aiA (ρ : Type) : acD ρ := ⟨[], 167, 4, ao8, fun (p : Val (.pair f6 (.pair tI (.pair tI (.pair tI (.pair l5 (.pair eI (.pair m5 (.pair eW (.pair eI ab9)))))))))) (v : Val tI) kn kx => adQ p.1 p.2.1 p.2.2.1 p.2.2.2.1 p.2.2.2.2.1 p.2.2.2.2.2.1 p.2.2.2.2.2.2.1 p.2.2.2.2.2.2.2.1 p.2.2.2.2.2.2.2.2.1 p.2.2.2.2.2.2.2.2.2.2.1 v (fun u0 => kn u0) (kx 0) (kx 1)⟩
def asd : List (Nat × acq) := [(82, alG), (88, apN), (94, ad4), (125, asR), (126, af8), (164, aie), (198, avl), (223, aMK)]
def ai4 (ρ : Type) : List (acD ρ) := [aiD ρ, aiB ρ, aiC ρ, aiA ρ]
def ad6 (ρ : Type) : Env ρ := acr asd (ai4 ρ)
def adY : acq := ⟨[ab3], [tI], fun (x : Val ab3) => acM x⟩
def ajG : acq := ⟨[ab3, eI, eI], [ab3], fun (x : Val (.pair ab3 (.pair eI eI))) => aBr x.1 x.2.1 x.2.2⟩
noncomputable def aIM : ab8 := { pin := 8, cs := [f6, tI, tI, tI, l5, eI, m5, eW, eI, tI, tI, abq, tI, tI], vs := [tI, abq], head := ⟨34, .any :: .any :: .any :: .box 2 0 :: aN 21 [.con f6, .con tI, .var tI], [.cells [.con tI, .con tI, .con l5, .con eI, .con m5, .con eW, .con eI], .cells [.con tI, .con tI, .nils, .nils, .nils, .nils, .nils], .cells [.omp 5], .cells [.omp 6], .cells [.nilfn, .fn 159 [(2, 0), (0, 0)], .fn 159 [(2, 0), (0, 0)], .fn 160 [(3, 0), (0, 0), (2, 0)]], .mapv tI .bool, .mapc tI .bool, .cells [.con tI, .con tI]]⟩, exits := [(.exit 0, ⟨34, .any :: .any :: .any :: .box 2 0 :: aN 21 [.con f6, .con tI], [.cells [.con tI, .con tI, .con l5, .con eI, .con m5, .con eW, .con eI], .cells [.con tI, .con tI, .nils, .nils, .nils, .nils, .nils], .cells [.omp 5], .cells [.omp 6], .cells [.nilfn, .fn 159 [(2, 0), (0, 0)], .fn 159 [(2, 0), (0, 0)], .fn 160 [(3, 0), (0, 0), (2, 0)]], .mapv tI .bool, .mapc tI .bool, .cells [.con tI, .con tI]]⟩, [abq])] }
noncomputable def aw9 (ρ : Type) : acD ρ := ⟨[7, 5], 160, 0, aIM, fun (p : Val (.pair f6 (.pair tI (.pair tI (.pair tI (.pair l5 (.pair eI (.pair m5 (.pair eW (.pair eI (.pair tI (.pair tI (.pair abq ab1))))))))))))) (v : Val (.pair tI abq)) kn kx => alU p.1 p.2.1 v.1 v.2 (fun u0 u1 => kn (u0, u1)) (kx 0)⟩
noncomputable def aIN : ab8 := { pin := 0, cs := [eI, eI, tI, tI, tI, l5, eI, m5, eW, eI, tI, tI], vs := [tI, abq, abq], head := ⟨130, .any :: .any :: .con eI :: .box 0 0 :: .any :: .any :: .box 1 0 :: .box 2 0 :: .box 3 0 :: .any :: .box 4 0 :: aN 19 [.con eI, .con tI, .var tI], [.cells [.con tI, .con tI, .con l5, .con eI, .con m5, .con eW, .con eI], .cells [.con tI, .con tI, .nils, .nils, .nils, .nils, .nils], .cells [.omp 5], .cells [.omp 6], .cells [.nilfn, .fn 159 [(2, 0), (0, 0)], .fn 159 [(2, 0), (0, 0)], .fn 160 [(3, 0), (0, 0), (2, 0)]], .mapv tI .bool, .mapv tI .bool]⟩, exits := [(.exit 0, ⟨130, .any :: .any :: .con eI :: .box 0 0 :: .any :: .any :: .box 1 0 :: .box 2 0 :: .box 3 0 :: .any :: .box 4 0 :: aN 19 [.con eI, .con tI], [.cells [.con tI, .con tI, .con l5, .con eI, .con m5, .con eW, .con eI], .cells [.con tI, .con tI, .nils, .nils, .nils, .nils, .nils], .cells [.omp 5], .cells [.omp 6], .cells [.nilfn, .fn 159 [(2, 0), (0, 0)], .fn 159 [(2, 0), (0, 0)], .fn 160 [(3, 0), (0, 0), (2, 0)]], .mapv tI .bool, .mapv tI .bool]⟩, [abq, abq])] }
noncomputable def axa (ρ : Type) : acD ρ := ⟨[], 79, 0, aIN, fun (p : Val (.pair eI (.pair eI (.pair tI (.pair tI (.pair tI (.pair l5 (.pair eI (.pair m5 (.pair eW abV)))))))))) (v : Val (.pair tI (.pair abq abq))) kn kx => apS p.2.1 p.2.2.1 p.2.2.2.2.2.1 p.2.2.2.2.2.2.2.2.1 v.1 v.2.1 v.2.2 (fun u0 u1 u2 => kn (u0, u1, u2)) (kx 0)⟩
noncomputable def aIL : ab8 := { pin := 0, cs := [eI, eI, tI, tI, tI, l5, eI, m5, eW, eI, tI, tI, abq], vs := [tI, abq], head := ⟨130, .any :: .any :: .con eI :: .box 0 0 :: .any :: .any :: .box 1 0 :: .box 2 0 :: .box 3 0 :: aN 34 [.con eI, .con tI, .var tI], [.cells [.con tI, .con tI, .con l5, .con eI, .con m5, .con eW, .con eI], .cells [.con tI, .con tI, .nils, .nils, .nils, .nils, .nils], .cells [.omp 4], .cells [.omp 5], .mapv tI .bool, .mapc tI .bool]⟩, exits := [(.exit 2, ⟨130, .any :: .any :: .con eI :: .box 0 0 :: .any :: .any :: .box 1 0 :: .box 2 0 :: .box 3 0 :: aN 34 [.con eI, .con tI], [.cells [.con tI, .con tI, .con l5, .con eI, .con m5, .con eW, .con eI], .cells [.con tI, .con tI, .nils, .nils, .nils, .nils, .nils], .cells [.omp 4], .cells [.omp 5], .mapv tI .bool, .mapc tI .bool]⟩, [abq])] }
noncomputable def aw8 (ρ : Type) : acD ρ := ⟨[], 79, 2, aIL, fun (p : Val (.pair eI (.pair eI (.pair tI (.pair tI (.pair tI (.pair l5 (.pair eI (.pair m5 (.pair eW (.pair eI (.pair tI (.pair tI abq))))))))))))) (v : Val (.pair tI abq)) kn kx => alT p.2.1 p.2.2.1 v.1 v.2 (fun u0 u1 => kn (u0, u1)) (kx 0)⟩
noncomputable def aIK : ab8 := { pin := 0, cs := [eI, tI, tI, tI, l5, eI, m5, eW, eI, tI, tI, l5, eI, m5, eW, eI, tI, tI, eI, abq, abq, l5], vs := [tI, eI], head := ⟨130, .any :: .any :: .any :: .box 0 0 :: .any :: .any :: .box 1 0 :: .box 2 0 :: .box 3 0 :: aN 6 (.box 4 0 :: aN 52 [.con eI, .con tI, .var tI]), [.cells [.con tI, .con tI, .con l5, .con eI, .con m5, .con eW, .con eI], .cells [.con tI, .con tI, .con l5, .con eI, .con m5, .con eW, .con eI], .cells [.omp 5], .cells [.omp 6], .cells [.con tI, .con tI, .own 7, .own 8, .nils, .nils, .con eI], .mapc tI .bool, .mapc tI .bool, .rowc acd, .rowv ab1]⟩, exits := [(.exit 6, ⟨130, .any :: .any :: .any :: .box 0 0 :: .any :: .any :: .box 1 0 :: .box 2 0 :: .box 3 0 :: aN 6 (.box 4 0 :: aN 52 [.con eI, .con tI]), [.cells [.con tI, .con tI, .con l5, .con eI, .con m5, .con eW, .con eI], .cells [.con tI, .con tI, .con l5, .con eI, .con m5, .con eW, .con eI], .cells [.omp 5], .cells [.omp 6], .cells [.con tI, .con tI, .own 7, .own 8, .nils, .nils, .con eI], .mapc tI .bool, .mapc tI .bool, .rowc acd, .rowv ab1]⟩, [eI])] }
noncomputable def akC (ρ : Type) : acD ρ := ⟨[], 79, 6, aIK, fun (p : Val (.pair eI (.pair tI (.pair tI (.pair tI (.pair l5 (.pair eI (.pair m5 (.pair eW (.pair eI (.pair tI (.pair tI (.pair l5 (.pair eI (.pair m5 (.pair eW (.pair eI (.pair tI (.pair tI (.pair eI (.pair abq (.pair abq l5)))))))))))))))))))))) (v : Val abC) kn kx => alS p.1 p.2.1 p.2.2.2.2.2.2.2.2.2.2.2.2.2.2.2.2.2.2.2.1 v.1 v.2 (fun u0 u1 => kn (u0, u1)) (kx 0)⟩
noncomputable def aIJ : ab8 := { pin := 0, cs := [m5, tI, tI, tI, l5, eI, m5, eW, eI, tI, tI, l5, eI, m5, eW, eI, tI, tI, eI, abq, abq, l5, eI], vs := [tI, m5], head := ⟨130, .any :: .any :: .any :: .box 0 0 :: .any :: .any :: .box 1 0 :: .box 2 0 :: .box 3 0 :: aN 6 (.box 4 0 :: aN 70 [.con m5, .con tI, .var tI]), [.cells [.con tI, .con tI, .con l5, .con eI, .con m5, .con eW, .con eI], .cells [.con tI, .con tI, .con l5, .con eI, .con m5, .con eW, .con eI], .cells [.omp 5], .cells [.omp 6], .cells [.con tI, .con tI, .own 7, .own 8, .own 9, .nils, .con eI], .mapc tI .bool, .mapc tI .bool, .rowc acd, .rowc ab1, .rowv adD]⟩, exits := [(.exit 8, ⟨130, .any :: .any :: .any :: .box 0 0 :: .any :: .any :: .box 1 0 :: .box 2 0 :: .box 3 0 :: aN 6 (.box 4 0 :: aN 70 [.con m5, .con tI]), [.cells [.con tI, .con tI, .con l5, .con eI, .con m5, .con eW, .con eI], .cells [.con tI, .con tI, .con l5, .con eI, .con m5, .con eW, .con eI], .cells [.omp 5], .cells [.omp 6], .cells [.con tI, .con tI, .own 7, .own 8, .own 9, .nils, .con eI], .mapc tI .bool, .mapc tI .bool, .rowc acd, .rowc ab1, .rowv adD]⟩, [m5])] }
noncomputable def akB (ρ : Type) : acD ρ := ⟨[], 79, 8, aIJ, fun (p : Val (.pair m5 (.pair tI (.pair tI (.pair tI (.pair l5 (.pair eI (.pair m5 (.pair eW (.pair eI (.pair tI (.pair tI (.pair l5 (.pair eI (.pair m5 (.pair eW (.pair eI (.pair tI (.pair tI (.pair eI (.pair abq (.pair abq (.pair l5 eI))))))))))))))))))))))) (v : Val (.pair tI m5)) kn kx => alR p.1 p.2.1 p.2.2.2.2.2.2.2.2.2.2.2.2.2.2.2.2.2.2.2.1 v.1 v.2 (fun u0 u1 => kn (u0, u1)) (kx 0)⟩
noncomputable def aII : ab8 := { pin := 0, cs := [eW, tI, tI, tI, l5, eI, m5, eW, eI, tI, tI, eI, abq, l5, eI, m5], vs := [tI, eW], head := ⟨130, aN 6 (.box 0 0 :: .any :: .box 1 0 :: aN 6 (.box 2 0 :: aN 88 [.con eW, .con tI, .var tI])), [.cells [.con tI, .con tI, .con l5, .con eI, .con m5, .con eW, .con eI], .cells [.omp 3], .cells [.con tI, .con tI, .own 4, .own 5, .own 6, .own 7, .con eI], .mapc tI .bool, .rowc acd, .rowc ab1, .rowc adD, .rowv ab9]⟩, exits := [(.exit 10, ⟨130, aN 6 (.box 0 0 :: .any :: .box 1 0 :: aN 6 (.box 2 0 :: aN 88 [.con eW, .con tI])), [.cells [.con tI, .con tI, .con l5, .con eI, .con m5, .con eW, .con eI], .cells [.omp 3], .cells [.con tI, .con tI, .own 4, .own 5, .own 6, .own 7, .con eI], .mapc tI .bool, .rowc acd, .rowc ab1, .rowc adD, .rowv ab9]⟩, [eW])] }
noncomputable def akA (ρ : Type) : acD ρ := ⟨[], 79, 10, aII, fun (p : Val (.pair eW (.pair tI (.pair tI (.pair tI (.pair l5 (.pair eI (.pair m5 (.pair eW (.pair eI (.pair tI (.pair tI (.pair eI (.pair abq (.pair l5 (.pair eI m5)))))))))))))))) (v : Val (.pair tI eW)) kn kx => alQ p.1 p.2.1 p.2.2.2.2.2.2.2.2.2.2.2.2.1 v.1 v.2 (fun u0 u1 => kn (u0, u1)) (kx 0)⟩
noncomputable def avC : List (Nat × acq) := [(94, ad4)]
noncomputable def arS (ρ : Type) : List (acD ρ) := [aw9 ρ, axa ρ, aw8 ρ, akC ρ, akB ρ, akA ρ]
noncomputable def aex (ρ : Type) : Env ρ := acr avC (arS ρ)
noncomputable def alP : Tpl := ⟨130, .any :: .any :: .any :: .box 0 0 :: .any :: .any :: .box 1 0 :: .box 2 0 :: .box 3 0 :: aN 6 (.box 4 0 :: aN 43 [.fn 218 [(5, 0), (6, 0)]]), [.cells [.var tI, .var tI, .var l5, .var eI, .var m5, .var eW, .var eI], .cells [.var tI, .var tI, .var l5, .var eI, .var m5, .var eW, .var eI], .cells [.omp 7], .cells [.omp 8], .cells [.con tI, .con tI, .own 9, .nils, .nils, .nils, .con eI], .cells [.var tI, .var tI, .var l5, .var eI, .var m5, .var eW, .var eI], .cells [.omp 7], .mapv tI .bool, .mapv tI .bool, .rowv acd]⟩
noncomputable def azV : Tpl := ⟨130, .any :: .any :: .any :: .box 0 0 :: .any :: .any :: .box 1 0 :: .box 2 0 :: .box 3 0 :: aN 6 (.box 4 0 :: .box 10 0 :: aN 42 [.fn 218 [(5, 0), (6, 0)]]), [.cells [.var tI, .var tI, .var l5, .var eI, .var m5, .var eW, .var eI], .cells [.var tI, .var tI, .var l5, .var eI, .var m5, .var eW, .var eI], .cells [.omp 7], .cells [.omp 8], .cells [.con tI, .con tI, .own 9, .nils, .nils, .nils, .con eI], .cells [.var tI, .var tI, .var l5, .var eI, .var m5, .var eW, .var eI], .cells [.omp 7], .mapv tI .bool, .mapv tI .bool, .rowv acd, .cells [.var tI, .var tI, .var tI, .var tI, .var tI, .var tI, .var tI, .var tI]]⟩
noncomputable def aky (ρ : Type) : List (acD ρ) := [akC ρ, akB ρ, akA ρ]
noncomputable def adg (ρ : Type) : Env ρ := { acr avC (aky ρ) with inl := fun _ => false }
noncomputable def ajR : Tpl := ⟨130, aN 6 [.box 0 0], [.cells [.var tI, .var tI, .var l5, .var eI, .var m5, .var eW, .var eI]]⟩
abbrev agb : List Ty := [tI, tI, l5, eI, m5, eW, eI]
noncomputable def ag0 (y : Val ab3) : Val abp := (y.1.1, y.1.2, y.2.1, y.2.2.1, y.2.2.2.1, y.2.2.2.2.1, y.2.2.2.2.2)
noncomputable def adk : Code := (ak1 Tryz.prog 79).getD .skip
abbrev afI : List Ty := [tI, tI, eI]
abbrev ah0 : List Ty := [tI, tI, l5, eI, m5, eW, eI, tI, tI, l5, eI, m5, eW, eI, tI, tI, l5, eI, m5, eW, eI, abq, abq, l5]
abbrev apR : List Ty := [tI, tI, l5, eI, m5, eW, eI, tI, tI, l5, eI, m5, eW, eI, tI, tI, l5, eI, m5, eW, eI, abq, abq, l5, tI, tI, tI, tI, tI, tI, tI, tI]
abbrev acG (v : Val wi) : List (Val acd) := v.2.2.2.2.2.2.2.2.2.2.2.2.2.2.2.2.1
abbrev ad5 (v : Val wi) : List (Int × Bool) := v.2.2.2.2.2.2.2.2.2.2.2.2.2.2.2.2.2.2.2.2.2.1
abbrev amH (v : Val wi) : List (Val acd) := v.2.2.2.2.2.2.2.2.2.2.2.2.2.2.2.2.2.2.2.2.2.2.2
noncomputable def adj (v : Val wi) (z : List (Val acd)) : Val wi := (v.1, v.2.1, v.2.2.1, v.2.2.2.1, v.2.2.2.2.1, v.2.2.2.2.2.1, v.2.2.2.2.2.2.1, v.2.2.2.2.2.2.2.1, v.2.2.2.2.2.2.2.2.1, v.2.2.2.2.2.2.2.2.2.1, v.2.2.2.2.2.2.2.2.2.2.1, v.2.2.2.2.2.2.2.2.2.2.2.1, v.2.2.2.2.2.2.2.2.2.2.2.2.1, v.2.2.2.2.2.2.2.2.2.2.2.2.2.1, v.2.2.2.2.2.2.2.2.2.2.2.2.2.2.1, v.2.2.2.2.2.2.2.2.2.2.2.2.2.2.2.1, v.2.2.2.2.2.2.2.2.2.2.2.2.2.2.2.2.1, v.2.2.2.2.2.2.2.2.2.2.2.2.2.2.2.2.2.1, v.2.2.2.2.2.2.2.2.2.2.2.2.2.2.2.2.2.2.1, v.2.2.2.2.2.2.2.2.2.2.2.2.2.2.2.2.2.2.2.1, v.2.2.2.2.2.2.2.2.2.2.2.2.2.2.2.2.2.2.2.2.1, v.2.2.2.2.2.2.2.2.2.2.2.2.2.2.2.2.2.2.2.2.2.1, v.2.2.2.2.2.2.2.2.2.2.2.2.2.2.2.2.2.2.2.2.2.2.1, z)
noncomputable def arT (v : Val wi) (x : Val acd) : Val (.pair tI (.pair tI (.pair l5 (.pair eI (.pair m5 (.pair eW (.pair eI (.pair tI (.pair tI (.pair l5 (.pair eI (.pair m5 (.pair eW (.pair eI (.pair tI (.pair tI (.pair l5 (.pair eI (.pair m5 (.pair eW (.pair eI (.pair abq (.pair abq (.pair l5 abw)))))))))))))))))))))))) := (v.1, v.2.1, v.2.2.1, v.2.2.2.1, v.2.2.2.2.1, v.2.2.2.2.2.1, v.2.2.2.2.2.2.1, v.2.2.2.2.2.2.2.1, v.2.2.2.2.2.2.2.2.1, v.2.2.2.2.2.2.2.2.2.1, v.2.2.2.2.2.2.2.2.2.2.1, v.2.2.2.2.2.2.2.2.2.2.2.1, v.2.2.2.2.2.2.2.2.2.2.2.2.1, v.2.2.2.2.2.2.2.2.2.2.2.2.2.1, v.2.2.2.2.2.2.2.2.2.2.2.2.2.2.1, v.2.2.2.2.2.2.2.2.2.2.2.2.2.2.2.1, v.2.2.2.2.2.2.2.2.2.2.2.2.2.2.2.2.1, v.2.2.2.2.2.2.2.2.2.2.2.2.2.2.2.2.2.1, v.2.2.2.2.2.2.2.2.2.2.2.2.2.2.2.2.2.2.1, v.2.2.2.2.2.2.2.2.2.2.2.2.2.2.2.2.2.2.2.1, v.2.2.2.2.2.2.2.2.2.2.2.2.2.2.2.2.2.2.2.2.1, v.2.2.2.2.2.2.2.2.2.2.2.2.2.2.2.2.2.2.2.2.2.1, v.2.2.2.2.2.2.2.2.2.2.2.2.2.2.2.2.2.2.2.2.2.2.1, v.2.2.2.2.2.2.2.2.2.2.2.2.2.2.2.2.2.2.2.2.2.2.2, x.1, x.2.1, x.2.2.1, x.2.2.2.1.1, x.2.2.2.1.2, x.2.2.2.2.1.1, x.2.2.2.2.1.2, x.2.2.2.2.2)
end Go.Proofs.ZzM
end

noncomputable section
set_option maxRecDepth 100000
namespace Go.Proofs.ZzM
open Go Go.Am
def aDP : acq := ⟨[ab9], [.bool], fun (x : Val ab9) => ap5 x⟩
def aFt : List (Nat × acq) := []
def aqI (ρ : Type) : List (acD ρ) := []
def aw3 (ρ : Type) : Env ρ := acr aFt (aqI ρ)
def aME : acq := ⟨[ab3], [.bool], fun (x : Val ab3) => auL x⟩
def aFr : ab8 := { pin := 0, cs := [tI, tI, l5, eI, m5, eW, eI], vs := [tI], head := ⟨50, [.any, .box 0 0, .any, .var tI], [.cells [.con tI, .con tI, .con l5, .con eI, .con m5, .con eW, .con eI]]⟩, exits := [(.ret, ⟨50, [.any, .box 0 0, .var .bool], [.cells [.con tI, .con tI, .con l5, .con eI, .con m5, .con eW, .con eI]]⟩, [.bool]), (.exit 0, ⟨50, [.any, .box 0 0], [.cells [.con tI, .con tI, .con l5, .con eI, .con m5, .con eW, .con eI]]⟩, [])] }
def as1 (ρ : Type) : acD ρ := ⟨[], 13, 0, aFr, fun (p : Val abp) (v : Val tI) kn kx => amx p.2.2.2.2.2.1 v (fun u0 => kn u0) (kx 0) (kx 1)⟩
def aK3 : List (Nat × acq) := [(29, aDP)]
def aw2 (ρ : Type) : List (acD ρ) := [as1 ρ]
def avr (ρ : Type) : Env ρ := acr aK3 (aw2 ρ)
def aMJ : acq := ⟨[ab3, acd, tI, tI], [tI], fun (x : Val (.pair ab3 (.pair acd ab1))) => ap8 x.1 x.2.1 x.2.2.1 x.2.2.2⟩
def aGs : ab8 := { pin := 0, cs := [tI, tI, m5, tI, tI, tI, l5, eI, m5, eW, eI, tI, tI, tI, tI, tI, tI, tI, tI], vs := [tI, tI], head := ⟨88, .any :: .any :: .con tI :: .con tI :: .box 0 0 :: .box 1 0 :: .any :: .any :: .any :: .var tI :: aN 7 [.con m5, .con tI, .var tI], [.cells [.con tI, .con tI, .con l5, .con eI, .con m5, .con eW, .con eI], .cells [.con tI, .con tI, .con tI, .con tI, .con tI, .con tI, .con tI, .con tI]]⟩, exits := [(.exit 0, ⟨88, .any :: .any :: .con tI :: .con tI :: .box 0 0 :: .box 1 0 :: .any :: .any :: .any :: .var tI :: aN 7 [.con m5, .con tI], [.cells [.con tI, .con tI, .con l5, .con eI, .con m5, .con eW, .con eI], .cells [.con tI, .con tI, .con tI, .con tI, .con tI, .con tI, .con tI, .con tI]]⟩, [tI])] }
def auh (ρ : Type) : acD ρ := ⟨[], 54, 0, aGs, fun (p : Val (.pair tI (.pair tI (.pair m5 abK)))) (v : Val ab1) kn kx => am5 p.1 p.2.1 p.2.2.1 p.2.2.2.1 p.2.2.2.2.2.2.2.2.2.2.2.1 v.1 v.2 (fun u0 u1 => kn (u0, u1)) (kx 0)⟩
def aGr : ab8 := { pin := 0, cs := [tI, tI, tI, eI, tI, tI, tI, tI, tI, tI, tI, tI, tI], vs := [tI, f6], head := ⟨88, .any :: .any :: .con tI :: .con tI :: .any :: .box 0 0 :: .any :: .any :: .any :: .con tI :: .any :: .any :: .any :: .own 1 :: aN 39 [.con eI, .con tI, .var tI], [.cells [.con tI, .con tI, .con tI, .con tI, .con tI, .con tI, .con tI, .con tI], .rowv tI]⟩, exits := [(.exit 2, ⟨88, .any :: .any :: .con tI :: .con tI :: .any :: .box 0 0 :: .any :: .any :: .any :: .con tI :: .any :: .any :: .any :: .own 1 :: aN 39 [.con eI, .con tI], [.cells [.con tI, .con tI, .con tI, .con tI, .con tI, .con tI, .con tI, .con tI], .rowv tI]⟩, [f6])] }
def aug (ρ : Type) : acD ρ := ⟨[], 54, 2, aGr, fun (p : Val (.pair tI (.pair tI (.pair tI (.pair eI (.pair tI abw)))))) (v : Val abz) kn kx => am4 p.1 p.2.1 p.2.2.2.1 p.2.2.2.2.1 p.2.2.2.2.2.1 v.1 v.2 (fun u0 u1 => kn (u0, u1)) (kx 0)⟩
def aLt : List (Nat × acq) := [(126, af8)]
def axu (ρ : Type) : List (acD ρ) := [auh ρ, aug ρ]
def apX (ρ : Type) : Env ρ := acr aLt (axu ρ)
def aes : acq := ⟨[eI, ab1], [tI], fun (x : Val abV) => acL x.1 x.2⟩
def ahB : ab8 := { pin := 0, cs := [eI, tI, tI, tI], vs := [tI], head := ⟨19, [.con eI, .any, .any, .box 0 0, .any, .any, .any, .con tI, .var tI], [.cells [.con tI, .con tI]]⟩, exits := [(.ret, ⟨19, [.con eI, .any, .any, .box 0 0, .var tI, .any, .any, .con tI], [.cells [.con tI, .con tI]]⟩, [tI]), (.exit 0, ⟨19, [.con eI, .any, .any, .box 0 0, .any, .any, .any, .con tI], [.cells [.con tI, .con tI]]⟩, [])] }
def ae3 (ρ : Type) : acD ρ := ⟨[], 130, 0, ahB, fun (p : Val (.pair eI ac1)) (v : Val tI) kn kx => ado p.1 p.2.1 p.2.2.1 p.2.2.2 v (fun u0 => kn u0) (kx 0) (kx 1)⟩
def aiu : List (Nat × acq) := []
def afe (ρ : Type) : List (acD ρ) := [ae3 ρ]
def ad8 (ρ : Type) : Env ρ := acr aiu (afe ρ)
def aoo : acq := ⟨[abB, f6, tI], [tI], fun (x : Val (.pair abB abE)) => afr x.1 x.2.1 x.2.2⟩
def aAS : List (Nat × acq) := [(130, aes)]
def an1 (ρ : Type) : List (acD ρ) := []
def aq7 (ρ : Type) : Env ρ := acr aAS (an1 ρ)
def anF : acq := ⟨[abu, f6], [ab1], fun (x : Val (.pair abu f6)) => afG x.1 x.2⟩
def ar7 : List (Nat × acq) := []
def ai2 (ρ : Type) : List (acD ρ) := []
def akN (ρ : Type) : Env ρ := acr ar7 (ai2 ρ)
def alE : acq := ⟨[eI], [tI], fun (x : Val eI) => agD x⟩
def aCY : ab8 := { pin := 0, cs := [eI, tI], vs := [tI], head := ⟨15, aN 5 [.con eI, .con tI, .var tI], []⟩, exits := [(.ret, ⟨15, [.any, .any, .var tI, .any, .any, .con eI, .con tI], []⟩, [tI]), (.exit 0, ⟨15, aN 5 [.con eI, .con tI], []⟩, [])] }
def aq3 (ρ : Type) : acD ρ := ⟨[], 227, 0, aCY, fun (p : Val (.pair eI tI)) (v : Val tI) kn kx => akL p.1 p.2 v (fun u0 => kn u0) (kx 0) (kx 1)⟩
def aI1 : List (Nat × acq) := [(219, asN)]
def atU (ρ : Type) : List (acD ρ) := [aq3 ρ]
def ar2 (ρ : Type) : Env ρ := acr aI1 (atU ρ)
def arC : acq := ⟨[tI, tI], [ab1, tI], fun (x : Val ab1) => aj9 x.1 x.2⟩
def aCZ : List (Nat × acq) := [(259, aE8), (260, aKU)]
def aoX (ρ : Type) : List (acD ρ) := []
def atV (ρ : Type) : Env ρ := acr aCZ (aoX ρ)
def aPl : acq := ⟨[ab1, ab1], [ab1, tI], fun (x : Val acQ) => aG5 x.1 x.2⟩
def aN4 : List (Nat × acq) := [(227, alE), (277, arC)]
def aAE (ρ : Type) : List (acD ρ) := []
def aI7 (ρ : Type) : Env ρ := acr aN4 (aAE ρ)
def asP : acq := ⟨[ab1, ab1], [ab1], fun (x : Val acQ) => ann x.1 x.2⟩
def aym : List (Nat × acq) := [(262, aPl)]
def al5 (ρ : Type) : List (acD ρ) := []
def ao0 (ρ : Type) : Env ρ := acr aym (al5 ρ)
def aKV : acq := ⟨[ab1, ab1], [tI], fun (x : Val acQ) => aBt x.1 x.2⟩
def aN3 : List (Nat × acq) := []
def aAB (ρ : Type) : List (acD ρ) := []
def aI5 (ρ : Type) : Env ρ := acr aN3 (aAB ρ)
def aqD : acq := ⟨[acQ], [.bool], fun (x : Val acQ) => als x⟩
def av0 : List (Nat × acq) := [(227, alE), (287, aKV)]
def akM (ρ : Type) : List (acD ρ) := []
def anX (ρ : Type) : Env ρ := acr av0 (akM ρ)
def aPm : acq := ⟨[ab1, ab1], [ab1, tI], fun (x : Val acQ) => aBv x.1 x.2⟩
def aN5 : List (Nat × acq) := [(227, alE), (277, arC)]
def aAG (ρ : Type) : List (acD ρ) := []
def aI9 (ρ : Type) : Env ρ := acr aN5 (aAG ρ)
def aIi : acq := ⟨[acQ, ab1], [acQ, tI], fun (x : Val (.pair acQ ab1)) => aBu x.1 x.2⟩
def axp : List (Nat × acq) := [(219, asN), (278, aqD), (281, aPm), (287, aKV)]
def amV (ρ : Type) : List (acD ρ) := []
def axo : List aRq := [⟨[3, 2], 279, 0, 4⟩]
def aI8 (ρ : Type) : Env ρ := acr axp (amV ρ)
def ar5 (ρ : Type) : Env ρ := aS0 axp (amV ρ) axo
def asO : acq := ⟨[ab1, ab1], [acQ], fun (x : Val acQ) => ajj x.1 x.2⟩
def ayl : List (Nat × acq) := [(263, aIi)]
def al4 (ρ : Type) : List (acD ρ) := []
def aoZ (ρ : Type) : Env ρ := acr ayl (al4 ρ)
def avm : acq := ⟨[ab3, ab9], [acQ], fun (x : Val abI) => ajz x.1 x.2⟩
def aGA : List (Nat × acq) := [(53, arD), (88, apN), (224, anF), (225, asP), (226, asO)]
def ara (ρ : Type) : List (acD ρ) := []
def axx (ρ : Type) : Env ρ := acr aGA (ara ρ)
def azz : acq := ⟨[ab3, ab9], [ab1], fun (x : Val abI) => amj x.1 x.2⟩
def aJk : List (Nat × acq) := []
def aum (ρ : Type) : List (acD ρ) := []
def aAX (ρ : Type) : Env ρ := acr aJk (aum ρ)
def azw : acq := ⟨[tI, tI], [tI], fun (x : Val ab1) => apr x.1 x.2⟩
def aI4 : List (Nat × acq) := []
def atW (ρ : Type) : List (acD ρ) := []
def aAz (ρ : Type) : Env ρ := acr aI4 (atW ρ)
def aE9 : acq := ⟨[ab1], [tI, tI], fun (x : Val ab1) => auT x⟩
def aLq : List (Nat × acq) := [(227, alE), (228, azw)]
def axq (ρ : Type) : List (acD ρ) := []
def aEa (ρ : Type) : Env ρ := acr aLq (axq ρ)
def azx : acq := ⟨[ab1], [tI, tI], fun (x : Val ab1) => apt x⟩
def aJa : List (Nat × acq) := [(227, alE), (228, azw)]
def atZ (ρ : Type) : List (acD ρ) := []
def aAH (ρ : Type) : Env ρ := acr aJa (atZ ρ)
def aFa : acq := ⟨[ab3, ab9], [ab1], fun (x : Val abI) => anm x.1 x.2⟩
def aLr : List (Nat × acq) := [(171, avm), (172, azz), (173, aE9), (174, azx)]
def axs (ρ : Type) : List (acD ρ) := []
def aEb (ρ : Type) : Env ρ := acr aLr (axs ρ)
def ayH : acq := ⟨[ab3], [abB], fun (x : Val ab3) => ap7 x⟩
def aGo : ab8 := { pin := 2, cs := [tI, f6, tI, l5, tI, tI, tI, tI, l5, eI, m5, eW, eI, tI, tI, l5, eI, m5, eW, eI, eI, tI, tI, tI, tI, tI, tI, tI, tI, tI], vs := [tI, abo, eI], head := ⟨144, .box 1 0 :: .any :: .con tI :: .box 2 0 :: .con f6 :: .con tI :: .var tI :: aN 24 [.con l5, .con tI, .con tI], [.cells [.con tI, .con tI, .con l5, .con eI, .con m5, .con eW, .con eI], .cells [.con tI, .con tI, .con l5, .con eI, .con m5, .con eW, .con eI, .con eI, .con tI, .own 3, .own 4], .cells [.con tI, .con tI, .con tI, .con tI, .con tI, .con tI, .con tI, .con tI], .rowv ac1, .rowv ab1]⟩, exits := [(.exit 2, ⟨144, .box 1 0 :: .any :: .con tI :: .box 2 0 :: .con f6 :: .con tI :: aN 25 [.con l5, .con tI, .con tI], [.cells [.con tI, .con tI, .con l5, .con eI, .con m5, .con eW, .con eI], .cells [.con tI, .con tI, .con l5, .con eI, .con m5, .con eW, .con eI, .con eI, .con tI, .own 3, .own 4], .cells [.con tI, .con tI, .con tI, .con tI, .con tI, .con tI, .con tI, .con tI], .rowv ac1, .rowv ab1]⟩, [abo, eI])] }
def aue (ρ : Type) : acD ρ := ⟨[2, 1], 132, 2, aGo, fun (p : Val (.pair tI (.pair f6 (.pair tI (.pair l5 (.pair tI (.pair tI (.pair tI (.pair tI (.pair l5 (.pair eI (.pair m5 (.pair eW (.pair eI (.pair tI (.pair tI (.pair l5 (.pair eI (.pair m5 (.pair eW (.pair eI (.pair eI (.pair tI abw))))))))))))))))))))))) (v : Val (.pair tI asx)) kn kx => am2 p.1 p.2.1 p.2.2.1 p.2.2.2.2.2.2.2.2.2.2.2.2.2.1 p.2.2.2.2.2.2.2.2.2.2.2.2.2.2.1 p.2.2.2.2.2.2.2.2.2.2.2.2.2.2.2.1 p.2.2.2.2.2.2.2.2.2.2.2.2.2.2.2.2.1 p.2.2.2.2.2.2.2.2.2.2.2.2.2.2.2.2.2.1 p.2.2.2.2.2.2.2.2.2.2.2.2.2.2.2.2.2.2.1 p.2.2.2.2.2.2.2.2.2.2.2.2.2.2.2.2.2.2.2.1 p.2.2.2.2.2.2.2.2.2.2.2.2.2.2.2.2.2.2.2.2.2.2.1 p.2.2.2.2.2.2.2.2.2.2.2.2.2.2.2.2.2.2.2.2.2.2.2.1 p.2.2.2.2.2.2.2.2.2.2.2.2.2.2.2.2.2.2.2.2.2.2.2.2.1 p.2.2.2.2.2.2.2.2.2.2.2.2.2.2.2.2.2.2.2.2.2.2.2.2.2.1 p.2.2.2.2.2.2.2.2.2.2.2.2.2.2.2.2.2.2.2.2.2.2.2.2.2.2.1 p.2.2.2.2.2.2.2.2.2.2.2.2.2.2.2.2.2.2.2.2.2.2.2.2.2.2.2.1 p.2.2.2.2.2.2.2.2.2.2.2.2.2.2.2.2.2.2.2.2.2.2.2.2.2.2.2.2.1 p.2.2.2.2.2.2.2.2.2.2.2.2.2.2.2.2.2.2.2.2.2.2.2.2.2.2.2.2.2 v.1 v.2.1 v.2.2 (fun u0 u1 u2 => kn (u0, u1, u2)) (kx 0)⟩
def aGp : ab8 := { pin := 2, cs := [l5, tI, tI, tI, l5, eI, m5, eW, eI, tI, tI, l5, eI, m5, eW, eI, eI, tI], vs := [tI, abo, eI], head := ⟨144, .box 1 0 :: aN 30 [.con l5, .con tI, .var tI], [.cells [.con tI, .con tI, .con l5, .con eI, .con m5, .con eW, .con eI], .cells [.con tI, .con tI, .con l5, .con eI, .con m5, .con eW, .con eI, .con eI, .con tI, .own 2, .own 3], .rowv ac1, .rowv ab1]⟩, exits := [(.exit 0, ⟨144, .box 1 0 :: aN 30 [.con l5, .con tI], [.cells [.con tI, .con tI, .con l5, .con eI, .con m5, .con eW, .con eI], .cells [.con tI, .con tI, .con l5, .con eI, .con m5, .con eW, .con eI, .con eI, .con tI, .own 2, .own 3], .rowv ac1, .rowv ab1]⟩, [abo, eI])] }
def auf (ρ : Type) : acD ρ := ⟨[2, 1], 132, 0, aGp, fun (p : Val (.pair l5 (.pair tI (.pair tI (.pair tI (.pair l5 (.pair eI (.pair m5 (.pair eW (.pair eI (.pair tI (.pair tI (.pair l5 (.pair eI (.pair m5 (.pair eW (.pair eI (.pair eI tI)))))))))))))))))) (v : Val (.pair tI asx)) kn kx => am3 p.1 p.2.1 p.2.2.2.2.2.2.2.2.2.1 p.2.2.2.2.2.2.2.2.2.2.1 p.2.2.2.2.2.2.2.2.2.2.2.1 p.2.2.2.2.2.2.2.2.2.2.2.2.1 p.2.2.2.2.2.2.2.2.2.2.2.2.2.1 p.2.2.2.2.2.2.2.2.2.2.2.2.2.2.1 p.2.2.2.2.2.2.2.2.2.2.2.2.2.2.2.1 p.2.2.2.2.2.2.2.2.2.2.2.2.2.2.2.2.1 p.2.2.2.2.2.2.2.2.2.2.2.2.2.2.2.2.2 v.1 v.2.1 v.2.2 (fun u0 u1 u2 => kn (u0, u1, u2)) (kx 0)⟩
def aGn : ab8 := { pin := 2, cs := [eW, tI, tI, tI, l5, eI, m5, eW, eI, tI, tI, l5, eI, m5, eW, eI, eI, tI], vs := [tI, abo, eI], head := ⟨144, .box 1 0 :: aN 107 [.con eW, .con tI, .var tI], [.cells [.con tI, .con tI, .con l5, .con eI, .con m5, .con eW, .con eI], .cells [.con tI, .con tI, .con l5, .con eI, .con m5, .con eW, .con eI, .con eI, .con tI, .own 2, .own 3], .rowv ac1, .rowv ab1]⟩, exits := [(.exit 4, ⟨144, .box 1 0 :: aN 107 [.con eW, .con tI], [.cells [.con tI, .con tI, .con l5, .con eI, .con m5, .con eW, .con eI], .cells [.con tI, .con tI, .con l5, .con eI, .con m5, .con eW, .con eI, .con eI, .con tI, .own 2, .own 3], .rowv ac1, .rowv ab1]⟩, [abo, eI])] }
def aud (ρ : Type) : acD ρ := ⟨[2, 1], 132, 4, aGn, fun (p : Val (.pair eW (.pair tI (.pair tI (.pair tI (.pair l5 (.pair eI (.pair m5 (.pair eW (.pair eI (.pair tI (.pair tI (.pair l5 (.pair eI (.pair m5 (.pair eW (.pair eI (.pair eI tI)))))))))))))))))) (v : Val (.pair tI asx)) kn kx => am1 p.1 p.2.1 p.2.2.2.2.2.2.2.2.2.1 p.2.2.2.2.2.2.2.2.2.2.1 p.2.2.2.2.2.2.2.2.2.2.2.1 p.2.2.2.2.2.2.2.2.2.2.2.2.1 p.2.2.2.2.2.2.2.2.2.2.2.2.2.1 p.2.2.2.2.2.2.2.2.2.2.2.2.2.2.1 p.2.2.2.2.2.2.2.2.2.2.2.2.2.2.2.1 p.2.2.2.2.2.2.2.2.2.2.2.2.2.2.2.2.1 p.2.2.2.2.2.2.2.2.2.2.2.2.2.2.2.2.2 v.1 v.2.1 v.2.2 (fun u0 u1 u2 => kn (u0, u1, u2)) (kx 0)⟩
def aLs : List (Nat × acq) := [(54, aMJ), (85, asQ), (87, aoo), (88, apN), (168, aFb), (200, aFa)]
def axt (ρ : Type) : List (acD ρ) := [aue ρ, auf ρ, aud ρ]
def al6 (ρ : Type) : Env ρ := acr aLs (axt ρ)
def ael : acq := ⟨[ab3], [acb, eI, tI], fun (x : Val ab3) => adp x⟩
def aGJ : List (Nat × acq) := [(38, adY), (62, ayH)]
def arb (ρ : Type) : List (acD ρ) := []
def axB (ρ : Type) : Env ρ := acr aGJ (arb ρ)
def afV : acq := ⟨[ab3, ab1], [tI, tI], fun (x : Val abL) => ad1 x.1 x.2⟩
def aJq : List (Nat × acq) := [(38, adY), (85, asQ), (130, aes)]
def auw (ρ : Type) : List (acD ρ) := []
def aA0 (ρ : Type) : Env ρ := acr aJq (auw ρ)
def agL : acq := ⟨[abx, ab1], [tI], fun (x : Val abO) => aeZ x.1 x.2⟩
def aCl : List (Nat × acq) := [(60, afV)]
def aoC (ρ : Type) : List (acD ρ) := []
def as8 (ρ : Type) : Env ρ := acr aCl (aoC ρ)
def ayG : acq := ⟨[acb, tI], [.bool], fun (x : Val (.pair acb tI)) => akX x.1 x.2⟩
def aLb : List (Nat × acq) := []
def axe (ρ : Type) : List (acD ρ) := []
def aD4 (ρ : Type) : Env ρ := acr aLb (axe ρ)
def ajH : acq := ⟨[acb], [tI, tI], fun (x : Val acb) => ahx x⟩
def aCU : ab8 := { pin := 0, cs := [abo, tI, tI, abo], vs := [tI], head := ⟨57, .any :: .box 0 0 :: aN 17 [.con abo, .con tI, .var tI], [.cells [.con tI, .con abo]]⟩, exits := [(.ret, ⟨57, .any :: .box 0 0 :: .var tI :: .var tI :: aN 15 [.con abo, .con tI], [.cells [.con tI, .con abo]]⟩, [tI, tI]), (.exit 0, ⟨57, .any :: .box 0 0 :: aN 17 [.con abo, .con tI], [.cells [.con tI, .con abo]]⟩, [])] }
def aqZ (ρ : Type) : acD ρ := ⟨[], 133, 0, aCU, fun (p : Val (.pair abo abH)) (v : Val tI) kn kx => akG p.1 p.2.1 p.2.2.1 p.2.2.2 v (fun u0 => kn u0) (kx 0) (kx 1)⟩
def aIY : List (Nat × acq) := [(134, ayG)]
def atN (ρ : Type) : List (acD ρ) := [aqZ ρ]
def ar1 (ρ : Type) : Env ρ := acr aIY (atN ρ)
def akn : acq := ⟨[acb, abq], [f6, .bool], fun (x : Val (.pair acb abq)) => ag4 x.1 x.2⟩
def avT : ab8 := { pin := 2, cs := [abq, abo, tI, tI, abo, f6, tI, abo, aby, f6], vs := [tI, tI], head := ⟨140, .any :: .con abq :: .own 1 :: .box 2 0 :: .any :: .any :: .any :: .box 3 0 :: .own 4 :: .own 5 :: .var tI :: aN 14 [.con abo, .con tI, .var tI], [.cells [.con tI, .con abo], .rowc tI, .cells [.con tI, .con abo], .cells [.nils], .rowc .bool, .rowc tI]⟩, exits := [(.exit 0, ⟨140, .any :: .con abq :: .own 1 :: .box 2 0 :: .any :: .any :: .any :: .box 3 0 :: .own 4 :: .own 5 :: .var tI :: aN 14 [.con abo, .con tI], [.cells [.con tI, .con abo], .rowc tI, .cells [.con tI, .con abo], .cells [.nils], .rowc .bool, .rowc tI]⟩, [tI])] }
def al3 (ρ : Type) : acD ρ := ⟨[2, 3], 136, 0, avT, fun (p : Val (.pair abq (.pair abo (.pair tI (.pair tI (.pair abo (.pair f6 (.pair tI (.pair abo abJ))))))))) (v : Val ab1) kn kx => afh p.2.1 p.2.2.1 v.1 v.2 (fun u0 u1 => kn (u0, u1)) (kx 0)⟩
def avS : ab8 := { pin := 2, cs := [abq, tI, tI, tI, abo, f6, tI, abo, f6], vs := [tI, aby, f6], head := ⟨140, .any :: .con abq :: .own 1 :: .box 2 0 :: .any :: .any :: .any :: .box 3 0 :: .own 4 :: .own 5 :: .con tI :: aN 27 [.con tI, .var tI], [.cells [.con tI, .con abo], .rowc tI, .cells [.con tI, .con abo], .cells [.own 6], .rowv .bool, .rowc tI, .rowv tI]⟩, exits := [(.exit 2, ⟨140, .any :: .con abq :: .own 1 :: .box 2 0 :: .any :: .any :: .any :: .box 3 0 :: .own 4 :: .own 5 :: .con tI :: aN 27 [.con tI], [.cells [.con tI, .con abo], .rowc tI, .cells [.con tI, .con abo], .cells [.own 6], .rowv .bool, .rowc tI, .rowv tI]⟩, [aby, f6])] }
def al2 (ρ : Type) : acD ρ := ⟨[2, 3], 136, 2, avS, fun (p : Val (.pair abq (.pair tI (.pair tI (.pair tI (.pair abo (.pair f6 (.pair tI (.pair abo f6))))))))) (v : Val (.pair tI abJ)) kn kx => ad0 p.2.2.1 p.2.2.2.2.2.1 v.1 v.2.1 v.2.2 (fun u0 u1 u2 => kn (u0, u1, u2)) (kx 0)⟩
def avQ : ab8 := { pin := 2, cs := [abq, tI, tI, abo, tI, tI, abo, tI, abo, f6], vs := [tI, f6, aby, f6], head := ⟨140, .any :: .con abq :: .own 1 :: .box 2 0 :: .any :: .any :: .any :: .box 3 0 :: .own 4 :: .own 5 :: .con tI :: .any :: .any :: .any :: .con tI :: aN 62 [.con abo, .con tI, .var tI], [.cells [.con tI, .con abo], .rowv tI, .cells [.con tI, .con abo], .cells [.own 6], .rowv .bool, .rowc tI, .rowv tI]⟩, exits := [(.ret, ⟨140, .any :: .con abq :: .own 1 :: .box 2 0 :: .any :: .any :: .var .bool :: .box 3 0 :: .own 4 :: .own 5 :: .con tI :: .any :: .any :: .any :: .con tI :: aN 62 [.con abo, .con tI], [.cells [.con tI, .con abo], .rowv tI, .cells [.con tI, .con abo], .cells [.own 6], .rowv .bool, .rowc tI, .rowv tI]⟩, [.bool, f6, aby, f6]), (.exit 6, ⟨140, .any :: .con abq :: .own 1 :: .box 2 0 :: .any :: .any :: .any :: .box 3 0 :: .own 4 :: .own 5 :: .con tI :: .any :: .any :: .any :: .con tI :: aN 62 [.con abo, .con tI], [.cells [.con tI, .con abo], .rowv tI, .cells [.con tI, .con abo], .cells [.own 6], .rowv .bool, .rowc tI, .rowv tI]⟩, [f6, aby, f6])] }
def al0 (ρ : Type) : acD ρ := ⟨[2, 3], 136, 6, avQ, fun (p : Val (.pair abq (.pair tI (.pair tI (.pair abo (.pair tI (.pair tI (.pair abo (.pair tI (.pair abo f6)))))))))) (v : Val (.pair tI abX)) kn kx => afX p.1 p.2.1 p.2.2.1 p.2.2.2.1 p.2.2.2.2.1 v.1 v.2.1 v.2.2.1 v.2.2.2 (fun u0 u1 u2 u3 => kn (u0, u1, u2, u3)) (kx 0) (kx 1)⟩
def avR : ab8 := { pin := 2, cs := [abq, tI, tI, abo, tI, abo], vs := [f6, aby, f6, f6], head := ⟨140, [.any, .con abq, .own 1, .box 2 0, .any, .any, .any, .box 3 0, .own 4, .own 5, .con tI], [.cells [.con tI, .con abo], .rowv tI, .cells [.con tI, .con abo], .cells [.own 6], .rowv .bool, .rowv tI, .rowv tI]⟩, exits := [(.ret, ⟨140, [.any, .con abq, .own 1, .box 2 0, .any, .any, .var .bool, .box 3 0, .own 4, .own 5, .con tI], [.cells [.con tI, .con abo], .rowv tI, .cells [.con tI, .con abo], .cells [.own 6], .rowv .bool, .rowv tI, .rowv tI]⟩, [.bool, f6, aby, f6, f6])] }
def al1 (ρ : Type) : acD ρ := ⟨[2, 3], 136, 4, avR, fun (p : Val (.pair abq (.pair tI (.pair tI (.pair abo acb))))) (v : Val abM) kn kx => adq p.1 p.2.1 p.2.2.2.2.1 p.2.2.2.2.2 v.1 v.2.1 v.2.2.1 v.2.2.2 (fun u0 u1 u2 u3 => kn (u0, u1, u2, u3)) (kx 0)⟩
def avP : ab8 := { pin := 0, cs := [tI, tI], vs := [tI, f6], head := ⟨34, aN 6 (.own 0 :: .con tI :: aN 13 [.con tI, .var tI]), [.rowv tI]⟩, exits := [(.exit 0, ⟨34, aN 6 (.own 0 :: .con tI :: aN 13 [.con tI]), [.rowv tI]⟩, [f6])] }
def alZ (ρ : Type) : acD ρ := ⟨[], 135, 0, avP, fun (p : Val ab1) (v : Val abz) kn kx => afW p.1 p.2 v.1 v.2 (fun u0 u1 => kn (u0, u1)) (kx 0)⟩
def az6 : List (Nat × acq) := []
def anS (ρ : Type) : List (acD ρ) := [al3 ρ, al2 ρ, al0 ρ, al1 ρ, alZ ρ]
def aeV (ρ : Type) : Env ρ := acr az6 (anS ρ)
def aIf : acq := ⟨[acb, f6], [tI], fun (x : Val abS) => auS x.1 x.2⟩
def aCM : ab8 := { pin := 0, cs := [f6, tI, tI, abo], vs := [tI], head := ⟨37, .any :: .any :: .box 0 0 :: aN 16 [.con f6, .con tI, .var tI], [.cells [.con tI, .con abo]]⟩, exits := [(.ret, ⟨37, .any :: .any :: .box 0 0 :: .any :: .var tI :: aN 14 [.con f6, .con tI], [.cells [.con tI, .con abo]]⟩, [tI]), (.exit 0, ⟨37, .any :: .any :: .box 0 0 :: aN 16 [.con f6, .con tI], [.cells [.con tI, .con abo]]⟩, [])] }
def aqT (ρ : Type) : acD ρ := ⟨[], 63, 0, aCM, fun (p : Val (.pair f6 abH)) (v : Val tI) kn kx => akE p.1 p.2.1 p.2.2.1 p.2.2.2 v (fun u0 => kn u0) (kx 0) (kx 1)⟩
def aIV : List (Nat × acq) := [(133, ajH), (134, ayG), (135, akn)]
def atI (ρ : Type) : List (acD ρ) := [aqT ρ]
def ar0 (ρ : Type) : Env ρ := acr aIV (atI ρ)
def aDR : acq := ⟨[acb, abq, tI], [f6], fun (x : Val (.pair acb (.pair abq tI))) => ap6 x.1 x.2.1 x.2.2⟩
def aAd : ab8 := { pin := 0, cs := [abq, tI, tI, tI, abo], vs := [tI, f6], head := ⟨29, .any :: .con abq :: .con tI :: .box 0 0 :: .any :: .any :: .any :: .own 1 :: aN 5 [.con tI, .var tI], [.cells [.con tI, .con abo], .rowv tI]⟩, exits := [(.exit 0, ⟨29, .any :: .con abq :: .con tI :: .box 0 0 :: .any :: .any :: .any :: .own 1 :: aN 5 [.con tI], [.cells [.con tI, .con abo], .rowv tI]⟩, [f6])] }
def aoW (ρ : Type) : acD ρ := ⟨[], 64, 0, aAd, fun (p : Val (.pair abq (.pair tI abH))) (v : Val abz) kn kx => ajd p.2.2.1 v.1 v.2 (fun u0 u1 => kn (u0, u1)) (kx 0)⟩
def aAc : ab8 := { pin := 2, cs := [abq, abo, tI, tI, abo, f6, tI, abo, aby, f6], vs := [tI, tI], head := ⟨140, .any :: .con abq :: .own 1 :: .box 2 0 :: .any :: .any :: .any :: .box 3 0 :: .own 4 :: .own 5 :: .var tI :: aN 14 [.con abo, .con tI, .var tI], [.cells [.con tI, .con abo], .rowc tI, .cells [.con tI, .con abo], .cells [.nils], .rowc .bool, .rowc tI]⟩, exits := [(.exit 0, ⟨140, .any :: .con abq :: .own 1 :: .box 2 0 :: .any :: .any :: .any :: .box 3 0 :: .own 4 :: .own 5 :: .var tI :: aN 14 [.con abo, .con tI], [.cells [.con tI, .con abo], .rowc tI, .cells [.con tI, .con abo], .cells [.nils], .rowc .bool, .rowc tI]⟩, [tI])] }
def aoV (ρ : Type) : acD ρ := ⟨[8, 3], 136, 0, aAc, fun (p : Val (.pair abq (.pair abo (.pair tI (.pair tI (.pair abo (.pair f6 (.pair tI (.pair abo abJ))))))))) (v : Val ab1) kn kx => amT p.2.1 p.2.2.1 v.1 v.2 (fun u0 u1 => kn (u0, u1)) (kx 0)⟩
def aAb : ab8 := { pin := 2, cs := [abq, tI, tI, tI, abo, f6, tI, abo, f6], vs := [tI, aby, f6], head := ⟨140, .any :: .con abq :: .own 1 :: .box 2 0 :: .any :: .any :: .any :: .box 3 0 :: .own 4 :: .own 5 :: .con tI :: aN 27 [.con tI, .var tI], [.cells [.con tI, .con abo], .rowc tI, .cells [.con tI, .con abo], .cells [.own 6], .rowv .bool, .rowc tI, .rowv tI]⟩, exits := [(.exit 2, ⟨140, .any :: .con abq :: .own 1 :: .box 2 0 :: .any :: .any :: .any :: .box 3 0 :: .own 4 :: .own 5 :: .con tI :: aN 27 [.con tI], [.cells [.con tI, .con abo], .rowc tI, .cells [.con tI, .con abo], .cells [.own 6], .rowv .bool, .rowc tI, .rowv tI]⟩, [aby, f6])] }
def aoU (ρ : Type) : acD ρ := ⟨[8, 3], 136, 2, aAb, fun (p : Val (.pair abq (.pair tI (.pair tI (.pair tI (.pair abo (.pair f6 (.pair tI (.pair abo f6))))))))) (v : Val (.pair tI abJ)) kn kx => amS p.2.2.1 p.2.2.2.2.2.1 v.1 v.2.1 v.2.2 (fun u0 u1 u2 => kn (u0, u1, u2)) (kx 0)⟩
def az9 : ab8 := { pin := 2, cs := [abq, tI, tI, abo, tI, tI, abo, tI, abo, f6], vs := [tI, f6, aby, f6], head := ⟨140, .any :: .con abq :: .own 1 :: .box 2 0 :: .any :: .any :: .any :: .box 3 0 :: .own 4 :: .own 5 :: .con tI :: .any :: .any :: .any :: .con tI :: aN 62 [.con abo, .con tI, .var tI], [.cells [.con tI, .con abo], .rowv tI, .cells [.con tI, .con abo], .cells [.own 6], .rowv .bool, .rowc tI, .rowv tI]⟩, exits := [(.ret, ⟨140, .any :: .con abq :: .own 1 :: .box 2 0 :: .any :: .any :: .var .bool :: .box 3 0 :: .own 4 :: .own 5 :: .con tI :: .any :: .any :: .any :: .con tI :: aN 62 [.con abo, .con tI], [.cells [.con tI, .con abo], .rowv tI, .cells [.con tI, .con abo], .cells [.own 6], .rowv .bool, .rowc tI, .rowv tI]⟩, [.bool, f6, aby, f6]), (.exit 6, ⟨140, .any :: .con abq :: .own 1 :: .box 2 0 :: .any :: .any :: .any :: .box 3 0 :: .own 4 :: .own 5 :: .con tI :: .any :: .any :: .any :: .con tI :: aN 62 [.con abo, .con tI], [.cells [.con tI, .con abo], .rowv tI, .cells [.con tI, .con abo], .cells [.own 6], .rowv .bool, .rowc tI, .rowv tI]⟩, [f6, aby, f6])] }
def aoS (ρ : Type) : acD ρ := ⟨[8, 3], 136, 6, az9, fun (p : Val (.pair abq (.pair tI (.pair tI (.pair abo (.pair tI (.pair tI (.pair abo (.pair tI (.pair abo f6)))))))))) (v : Val (.pair tI abX)) kn kx => atH p.1 p.2.1 p.2.2.1 p.2.2.2.1 p.2.2.2.2.1 v.1 v.2.1 v.2.2.1 v.2.2.2 (fun u0 u1 u2 u3 => kn (u0, u1, u2, u3)) (kx 0) (kx 1)⟩
def aAa : ab8 := { pin := 2, cs := [abq, tI, tI, abo, tI, abo], vs := [f6, aby, f6, f6], head := ⟨140, [.any, .con abq, .own 1, .box 2 0, .any, .any, .any, .box 3 0, .own 4, .own 5, .con tI], [.cells [.con tI, .con abo], .rowv tI, .cells [.con tI, .con abo], .cells [.own 6], .rowv .bool, .rowv tI, .rowv tI]⟩, exits := [(.ret, ⟨140, [.any, .con abq, .own 1, .box 2 0, .any, .any, .var .bool, .box 3 0, .own 4, .own 5, .con tI], [.cells [.con tI, .con abo], .rowv tI, .cells [.con tI, .con abo], .cells [.own 6], .rowv .bool, .rowv tI, .rowv tI]⟩, [.bool, f6, aby, f6, f6])] }
def aoT (ρ : Type) : acD ρ := ⟨[8, 3], 136, 4, aAa, fun (p : Val (.pair abq (.pair tI (.pair tI (.pair abo acb))))) (v : Val abM) kn kx => amR p.1 p.2.1 p.2.2.2.2.1 p.2.2.2.2.2 v.1 v.2.1 v.2.2.1 v.2.2.2 (fun u0 u1 u2 u3 => kn (u0, u1, u2, u3)) (kx 0)⟩
def aF1 : List (Nat × acq) := []
def aqS (ρ : Type) : List (acD ρ) := [aoW ρ, aoV ρ, aoU ρ, aoS ρ, aoT ρ]
def afY (ρ : Type) : Env ρ := acr aF1 (aqS ρ)
def asM : acq := ⟨[acb, tI, tI], [tI, tI], fun (x : Val abU) => aj8 x.1 x.2.1 x.2.2⟩
def aI0 : List (Nat × acq) := [(63, aIf), (64, aDR)]
def atT (ρ : Type) : List (acD ρ) := []
def aAs (ρ : Type) : Env ρ := acr aI0 (atT ρ)
def agw : acq := ⟨[abx, tI, tI], [tI], fun (x : Val abO) => acV x.1 x.2.1 x.2.2⟩
def avx : List (Nat × acq) := [(89, asM)]
def akv (ρ : Type) : List (acD ρ) := []
def anK (ρ : Type) : Env ρ := acr avx (akv ρ)
def ak4 : acq := ⟨[abx, ab1], [tI], fun (x : Val abO) => aeY x.1 x.2⟩
def avw : List (Nat × acq) := [(55, agL), (56, agw)]
def aku (ρ : Type) : List (acD ρ) := []
def anJ (ρ : Type) : Env ρ := acr avw (aku ρ)
def ahO : acq := ⟨[abx, ab1], [tI], fun (x : Val abO) => afj x.1 x.2⟩
def aqp : List (Nat × acq) := [(55, agL), (56, agw)]
def aix (ρ : Type) : List (acD ρ) := []
def ajN (ρ : Type) : Env ρ := acr aqp (aix ρ)
def af7 : acq := ⟨[abx, ab1], [ab1], fun (x : Val abO) => aen x.1 x.2⟩
def aqo : List (Nat × acq) := [(121, ak4), (122, ahO)]
def aiw (ρ : Type) : List (acD ρ) := []
def agQ (ρ : Type) : Env ρ := { acr aqo (aiw ρ) with hint := awn [(12, 121), (16, 122)] }
def ako : acq := ⟨[ab3, ab1], [ab3, tI], fun (x : Val abL) => agI x.1 x.2⟩
def aGL : ab8 := { pin := 6, cs := [tI, tI, tI, l5, eI, m5, eW, eI, tI, tI, tI, tI, tI, tI, l5, eI, m5, eW, eI, tI, tI, tI, tI, eW, tI, tI, l5, eI, m5, eI], vs := [tI, eW], head := ⟨50, .any :: .box 6 0 :: .box 7 0 :: .own 8 :: aN 21 [.own 8, .con tI, .var tI], [.cells [.con tI, .con tI, .con l5, .con eI, .con m5, .con eW, .con eI], .cells [.con tI, .con tI], .cells [.con tI, .con tI, .nils, .nils, .nils, .nils, .nils], .cells [.con tI, .con tI, .con l5, .con eI, .con m5, .con eW, .con eI], .cells [.con tI, .con tI, .nils, .nils, .nils, .nils, .nils], .dead, .cells [.con tI, .con tI, .own 9, .own 10, .own 11, .con eW, .own 12], .cells [.con tI, .con tI, .nils, .nils, .nils, .nils, .nils], .rowv ab9, .rowc acd, .rowc ab1, .rowc adD, .rowc ab1]⟩, exits := [(.exit 0, ⟨50, .any :: .box 6 0 :: .box 7 0 :: .own 8 :: aN 21 [.own 8, .con tI], [.cells [.con tI, .con tI, .con l5, .con eI, .con m5, .con eW, .con eI], .cells [.con tI, .con tI], .cells [.con tI, .con tI, .nils, .nils, .nils, .nils, .nils], .cells [.con tI, .con tI, .con l5, .con eI, .con m5, .con eW, .con eI], .cells [.con tI, .con tI, .nils, .nils, .nils, .nils, .nils], .dead, .cells [.con tI, .con tI, .own 9, .own 10, .own 11, .con eW, .own 12], .cells [.con tI, .con tI, .nils, .nils, .nils, .nils, .nils], .rowv ab9, .rowc acd, .rowc ab1, .rowc adD, .rowc ab1]⟩, [eW])] }
def auv (ρ : Type) : acD ρ := ⟨[1, 2, 4, 1], 175, 0, aGL, fun (p : Val (.pair tI (.pair tI (.pair tI (.pair l5 (.pair eI (.pair m5 (.pair eW (.pair eI (.pair tI (.pair tI (.pair tI (.pair tI (.pair tI (.pair tI (.pair l5 (.pair eI (.pair m5 (.pair eW (.pair eI (.pair tI (.pair tI (.pair tI (.pair tI (.pair eW (.pair tI (.pair tI (.pair l5 (.pair eI (.pair m5 eI)))))))))))))))))))))))))))))) (v : Val (.pair tI eW)) kn kx => anc p.1 v.1 v.2 (fun u0 u1 => kn (u0, u1)) (kx 0)⟩
def aLz : List (Nat × acq) := [(38, adY)]
def axD (ρ : Type) : List (acD ρ) := [auv ρ]
def awe (ρ : Type) : Env ρ := acr aLz (axD ρ)
def aei : acq := ⟨[acb], [.bool, tI], fun (x : Val acb) => adl x⟩
def avX : List (Nat × acq) := [(133, ajH), (135, akn)]
def akF (ρ : Type) : List (acD ρ) := []
def anU (ρ : Type) : Env ρ := acr avX (akF ρ)
def aon : acq := ⟨[ab3, ab1], [ab1, tI], fun (x : Val abL) => acU x.1 x.2⟩
def avH : ab8 := { pin := 4, cs := [tI, tI, tI, l5, eI, m5, eW, eI, tI, tI, tI, tI, eI], vs := [tI, tI, tI, l5, eI, m5, eW, eI], head := ⟨68, .any :: .any :: .box 4 0 :: aN 20 [.own 3, .con tI, .var tI], [.cells [.con tI, .con tI, .con l5, .con eI, .con m5, .con eW, .con eI], .cells [.con tI, .con tI], .cells [.con tI, .con tI], .rowc ab1, .cells [.var tI, .var tI, .var l5, .var eI, .var m5, .var eW, .var eI]]⟩, exits := [(.ret, ⟨68, .any :: .any :: .box 4 0 :: .any :: .nilp :: .var tI :: aN 17 [.own 3, .con tI], [.cells [.con tI, .con tI, .con l5, .con eI, .con m5, .con eW, .con eI], .cells [.con tI, .con tI], .cells [.con tI, .con tI], .rowc ab1, .cells [.var tI, .var tI, .var l5, .var eI, .var m5, .var eW, .var eI]]⟩, [tI, tI, tI, l5, eI, m5, eW, eI]), (.exit 0, ⟨68, .any :: .any :: .box 4 0 :: aN 20 [.own 3, .con tI], [.cells [.con tI, .con tI, .con l5, .con eI, .con m5, .con eW, .con eI], .cells [.con tI, .con tI], .cells [.con tI, .con tI], .rowc ab1, .cells [.var tI, .var tI, .var l5, .var eI, .var m5, .var eW, .var eI]]⟩, [tI, tI, l5, eI, m5, eW, eI])] }
def alW (ρ : Type) : acD ρ := ⟨[1, 3], 50, 0, avH, fun (p : Val (.pair tI (.pair tI (.pair tI (.pair l5 (.pair eI (.pair m5 (.pair eW (.pair eI (.pair tI (.pair tI abQ))))))))))) (v : Val abA) kn kx => ac2 p.1 p.2.2.2.2.2.2.2.2.2.2.2.2 v.1 v.2.1 v.2.2.1 v.2.2.2.1 v.2.2.2.2.1 v.2.2.2.2.2.1 v.2.2.2.2.2.2.1 v.2.2.2.2.2.2.2 (fun u0 u1 u2 u3 u4 u5 u6 u7 => kn (u0, u1, u2, u3, u4, u5, u6, u7)) (kx 0) (kx 1)⟩
def az1 : List (Nat × acq) := [(20, ael), (38, adY), (51, af7), (60, afV), (61, ako), (123, aei)]
def anN (ρ : Type) : List (acD ρ) := [alW ρ]
def alc (ρ : Type) : Env ρ := acr az1 (anN ρ)
def azu : acq := ⟨[ab3, ab1, ab1], [ab1, tI], fun (x : Val (.pair ab3 acQ)) => anl x.1 x.2.1 x.2.2⟩
def ayc : ab8 := { pin := 5, cs := [tI, tI, tI, l5, eI, m5, eW, eI, tI, tI, tI, tI, tI, tI, eI], vs := [tI, tI, tI, l5, eI, m5, eW, eI], head := ⟨68, .any :: .any :: .box 5 0 :: aN 20 [.own 4, .con tI, .var tI], [.cells [.con tI, .con tI, .con l5, .con eI, .con m5, .con eW, .con eI], .cells [.con tI, .con tI], .cells [.con tI, .con tI], .cells [.con tI, .con tI], .rowc ab1, .cells [.var tI, .var tI, .var l5, .var eI, .var m5, .var eW, .var eI]]⟩, exits := [(.ret, ⟨68, .any :: .any :: .box 5 0 :: .any :: .nilp :: .var tI :: aN 17 [.own 4, .con tI], [.cells [.con tI, .con tI, .con l5, .con eI, .con m5, .con eW, .con eI], .cells [.con tI, .con tI], .cells [.con tI, .con tI], .cells [.con tI, .con tI], .rowc ab1, .cells [.var tI, .var tI, .var l5, .var eI, .var m5, .var eW, .var eI]]⟩, [tI, tI, tI, l5, eI, m5, eW, eI]), (.exit 0, ⟨68, .any :: .any :: .box 5 0 :: aN 20 [.own 4, .con tI], [.cells [.con tI, .con tI, .con l5, .con eI, .con m5, .con eW, .con eI], .cells [.con tI, .con tI], .cells [.con tI, .con tI], .cells [.con tI, .con tI], .rowc ab1, .cells [.var tI, .var tI, .var l5, .var eI, .var m5, .var eW, .var eI]]⟩, [tI, tI, l5, eI, m5, eW, eI])] }
def anR (ρ : Type) : acD ρ := ⟨[1, 4], 50, 0, ayc, fun (p : Val (.pair tI (.pair tI (.pair tI (.pair l5 (.pair eI (.pair m5 (.pair eW (.pair eI (.pair tI (.pair tI (.pair tI (.pair tI abQ))))))))))))) (v : Val abA) kn kx => alg p.1 p.2.2.2.2.2.2.2.2.2.2.2.2.2.2 v.1 v.2.1 v.2.2.1 v.2.2.2.1 v.2.2.2.2.1 v.2.2.2.2.2.1 v.2.2.2.2.2.2.1 v.2.2.2.2.2.2.2 (fun u0 u1 u2 u3 u4 u5 u6 u7 => kn (u0, u1, u2, u3, u4, u5, u6, u7)) (kx 0) (kx 1)⟩
def aCI : List (Nat × acq) := [(20, ael), (38, adY), (55, agL), (56, agw), (60, afV), (61, ako), (123, aei)]
def aoP (ρ : Type) : List (acD ρ) := [anR ρ]
def amO (ρ : Type) : Env ρ := acr aCI (aoP ρ)
def avn : acq := ⟨[f6, f6], [f6, f6, tI], fun (x : Val (.pair f6 f6)) => amk x.1 x.2⟩
def aGP : List (Nat × acq) := [(88, apN), (198, avl)]
def arc (ρ : Type) : List (acD ρ) := []
def axF (ρ : Type) : Env ρ := acr aGP (arc ρ)
def aMF : acq := ⟨[f6, tI], [.bool], fun (x : Val abE) => ayV x.1 x.2⟩
def aK4 : List (Nat × acq) := [(129, avn)]
def aw4 (ρ : Type) : List (acD ρ) := []
def aD3 (ρ : Type) : Env ρ := acr aK4 (aw4 ρ)
def aIb : acq := ⟨[tI], [.bool], fun (x : Val tI) => auO x⟩
def aIG : List (Nat × acq) := []
def atk (ρ : Type) : List (acD ρ) := []
def azS (ρ : Type) : Env ρ := acr aIG (atk ρ)
def aIa : acq := ⟨[tI, abt], [eI], fun (x : Val (.pair tI abt)) => auN x.1 x.2⟩
def aCw : ab8 := { pin := 0, cs := [tI, f6, tI], vs := [tI, eI], head := ⟨23, .con tI :: aN 4 [.own 0, .any, .any, .any, .con f6, .con tI, .var tI], [.rowv ab1]⟩, exits := [(.exit 0, ⟨23, .con tI :: aN 4 [.own 0, .any, .any, .any, .con f6, .con tI], [.rowv ab1]⟩, [eI])] }
def aqJ (ρ : Type) : acD ρ := ⟨[], 59, 0, aCw, fun (p : Val (.pair tI abE)) (v : Val abC) kn kx => akw p.1 p.2.1 p.2.2 v.1 v.2 (fun u0 u1 => kn (u0, u1)) (kx 0)⟩
def aIF : List (Nat × acq) := [(94, ad4)]
def atj (ρ : Type) : List (acD ρ) := [aqJ ρ]
def arR (ρ : Type) : Env ρ := acr aIF (atj ρ)
def aMH : acq := ⟨[ab3, tI, f6], [ab1, tI], fun (x : Val (.pair ab3 abz)) => ayW x.1 x.2.1 x.2.2⟩
def aFT : ab8 := { pin := 3, cs := [eI, tI, tI, tI, l5, eI, m5, eW, eI, tI, tI, abt], vs := [tI, tI, tI, l5, eI, m5, eW, eI], head := ⟨68, .any :: .any :: .box 3 0 :: aN 20 [.con eI, .con tI, .var tI], [.cells [.con tI, .con tI, .con l5, .con eI, .con m5, .con eW, .con eI], .cells [.con tI, .con tI], .rowf f6 0, .cells [.var tI, .var tI, .var l5, .var eI, .var m5, .var eW, .var eI]]⟩, exits := [(.ret, ⟨68, .any :: .any :: .box 3 0 :: .any :: .nilp :: .var tI :: aN 17 [.con eI, .con tI], [.cells [.con tI, .con tI, .con l5, .con eI, .con m5, .con eW, .con eI], .cells [.con tI, .con tI], .rowf f6 0, .cells [.var tI, .var tI, .var l5, .var eI, .var m5, .var eW, .var eI]]⟩, [tI, tI, tI, l5, eI, m5, eW, eI]), (.exit 0, ⟨68, .any :: .any :: .box 3 0 :: aN 20 [.con eI, .con tI], [.cells [.con tI, .con tI, .con l5, .con eI, .con m5, .con eW, .con eI], .cells [.con tI, .con tI], .rowf f6 0, .cells [.var tI, .var tI, .var l5, .var eI, .var m5, .var eW, .var eI]]⟩, [tI, tI, l5, eI, m5, eW, eI])] }
def atu (ρ : Type) : acD ρ := ⟨[7, 2], 50, 0, aFT, fun (p : Val (.pair eI (.pair tI (.pair tI (.pair tI (.pair l5 (.pair eI (.pair m5 (.pair eW (.pair eI (.pair tI (.pair tI abt)))))))))))) (v : Val abA) kn kx => amL p.1 p.2.1 v.1 v.2.1 v.2.2.1 v.2.2.2.1 v.2.2.2.2.1 v.2.2.2.2.2.1 v.2.2.2.2.2.2.1 v.2.2.2.2.2.2.2 (fun u0 u1 u2 u3 u4 u5 u6 u7 => kn (u0, u1, u2, u3, u4, u5, u6, u7)) (kx 0) (kx 1)⟩
def aFS : ab8 := { pin := 0, cs := [abx, eI, tI, tI, tI], vs := [tI, tI, tI], head := ⟨87, aN 6 (.box 0 0 :: .any :: .any :: .any :: .con abx :: .any :: .any :: .box 1 0 :: aN 51 [.con eI, .con tI, .var tI]), [.cells [.con tI, .con tI], .cells [.var tI, .var tI]]⟩, exits := [(.exit 0, ⟨87, aN 6 (.box 0 0 :: .any :: .any :: .any :: .con abx :: .any :: .any :: .box 1 0 :: aN 51 [.con eI, .con tI]), [.cells [.con tI, .con tI], .cells [.var tI, .var tI]]⟩, [tI, tI])] }
def ats (ρ : Type) : acD ρ := ⟨[], 18, 0, aFS, fun (p : Val (.pair abx (.pair eI ac1))) (v : Val ac1) kn kx => amK p.1 p.2.1 p.2.2.1 v.1 v.2.1 v.2.2 (fun u0 u1 u2 => kn (u0, u1, u2)) (kx 0)⟩
def aK9 : List (Nat × acq) := [(20, ael), (38, adY), (51, af7), (57, aMF), (58, aIb), (59, aIa), (60, afV), (61, ako), (123, aei)]
def axc (ρ : Type) : List (acD ρ) := [atu ρ, ats ρ]
def apT (ρ : Type) : Env ρ := acr aK9 (axc ρ)
def arz : acq := ⟨[ab1, ab1], [tI], fun (x : Val acQ) => aj2 x.1 x.2⟩
def aCj : List (Nat × acq) := []
def aoy (ρ : Type) : List (acD ρ) := []
def as5 (ρ : Type) : Env ρ := acr aCj (aoy ρ)
def aId : acq := ⟨[ab3, ab1, ab1], [tI, tI], fun (x : Val (.pair ab3 acQ)) => auP x.1 x.2.1 x.2.2⟩
def aCG : ab8 := { pin := 4, cs := [tI, tI, tI, l5, eI, m5, eW, eI, tI, tI, tI, tI, eI], vs := [tI, tI, tI, l5, eI, m5, eW, eI], head := ⟨68, .any :: .any :: .box 4 0 :: aN 20 [.own 3, .con tI, .var tI], [.cells [.con tI, .con tI, .con l5, .con eI, .con m5, .con eW, .con eI], .cells [.con tI, .con tI], .cells [.con tI, .con tI], .rowc ab1, .cells [.var tI, .var tI, .var l5, .var eI, .var m5, .var eW, .var eI]]⟩, exits := [(.ret, ⟨68, .any :: .any :: .box 4 0 :: .any :: .nilp :: .var tI :: aN 17 [.own 3, .con tI], [.cells [.con tI, .con tI, .con l5, .con eI, .con m5, .con eW, .con eI], .cells [.con tI, .con tI], .cells [.con tI, .con tI], .rowc ab1, .cells [.var tI, .var tI, .var l5, .var eI, .var m5, .var eW, .var eI]]⟩, [tI, tI, tI, l5, eI, m5, eW, eI]), (.exit 0, ⟨68, .any :: .any :: .box 4 0 :: aN 20 [.own 3, .con tI], [.cells [.con tI, .con tI, .con l5, .con eI, .con m5, .con eW, .con eI], .cells [.con tI, .con tI], .cells [.con tI, .con tI], .rowc ab1, .cells [.var tI, .var tI, .var l5, .var eI, .var m5, .var eW, .var eI]]⟩, [tI, tI, l5, eI, m5, eW, eI])] }
def aqR (ρ : Type) : acD ρ := ⟨[1, 3], 50, 0, aCG, fun (p : Val (.pair tI (.pair tI (.pair tI (.pair l5 (.pair eI (.pair m5 (.pair eW (.pair eI (.pair tI (.pair tI abQ))))))))))) (v : Val abA) kn kx => aoK p.1 p.2.2.2.2.2.2.2.2.2.2.2.2 v.1 v.2.1 v.2.2.1 v.2.2.2.1 v.2.2.2.2.1 v.2.2.2.2.2.1 v.2.2.2.2.2.2.1 v.2.2.2.2.2.2.2 (fun u0 u1 u2 u3 u4 u5 u6 u7 => kn (u0, u1, u2, u3, u4, u5, u6, u7)) (kx 0) (kx 1)⟩
def aIQ : List (Nat × acq) := [(20, ael), (38, adY), (51, af7), (60, afV), (61, ako), (69, arz), (123, aei)]
def atv (ρ : Type) : List (acD ρ) := [aqR ρ]
def arW (ρ : Type) : Env ρ := acr aIQ (atv ρ)
def aFd : acq := ⟨[ab3, ab9], [ab3, tI], fun (x : Val abI) => ajl x.1 x.2⟩
def aGH : ab8 := { pin := 8, cs := [tI, tI, tI, l5, eI, m5, eW, eI, tI, tI, f6, f6, tI, tI, tI, tI, tI, tI, tI, tI, l5, eI, m5, eW, eI, tI, tI, tI, tI, eW, tI, tI, l5, eI, m5, eI], vs := [tI, eW], head := ⟨50, .any :: .box 8 0 :: .box 9 0 :: .own 10 :: aN 21 [.own 10, .con tI, .var tI], [.cells [.con tI, .con tI, .con l5, .con eI, .con m5, .con eW, .con eI], .cells [.con tI, .con tI, .con f6, .con f6, .con tI, .con tI, .con tI, .con tI], .cells [.con tI, .con tI, .nils, .nils, .nils, .nils, .nils], .dead, .dead, .cells [.con tI, .con tI, .con l5, .con eI, .con m5, .con eW, .con eI], .cells [.con tI, .con tI, .nils, .nils, .nils, .nils, .nils], .dead, .cells [.con tI, .con tI, .own 11, .own 12, .own 13, .con eW, .own 14], .cells [.con tI, .con tI, .nils, .nils, .nils, .nils, .nils], .rowv ab9, .rowc acd, .rowc ab1, .rowc adD, .rowc ab1]⟩, exits := [(.exit 0, ⟨50, .any :: .box 8 0 :: .box 9 0 :: .own 10 :: aN 21 [.own 10, .con tI], [.cells [.con tI, .con tI, .con l5, .con eI, .con m5, .con eW, .con eI], .cells [.con tI, .con tI, .con f6, .con f6, .con tI, .con tI, .con tI, .con tI], .cells [.con tI, .con tI, .nils, .nils, .nils, .nils, .nils], .dead, .dead, .cells [.con tI, .con tI, .con l5, .con eI, .con m5, .con eW, .con eI], .cells [.con tI, .con tI, .nils, .nils, .nils, .nils, .nils], .dead, .cells [.con tI, .con tI, .own 11, .own 12, .own 13, .con eW, .own 14], .cells [.con tI, .con tI, .nils, .nils, .nils, .nils, .nils], .rowv ab9, .rowc acd, .rowc ab1, .rowc adD, .rowc ab1]⟩, [eW])] }
def aut (ρ : Type) : acD ρ := ⟨[2, 2, 4, 1], 175, 0, aGH, fun (p : Val (.pair tI (.pair tI (.pair tI (.pair l5 (.pair eI (.pair m5 (.pair eW (.pair eI (.pair tI (.pair tI (.pair f6 (.pair f6 (.pair tI (.pair tI (.pair tI (.pair tI (.pair tI (.pair tI (.pair tI (.pair tI (.pair l5 (.pair eI (.pair m5 (.pair eW (.pair eI (.pair tI (.pair tI (.pair tI (.pair tI (.pair eW (.pair tI (.pair tI (.pair l5 (.pair eI (.pair m5 eI)))))))))))))))))))))))))))))))))))) (v : Val (.pair tI eW)) kn kx => anb p.1 v.1 v.2 (fun u0 u1 => kn (u0, u1)) (kx 0)⟩
def aLx : List (Nat × acq) := [(38, adY)]
def axA (ρ : Type) : List (acD ρ) := [aut ρ]
def awc (ρ : Type) : Env ρ := acr aLx (axA ρ)
def aIk : acq := ⟨[ab3, ab9, ab1], [ab1, tI], fun (x : Val (.pair ab3 (.pair ab9 ab1))) => ami x.1 x.2.1 x.2.2⟩
def aJd : List (Nat × acq) := [(171, avm), (172, azz), (173, aE9), (174, azx)]
def at6 (ρ : Type) : List (acD ρ) := []
def aAL (ρ : Type) : Env ρ := acr aJd (at6 ρ)
def azA : acq := ⟨[ab3, ab9], [ab1, tI], fun (x : Val abI) => anp x.1 x.2⟩
def aDl : List (Nat × acq) := [(41, aFd), (62, ayH), (87, aoo), (88, apN), (89, asM), (90, aIk)]
def apc (ρ : Type) : List (acD ρ) := []
def auu (ρ : Type) : Env ρ := acr aDl (apc ρ)
def aIj : acq := ⟨[ab3, tI], [ab9, tI], fun (x : Val abP) => auU x.1 x.2⟩
def aJc : List (Nat × acq) := [(38, adY)]
def at0 (ρ : Type) : List (acD ρ) := []
def aAJ (ρ : Type) : Env ρ := acr aJc (at0 ρ)
def aML : acq := ⟨[ab3, tI], [ab1, tI], fun (x : Val abP) => ayY x.1 x.2⟩
def aLy : List (Nat × acq) := [(200, aFa), (205, aIj)]
def axC (ρ : Type) : List (acD ρ) := []
def aEc (ρ : Type) : Env ρ := acr aLy (axC ρ)
def awZ : acq := ⟨[f6, abx, (.ptr ab9)], [tI], fun (x : Val (.pair f6 (.pair abx (.ptr ab9)))) => aiI x.1 x.2.1 x.2.2⟩
def azR : List (Nat × acq) := [(55, agL)]
def anM (ρ : Type) : List (acD ρ) := []
def aqM (ρ : Type) : Env ρ := acr azR (anM ρ)
def awY : acq := ⟨[tI, tI, abx, (.ptr tI), abR, (.ptr tI)], [ac1], fun (x : Val (.pair tI (.pair tI (.pair abx (.pair (.ptr tI) (.pair abR (.ptr tI))))))) => aiH x.1 x.2.1 x.2.2.1 x.2.2.2.1 x.2.2.2.2.1 x.2.2.2.2.2⟩
def azQ : List (Nat × acq) := [(56, agw)]
def anL (ρ : Type) : List (acD ρ) := []
def aqL (ρ : Type) : Env ρ := acr azQ (anL ρ)
def avj : acq := ⟨[abx, ab1, ab9], [aeq, tI], fun (x : Val (.pair abx abT)) => amf x.1 x.2.1 x.2.2⟩
def azP : ab8 := { pin := 0, cs := [tI, f6, f6, eI, abo, tI, tI, tI, tI, tI, f6, f6, tI, tI, tI, tI, tI, tI, tI, tI, tI, tI, tI, tI, tI, tI, tI, tI, tI, tI, l5, eI, m5, eW, eI, tI], vs := [tI, abo], head := ⟨127, aN 4 (.box 0 0 :: .box 1 0 :: .box 2 0 :: .any :: .box 3 0 :: .any :: .any :: .con tI :: .box 4 0 :: .any :: .con f6 :: .con f6 :: .any :: .any :: .con eI :: .any :: .box 5 0 :: aN 65 [.con abo, .con tI, .var tI]), [.cells [.con tI, .con tI], .cells [.con tI, .con tI, .con f6, .con f6, .con tI, .con tI, .con tI, .con tI], .cells [.con tI, .con tI, .con tI, .con tI, .con tI, .con tI, .con tI, .con tI], .cells [.con tI, .con tI], .cells [.con tI, .con tI], .cells [.con tI, .con tI, .con l5, .con eI, .con m5, .con eW, .con eI, .con tI, .own 6], .rowv ac1]⟩, exits := [(.exit 0, ⟨127, aN 4 (.box 0 0 :: .box 1 0 :: .box 2 0 :: .any :: .box 3 0 :: .any :: .any :: .con tI :: .box 4 0 :: .any :: .con f6 :: .con f6 :: .any :: .any :: .con eI :: .any :: .box 5 0 :: aN 65 [.con abo, .con tI]), [.cells [.con tI, .con tI], .cells [.con tI, .con tI, .con f6, .con f6, .con tI, .con tI, .con tI, .con tI], .cells [.con tI, .con tI, .con tI, .con tI, .con tI, .con tI, .con tI, .con tI], .cells [.con tI, .con tI], .cells [.con tI, .con tI], .cells [.con tI, .con tI, .con l5, .con eI, .con m5, .con eW, .con eI, .con tI, .own 6], .rowv ac1]⟩, [abo])] }
def aoD (ρ : Type) : acD ρ := ⟨[], 71, 0, azP, fun (p : Val (.pair tI (.pair f6 (.pair f6 (.pair eI (.pair abo (.pair tI (.pair tI (.pair tI (.pair tI (.pair tI (.pair f6 (.pair f6 (.pair tI (.pair tI (.pair tI (.pair tI (.pair tI (.pair tI (.pair tI (.pair tI (.pair tI (.pair tI (.pair tI (.pair tI (.pair tI (.pair tI (.pair tI (.pair tI (.pair tI (.pair tI (.pair l5 (.pair eI (.pair m5 (.pair eW (.pair eI tI)))))))))))))))))))))))))))))))))))) (v : Val acb) kn kx => aho p.1 p.2.2.2.1 p.2.2.2.2.1 p.2.2.2.2.2.1 v.1 v.2 (fun u0 u1 => kn (u0, u1)) (kx 0)⟩
def aFH : List (Nat × acq) := [(20, ael), (40, azA), (41, aFd), (55, agL), (129, avn), (142, aML), (143, awZ), (144, awY)]
def aqK (ρ : Type) : List (acD ρ) := [aoD ρ]
def akx (ρ : Type) : Env ρ := { acr aFH (aqK ρ) with hint := awn [(110, 143), (113, 143), (120, 144), (123, 144)] }
def ams : acq := ⟨[ac1], [f6], fun (x : Val ac1) => afz x⟩
def ax4 : List (Nat × acq) := []
def alN (ρ : Type) : List (acD ρ) := []
def aoG (ρ : Type) : Env ρ := acr ax4 (alN ρ)
def aDQ : acq := ⟨[ac1, tI], [tI], fun (x : Val (.pair ac1 tI)) => amg x.1 x.2⟩
def aFJ : List (Nat × acq) := []
def aqN (ρ : Type) : List (acD ρ) := []
def aw6 (ρ : Type) : Env ρ := acr aFJ (aqN ρ)
def ak2 : acq := ⟨[aeq, tI], [ab1], fun (x : Val (.pair aeq tI)) => adW x.1 x.2⟩
def avt : List (Nat × acq) := [(177, aDQ)]
def aks (ρ : Type) : List (acD ρ) := []
def anH (ρ : Type) : Env ρ := acr avt (aks ρ)
def ak3 : acq := ⟨[aeq, f6], [f6], fun (x : Val (.pair aeq f6)) => agB x.1 x.2⟩
def arM : ab8 := { pin := 0, cs := [tI, f6, tI, tI, tI, tI, tI, tI, tI, tI, tI, tI], vs := [tI, f6], head := ⟨48, .any :: .any :: .box 0 0 :: .any :: .any :: .own 1 :: .any :: .con tI :: .var tI :: aN 7 [.con f6, .con tI, .con tI], [.cells [.con tI, .con tI, .con tI, .con tI, .con tI, .con tI, .con tI, .con tI], .rowv tI]⟩, exits := [(.exit 2, ⟨48, .any :: .any :: .box 0 0 :: .any :: .any :: .own 1 :: .any :: .con tI :: aN 8 [.con f6, .con tI, .con tI], [.cells [.con tI, .con tI, .con tI, .con tI, .con tI, .con tI, .con tI, .con tI], .rowv tI]⟩, [f6])] }
def ajL (ρ : Type) : acD ρ := ⟨[], 101, 2, arM, fun (p : Val (.pair tI (.pair f6 (.pair tI (.pair tI abw))))) (v : Val abz) kn kx => afg p.1 p.2.2.2.2.1 p.2.2.2.2.2.1 v.1 v.2 (fun u0 u1 => kn (u0, u1)) (kx 0)⟩
def arN : ab8 := { pin := 0, cs := [f6, tI, tI, tI, tI, tI, tI, tI, tI, tI], vs := [tI, f6], head := ⟨48, .any :: .any :: .box 0 0 :: .any :: .any :: .own 1 :: aN 10 [.con f6, .con tI, .var tI], [.cells [.con tI, .con tI, .con tI, .con tI, .con tI, .con tI, .con tI, .con tI], .rowv tI]⟩, exits := [(.exit 0, ⟨48, .any :: .any :: .box 0 0 :: .any :: .any :: .own 1 :: aN 10 [.con f6, .con tI], [.cells [.con tI, .con tI, .con tI, .con tI, .con tI, .con tI, .con tI, .con tI], .rowv tI]⟩, [f6])] }
def ajM (ρ : Type) : acD ρ := ⟨[], 101, 0, arN, fun (p : Val (.pair f6 (.pair tI abw))) (v : Val abz) kn kx => aga p.1 p.2.1 p.2.2.1 p.2.2.2.1 v.1 v.2 (fun u0 u1 => kn (u0, u1)) (kx 0)⟩
def avu : List (Nat × acq) := []
def akt (ρ : Type) : List (acD ρ) := [ajL ρ, ajM ρ]
def agF (ρ : Type) : Env ρ := acr avu (akt ρ)
def aom : acq := ⟨[aeq], [tI], fun (x : Val aeq) => ahu x⟩
def aql : ab8 := { pin := 0, cs := [f6, tI, tI, tI, tI, tI, tI, tI, tI, tI], vs := [tI, tI], head := ⟨34, .any :: .box 0 0 :: .any :: .var tI :: aN 12 [.con f6, .con tI, .var tI], [.cells [.con tI, .con tI, .con tI, .con tI, .con tI, .con tI, .con tI, .con tI]]⟩, exits := [(.exit 0, ⟨34, .any :: .box 0 0 :: .any :: .var tI :: aN 12 [.con f6, .con tI], [.cells [.con tI, .con tI, .con tI, .con tI, .con tI, .con tI, .con tI, .con tI]]⟩, [tI])] }
def ai1 (ρ : Type) : acD ρ := ⟨[], 72, 0, aql, fun (p : Val (.pair f6 (.pair tI abw))) (v : Val ab1) kn kx => afQ p.1 p.2.1 p.2.2.1 p.2.2.2.1 p.2.2.2.2.1 p.2.2.2.2.2.1 p.2.2.2.2.2.2.1 p.2.2.2.2.2.2.2.1 p.2.2.2.2.2.2.2.2.1 p.2.2.2.2.2.2.2.2.2 v.1 v.2 (fun u0 u1 => kn (u0, u1)) (kx 0)⟩
def as2 : List (Nat × acq) := [(94, ad4), (95, ams), (99, ak2), (101, ak3)]
def ajJ (ρ : Type) : List (acD ρ) := [ai1 ρ]
def ahV (ρ : Type) : Env ρ := acr as2 (ajJ ρ)
def aIc : acq := ⟨[ab3, ab1, ab9], [tI, tI], fun (x : Val (.pair ab3 abT)) => apm x.1 x.2.1 x.2.2⟩
def aCC : ab8 := { pin := 4, cs := [tI, tI, tI, l5, eI, m5, eW, eI, tI, tI, tI, tI, f6, f6, tI, tI, tI, tI, eI], vs := [tI, tI, tI, l5, eI, m5, eW, eI], head := ⟨68, .any :: .any :: .box 4 0 :: aN 20 [.own 3, .con tI, .var tI], [.cells [.con tI, .con tI, .con l5, .con eI, .con m5, .con eW, .con eI], .cells [.con tI, .con tI], .cells [.con tI, .con tI, .con f6, .con f6, .con tI, .con tI, .con tI, .con tI], .rowc ab1, .cells [.var tI, .var tI, .var l5, .var eI, .var m5, .var eW, .var eI]]⟩, exits := [(.ret, ⟨68, .any :: .any :: .box 4 0 :: .any :: .nilp :: .var tI :: aN 17 [.own 3, .con tI], [.cells [.con tI, .con tI, .con l5, .con eI, .con m5, .con eW, .con eI], .cells [.con tI, .con tI], .cells [.con tI, .con tI, .con f6, .con f6, .con tI, .con tI, .con tI, .con tI], .rowc ab1, .cells [.var tI, .var tI, .var l5, .var eI, .var m5, .var eW, .var eI]]⟩, [tI, tI, tI, l5, eI, m5, eW, eI]), (.exit 0, ⟨68, .any :: .any :: .box 4 0 :: aN 20 [.own 3, .con tI], [.cells [.con tI, .con tI, .con l5, .con eI, .con m5, .con eW, .con eI], .cells [.con tI, .con tI], .cells [.con tI, .con tI, .con f6, .con f6, .con tI, .con tI, .con tI, .con tI], .rowc ab1, .cells [.var tI, .var tI, .var l5, .var eI, .var m5, .var eW, .var eI]]⟩, [tI, tI, l5, eI, m5, eW, eI])] }
def aqO (ρ : Type) : acD ρ := ⟨[1, 3], 50, 0, aCC, fun (p : Val (.pair tI (.pair tI (.pair tI (.pair l5 (.pair eI (.pair m5 (.pair eW (.pair eI (.pair tI (.pair tI (.pair tI (.pair tI (.pair f6 (.pair f6 (.pair tI (.pair tI abQ))))))))))))))))) (v : Val abA) kn kx => aoI p.1 p.2.2.2.2.2.2.2.2.2.2.2.2.2.2.2.2.2.2 v.1 v.2.1 v.2.2.1 v.2.2.2.1 v.2.2.2.2.1 v.2.2.2.2.2.1 v.2.2.2.2.2.2.1 v.2.2.2.2.2.2.2 (fun u0 u1 u2 u3 u4 u5 u6 u7 => kn (u0, u1, u2, u3, u4, u5, u6, u7)) (kx 0) (kx 1)⟩
def aIO : List (Nat × acq) := [(20, ael), (38, adY), (60, afV), (61, ako), (71, avj), (72, aom), (123, aei)]
def atn (ρ : Type) : List (acD ρ) := [aqO ρ]
def arU (ρ : Type) : Env ρ := acr aIO (atn ρ)
def arB : acq := ⟨[acb, f6], [tI], fun (x : Val abS) => aj7 x.1 x.2⟩
def aye : ab8 := { pin := 1, cs := [f6, tI, tI, abo], vs := [tI], head := ⟨19, .con f6 :: .fn 206 [(0, 0)] :: aN 5 [.con tI, .var tI], [.cells [.con tI, .con abo]]⟩, exits := [(.ret, ⟨19, [.con f6, .fn 206 [(0, 0)], .any, .any, .var tI, .any, .any, .con tI], [.cells [.con tI, .con abo]]⟩, [tI]), (.exit 0, ⟨19, .con f6 :: .fn 206 [(0, 0)] :: aN 5 [.con tI], [.cells [.con tI, .con abo]]⟩, [])] }
def anT (ρ : Type) : acD ρ := ⟨[3, 2, 1, 2], 178, 0, aye, fun (p : Val (.pair f6 abH)) (v : Val tI) kn kx => aii p.1 p.2.1 p.2.2.2 v (fun u0 => kn u0) (kx 0) (kx 1)⟩
def aCK : List (Nat × acq) := []
def aoR (ρ : Type) : List (acD ρ) := [anT ρ]
def amQ (ρ : Type) : Env ρ := acr aCK (aoR ρ)
def aE7 : acq := ⟨[acb, tI, f6], [tI, tI, .bool], fun (x : Val (.pair acb abz)) => auR x.1 x.2.1 x.2.2⟩
def aFX : ab8 := { pin := 0, cs := [f6, tI, tI, abo], vs := [tI, tI, tI], head := ⟨37, .any :: .var tI :: .any :: .box 0 0 :: aN 5 [.var tI, .any, .any, .any, .con f6, .con tI, .var tI], [.cells [.con tI, .con abo]]⟩, exits := [(.ret, ⟨37, .any :: .any :: .any :: .box 0 0 :: .any :: .any :: .var tI :: .var tI :: .var .bool :: aN 4 [.con f6, .con tI], [.cells [.con tI, .con abo]]⟩, [tI, tI, .bool]), (.exit 0, ⟨37, .any :: .var tI :: .any :: .box 0 0 :: aN 5 [.var tI, .any, .any, .any, .con f6, .con tI], [.cells [.con tI, .con abo]]⟩, [tI, tI])] }
def atz (ρ : Type) : acD ρ := ⟨[], 146, 0, aFX, fun (p : Val (.pair f6 abH)) (v : Val ac1) kn kx => amP p.1 p.2.1 p.2.2.2 v.1 v.2.1 v.2.2 (fun u0 u1 u2 => kn (u0, u1, u2)) (kx 0) (kx 1)⟩
def aLa : List (Nat × acq) := []
def axd (ρ : Type) : List (acD ρ) := [atz ρ]
def avO (ρ : Type) : Env ρ := acr aLa (axd ρ)
def aqC : acq := ⟨[acb, tI, tI, f6], [tI, tI], fun (x : Val (.pair acb (.pair tI abz))) => agC x.1 x.2.1 x.2.2.1 x.2.2.2⟩
def avZ : List (Nat × acq) := [(133, ajH), (134, ayG), (145, arB), (146, aE7)]
def akI (ρ : Type) : List (acD ρ) := []
def anW (ρ : Type) : Env ρ := acr avZ (akI ρ)
def ajb : acq := ⟨[adz], [tI], fun (x : Val adz) => agi x⟩
def ax8 : List (Nat × acq) := [(20, ael), (38, adY), (60, afV), (76, aqC)]
def alX (ρ : Type) : List (acD ρ) := []
def aoM (ρ : Type) : Env ρ := acr ax8 (alX ρ)
def aqB : acq := ⟨[acb, f6], [tI], fun (x : Val abS) => ail x.1 x.2⟩
def avY : List (Nat × acq) := [(133, ajH), (145, arB), (146, aE7)]
def akH (ρ : Type) : List (acD ρ) := []
def anV (ρ : Type) : Env ρ := acr avY (akH ρ)
def aqA : acq := ⟨[adz], [tI], fun (x : Val adz) => aik x⟩
def avI : List (Nat × acq) := [(20, ael), (38, adY), (86, aqB)]
def akD (ρ : Type) : List (acD ρ) := []
def anO (ρ : Type) : Env ρ := acr avI (akD ρ)
def afE : acq := ⟨[l5, acd], [tI], fun (x : Val (.pair l5 acd)) => aec x.1 x.2⟩
def ag9 : ab8 := { pin := 0, cs := [l5, tI, tI, tI, tI, tI, tI, tI, tI, tI], vs := [tI], head := ⟨19, [.con l5, .any, .any, .box 0 0, .any, .any, .any, .con tI, .var tI], [.cells [.con tI, .con tI, .con tI, .con tI, .con tI, .con tI, .con tI, .con tI]]⟩, exits := [(.ret, ⟨19, [.con l5, .any, .any, .box 0 0, .var tI, .any, .any, .con tI], [.cells [.con tI, .con tI, .con tI, .con tI, .con tI, .con tI, .con tI, .con tI]]⟩, [tI]), (.exit 0, ⟨19, [.con l5, .any, .any, .box 0 0, .any, .any, .any, .con tI], [.cells [.con tI, .con tI, .con tI, .con tI, .con tI, .con tI, .con tI, .con tI]]⟩, [])] }
def aeC (ρ : Type) : acD ρ := ⟨[], 254, 0, ag9, fun (p : Val (.pair l5 (.pair tI abw))) (v : Val tI) kn kx => acT p.1 p.2.1 p.2.2.1 p.2.2.2.1 p.2.2.2.2.1 p.2.2.2.2.2.1 p.2.2.2.2.2.2.1 p.2.2.2.2.2.2.2.1 p.2.2.2.2.2.2.2.2.1 p.2.2.2.2.2.2.2.2.2 v (fun u0 => kn u0) (kx 0) (kx 1)⟩
def ahD : List (Nat × acq) := []
def aeP (ρ : Type) : List (acD ρ) := [aeC ρ]
def adP (ρ : Type) : Env ρ := acr ahD (aeP ρ)
def ae2 : acq := ⟨[l5, acd], [.bool], fun (x : Val (.pair l5 acd)) => adh x.1 x.2⟩
def agP : List (Nat × acq) := [(254, afE)]
def aej (ρ : Type) : List (acD ρ) := []
def aeE (ρ : Type) : Env ρ := acr agP (aej ρ)
def agv : acq := ⟨[eI, ab1], [tI], fun (x : Val abV) => aeX x.1 x.2⟩
def ait : ab8 := { pin := 0, cs := [eI, tI, tI, tI], vs := [tI], head := ⟨19, [.con eI, .any, .any, .box 0 0, .any, .any, .any, .con tI, .var tI], [.cells [.con tI, .con tI]]⟩, exits := [(.ret, ⟨19, [.con eI, .any, .any, .box 0 0, .var tI, .any, .any, .con tI], [.cells [.con tI, .con tI]]⟩, [tI]), (.exit 0, ⟨19, [.con eI, .any, .any, .box 0 0, .any, .any, .any, .con tI], [.cells [.con tI, .con tI]]⟩, [])] }
def afo (ρ : Type) : acD ρ := ⟨[], 256, 0, ait, fun (p : Val (.pair eI ac1)) (v : Val tI) kn kx => ac8 p.1 p.2.1 p.2.2.1 p.2.2.2 v (fun u0 => kn u0) (kx 0) (kx 1)⟩
def ajc : List (Nat × acq) := []
def afF (ρ : Type) : List (acD ρ) := [afo ρ]
def aeu (ρ : Type) : Env ρ := acr ajc (afF ρ)
def afO : acq := ⟨[eI, ab1], [.bool], fun (x : Val abV) => adc x.1 x.2⟩
def ahU : List (Nat × acq) := [(256, agv)]
def ae5 (ρ : Type) : List (acD ρ) := []
def afp (ρ : Type) : Env ρ := acr ahU (ae5 ρ)
def afU : acq := ⟨[m5, adD], [tI], fun (x : Val (.pair m5 adD)) => aey x.1 x.2⟩
def ahC : ab8 := { pin := 0, cs := [m5, tI, tI, tI, tI, tI], vs := [tI], head := ⟨19, [.con m5, .any, .any, .box 0 0, .any, .any, .any, .con tI, .var tI], [.cells [.con tI, .con tI, .con tI, .con tI]]⟩, exits := [(.ret, ⟨19, [.con m5, .any, .any, .box 0 0, .var tI, .any, .any, .con tI], [.cells [.con tI, .con tI, .con tI, .con tI]]⟩, [tI]), (.exit 0, ⟨19, [.con m5, .any, .any, .box 0 0, .any, .any, .any, .con tI], [.cells [.con tI, .con tI, .con tI, .con tI]]⟩, [])] }
def ae4 (ρ : Type) : acD ρ := ⟨[], 258, 0, ahC, fun (p : Val (.pair m5 (.pair tI (.pair tI ac1)))) (v : Val tI) kn kx => acX p.1 p.2.1 p.2.2.1 p.2.2.2.1 p.2.2.2.2.1 p.2.2.2.2.2 v (fun u0 => kn u0) (kx 0) (kx 1)⟩
def aiv : List (Nat × acq) := []
def aff (ρ : Type) : List (acD ρ) := [ae4 ρ]
def ad9 (ρ : Type) : Env ρ := acr aiv (aff ρ)
def afm : acq := ⟨[m5, adD], [.bool], fun (x : Val (.pair m5 adD)) => acY x.1 x.2⟩
def ahl : List (Nat × acq) := [(258, afU)]
def aeD (ρ : Type) : List (acD ρ) := []
def ae6 (ρ : Type) : Env ρ := acr ahl (aeD ρ)
def aMG : acq := ⟨[ab3, ab3], [.bool], fun (x : Val (.pair ab3 ab3)) => auM x.1 x.2⟩
def aFE : ab8 := { pin := 0, cs := [l5, tI, tI, tI, l5, eI, m5, eW, eI, tI, tI, l5, eI, m5, eW, eI], vs := [tI, abq], head := ⟨87, .any :: .any :: .box 0 0 :: .box 1 0 :: .any :: .box 2 0 :: aN 10 [.con l5, .con tI, .var tI], [.cells [.con tI, .con tI, .con l5, .con eI, .con m5, .con eW, .con eI], .cells [.con tI, .con tI, .con l5, .con eI, .con m5, .con eW, .con eI], .cells [.omp 3], .mapv tI .bool]⟩, exits := [(.exit 0, ⟨87, .any :: .any :: .box 0 0 :: .box 1 0 :: .any :: .box 2 0 :: aN 10 [.con l5, .con tI], [.cells [.con tI, .con tI, .con l5, .con eI, .con m5, .con eW, .con eI], .cells [.con tI, .con tI, .con l5, .con eI, .con m5, .con eW, .con eI], .cells [.omp 3], .mapv tI .bool]⟩, [abq])] }
def ati (ρ : Type) : acD ρ := ⟨[], 77, 0, aFE, fun (p : Val (.pair l5 (.pair tI (.pair tI (.pair tI (.pair l5 (.pair eI (.pair m5 (.pair eW (.pair eI abp)))))))))) (v : Val (.pair tI abq)) kn kx => amE p.1 p.2.1 v.1 v.2 (fun u0 u1 => kn (u0, u1)) (kx 0)⟩
def aFB : ab8 := { pin := 6, cs := [f6, f6, tI, tI, tI, l5, eI, m5, eW, eI, tI, tI, l5, eI, m5, eW, eI, abq, tI, tI, f6, f6, tI, tI, tI, tI, tI, tI, f6, f6, tI, tI, tI, tI], vs := [tI], head := ⟨26, .con f6 :: .con f6 :: aN 10 [.con tI, .var tI], [.cells [.con tI, .con tI, .con l5, .con eI, .con m5, .con eW, .con eI], .cells [.con tI, .con tI, .con l5, .con eI, .con m5, .con eW, .con eI], .cells [.omp 3], .mapc tI .bool, .cells [.con tI, .con tI, .con f6, .con f6, .con tI, .con tI, .con tI, .con tI], .cells [.con tI, .con tI, .con f6, .con f6, .con tI, .con tI, .con tI, .con tI]]⟩, exits := [(.ret, ⟨26, .con f6 :: .con f6 :: .any :: .any :: .var .bool :: aN 7 [.con tI], [.cells [.con tI, .con tI, .con l5, .con eI, .con m5, .con eW, .con eI], .cells [.con tI, .con tI, .con l5, .con eI, .con m5, .con eW, .con eI], .cells [.omp 3], .mapc tI .bool, .cells [.con tI, .con tI, .con f6, .con f6, .con tI, .con tI, .con tI, .con tI], .cells [.con tI, .con tI, .con f6, .con f6, .con tI, .con tI, .con tI, .con tI]]⟩, [.bool]), (.exit 0, ⟨26, .con f6 :: .con f6 :: aN 10 [.con tI], [.cells [.con tI, .con tI, .con l5, .con eI, .con m5, .con eW, .con eI], .cells [.con tI, .con tI, .con l5, .con eI, .con m5, .con eW, .con eI], .cells [.omp 3], .mapc tI .bool, .cells [.con tI, .con tI, .con f6, .con f6, .con tI, .con tI, .con tI, .con tI], .cells [.con tI, .con tI, .con f6, .con f6, .con tI, .con tI, .con tI, .con tI]]⟩, [])] }
def atf (ρ : Type) : acD ρ := ⟨[14, 3, 1, 2, 4, 5, 1, 38], 151, 0, aFB, fun (p : Val (.pair f6 (.pair f6 (.pair tI (.pair tI (.pair tI (.pair l5 (.pair eI (.pair m5 (.pair eW (.pair eI (.pair tI (.pair tI (.pair l5 (.pair eI (.pair m5 (.pair eW (.pair eI (.pair abq (.pair tI (.pair tI (.pair f6 (.pair f6 (.pair tI (.pair tI (.pair tI (.pair tI ab9))))))))))))))))))))))))))) (v : Val tI) kn kx => ahZ p.1 p.2.1 p.2.2.1 v (fun u0 => kn u0) (kx 0) (kx 1)⟩
def aFA : ab8 := { pin := 6, cs := [f6, f6, tI, tI, tI, l5, eI, m5, eW, eI, tI, tI, l5, eI, m5, eW, eI, abq, tI, tI, f6, f6, tI, tI, tI, tI, tI, tI, f6, f6, tI, tI, tI, tI], vs := [tI], head := ⟨26, .con f6 :: .con f6 :: aN 10 [.con tI, .var tI], [.cells [.con tI, .con tI, .con l5, .con eI, .con m5, .con eW, .con eI], .cells [.con tI, .con tI, .con l5, .con eI, .con m5, .con eW, .con eI], .cells [.omp 3], .mapc tI .bool, .cells [.con tI, .con tI, .con f6, .con f6, .con tI, .con tI, .con tI, .con tI], .cells [.con tI, .con tI, .con f6, .con f6, .con tI, .con tI, .con tI, .con tI]]⟩, exits := [(.ret, ⟨26, .con f6 :: .con f6 :: .any :: .any :: .var .bool :: aN 7 [.con tI], [.cells [.con tI, .con tI, .con l5, .con eI, .con m5, .con eW, .con eI], .cells [.con tI, .con tI, .con l5, .con eI, .con m5, .con eW, .con eI], .cells [.omp 3], .mapc tI .bool, .cells [.con tI, .con tI, .con f6, .con f6, .con tI, .con tI, .con tI, .con tI], .cells [.con tI, .con tI, .con f6, .con f6, .con tI, .con tI, .con tI, .con tI]]⟩, [.bool]), (.exit 0, ⟨26, .con f6 :: .con f6 :: aN 10 [.con tI], [.cells [.con tI, .con tI, .con l5, .con eI, .con m5, .con eW, .con eI], .cells [.con tI, .con tI, .con l5, .con eI, .con m5, .con eW, .con eI], .cells [.omp 3], .mapc tI .bool, .cells [.con tI, .con tI, .con f6, .con f6, .con tI, .con tI, .con tI, .con tI], .cells [.con tI, .con tI, .con f6, .con f6, .con tI, .con tI, .con tI, .con tI]]⟩, [])] }
def ate (ρ : Type) : acD ρ := ⟨[14, 3, 1, 2, 4, 5, 1, 45], 151, 0, aFA, fun (p : Val (.pair f6 (.pair f6 (.pair tI (.pair tI (.pair tI (.pair l5 (.pair eI (.pair m5 (.pair eW (.pair eI (.pair tI (.pair tI (.pair l5 (.pair eI (.pair m5 (.pair eW (.pair eI (.pair abq (.pair tI (.pair tI (.pair f6 (.pair f6 (.pair tI (.pair tI (.pair tI (.pair tI ab9))))))))))))))))))))))))))) (v : Val tI) kn kx => amD p.1 p.2.1 p.2.2.1 v (fun u0 => kn u0) (kx 0) (kx 1)⟩
def aFC : ab8 := { pin := 5, cs := [eW, tI, tI, tI, l5, eI, m5, eW, eI, tI, tI, l5, eI, m5, eW, eI, abq, tI, tI, f6, f6, tI, tI, tI, tI], vs := [tI], head := ⟨19, .con eW :: .fn 150 [(4, 0)] :: aN 5 [.con tI, .var tI], [.cells [.con tI, .con tI, .con l5, .con eI, .con m5, .con eW, .con eI], .cells [.con tI, .con tI, .con l5, .con eI, .con m5, .con eW, .con eI], .cells [.omp 3], .mapc tI .bool, .cells [.con tI, .con tI, .con f6, .con f6, .con tI, .con tI, .con tI, .con tI]]⟩, exits := [(.ret, ⟨19, [.con eW, .fn 150 [(4, 0)], .any, .any, .var tI, .any, .any, .con tI], [.cells [.con tI, .con tI, .con l5, .con eI, .con m5, .con eW, .con eI], .cells [.con tI, .con tI, .con l5, .con eI, .con m5, .con eW, .con eI], .cells [.omp 3], .mapc tI .bool, .cells [.con tI, .con tI, .con f6, .con f6, .con tI, .con tI, .con tI, .con tI]]⟩, [tI]), (.exit 0, ⟨19, .con eW :: .fn 150 [(4, 0)] :: aN 5 [.con tI], [.cells [.con tI, .con tI, .con l5, .con eI, .con m5, .con eW, .con eI], .cells [.con tI, .con tI, .con l5, .con eI, .con m5, .con eW, .con eI], .cells [.omp 3], .mapc tI .bool, .cells [.con tI, .con tI, .con f6, .con f6, .con tI, .con tI, .con tI, .con tI]]⟩, [])] }
def atg (ρ : Type) : acD ρ := ⟨[14, 3, 1, 2], 207, 0, aFC, fun (p : Val (.pair eW (.pair tI (.pair tI (.pair tI (.pair l5 (.pair eI (.pair m5 (.pair eW (.pair eI (.pair tI (.pair tI (.pair l5 (.pair eI (.pair m5 (.pair eW (.pair eI (.pair abq ab9)))))))))))))))))) (v : Val tI) kn kx => ajP p.1 p.2.1 p.2.2.2.2.2.2.2.2.2.2.2.2.2.2.2.2.2.1 p.2.2.2.2.2.2.2.2.2.2.2.2.2.2.2.2.2.2.1 p.2.2.2.2.2.2.2.2.2.2.2.2.2.2.2.2.2.2.2.1 p.2.2.2.2.2.2.2.2.2.2.2.2.2.2.2.2.2.2.2.2.1 p.2.2.2.2.2.2.2.2.2.2.2.2.2.2.2.2.2.2.2.2.2.1 p.2.2.2.2.2.2.2.2.2.2.2.2.2.2.2.2.2.2.2.2.2.2.1 p.2.2.2.2.2.2.2.2.2.2.2.2.2.2.2.2.2.2.2.2.2.2.2.1 p.2.2.2.2.2.2.2.2.2.2.2.2.2.2.2.2.2.2.2.2.2.2.2.2 v (fun u0 => kn u0) (kx 0) (kx 1)⟩
def aFD : ab8 := { pin := 0, cs := [eW, tI, tI, tI, l5, eI, m5, eW, eI, tI, tI, l5, eI, m5, eW, eI, abq], vs := [tI], head := ⟨87, .any :: .any :: .box 0 0 :: .box 1 0 :: aN 4 (.fn 147 [] :: .fn 148 [(2, 0)] :: .fn 149 [(2, 0)] :: aN 18 [.con eW, .con tI, .var tI]), [.cells [.con tI, .con tI, .con l5, .con eI, .con m5, .con eW, .con eI], .cells [.con tI, .con tI, .con l5, .con eI, .con m5, .con eW, .con eI], .cells [.omp 3], .mapc tI .bool]⟩, exits := [(.ret, ⟨87, .any :: .any :: .box 0 0 :: .box 1 0 :: .var .bool :: .any :: .any :: .any :: .fn 147 [] :: .fn 148 [(2, 0)] :: .fn 149 [(2, 0)] :: aN 18 [.con eW, .con tI], [.cells [.con tI, .con tI, .con l5, .con eI, .con m5, .con eW, .con eI], .cells [.con tI, .con tI, .con l5, .con eI, .con m5, .con eW, .con eI], .cells [.omp 3], .mapc tI .bool]⟩, [.bool]), (.exit 2, ⟨87, .any :: .any :: .box 0 0 :: .box 1 0 :: aN 4 (.fn 147 [] :: .fn 148 [(2, 0)] :: .fn 149 [(2, 0)] :: aN 18 [.con eW, .con tI]), [.cells [.con tI, .con tI, .con l5, .con eI, .con m5, .con eW, .con eI], .cells [.con tI, .con tI, .con l5, .con eI, .con m5, .con eW, .con eI], .cells [.omp 3], .mapc tI .bool]⟩, [])] }
def ath (ρ : Type) : acD ρ := ⟨[], 77, 2, aFD, fun (p : Val (.pair eW (.pair tI (.pair tI (.pair tI (.pair l5 (.pair eI (.pair m5 (.pair eW (.pair eI (.pair tI (.pair tI (.pair l5 (.pair eI (.pair m5 (.pair eW (.pair eI abq))))))))))))))))) (v : Val tI) kn kx => ajQ p.1 p.2.1 p.2.2.2.2.2.2.2.2.2.2.2.2.2.2.1 v (fun u0 => kn u0) (kx 0) (kx 1)⟩
def aFz : ab8 := { pin := 6, cs := [l5, tI, tI, tI, l5, eI, m5, eW, eI, tI, tI, l5, eI, m5, eW, eI, abq, l5], vs := [tI], head := ⟨19, .con l5 :: .fn 209 [(5, 0), (4, 0)] :: aN 5 [.con tI, .var tI], [.cells [.con tI, .con tI, .con l5, .con eI, .con m5, .con eW, .con eI], .cells [.con tI, .con tI, .con l5, .con eI, .con m5, .con eW, .con eI], .cells [.omp 3], .mapc tI .bool, .cells [.con l5], .cells [.fn 147 []]]⟩, exits := [(.ret, ⟨19, [.con l5, .fn 209 [(5, 0), (4, 0)], .any, .any, .var tI, .any, .any, .con tI], [.cells [.con tI, .con tI, .con l5, .con eI, .con m5, .con eW, .con eI], .cells [.con tI, .con tI, .con l5, .con eI, .con m5, .con eW, .con eI], .cells [.omp 3], .mapc tI .bool, .cells [.con l5], .cells [.fn 147 []]]⟩, [tI]), (.exit 0, ⟨19, .con l5 :: .fn 209 [(5, 0), (4, 0)] :: aN 5 [.con tI], [.cells [.con tI, .con tI, .con l5, .con eI, .con m5, .con eW, .con eI], .cells [.con tI, .con tI, .con l5, .con eI, .con m5, .con eW, .con eI], .cells [.omp 3], .mapc tI .bool, .cells [.con l5], .cells [.fn 147 []]]⟩, [])] }
def atd (ρ : Type) : acD ρ := ⟨[17, 11, 1, 2, 1, 2], 253, 0, aFz, fun (p : Val (.pair l5 (.pair tI (.pair tI (.pair tI (.pair l5 (.pair eI (.pair m5 (.pair eW (.pair eI (.pair tI (.pair tI (.pair l5 (.pair eI (.pair m5 (.pair eW (.pair eI (.pair abq l5)))))))))))))))))) (v : Val tI) kn kx => ajO p.1 p.2.1 p.2.2.2.2.2.2.2.2.2.2.2.2.2.2.2.2.2 v (fun u0 => kn u0) (kx 0) (kx 1)⟩
def aFy : ab8 := { pin := 8, cs := [eI, tI, tI, tI, l5, eI, m5, eW, eI, tI, tI, l5, eI, m5, eW, eI, abq, l5, eI], vs := [tI], head := ⟨19, .con eI :: .fn 212 [(7, 0), (6, 0)] :: aN 5 [.con tI, .var tI], [.cells [.con tI, .con tI, .con l5, .con eI, .con m5, .con eW, .con eI], .cells [.con tI, .con tI, .con l5, .con eI, .con m5, .con eW, .con eI], .cells [.omp 3], .mapc tI .bool, .cells [.con l5], .cells [.fn 147 []], .cells [.con eI], .cells [.fn 148 [(2, 0)]]]⟩, exits := [(.ret, ⟨19, [.con eI, .fn 212 [(7, 0), (6, 0)], .any, .any, .var tI, .any, .any, .con tI], [.cells [.con tI, .con tI, .con l5, .con eI, .con m5, .con eW, .con eI], .cells [.con tI, .con tI, .con l5, .con eI, .con m5, .con eW, .con eI], .cells [.omp 3], .mapc tI .bool, .cells [.con l5], .cells [.fn 147 []], .cells [.con eI], .cells [.fn 148 [(2, 0)]]]⟩, [tI]), (.exit 0, ⟨19, .con eI :: .fn 212 [(7, 0), (6, 0)] :: aN 5 [.con tI], [.cells [.con tI, .con tI, .con l5, .con eI, .con m5, .con eW, .con eI], .cells [.con tI, .con tI, .con l5, .con eI, .con m5, .con eW, .con eI], .cells [.omp 3], .mapc tI .bool, .cells [.con l5], .cells [.fn 147 []], .cells [.con eI], .cells [.fn 148 [(2, 0)]]]⟩, [])] }
def atc (ρ : Type) : acD ρ := ⟨[17, 19, 1, 2, 1, 2], 255, 0, aFy, fun (p : Val (.pair eI (.pair tI (.pair tI (.pair tI (.pair l5 (.pair eI (.pair m5 (.pair eW (.pair eI (.pair tI (.pair tI (.pair l5 (.pair eI (.pair m5 (.pair eW (.pair eI (.pair abq (.pair l5 eI))))))))))))))))))) (v : Val tI) kn kx => agR p.1 p.2.1 p.2.2.2.2.2.2.2.2.2.2.2.2.2.2.2.2.1 p.2.2.2.2.2.2.2.2.2.2.2.2.2.2.2.2.2.2 v (fun u0 => kn u0) (kx 0) (kx 1)⟩
def aFx : ab8 := { pin := 10, cs := [eI, tI, tI, tI, l5, eI, m5, eW, eI, tI, tI, l5, eI, m5, eW, eI, abq, l5, eI, eI], vs := [tI], head := ⟨19, .con eI :: .fn 212 [(9, 0), (8, 0)] :: aN 5 [.con tI, .var tI], [.cells [.con tI, .con tI, .con l5, .con eI, .con m5, .con eW, .con eI], .cells [.con tI, .con tI, .con l5, .con eI, .con m5, .con eW, .con eI], .cells [.omp 3], .mapc tI .bool, .cells [.con l5], .cells [.fn 147 []], .cells [.con eI], .cells [.fn 148 [(2, 0)]], .cells [.con eI], .cells [.fn 148 [(2, 0)]]]⟩, exits := [(.ret, ⟨19, [.con eI, .fn 212 [(9, 0), (8, 0)], .any, .any, .var tI, .any, .any, .con tI], [.cells [.con tI, .con tI, .con l5, .con eI, .con m5, .con eW, .con eI], .cells [.con tI, .con tI, .con l5, .con eI, .con m5, .con eW, .con eI], .cells [.omp 3], .mapc tI .bool, .cells [.con l5], .cells [.fn 147 []], .cells [.con eI], .cells [.fn 148 [(2, 0)]], .cells [.con eI], .cells [.fn 148 [(2, 0)]]]⟩, [tI]), (.exit 0, ⟨19, .con eI :: .fn 212 [(9, 0), (8, 0)] :: aN 5 [.con tI], [.cells [.con tI, .con tI, .con l5, .con eI, .con m5, .con eW, .con eI], .cells [.con tI, .con tI, .con l5, .con eI, .con m5, .con eW, .con eI], .cells [.omp 3], .mapc tI .bool, .cells [.con l5], .cells [.fn 147 []], .cells [.con eI], .cells [.fn 148 [(2, 0)]], .cells [.con eI], .cells [.fn 148 [(2, 0)]]]⟩, [])] }
def atb (ρ : Type) : acD ρ := ⟨[17, 27, 1, 2, 1, 2], 255, 0, aFx, fun (p : Val (.pair eI (.pair tI (.pair tI (.pair tI (.pair l5 (.pair eI (.pair m5 (.pair eW (.pair eI (.pair tI (.pair tI (.pair l5 (.pair eI (.pair m5 (.pair eW (.pair eI (.pair abq (.pair l5 (.pair eI eI)))))))))))))))))))) (v : Val tI) kn kx => ahY p.1 p.2.1 p.2.2.2.2.2.2.2.2.2.2.2.2.2.2.2.2.1 p.2.2.2.2.2.2.2.2.2.2.2.2.2.2.2.2.2.2.2 v (fun u0 => kn u0) (kx 0) (kx 1)⟩
def aFw : ab8 := { pin := 12, cs := [m5, tI, tI, tI, l5, eI, m5, eW, eI, tI, tI, l5, eI, m5, eW, eI, abq, l5, eI, eI, m5], vs := [tI], head := ⟨19, .con m5 :: .fn 215 [(11, 0), (10, 0)] :: aN 5 [.con tI, .var tI], [.cells [.con tI, .con tI, .con l5, .con eI, .con m5, .con eW, .con eI], .cells [.con tI, .con tI, .con l5, .con eI, .con m5, .con eW, .con eI], .cells [.omp 3], .mapc tI .bool, .cells [.con l5], .cells [.fn 147 []], .cells [.con eI], .cells [.fn 148 [(2, 0)]], .cells [.con eI], .cells [.fn 148 [(2, 0)]], .cells [.con m5], .cells [.fn 149 [(2, 0)]]]⟩, exits := [(.ret, ⟨19, [.con m5, .fn 215 [(11, 0), (10, 0)], .any, .any, .var tI, .any, .any, .con tI], [.cells [.con tI, .con tI, .con l5, .con eI, .con m5, .con eW, .con eI], .cells [.con tI, .con tI, .con l5, .con eI, .con m5, .con eW, .con eI], .cells [.omp 3], .mapc tI .bool, .cells [.con l5], .cells [.fn 147 []], .cells [.con eI], .cells [.fn 148 [(2, 0)]], .cells [.con eI], .cells [.fn 148 [(2, 0)]], .cells [.con m5], .cells [.fn 149 [(2, 0)]]]⟩, [tI]), (.exit 0, ⟨19, .con m5 :: .fn 215 [(11, 0), (10, 0)] :: aN 5 [.con tI], [.cells [.con tI, .con tI, .con l5, .con eI, .con m5, .con eW, .con eI], .cells [.con tI, .con tI, .con l5, .con eI, .con m5, .con eW, .con eI], .cells [.omp 3], .mapc tI .bool, .cells [.con l5], .cells [.fn 147 []], .cells [.con eI], .cells [.fn 148 [(2, 0)]], .cells [.con eI], .cells [.fn 148 [(2, 0)]], .cells [.con m5], .cells [.fn 149 [(2, 0)]]]⟩, [])] }
def ata (ρ : Type) : acD ρ := ⟨[17, 35, 1, 2, 1, 2], 257, 0, aFw, fun (p : Val (.pair m5 (.pair tI (.pair tI (.pair tI (.pair l5 (.pair eI (.pair m5 (.pair eW (.pair eI (.pair tI (.pair tI (.pair l5 (.pair eI (.pair m5 (.pair eW (.pair eI (.pair abq (.pair l5 (.pair eI (.pair eI m5))))))))))))))))))))) (v : Val tI) kn kx => adF p.1 p.2.1 p.2.2.2.2.2.2.2.2.2.2.2.2.2.2.2.2.1 p.2.2.2.2.2.2.2.2.2.2.2.2.2.2.2.2.2.2.2.2 v (fun u0 => kn u0) (kx 0) (kx 1)⟩
def aFv : ab8 := { pin := 14, cs := [m5, tI, tI, tI, l5, eI, m5, eW, eI, tI, tI, l5, eI, m5, eW, eI, abq, l5, eI, eI, m5, m5], vs := [tI], head := ⟨19, .con m5 :: .fn 215 [(13, 0), (12, 0)] :: aN 5 [.con tI, .var tI], [.cells [.con tI, .con tI, .con l5, .con eI, .con m5, .con eW, .con eI], .cells [.con tI, .con tI, .con l5, .con eI, .con m5, .con eW, .con eI], .cells [.omp 3], .mapc tI .bool, .cells [.con l5], .cells [.fn 147 []], .cells [.con eI], .cells [.fn 148 [(2, 0)]], .cells [.con eI], .cells [.fn 148 [(2, 0)]], .cells [.con m5], .cells [.fn 149 [(2, 0)]], .cells [.con m5], .cells [.fn 149 [(2, 0)]]]⟩, exits := [(.ret, ⟨19, [.con m5, .fn 215 [(13, 0), (12, 0)], .any, .any, .var tI, .any, .any, .con tI], [.cells [.con tI, .con tI, .con l5, .con eI, .con m5, .con eW, .con eI], .cells [.con tI, .con tI, .con l5, .con eI, .con m5, .con eW, .con eI], .cells [.omp 3], .mapc tI .bool, .cells [.con l5], .cells [.fn 147 []], .cells [.con eI], .cells [.fn 148 [(2, 0)]], .cells [.con eI], .cells [.fn 148 [(2, 0)]], .cells [.con m5], .cells [.fn 149 [(2, 0)]], .cells [.con m5], .cells [.fn 149 [(2, 0)]]]⟩, [tI]), (.exit 0, ⟨19, .con m5 :: .fn 215 [(13, 0), (12, 0)] :: aN 5 [.con tI], [.cells [.con tI, .con tI, .con l5, .con eI, .con m5, .con eW, .con eI], .cells [.con tI, .con tI, .con l5, .con eI, .con m5, .con eW, .con eI], .cells [.omp 3], .mapc tI .bool, .cells [.con l5], .cells [.fn 147 []], .cells [.con eI], .cells [.fn 148 [(2, 0)]], .cells [.con eI], .cells [.fn 148 [(2, 0)]], .cells [.con m5], .cells [.fn 149 [(2, 0)]], .cells [.con m5], .cells [.fn 149 [(2, 0)]]]⟩, [])] }
def as9 (ρ : Type) : acD ρ := ⟨[17, 43, 1, 2, 1, 2], 257, 0, aFv, fun (p : Val (.pair m5 (.pair tI (.pair tI (.pair tI (.pair l5 (.pair eI (.pair m5 (.pair eW (.pair eI (.pair tI (.pair tI (.pair l5 (.pair eI (.pair m5 (.pair eW (.pair eI (.pair abq (.pair l5 (.pair eI (.pair eI (.pair m5 m5)))))))))))))))))))))) (v : Val tI) kn kx => ac6 p.1 p.2.1 p.2.2.2.2.2.2.2.2.2.2.2.2.2.2.2.2.1 p.2.2.2.2.2.2.2.2.2.2.2.2.2.2.2.2.2.2.2.2.2 v (fun u0 => kn u0) (kx 0) (kx 1)⟩
def aK5 : List (Nat × acq) := [(210, ae2), (213, afO), (216, afm)]
def aw5 (ρ : Type) : List (acD ρ) := [ati ρ, atf ρ, ate ρ, atg ρ, ath ρ, atd ρ, atc ρ, atb ρ, ata ρ, as9 ρ]
def aeI (ρ : Type) : Env ρ := acr aK5 (aw5 ρ)
def avk : acq := ⟨[ab3, adz], [.bool, tI], fun (x : Val (.pair ab3 adz)) => ag3 x.1 x.2⟩
def aFR : List (Nat × acq) := [(33, ajb), (38, adY), (39, aqA), (77, aMG)]
def aqP (ρ : Type) : List (acD ρ) := []
def axb (ρ : Type) : Env ρ := acr aFR (aqP ρ)
def azv : acq := ⟨[acb, tI, tI], [abt], fun (x : Val abU) => apn x.1 x.2.1 x.2.2⟩
def aN1 : ab8 := { pin := 0, cs := [tI, tI, tI, tI, abo], vs := [tI, f6], head := ⟨45, .any :: .con tI :: .con tI :: .box 0 0 :: .any :: .any :: .any :: .own 1 :: aN 7 [.con tI, .var tI], [.cells [.con tI, .con abo], .rowv tI]⟩, exits := [(.exit 0, ⟨45, .any :: .con tI :: .con tI :: .box 0 0 :: .any :: .any :: .any :: .own 1 :: aN 7 [.con tI], [.cells [.con tI, .con abo], .rowv tI]⟩, [f6])] }
def aD8 (ρ : Type) : acD ρ := ⟨[], 156, 0, aN1, fun (p : Val (.pair tI (.pair tI abH))) (v : Val abz) kn kx => apU p.2.2.1 v.1 v.2 (fun u0 u1 => kn (u0, u1)) (kx 0)⟩
def aNZ : ab8 := { pin := 4, cs := [f6, tI, abt, tI, abo], vs := [tI, f6], head := ⟨53, .con f6 :: .box 1 0 :: .any :: .any :: .own 4 :: aN 7 [.con tI, .var tI], [.rowc f6, .cells [.con tI, .con abo], .dead, .dead, .rowv tI]⟩, exits := [(.exit 0, ⟨53, .con f6 :: .box 1 0 :: .any :: .any :: .own 4 :: aN 7 [.con tI], [.rowc f6, .cells [.con tI, .con abo], .dead, .dead, .rowv tI]⟩, [f6])] }
def aD6 (ρ : Type) : acD ρ := ⟨[12, 8], 217, 0, aNZ, fun (p : Val (.pair f6 (.pair tI (.pair abt acb)))) (v : Val abz) kn kx => aF0 p.2.1 v.1 v.2 (fun u0 u1 => kn (u0, u1)) (kx 0)⟩
def aNY : ab8 := { pin := 4, cs := [f6, abo, tI, abt, tI, abo], vs := [tI, f6], head := ⟨53, .con f6 :: .any :: .any :: .any :: .own 4 :: aN 16 [.con abo, .con tI, .var tI], [.rowc f6, .cells [.con tI, .con abo], .dead, .dead, .rowv tI]⟩, exits := [(.exit 2, ⟨53, .con f6 :: .any :: .any :: .any :: .own 4 :: aN 16 [.con abo, .con tI], [.rowc f6, .cells [.con tI, .con abo], .dead, .dead, .rowv tI]⟩, [f6])] }
def aD5 (ρ : Type) : acD ρ := ⟨[12, 8], 217, 2, aNY, fun (p : Val (.pair f6 (.pair abo (.pair tI (.pair abt acb))))) (v : Val abz) kn kx => atG p.1 p.2.1 p.2.2.1 v.1 v.2 (fun u0 u1 => kn (u0, u1)) (kx 0)⟩
def aN0 : ab8 := { pin := 0, cs := [tI, tI, abo], vs := [tI, abt], head := ⟨45, aN 9 (.own 0 :: .fn 217 [(1, 0)] :: aN 18 [.con tI, .var tI]), [.rowv f6, .cells [.con tI, .con abo]]⟩, exits := [(.exit 2, ⟨45, aN 9 (.own 0 :: .fn 217 [(1, 0)] :: aN 18 [.con tI]), [.rowv f6, .cells [.con tI, .con abo]]⟩, [abt])] }
def aD7 (ρ : Type) : acD ρ := ⟨[], 156, 2, aN0, fun (p : Val abH) (v : Val (.pair tI abt)) kn kx => ayN p.1 p.2.1 p.2.2 v.1 v.2 (fun u0 u1 => kn (u0, u1)) (kx 0)⟩
def aRW : List (Nat × acq) := []
def aIU (ρ : Type) : List (acD ρ) := [aD8 ρ, aD6 ρ, aD5 ρ, aD7 ρ]
def avV (ρ : Type) : Env ρ := acr aRW (aIU ρ)
def aIg : acq := ⟨[acb], [f6, tI], fun (x : Val acb) => apo x⟩
def aCT : ab8 := { pin := 0, cs := [tI, tI, abo], vs := [tI, abN], head := ⟨93, .any :: .box 0 0 :: aN 6 (.own 1 :: aN 24 [.con tI, .var tI]), [.cells [.con tI, .con abo], .rowv abt]⟩, exits := [(.exit 0, ⟨93, .any :: .box 0 0 :: aN 6 (.own 1 :: aN 24 [.con tI]), [.cells [.con tI, .con abo], .rowv abt]⟩, [abN])] }
def aqY (ρ : Type) : acD ρ := ⟨[], 78, 0, aCT, fun (p : Val abH) (v : Val (.pair tI abN)) kn kx => axk p.1 p.2.1 p.2.2 v.1 v.2 (fun u0 u1 => kn (u0, u1)) (kx 0)⟩
def aCP : ab8 := { pin := 3, cs := [tI, abt, abo, tI, tI, abo, abN, tI, tI, tI, tI, abo], vs := [tI, tI, tI, f6], head := ⟨73, .any :: .var tI :: .con tI :: .con abt :: .fn 157 [] :: .box 3 0 :: aN 5 (.own 4 :: .var tI :: aN 7 [.con abo, .con tI, .var tI]), [.cells [.con tI, .con abo], .rowc abt, .cells [.con tI, .con tI, .con tI], .cells [.con tI, .con abo], .rowv tI]⟩, exits := [(.exit 2, ⟨73, .any :: .var tI :: .con tI :: .con abt :: .fn 157 [] :: .box 3 0 :: aN 5 (.own 4 :: .var tI :: aN 7 [.con abo, .con tI]), [.cells [.con tI, .con abo], .rowc abt, .cells [.con tI, .con tI, .con tI], .cells [.con tI, .con abo], .rowv tI]⟩, [tI, tI, f6])] }
def aqU (ρ : Type) : acD ρ := ⟨[22, 10], 158, 2, aCP, fun (p : Val (.pair tI (.pair abt (.pair abo (.pair tI (.pair tI (.pair abo (.pair abN (.pair tI (.pair tI abH)))))))))) (v : Val abD) kn kx => axg p.1 p.2.1 p.2.2.1 p.2.2.2.1 v.1 v.2.1 v.2.2.1 v.2.2.2 (fun u0 u1 u2 u3 => kn (u0, u1, u2, u3)) (kx 0)⟩
def aCQ : ab8 := { pin := 3, cs := [abt, tI, abo, abN, tI, tI, tI, tI, abo], vs := [tI, tI, tI, f6], head := ⟨73, .any :: .var tI :: .var tI :: .con abt :: .fn 157 [] :: .box 3 0 :: aN 5 [.own 4, .var tI], [.cells [.con tI, .con abo], .rowc abt, .cells [.con tI, .con tI, .con tI], .cells [.con tI, .con abo], .rowv tI]⟩, exits := [(.exit 0, ⟨73, .any :: .any :: .any :: .con abt :: .fn 157 [] :: .box 3 0 :: aN 5 [.own 4], [.cells [.con tI, .con abo], .rowc abt, .cells [.con tI, .con tI, .con tI], .cells [.con tI, .con abo], .rowv tI]⟩, [f6])] }
def aqV (ρ : Type) : acD ρ := ⟨[22, 10], 158, 0, aCQ, fun (p : Val (.pair abt (.pair tI (.pair abo (.pair abN (.pair tI (.pair tI abH))))))) (v : Val abD) kn kx => axh p.1 p.2.2.2.2.2.2.2.2 v.1 v.2.1 v.2.2.1 v.2.2.2 (fun u0 u1 u2 u3 => kn (u0, u1, u2, u3)) (kx 0)⟩
def aCR : ab8 := { pin := 0, cs := [tI, abo, tI, tI, abo, abN], vs := [tI], head := ⟨93, .any :: .box 0 0 :: aN 6 (.own 1 :: .any :: .fn 157 [] :: .con tI :: aN 37 [.con abo, .con tI, .var tI]), [.cells [.con tI, .con abo], .rowc abt]⟩, exits := [(.exit 2, ⟨93, .any :: .box 0 0 :: aN 6 (.own 1 :: .any :: .fn 157 [] :: .con tI :: aN 37 [.con abo, .con tI]), [.cells [.con tI, .con abo], .rowc abt]⟩, []), (.ret, ⟨93, .any :: .box 0 0 :: .own 2 :: .var tI :: aN 4 (.own 1 :: .any :: .fn 157 [] :: .con tI :: aN 37 [.con abo, .con tI]), [.cells [.con tI, .con abo], .rowc abt, .rowv tI]⟩, [tI, f6]), (.exit 4, ⟨93, .any :: .box 0 0 :: aN 6 (.own 1 :: .any :: .fn 157 [] :: .con tI :: aN 37 [.con abo, .con tI]), [.cells [.con tI, .con abo], .rowc abt]⟩, [])] }
def aqW (ρ : Type) : acD ρ := ⟨[], 78, 4, aCR, fun (p : Val (.pair tI (.pair abo (.pair tI (.pair tI (.pair abo abN)))))) (v : Val tI) kn kx => axi p.1 p.2.1 p.2.2.1 p.2.2.2.1 p.2.2.2.2.1 p.2.2.2.2.2 v (fun u0 => kn u0) (kx 0) (kx 1) (kx 2)⟩
def aCS : ab8 := { pin := 0, cs := [tI, abo, abN], vs := [tI], head := ⟨93, .any :: .box 0 0 :: aN 6 [.own 1, .any, .fn 157 [], .var tI], [.cells [.con tI, .con abo], .rowc abt]⟩, exits := [(.exit 2, ⟨93, .any :: .box 0 0 :: aN 6 [.own 1, .any, .fn 157 []], [.cells [.con tI, .con abo], .rowc abt]⟩, []), (.ret, ⟨93, .any :: .box 0 0 :: .own 2 :: .var tI :: aN 4 [.own 1, .any, .fn 157 []], [.cells [.con tI, .con abo], .rowc abt, .rowv tI]⟩, [tI, f6])] }
def aqX (ρ : Type) : acD ρ := ⟨[], 78, 2, aCS, fun (p : Val (.pair tI (.pair abo abN))) (v : Val tI) kn kx => axj p.1 p.2.1 p.2.2 v (fun u0 => kn u0) (kx 0) (kx 1)⟩
def aIX : List (Nat × acq) := [(133, ajH), (135, akn), (156, azv)]
def atM (ρ : Type) : List (acD ρ) := [aqY ρ, aqU ρ, aqV ρ, aqW ρ, aqX ρ]
def agS (ρ : Type) : Env ρ := acr aIX (atM ρ)
def arA : acq := ⟨[ab3, f6], [eI], fun (x : Val (.pair ab3 f6)) => aj3 x.1 x.2⟩
def ax0 : ab8 := { pin := 0, cs := [eI, f6, tI], vs := [tI, eI], head := ⟨32, aN 6 (.con eI :: .any :: .own 0 :: aN 8 [.con f6, .con tI, .var tI]), [.rowv ab1]⟩, exits := [(.exit 0, ⟨32, aN 6 (.con eI :: .any :: .own 0 :: aN 8 [.con f6, .con tI]), [.rowv ab1]⟩, [eI])] }
def anI (ρ : Type) : acD ρ := ⟨[], 80, 0, ax0, fun (p : Val (.pair eI abE)) (v : Val abC) kn kx => aig p.1 p.2.1 p.2.2 v.1 v.2 (fun u0 u1 => kn (u0, u1)) (kx 0)⟩
def aCk : List (Nat × acq) := [(20, ael)]
def aoz (ρ : Type) : List (acD ρ) := [anI ρ]
def amC (ρ : Type) : Env ρ := acr aCk (aoz ρ)
def aIe : acq := ⟨[ab3], [adz, tI], fun (x : Val ab3) => auQ x⟩
def aIR : List (Nat × acq) := [(20, ael), (78, aIg), (79, ajG), (80, arA)]
def atx (ρ : Type) : List (acD ρ) := []
def az2 (ρ : Type) : Env ρ := acr aIR (atx ρ)
def asK : acq := ⟨[tI], [tI], fun (x : Val tI) => ahv x⟩
def ax6 : List (Nat × acq) := []
def alV (ρ : Type) : List (acD ρ) := []
def aoJ (ρ : Type) : Env ρ := acr ax6 (alV ρ)
def asJ : acq := ⟨[ac1, tI], [f6], fun (x : Val (.pair ac1 tI)) => afA x.1 x.2⟩
def ax5 : List (Nat × acq) := []
def alO (ρ : Type) : List (acD ρ) := []
def aoH (ρ : Type) : Env ρ := acr ax5 (alO ρ)
def azs : acq := ⟨[ab3, ab1, ab1, ab9], [.bool, tI], fun (x : Val (.pair ab3 (.pair ab1 abT))) => aj6 x.1 x.2.1 x.2.2.1 x.2.2.2⟩
def aeK : ab8 := { pin := 5, cs := [tI, tI, tI, l5, eI, m5, eW, eI, tI, tI, tI, tI, tI, tI, f6, f6, tI, tI, tI, tI, eI], vs := [tI, tI, tI, l5, eI, m5, eW, eI], head := ⟨68, .any :: .any :: .box 5 0 :: aN 20 [.own 4, .con tI, .var tI], [.cells [.con tI, .con tI, .con l5, .con eI, .con m5, .con eW, .con eI], .cells [.con tI, .con tI], .cells [.con tI, .con tI], .cells [.con tI, .con tI, .con f6, .con f6, .con tI, .con tI, .con tI, .con tI], .rowc ab1, .cells [.var tI, .var tI, .var l5, .var eI, .var m5, .var eW, .var eI]]⟩, exits := [(.ret, ⟨68, .any :: .any :: .box 5 0 :: .any :: .nilp :: .var tI :: aN 17 [.own 4, .con tI], [.cells [.con tI, .con tI, .con l5, .con eI, .con m5, .con eW, .con eI], .cells [.con tI, .con tI], .cells [.con tI, .con tI], .cells [.con tI, .con tI, .con f6, .con f6, .con tI, .con tI, .con tI, .con tI], .rowc ab1, .cells [.var tI, .var tI, .var l5, .var eI, .var m5, .var eW, .var eI]]⟩, [tI, tI, tI, l5, eI, m5, eW, eI]), (.exit 0, ⟨68, .any :: .any :: .box 5 0 :: aN 20 [.own 4, .con tI], [.cells [.con tI, .con tI, .con l5, .con eI, .con m5, .con eW, .con eI], .cells [.con tI, .con tI], .cells [.con tI, .con tI], .cells [.con tI, .con tI, .con f6, .con f6, .con tI, .con tI, .con tI, .con tI], .rowc ab1, .cells [.var tI, .var tI, .var l5, .var eI, .var m5, .var eW, .var eI]]⟩, [tI, tI, l5, eI, m5, eW, eI])] }
def aiS (ρ : Type) : acD ρ := ⟨[1, 3], 50, 0, aeK, fun (p : Val abv) (v : Val abA) kn kx => alb p.1 p.2.2.2.2.2.2.2.2.2.2.2.2.2.2.2.2.2.2.2.2 v.1 v.2.1 v.2.2.1 v.2.2.2.1 v.2.2.2.2.1 v.2.2.2.2.2.1 v.2.2.2.2.2.2.1 v.2.2.2.2.2.2.2 (fun u0 u1 u2 u3 u4 u5 u6 u7 => kn (u0, u1, u2, u3, u4, u5, u6, u7)) (kx 0) (kx 1)⟩
def aeJ : ab8 := { pin := 12, cs := [f6, tI, tI, tI, l5, eI, m5, eW, eI, tI, tI, tI, tI, tI, tI, f6, f6, tI, tI, tI, tI, eI, tI, tI, l5, eI, m5, eW, eI, tI, abo, tI, tI, tI, tI, tI, tI, tI, tI, abt, abt, abt], vs := [tI], head := ⟨19, .con f6 :: .fn 98 [(8, 0), (2, 0)] :: aN 5 [.con tI, .var tI], [.cells [.con tI, .con tI, .con l5, .con eI, .con m5, .con eW, .con eI], .cells [.con tI, .con tI], .cells [.con tI, .con tI], .cells [.con tI, .con tI, .con f6, .con f6, .con tI, .con tI, .con tI, .con tI], .rowc ab1, .cells [.con tI, .con tI, .con l5, .con eI, .con m5, .con eW, .con eI], .cells [.con tI, .con abo], .dead, .cells [.con tI, .con tI, .con tI, .con tI, .con tI, .con tI, .con tI, .con tI], .rowf f6 0, .rowf f6 0, .rowf f6 0]⟩, exits := [(.ret, ⟨19, [.con f6, .fn 98 [(8, 0), (2, 0)], .any, .any, .var tI, .any, .any, .con tI], [.cells [.con tI, .con tI, .con l5, .con eI, .con m5, .con eW, .con eI], .cells [.con tI, .con tI], .cells [.con tI, .con tI], .cells [.con tI, .con tI, .con f6, .con f6, .con tI, .con tI, .con tI, .con tI], .rowc ab1, .cells [.con tI, .con tI, .con l5, .con eI, .con m5, .con eW, .con eI], .cells [.con tI, .con abo], .dead, .cells [.con tI, .con tI, .con tI, .con tI, .con tI, .con tI, .con tI, .con tI], .rowf f6 0, .rowf f6 0, .rowf f6 0]⟩, [tI]), (.exit 0, ⟨19, .con f6 :: .fn 98 [(8, 0), (2, 0)] :: aN 5 [.con tI], [.cells [.con tI, .con tI, .con l5, .con eI, .con m5, .con eW, .con eI], .cells [.con tI, .con tI], .cells [.con tI, .con tI], .cells [.con tI, .con tI, .con f6, .con f6, .con tI, .con tI, .con tI, .con tI], .rowc ab1, .cells [.con tI, .con tI, .con l5, .con eI, .con m5, .con eW, .con eI], .cells [.con tI, .con abo], .dead, .cells [.con tI, .con tI, .con tI, .con tI, .con tI, .con tI, .con tI, .con tI], .rowf f6 0, .rowf f6 0, .rowf f6 0]⟩, [])] }
def aiR (ρ : Type) : acD ρ := ⟨[18, 4, 1, 2], 178, 0, aeJ, fun (p : Val abr) (v : Val tI) kn kx => aih p.1 p.2.1 p.2.2.2.2.2.2.2.2.2.2.2.1 p.2.2.2.2.2.2.2.2.2.2.2.2.1 p.2.2.2.2.2.2.2.2.2.2.2.2.2.2.2.2.2.2.2.2.2.2.2.2.2.2.2.2.2.2.2.1 p.2.2.2.2.2.2.2.2.2.2.2.2.2.2.2.2.2.2.2.2.2.2.2.2.2.2.2.2.2.2.2.2.1 p.2.2.2.2.2.2.2.2.2.2.2.2.2.2.2.2.2.2.2.2.2.2.2.2.2.2.2.2.2.2.2.2.2.1 p.2.2.2.2.2.2.2.2.2.2.2.2.2.2.2.2.2.2.2.2.2.2.2.2.2.2.2.2.2.2.2.2.2.2.1 p.2.2.2.2.2.2.2.2.2.2.2.2.2.2.2.2.2.2.2.2.2.2.2.2.2.2.2.2.2.2.2.2.2.2.2.1 p.2.2.2.2.2.2.2.2.2.2.2.2.2.2.2.2.2.2.2.2.2.2.2.2.2.2.2.2.2.2.2.2.2.2.2.2.1 p.2.2.2.2.2.2.2.2.2.2.2.2.2.2.2.2.2.2.2.2.2.2.2.2.2.2.2.2.2.2.2.2.2.2.2.2.2.1 p.2.2.2.2.2.2.2.2.2.2.2.2.2.2.2.2.2.2.2.2.2.2.2.2.2.2.2.2.2.2.2.2.2.2.2.2.2.2.1 v (fun u0 => kn u0) (kx 0) (kx 1)⟩
def aqQ : List (Nat × acq) := [(20, ael), (38, adY), (60, afV), (61, ako), (69, arz), (71, avj), (94, ad4), (95, ams), (96, asK), (97, asJ), (99, ak2), (101, ak3), (123, aei)]
def ajS (ρ : Type) : List (acD ρ) := [aiS ρ, aiR ρ]
def ala : List aRq := [⟨[], 42, 0, 4⟩]
def ac3 (ρ : Type) : Env ρ := { acr aqQ (ajS ρ) with hint := awn [(51, 96), (55, 96)] }
def amI (ρ : Type) : Env ρ := { { aS0 aqQ (ajS ρ) ala with loops := aJu (ac3 ρ) ala } with hint := awn [(51, 96), (55, 96)] }
def awX : acq := ⟨[], [ab3], fun (_ : Unit) => apl⟩
def azJ : List (Nat × acq) := []
def anG (ρ : Type) : List (acD ρ) := []
def aqH (ρ : Type) : Env ρ := acr azJ (anG ρ)
def aIh : acq := ⟨[acb, tI, tI], [f6, tI], fun (x : Val abU) => apq x.1 x.2.1 x.2.2⟩
def aCX : ab8 := { pin := 3, cs := [abt, tI, tI, abo, tI, tI], vs := [tI], head := ⟨19, .con abt :: .fn 194 [(1, 0), (2, 0)] :: aN 5 [.con tI, .var tI], [.cells [.con tI, .con abo], .cells [.con tI], .cells [.con tI]]⟩, exits := [(.ret, ⟨19, [.con abt, .fn 194 [(1, 0), (2, 0)], .any, .any, .var tI, .any, .any, .con tI], [.cells [.con tI, .con abo], .cells [.con tI], .cells [.con tI]]⟩, [tI]), (.exit 0, ⟨19, .con abt :: .fn 194 [(1, 0), (2, 0)] :: aN 5 [.con tI], [.cells [.con tI, .con abo], .cells [.con tI], .cells [.con tI]]⟩, [])] }
def aq2 (ρ : Type) : acD ρ := ⟨[5, 2], 193, 0, aCX, fun (p : Val (.pair abt (.pair tI (.pair tI (.pair abo ab1))))) (v : Val tI) kn kx => akK p.1 p.2.1 p.2.2.2.2.1 p.2.2.2.2.2 v (fun u0 => kn u0) (kx 0) (kx 1)⟩
def aCV : ab8 := { pin := 3, cs := [tI, abt, abo, tI, tI, abo, tI, tI, tI, abo], vs := [tI, tI, tI, f6], head := ⟨73, .any :: .var tI :: .con tI :: .con abt :: .fn 195 [(2, 0)] :: .box 3 0 :: aN 5 (.own 4 :: .var tI :: aN 7 [.con abo, .con tI, .var tI]), [.cells [.con tI, .con abo], .cells [.con tI], .cells [.con tI], .cells [.con tI, .con abo], .rowv tI]⟩, exits := [(.exit 2, ⟨73, .any :: .var tI :: .con tI :: .con abt :: .fn 195 [(2, 0)] :: .box 3 0 :: aN 5 (.own 4 :: .var tI :: aN 7 [.con abo, .con tI]), [.cells [.con tI, .con abo], .cells [.con tI], .cells [.con tI], .cells [.con tI, .con abo], .rowv tI]⟩, [tI, tI, f6])] }
def aq0 (ρ : Type) : acD ρ := ⟨[6, 5], 158, 2, aCV, fun (p : Val (.pair tI (.pair abt (.pair abo (.pair tI (.pair tI (.pair abo (.pair tI abH)))))))) (v : Val abD) kn kx => axl p.1 p.2.1 p.2.2.1 p.2.2.2.1 p.2.2.2.2.2.2.2.1 v.1 v.2.1 v.2.2.1 v.2.2.2 (fun u0 u1 u2 u3 => kn (u0, u1, u2, u3)) (kx 0)⟩
def aCW : ab8 := { pin := 3, cs := [abt, tI, abo, tI, tI, tI, abo], vs := [tI, tI, tI, f6], head := ⟨73, .any :: .var tI :: .var tI :: .con abt :: .fn 195 [(2, 0)] :: .box 3 0 :: aN 5 [.own 4, .var tI], [.cells [.con tI, .con abo], .cells [.con tI], .cells [.con tI], .cells [.con tI, .con abo], .rowv tI]⟩, exits := [(.exit 0, ⟨73, .any :: .any :: .any :: .con abt :: .fn 195 [(2, 0)] :: .box 3 0 :: aN 5 [.own 4], [.cells [.con tI, .con abo], .cells [.con tI], .cells [.con tI], .cells [.con tI, .con abo], .rowv tI]⟩, [f6])] }
def aq1 (ρ : Type) : acD ρ := ⟨[6, 5], 158, 0, aCW, fun (p : Val (.pair abt (.pair tI (.pair abo (.pair tI abH))))) (v : Val abD) kn kx => akJ p.1 p.2.2.2.2.1 p.2.2.2.2.2.2 v.1 v.2.1 v.2.2.1 v.2.2.2 (fun u0 u1 u2 u3 => kn (u0, u1, u2, u3)) (kx 0)⟩
def aIZ : List (Nat × acq) := [(89, asM), (156, azv)]
def atS (ρ : Type) : List (acD ρ) := [aq2 ρ, aq0 ρ, aq1 ρ]
def ajT (ρ : Type) : Env ρ := acr aIZ (atS ρ)
def asL : acq := ⟨[abx, abR, (.ptr .bool)], [f6], fun (x : Val (.pair abx (.pair abR (.ptr .bool)))) => ahw x.1 x.2.1 x.2.2⟩
def ayb : List (Nat × acq) := [(55, agL), (120, aIh)]
def alY (ρ : Type) : List (acD ρ) := []
def aoO (ρ : Type) : Env ρ := acr ayb (alY ρ)
def azt : acq := ⟨[ab3, ab1, .bool], [adz, tI], fun (x : Val (.pair ab3 (.pair ab1 .bool))) => ank x.1 x.2.1 x.2.2⟩
def aya : ab8 := { pin := 5, cs := [tI, tI, tI, l5, eI, m5, eW, eI, tI, tI, tI, tI, .bool, tI, eI], vs := [tI, tI, tI, l5, eI, m5, eW, eI], head := ⟨68, .any :: .any :: .box 5 0 :: aN 20 [.own 4, .con tI, .var tI], [.cells [.con tI, .con tI, .con l5, .con eI, .con m5, .con eW, .con eI], .dead, .dead, .cells [.con tI, .con tI, .nils, .nils, .nils, .nils, .nils, .con tI, .con tI, .con .bool, .con tI, .nils], .rowc ab1, .cells [.var tI, .var tI, .var l5, .var eI, .var m5, .var eW, .var eI]]⟩, exits := [(.ret, ⟨68, .any :: .any :: .box 5 0 :: .any :: .nilp :: .var tI :: aN 17 [.own 4, .con tI], [.cells [.con tI, .con tI, .con l5, .con eI, .con m5, .con eW, .con eI], .dead, .dead, .cells [.con tI, .con tI, .nils, .nils, .nils, .nils, .nils, .con tI, .con tI, .con .bool, .con tI, .nils], .rowc ab1, .cells [.var tI, .var tI, .var l5, .var eI, .var m5, .var eW, .var eI]]⟩, [tI, tI, tI, l5, eI, m5, eW, eI]), (.exit 0, ⟨68, .any :: .any :: .box 5 0 :: aN 20 [.own 4, .con tI], [.cells [.con tI, .con tI, .con l5, .con eI, .con m5, .con eW, .con eI], .dead, .dead, .cells [.con tI, .con tI, .nils, .nils, .nils, .nils, .nils, .con tI, .con tI, .con .bool, .con tI, .nils], .rowc ab1, .cells [.var tI, .var tI, .var l5, .var eI, .var m5, .var eW, .var eI]]⟩, [tI, tI, l5, eI, m5, eW, eI])] }
def anQ (ρ : Type) : acD ρ := ⟨[1, 3], 50, 0, aya, fun (p : Val (.pair tI (.pair tI (.pair tI (.pair l5 (.pair eI (.pair m5 (.pair eW (.pair eI (.pair tI (.pair tI (.pair tI (.pair tI (.pair .bool abC)))))))))))))) (v : Val abA) kn kx => alf p.1 p.2.2.2.2.2.2.2.2.2.2.2.2.2.2 v.1 v.2.1 v.2.2.1 v.2.2.2.1 v.2.2.2.2.1 v.2.2.2.2.2.1 v.2.2.2.2.2.2.1 v.2.2.2.2.2.2.2 (fun u0 u1 u2 u3 u4 u5 u6 u7 => kn (u0, u1, u2, u3, u4, u5, u6, u7)) (kx 0) (kx 1)⟩
def ax9 : ab8 := { pin := 10, cs := [tI, tI, tI, l5, eI, m5, eW, eI, tI, tI, tI, tI, .bool, tI, eI, tI, tI, l5, eI, m5, eW, eI, tI, abo, eI, tI, tI, l5, eI, m5, eW, eI, tI, tI, l5, eI, m5, eW, eI], vs := [tI], head := ⟨68, .any :: .any :: .box 10 0 :: aN 20 [.nils, .con tI, .var tI], [.cells [.con tI, .con tI, .con l5, .con eI, .con m5, .con eW, .con eI], .dead, .dead, .cells [.con tI, .con tI, .nils, .nils, .nils, .nils, .nils, .con tI, .con tI, .con .bool, .con tI, .nils], .rowc ab1, .cells [.con tI, .con tI, .con l5, .con eI, .con m5, .con eW, .con eI], .cells [.con tI, .con abo], .dead, .rowf ab1 0, .cells [.con tI, .con tI, .con l5, .con eI, .con m5, .con eW, .con eI], .cells [.con tI, .con tI, .con l5, .con eI, .con m5, .con eW, .con eI]]⟩, exits := [(.exit 0, ⟨68, .any :: .any :: .box 10 0 :: aN 20 [.nils, .con tI], [.cells [.con tI, .con tI, .con l5, .con eI, .con m5, .con eW, .con eI], .dead, .dead, .cells [.con tI, .con tI, .nils, .nils, .nils, .nils, .nils, .con tI, .con tI, .con .bool, .con tI, .nils], .rowc ab1, .cells [.con tI, .con tI, .con l5, .con eI, .con m5, .con eW, .con eI], .cells [.con tI, .con abo], .dead, .rowf ab1 0, .cells [.con tI, .con tI, .con l5, .con eI, .con m5, .con eW, .con eI], .cells [.con tI, .con tI, .con l5, .con eI, .con m5, .con eW, .con eI]]⟩, [])] }
def anP (ρ : Type) : acD ρ := ⟨[6, 1], 50, 0, ax9, fun (p : Val (.pair tI (.pair tI (.pair tI (.pair l5 (.pair eI (.pair m5 (.pair eW (.pair eI (.pair tI (.pair tI (.pair tI (.pair tI (.pair .bool (.pair tI (.pair eI (.pair tI (.pair tI (.pair l5 (.pair eI (.pair m5 (.pair eW (.pair eI (.pair tI (.pair abo (.pair eI (.pair tI (.pair tI (.pair l5 (.pair eI (.pair m5 (.pair eW (.pair eI abp))))))))))))))))))))))))))))))))) (v : Val tI) kn kx => ale p.1 v (fun u0 => kn u0) (kx 0)⟩
def aCH : List (Nat × acq) := [(20, ael), (38, adY), (60, afV), (61, ako), (79, ajG), (80, arA), (119, asL), (121, ak4), (122, ahO), (123, aei)]
def aoN (ρ : Type) : List (acD ρ) := [anQ ρ, anP ρ]
def ahp (ρ : Type) : Env ρ := { acr aCH (aoN ρ) with hint := awn [(34, 119), (56, 119)] }
def azr : acq := ⟨[], [.bool], fun (_ : Unit) => acC⟩
def aCe : List (Nat × acq) := [(15, aon), (17, azu), (18, aMH), (25, aId), (31, aIc), (33, ajb), (35, avk), (36, aIe), (42, azs), (48, awX), (49, azt)]
def aos (ρ : Type) : List (acD ρ) := []
def as0 (ρ : Type) : Env ρ := acr aCe (aos ρ)
def alF : acq := ⟨[abB, f6], [tI], fun (x : Val (.pair abB f6)) => agj x.1 x.2⟩
def an7 : ab8 := { pin := 0, cs := [f6, tI], vs := [tI], head := ⟨19, .con f6 :: .fn 137 [] :: aN 5 [.con tI, .var tI], []⟩, exits := [(.ret, ⟨19, [.con f6, .fn 137 [], .any, .any, .var tI, .any, .any, .con tI], []⟩, [tI]), (.exit 0, ⟨19, .con f6 :: .fn 137 [] :: aN 5 [.con tI], []⟩, [])] }
def ahL (ρ : Type) : acD ρ := ⟨[1, 10, 1, 2], 178, 0, an7, fun (p : Val abE) (v : Val tI) kn kx => afb p.1 p.2 v (fun u0 => kn u0) (kx 0) (kx 1)⟩
def aqr : List (Nat × acq) := [(126, af8)]
def aiz (ρ : Type) : List (acD ρ) := [ahL ρ]
def agT (ρ : Type) : Env ρ := acr aqr (aiz ρ)
def aMI : acq := ⟨[acb, f6], [.bool, tI], fun (x : Val abS) => ayX x.1 x.2⟩
def aF4 : ab8 := { pin := 1, cs := [f6, tI, tI, abo], vs := [tI], head := ⟨19, .con f6 :: .fn 203 [] :: aN 5 [.con tI, .var tI], [.cells [.con tI, .con abo]]⟩, exits := [(.ret, ⟨19, [.con f6, .fn 203 [], .any, .any, .var tI, .any, .any, .con tI], [.cells [.con tI, .con abo]]⟩, [tI]), (.exit 0, ⟨19, .con f6 :: .fn 203 [] :: aN 5 [.con tI], [.cells [.con tI, .con abo]]⟩, [])] }
def atK (ρ : Type) : acD ρ := ⟨[4, 7, 1, 2], 178, 0, aF4, fun (p : Val (.pair f6 abH)) (v : Val tI) kn kx => amU p.1 p.2.1 v (fun u0 => kn u0) (kx 0) (kx 1)⟩
def aF3 : ab8 := { pin := 0, cs := [f6, abo, tI], vs := [tI], head := ⟨53, .any :: .con f6 :: aN 26 [.con abo, .con tI, .var tI], []⟩, exits := [(.ret, ⟨53, .any :: .con f6 :: .any :: .any :: .var .bool :: .var tI :: aN 22 [.con abo, .con tI], []⟩, [.bool, tI]), (.exit 0, ⟨53, .any :: .con f6 :: aN 26 [.con abo, .con tI], []⟩, [])] }
def atJ (ρ : Type) : acD ρ := ⟨[], 138, 0, aF3, fun (p : Val (.pair f6 (.pair abo tI))) (v : Val tI) kn kx => ah1 p.1 p.2.1 p.2.2 v (fun u0 => kn u0) (kx 0) (kx 1)⟩
def aLg : List (Nat × acq) := [(133, ajH)]
def axf (ρ : Type) : List (acD ρ) := [atK ρ, atJ ρ]
def apV (ρ : Type) : Env ρ := acr aLg (axf ρ)
def aqE : acq := ⟨[abB, f6], [.bool], fun (x : Val (.pair abB f6)) => aim x.1 x.2⟩
def av6 : List (Nat × acq) := [(138, aMI)]
def akR (ρ : Type) : List (acD ρ) := []
def an0 (ρ : Type) : Env ρ := acr av6 (akR ρ)
def aMM : acq := ⟨[ab3, f6], [.bool, tI], fun (x : Val (.pair ab3 f6)) => akZ x.1 x.2⟩
def aLA : List (Nat × acq) := [(38, adY), (62, ayH), (67, alF), (68, aqE)]
def axE (ρ : Type) : List (acD ρ) := []
def aEd (ρ : Type) : Env ρ := acr aLA (axE ρ)
def avi : acq := ⟨[ab3, ab1], [tI], fun (x : Val abL) => ag2 x.1 x.2⟩
def aFp : List (Nat × acq) := [(60, afV)]
def aqF (ρ : Type) : List (acD ρ) := []
def aw0 (ρ : Type) : Env ρ := acr aFp (aqF ρ)
def aDO : acq := ⟨[adz, ab3, f6], [.bool], fun (x : Val (.pair adz (.pair ab3 f6))) => agf x.1 x.2.1 x.2.2⟩
def aFq : List (Nat × acq) := [(27, avi)]
def aqG (ρ : Type) : List (acD ρ) := []
def aw1 (ρ : Type) : Env ρ := acr aFq (aqG ρ)
def afN : acq := ⟨[ab3, adz, f6, f6], [.bool], fun (x : Val (.pair ab3 (.pair adz (.pair f6 f6)))) => aht x.1 x.2.1 x.2.2.1 x.2.2.2⟩
def aou : List (Nat × acq) := [(13, aME), (14, azr), (15, aon), (23, aMM), (27, avi), (33, ajb), (34, aDO), (35, avk)]
def ahH (ρ : Type) : List (acD ρ) := []
def ai0 (ρ : Type) : Env ρ := acr aou (ahH ρ)
end Go.Proofs.ZzM
end
