/- lemmas -/
import Derived.Test.YthhhehllmdfhiaaGreatAmE
import Derived.KernelRfl
import Derived.Test.YthhhehllmdfhiaaGreatMdTA
import Derived.Test.YthhhehllmdfhiaaGreatProg
set_option linter.all false
set_option linter.unusedSectionVars false
set_option linter.unusedVariables false
set_option linter.unusedSimpArgs false
noncomputable section
set_option maxRecDepth 100000
namespace Go.Proofs.ZzM
open Go Go.Am
def aBF : Nat → Bool
  | 91 => true
  | 140 => true
  | 229 => true
  | 230 => true
  | 231 => true
  | 232 => true
  | 233 => true
  | _ => false
def aKf : Nat → Bool
  | 127 => true
  | _ => false
def apO : Nat → Bool
  | 128 => true
  | _ => false
def isInl : Nat → Bool
  | 2 => true
  | 50 => true
  | 66 => true
  | 74 => true
  | 84 => true
  | 92 => true
  | 93 => true
  | 98 => true
  | 100 => true
  | 124 => true
  | 131 => true
  | 132 => true
  | 136 => true
  | 137 => true
  | 139 => true
  | 141 => true
  | 147 => true
  | 148 => true
  | 149 => true
  | 150 => true
  | 151 => true
  | 152 => true
  | 153 => true
  | 154 => true
  | 155 => true
  | 157 => true
  | 158 => true
  | 159 => true
  | 160 => true
  | 161 => true
  | 165 => true
  | 169 => true
  | 170 => true
  | 175 => true
  | 176 => true
  | 178 => true
  | 193 => true
  | 194 => true
  | 195 => true
  | 196 => true
  | 199 => true
  | 201 => true
  | 202 => true
  | 203 => true
  | 204 => true
  | 206 => true
  | 207 => true
  | 208 => true
  | 209 => true
  | 211 => true
  | 212 => true
  | 214 => true
  | 215 => true
  | 217 => true
  | 218 => true
  | 220 => true
  | 221 => true
  | 222 => true
  | 242 => true
  | 243 => true
  | 244 => true
  | 245 => true
  | 246 => true
  | 247 => true
  | 249 => true
  | 250 => true
  | 253 => true
  | 255 => true
  | 257 => true
  | 261 => true
  | 269 => true
  | 270 => true
  | 272 => true
  | 273 => true
  | 275 => true
  | 276 => true
  | 279 => true
  | 280 => true
  | 286 => true
  | 288 => true
  | 289 => true
  | _ => false
def isFz : Nat → Bool
  | 59 => true
  | 79 => true
  | 94 => true
  | _ => false
def isEat : Nat → Nat → Bool
  | 41, 8 => true
  | 41, 11 => true
  | 49, 4 => true
  | 49, 5 => true
  | 50, 67 => true
  | 176, 25 => true
  | 202, 0 => true
  | _, _ => false
def acA {ρ : Type} (pt : List (Nat × acy)) (tab : List (acD ρ)) : Env ρ :=
  { P := Tryz.prog, eat := isEat, clone := aBF, sort := aKf, compact := apO, inl := isInl, fz := isFz, pure := aOY pt, loops := ajB tab }
def aTU {ρ : Type} (pt : List (Nat × acy)) (tab : List (acD ρ)) (us : List aSd) : Env ρ :=
  { P := Tryz.prog, eat := isEat, clone := aBF, sort := aKf, compact := apO, inl := isInl, fz := isFz, pure := aOY pt, loops := aJ6 (acA pt tab) us }
end Go.Proofs.ZzM
end

noncomputable section
set_option maxRecDepth 100000
namespace Go.Proofs.ZzM
open Go Go.Am
def ar7 : acy := ⟨[ab6], [abu], fun (x : Val ab6) => afd x⟩
def ayO : acb := { pin := 0, cs := [l5, tI], vs := [tI, abu], head := ⟨20, .any :: .any :: .any :: .omp 0 :: aN 4 [.con l5, .con tI, .var tI], [.mapv tI ach]⟩, exits := [(.exit 0, ⟨20, .any :: .any :: .any :: .omp 0 :: aN 4 [.con l5, .con tI], [.mapv tI ach]⟩, [abu])] }
def aoq (ρ : Type) : acD ρ := ⟨[], 53, 0, ayO, fun (p : Val (.pair l5 tI)) (v : Val (.pair tI abu)) kn kx => aiG p.1 p.2 v.1 v.2 (fun u0 u1 => kn (u0, u1)) (kx 0)⟩
def aDH : List (Nat × acy) := []
def apv (ρ : Type) : List (acD ρ) := [aoq ρ]
def anp (ρ : Type) : Env ρ := acA aDH (apv ρ)
def al1 : acy := ⟨[ab5, tI, tI], [.bool], fun (x : Val acY) => aeW x.1 x.2.1 x.2.2⟩
def aG8 : List (Nat × acy) := []
def arE (ρ : Type) : List (acD ρ) := []
def axV (ρ : Type) : Env ρ := acA aG8 (arE ρ)
def agq : acy := ⟨[tI, tI, tI], [.bool], fun (x : Val ac8) => ade x.1 x.2.1 x.2.2⟩
def aGR : List (Nat × acy) := []
def arz (ρ : Type) : List (acD ρ) := []
def axQ (ρ : Type) : Env ρ := acA aGR (arz ρ)
def atk : acy := ⟨[tI], [.bool], fun (x : Val tI) => aja x⟩
def aJV : List (Nat × acy) := [(126, agq)]
def auS (ρ : Type) : List (acD ρ) := []
def aBo (ρ : Type) : Env ρ := acA aJV (auS ρ)
def aFK : acy := ⟨[tI], [(.int .u64)], fun (x : Val tI) => alm x⟩
def aLX : List (Nat × acy) := []
def axL (ρ : Type) : List (acD ρ) := []
def aEK (ρ : Type) : Env ρ := acA aLX (axL ρ)
def aLz : acy := ⟨[(.int .u64), (.int .u64)], [(.int .u64)], fun (x : Val abY) => aB0 x.1 x.2⟩
def aJF : acb := { pin := 0, cs := [], vs := [(.int .u64), (.int .u64)], head := ⟨12, [.var (.int .u64), .var (.int .u64)], []⟩, exits := [(.exit 0, ⟨12, [.var (.int .u64)], []⟩, [(.int .u64)])] }
def axM (ρ : Type) : acD ρ := ⟨[], 260, 0, aJF, fun (p : Unit) (v : Val abY) kn kx => aqo v.1 v.2 (fun u0 u1 => kn (u0, u1)) (kx 0)⟩
def aOM : List (Nat × acy) := []
def aA0 (ρ : Type) : List (acD ρ) := [axM ρ]
def aA1 (ρ : Type) : Env ρ := acA aOM (aA0 ρ)
def atg : acy := ⟨[ab5], [.bool], fun (x : Val ab5) => amF x⟩
def aJI : List (Nat × acy) := [(259, aFK), (260, aLz)]
def auB (ρ : Type) : List (acD ρ) := []
def aA5 (ρ : Type) : Env ρ := acA aJI (auB ρ)
def azZ : acy := ⟨[ach], [.bool], fun (x : Val ach) => anT x⟩
def aDT : List (Nat × acy) := [(82, al1), (125, atk), (126, agq), (219, atg)]
def apD (ρ : Type) : List (acD ρ) := []
def auR (ρ : Type) : Env ρ := acA aDT (apD ρ)
def aoR : acy := ⟨[ab6], [tI], fun (x : Val ab6) => aeH x⟩
def aqU : acb := { pin := 0, cs := [l5, tI, tI, tI, l5, eI, m5, eW, eI], vs := [tI], head := ⟨31, .any :: .box 0 0 :: aN 4 [.con l5, .con tI, .var tI], [.cells [.con tI, .con tI, .con l5, .con eI, .con m5, .con eW, .con eI]]⟩, exits := [(.ret, ⟨31, [.any, .box 0 0, .var tI, .any, .any, .any, .con l5, .con tI], [.cells [.con tI, .con tI, .con l5, .con eI, .con m5, .con eW, .con eI]]⟩, [tI]), (.exit 0, ⟨31, .any :: .box 0 0 :: aN 4 [.con l5, .con tI], [.cells [.con tI, .con tI, .con l5, .con eI, .con m5, .con eW, .con eI]]⟩, [])] }
def ajr (ρ : Type) : acD ρ := ⟨[], 83, 0, aqU, fun (p : Val (.pair l5 abA)) (v : Val tI) kn kx => af7 p.1 p.2.1 p.2.2.2.2.1 v (fun u0 => kn u0) (kx 0) (kx 1)⟩
def auY : List (Nat × acy) := [(162, azZ)]
def akk (ρ : Type) : List (acD ρ) := [ajr ρ]
def aio (ρ : Type) : Env ρ := acA auY (akk ρ)
def alY : acy := ⟨[f6, tI], [tI], fun (x : Val abE) => agy x.1 x.2⟩
def aow : acb := { pin := 0, cs := [f6, tI, tI], vs := [tI], head := ⟨19, .con f6 :: .con tI :: aN 5 [.con tI, .var tI], []⟩, exits := [(.ret, ⟨19, [.con f6, .con tI, .any, .any, .var tI, .any, .any, .con tI], []⟩, [tI]), (.exit 0, ⟨19, .con f6 :: .con tI :: aN 5 [.con tI], []⟩, [])] }
def ah2 (ρ : Type) : acD ρ := ⟨[], 73, 0, aow, fun (p : Val (.pair f6 ab5)) (v : Val tI) kn kx => afk p.1 p.2.1 p.2.2 v (fun u0 => kn u0) (kx 0) (kx 1)⟩
def aqM : List (Nat × acy) := []
def aiP (ρ : Type) : List (acD ρ) := [ah2 ρ]
def ag2 (ρ : Type) : Env ρ := acA aqM (aiP ρ)
def agD : acy := ⟨[f6, tI], [.bool], fun (x : Val abE) => adu x.1 x.2⟩
def amZ : List (Nat × acy) := [(73, alY)]
def ahe (ρ : Type) : List (acD ρ) := []
def ah3 (ρ : Type) : Env ρ := acA amZ (ahe ρ)
def aFN : acy := ⟨[ab6, ach], [f6], fun (x : Val (.pair ab6 ach)) => ajF x.1 x.2⟩
def aHc : acb := { pin := 0, cs := [eW, tI, tI, tI, l5, eI, m5, eW, eI, tI, tI, tI, tI, tI, tI, tI, tI], vs := [tI, f6], head := ⟨59, .any :: .any :: .box 0 0 :: .box 1 0 :: .any :: .own 2 :: aN 8 [.con eW, .con tI, .var tI], [.cells [.con tI, .con tI, .con l5, .con eI, .con m5, .con eW, .con eI], .cells [.con tI, .con tI, .con tI, .con tI, .con tI, .con tI, .con tI, .con tI], .rowv tI]⟩, exits := [(.exit 0, ⟨59, .any :: .any :: .box 0 0 :: .box 1 0 :: .any :: .own 2 :: aN 8 [.con eW, .con tI], [.cells [.con tI, .con tI, .con l5, .con eI, .con m5, .con eW, .con eI], .cells [.con tI, .con tI, .con tI, .con tI, .con tI, .con tI, .con tI, .con tI], .rowv tI]⟩, [f6])] }
def auV (ρ : Type) : acD ρ := ⟨[], 168, 0, aHc, fun (p : Val (.pair eW abK)) (v : Val abz) kn kx => anD p.1 p.2.1 p.2.2.2.2.2.2.2.2.2.1 v.1 v.2 (fun u0 u1 => kn (u0, u1)) (kx 0)⟩
def aHb : acb := { pin := 0, cs := [eI, tI, tI, tI, tI, tI, tI, tI, tI, tI], vs := [tI, f6], head := ⟨59, .any :: .any :: .any :: .box 0 0 :: .any :: .own 1 :: aN 32 [.con eI, .con tI, .var tI], [.cells [.con tI, .con tI, .con tI, .con tI, .con tI, .con tI, .con tI, .con tI], .rowv tI]⟩, exits := [(.exit 2, ⟨59, .any :: .any :: .any :: .box 0 0 :: .any :: .own 1 :: aN 32 [.con eI, .con tI], [.cells [.con tI, .con tI, .con tI, .con tI, .con tI, .con tI, .con tI, .con tI], .rowv tI]⟩, [f6])] }
def auU (ρ : Type) : acD ρ := ⟨[], 168, 2, aHb, fun (p : Val (.pair eI (.pair tI abw))) (v : Val abz) kn kx => anC p.1 p.2.1 p.2.2.1 v.1 v.2 (fun u0 u1 => kn (u0, u1)) (kx 0)⟩
def aMb : List (Nat × acy) := [(65, agD)]
def axX (ρ : Type) : List (acD ρ) := [auV ρ, auU ρ]
def aqr (ρ : Type) : Env ρ := acA aMb (axX ρ)
def atj : acy := ⟨[ab6], [eI], fun (x : Val ab6) => akx x⟩
def aDJ : acb := { pin := 0, cs := [l5, tI, tI, f6, tI, tI, tI, l5, eI, m5, eW, eI, tI, tI, tI, tI, tI, tI, tI, tI], vs := [tI, eI], head := ⟨33, .any :: .box 0 0 :: .any :: .own 1 :: .any :: .box 2 0 :: .any :: .any :: .any :: .con l5 :: .con tI :: .con tI :: aN 5 [.con f6, .con tI, .var tI], [.cells [.con tI, .con tI, .con l5, .con eI, .con m5, .con eW, .con eI], .rowv ab5, .cells [.con tI, .con tI, .con tI, .con tI, .con tI, .con tI, .con tI, .con tI]]⟩, exits := [(.exit 2, ⟨33, .any :: .box 0 0 :: .any :: .own 1 :: .any :: .box 2 0 :: .any :: .any :: .any :: .con l5 :: .con tI :: .con tI :: aN 5 [.con f6, .con tI], [.cells [.con tI, .con tI, .con l5, .con eI, .con m5, .con eW, .con eI], .rowv ab5, .cells [.con tI, .con tI, .con tI, .con tI, .con tI, .con tI, .con tI, .con tI]]⟩, [eI])] }
def arA (ρ : Type) : acD ρ := ⟨[], 85, 2, aDJ, fun (p : Val (.pair l5 (.pair tI (.pair tI (.pair f6 abK))))) (v : Val abB) kn kx => ald p.2.2.2.1 p.2.2.2.2.1 p.2.2.2.2.2.2.2.2.2.2.2.2.1 v.1 v.2 (fun u0 u1 => kn (u0, u1)) (kx 0)⟩
def aDK : acb := { pin := 0, cs := [l5, tI, tI, tI, l5, eI, m5, eW, eI], vs := [tI, eI], head := ⟨33, .any :: .box 0 0 :: .any :: .own 1 :: aN 5 [.con l5, .con tI, .var tI], [.cells [.con tI, .con tI, .con l5, .con eI, .con m5, .con eW, .con eI], .rowv ab5]⟩, exits := [(.exit 0, ⟨33, .any :: .box 0 0 :: .any :: .own 1 :: aN 5 [.con l5, .con tI], [.cells [.con tI, .con tI, .con l5, .con eI, .con m5, .con eW, .con eI], .rowv ab5]⟩, [eI])] }
def arB (ρ : Type) : acD ρ := ⟨[], 85, 0, aDK, fun (p : Val (.pair l5 abA)) (v : Val abB) kn kx => ale p.1 p.2.1 p.2.2.1 p.2.2.2.1 p.2.2.2.2.1 p.2.2.2.2.2.1 p.2.2.2.2.2.2.1 p.2.2.2.2.2.2.2.1 p.2.2.2.2.2.2.2.2 v.1 v.2 (fun u0 u1 => kn (u0, u1)) (kx 0)⟩
def aJR : List (Nat × acy) := [(168, aFN)]
def auI (ρ : Type) : List (acD ρ) := [arA ρ, arB ρ]
def ant (ρ : Type) : Env ρ := acA aJR (auI ρ)
def aiB : acy := ⟨[abu, tI, tI], [tI], fun (x : Val (.pair abu ab5)) => afX x.1 x.2.1 x.2.2⟩
def awz : List (Nat × acy) := []
def alc (ρ : Type) : List (acD ρ) := []
def aor (ρ : Type) : Env ρ := acA awz (alc ρ)
def aLB : acy := ⟨[tI, tI, (.ptr abu)], [tI], fun (x : Val (.pair tI (.pair tI (.ptr abu)))) => adO x.1 x.2.1 x.2.2⟩
def aDI : List (Nat × acy) := [(125, atk), (164, aiB)]
def apy (ρ : Type) : List (acD ρ) := []
def auH (ρ : Type) : Env ρ := acA aDI (apy ρ)
def aFO : acy := ⟨[ab6, abu, tI], [tI], fun (x : Val ab0) => ae1 x.1 x.2.1 x.2.2⟩
def auX : acb := { pin := 2, cs := [m5, tI, tI, tI, l5, eI, m5, eW, eI, tI, tI, tI, tI], vs := [tI], head := ⟨19, .con m5 :: .fn 220 [(1, 0)] :: aN 5 [.con tI, .var tI], [.cells [.con tI, .con tI, .con l5, .con eI, .con m5, .con eW, .con eI], .cells [.con tI, .con tI, .con tI, .con tI]]⟩, exits := [(.ret, ⟨19, [.con m5, .fn 220 [(1, 0)], .any, .any, .var tI, .any, .any, .con tI], [.cells [.con tI, .con tI, .con l5, .con eI, .con m5, .con eW, .con eI], .cells [.con tI, .con tI, .con tI, .con tI]]⟩, [tI]), (.exit 0, ⟨19, .con m5 :: .fn 220 [(1, 0)] :: aN 5 [.con tI], [.cells [.con tI, .con tI, .con l5, .con eI, .con m5, .con eW, .con eI], .cells [.con tI, .con tI, .con tI, .con tI]]⟩, [])] }
def alh (ρ : Type) : acD ρ := ⟨[9, 5, 1, 2], 257, 0, auX, fun (p : Val (.pair m5 (.pair tI (.pair tI (.pair tI (.pair l5 (.pair eI (.pair m5 (.pair eW (.pair eI (.pair tI ac8))))))))))) (v : Val tI) kn kx => agV p.1 p.2.1 p.2.2.2.2.2.2.2.2.2.1 p.2.2.2.2.2.2.2.2.2.2.1 p.2.2.2.2.2.2.2.2.2.2.2.1 v (fun u0 => kn u0) (kx 0) (kx 1)⟩
def auW : acb := { pin := 2, cs := [eI, tI, tI, tI, l5, eI, m5, eW, eI, tI, tI, tI, tI], vs := [tI], head := ⟨19, .con eI :: .fn 221 [(1, 0)] :: aN 5 [.con tI, .var tI], [.cells [.con tI, .con tI, .con l5, .con eI, .con m5, .con eW, .con eI], .cells [.con tI, .con tI, .con tI, .con tI]]⟩, exits := [(.ret, ⟨19, [.con eI, .fn 221 [(1, 0)], .any, .any, .var tI, .any, .any, .con tI], [.cells [.con tI, .con tI, .con l5, .con eI, .con m5, .con eW, .con eI], .cells [.con tI, .con tI, .con tI, .con tI]]⟩, [tI]), (.exit 0, ⟨19, .con eI :: .fn 221 [(1, 0)] :: aN 5 [.con tI], [.cells [.con tI, .con tI, .con l5, .con eI, .con m5, .con eW, .con eI], .cells [.con tI, .con tI, .con tI, .con tI]]⟩, [])] }
def alg (ρ : Type) : acD ρ := ⟨[9, 10, 1, 2], 255, 0, auW, fun (p : Val (.pair eI (.pair tI (.pair tI (.pair tI (.pair l5 (.pair eI (.pair m5 (.pair eW (.pair eI (.pair tI ac8))))))))))) (v : Val tI) kn kx => aeV p.1 p.2.1 p.2.2.2.2.2.2.2.2.2.1 p.2.2.2.2.2.2.2.2.2.2.1 p.2.2.2.2.2.2.2.2.2.2.2.1 v (fun u0 => kn u0) (kx 0) (kx 1)⟩
def ayT : List (Nat × acy) := [(82, al1), (126, agq), (164, aiB)]
def amv (ρ : Type) : List (acD ρ) := [alh ρ, alg ρ]
def ahI (ρ : Type) : Env ρ := acA ayT (amv ρ)
def aqg : acy := ⟨[f6, f6], [f6], fun (x : Val (.pair f6 f6)) => aer x.1 x.2⟩
def aG4 : acb := { pin := 2, cs := [tI, f6, f6], vs := [tI], head := ⟨19, .own 1 :: .fn 170 [(0, 0)] :: aN 5 [.con tI, .var tI], [.cells [.con f6], .rowc tI]⟩, exits := [(.ret, ⟨19, [.own 1, .fn 170 [(0, 0)], .any, .any, .var tI, .any, .any, .con tI], [.cells [.con f6], .rowc tI]⟩, [tI]), (.exit 0, ⟨19, .own 1 :: .fn 170 [(0, 0)] :: aN 5 [.con tI], [.cells [.con f6], .rowc tI]⟩, [])] }
def auQ (ρ : Type) : acD ρ := ⟨[1, 3, 1, 2], 178, 0, aG4, fun (p : Val (.pair tI (.pair f6 f6))) (v : Val tI) kn kx => anB p.1 p.2.1 p.2.2 v (fun u0 => kn u0) (kx 0) (kx 1)⟩
def aG3 : acb := { pin := 2, cs := [f6], vs := [tI, tI, f6], head := ⟨42, [.own 1, .fn 170 [(0, 0)], .any, .any, .any, .var tI, .var tI], [.cells [.con f6], .rowv tI]⟩, exits := [(.exit 0, ⟨42, [.own 1, .fn 170 [(0, 0)], .any, .any, .any, .var tI], [.cells [.con f6], .rowv tI]⟩, [tI, f6])] }
def auP (ρ : Type) : acD ρ := ⟨[1, 3], 169, 0, aG3, fun (p : Val f6) (v : Val (.pair tI abz)) kn kx => ag9 p v.1 v.2.1 v.2.2 (fun u0 u1 u2 => kn (u0, u1, u2)) (kx 0)⟩
def aMa : List (Nat × acy) := [(65, agD)]
def axU (ρ : Type) : List (acD ρ) := [auQ ρ, auP ρ]
def aqq (ρ : Type) : Env ρ := acA aMa (axU ρ)
def aed : acy := ⟨[abt], [f6], fun (x : Val abt) => acF x⟩
def am1 : acb := { pin := 0, cs := [abt, abt, tI], vs := [tI, tI], head := ⟨36, .con abt :: .any :: .any :: .var tI :: aN 5 [.con abt, .con tI, .var tI], []⟩, exits := [(.exit 0, ⟨36, .con abt :: .any :: .any :: .var tI :: aN 5 [.con abt, .con tI], []⟩, [tI])] }
def ahF (ρ : Type) : acD ρ := ⟨[], 94, 0, am1, fun (p : Val (.pair abt (.pair abt tI))) (v : Val ab5) kn kx => adD p.2.1 p.2.2 v.1 v.2 (fun u0 u1 => kn (u0, u1)) (kx 0)⟩
def am0 : acb := { pin := 0, cs := [abt, tI], vs := [tI, f6], head := ⟨36, aN 6 (.own 0 :: aN 18 [.con abt, .con tI, .var tI]), [.rowv tI]⟩, exits := [(.exit 2, ⟨36, aN 6 (.own 0 :: aN 18 [.con abt, .con tI]), [.rowv tI]⟩, [f6])] }
def ahE (ρ : Type) : acD ρ := ⟨[], 94, 2, am0, fun (p : Val (.pair abt tI)) (v : Val abz) kn kx => acI p.1 p.2 v.1 v.2 (fun u0 u1 => kn (u0, u1)) (kx 0)⟩
def aoY : List (Nat × acy) := []
def ah4 (ρ : Type) : List (acD ρ) := [ahF ρ, ahE ρ]
def afl (ρ : Type) : Env ρ := acA aoY (ah4 ρ)
def avS : acy := ⟨[f6], [.bool], fun (x : Val f6) => aiu x⟩
def aBm : acb := { pin := 0, cs := [f6, f6, tI], vs := [tI], head := ⟨32, .con f6 :: aN 4 [.con f6, .con tI, .var tI], []⟩, exits := [(.ret, ⟨32, [.con f6, .any, .var .bool, .any, .any, .con f6, .con tI], []⟩, [.bool]), (.exit 0, ⟨32, .con f6 :: aN 4 [.con f6, .con tI], []⟩, [])] }
def apB (ρ : Type) : acD ρ := ⟨[], 198, 0, aBm, fun (p : Val (.pair f6 abE)) (v : Val tI) kn kx => ajA p.1 p.2.1 p.2.2 v (fun u0 => kn u0) (kx 0) (kx 1)⟩
def aG6 : List (Nat × acy) := [(126, agq)]
def arD (ρ : Type) : List (acD ρ) := [apB ρ]
def apC (ρ : Type) : Env ρ := acA aG6 (arD ρ)
def aNn : acy := ⟨[ab6, tI, tI], [adJ, .bool], fun (x : Val abQ) => aqB x.1 x.2.1 x.2.2⟩
def aHe : acb := { pin := 4, cs := [m5, tI, tI, tI, l5, eI, m5, eW, eI, tI, tI, tI, tI, tI, tI], vs := [tI], head := ⟨19, .con m5 :: .fn 261 [(1, 0), (2, 0)] :: aN 5 [.con tI, .var tI], [.cells [.con tI, .con tI, .con l5, .con eI, .con m5, .con eW, .con eI], .cells [.con tI], .cells [.con tI], .cells [.con tI, .con tI, .con tI, .con tI]]⟩, exits := [(.ret, ⟨19, [.con m5, .fn 261 [(1, 0), (2, 0)], .any, .any, .var tI, .any, .any, .con tI], [.cells [.con tI, .con tI, .con l5, .con eI, .con m5, .con eW, .con eI], .cells [.con tI], .cells [.con tI], .cells [.con tI, .con tI, .con tI, .con tI]]⟩, [tI]), (.exit 0, ⟨19, .con m5 :: .fn 261 [(1, 0), (2, 0)] :: aN 5 [.con tI], [.cells [.con tI, .con tI, .con l5, .con eI, .con m5, .con eW, .con eI], .cells [.con tI], .cells [.con tI], .cells [.con tI, .con tI, .con tI, .con tI]]⟩, [])] }
def auZ (ρ : Type) : acD ρ := ⟨[1, 3], 257, 0, aHe, fun (p : Val (.pair m5 (.pair tI (.pair tI (.pair tI (.pair l5 (.pair eI (.pair m5 (.pair eW (.pair eI (.pair tI (.pair tI (.pair tI ac8))))))))))))) (v : Val tI) kn kx => anF p.1 p.2.1 p.2.2.2.2.2.2.2.2.2.1 p.2.2.2.2.2.2.2.2.2.2.1 v (fun u0 => kn u0) (kx 0) (kx 1)⟩
def aMc : List (Nat × acy) := [(126, agq)]
def axY (ρ : Type) : List (acD ρ) := [auZ ρ]
def awH (ρ : Type) : Env ρ := acA aMc (axY ρ)
def ayq : acy := ⟨[ab6, abu, tI], [tI], fun (x : Val ab0) => adS x.1 x.2.1 x.2.2⟩
def apI : acb := { pin := 2, cs := [eW, tI, tI, tI, l5, eI, m5, eW, eI, tI, tI, f6, f6, tI, tI, tI, tI], vs := [tI], head := ⟨19, .con eW :: .fn 222 [(1, 0)] :: aN 5 [.con tI, .var tI], [.cells [.con tI, .con tI, .con l5, .con eI, .con m5, .con eW, .con eI], .cells [.con tI, .con tI, .con f6, .con f6, .con tI, .con tI, .con tI, .con tI]]⟩, exits := [(.ret, ⟨19, [.con eW, .fn 222 [(1, 0)], .any, .any, .var tI, .any, .any, .con tI], [.cells [.con tI, .con tI, .con l5, .con eI, .con m5, .con eW, .con eI], .cells [.con tI, .con tI, .con f6, .con f6, .con tI, .con tI, .con tI, .con tI]]⟩, [tI]), (.exit 0, ⟨19, .con eW :: .fn 222 [(1, 0)] :: aN 5 [.con tI], [.cells [.con tI, .con tI, .con l5, .con eI, .con m5, .con eW, .con eI], .cells [.con tI, .con tI, .con f6, .con f6, .con tI, .con tI, .con tI, .con tI]]⟩, [])] }
def ai2 (ρ : Type) : acD ρ := ⟨[4, 5, 1, 2], 207, 0, apI, fun (p : Val (.pair eW (.pair tI (.pair tI (.pair tI (.pair l5 (.pair eI (.pair m5 (.pair eW (.pair eI ace)))))))))) (v : Val tI) kn kx => afJ p.1 p.2.1 p.2.2.2.2.2.2.2.2.2.1 v (fun u0 => kn u0) (kx 0) (kx 1)⟩
def apG : acb := { pin := 0, cs := [abu, f6, tI, tI, tI, f6, tI, tI, tI, l5, eI, m5, eW, eI, tI, tI, f6, f6, tI, tI, tI, tI, f6], vs := [tI], head := ⟨140, .any :: .con abu :: .any :: .box 0 0 :: .any :: .any :: .any :: .box 1 0 :: .con f6 :: .any :: .con tI :: aN 65 [.own 2, .con tI, .con tI, .any, .any, .any, .con f6, .con tI, .var tI], [.cells [.con tI, .con tI, .con l5, .con eI, .con m5, .con eW, .con eI], .cells [.con tI, .con tI, .con f6, .con f6, .con tI, .con tI, .con tI, .con tI], .rowc tI]⟩, exits := [(.ret, ⟨140, .any :: .con abu :: .any :: .box 0 0 :: .any :: .any :: .var tI :: .box 1 0 :: .con f6 :: .any :: .con tI :: aN 65 [.own 2, .con tI, .con tI, .any, .any, .any, .con f6, .con tI], [.cells [.con tI, .con tI, .con l5, .con eI, .con m5, .con eW, .con eI], .cells [.con tI, .con tI, .con f6, .con f6, .con tI, .con tI, .con tI, .con tI], .rowc tI]⟩, [tI]), (.exit 2, ⟨140, .any :: .con abu :: .any :: .box 0 0 :: .any :: .any :: .any :: .box 1 0 :: .con f6 :: .any :: .con tI :: aN 65 [.own 2, .con tI, .con tI, .any, .any, .any, .con f6, .con tI], [.cells [.con tI, .con tI, .con l5, .con eI, .con m5, .con eW, .con eI], .cells [.con tI, .con tI, .con f6, .con f6, .con tI, .con tI, .con tI, .con tI], .rowc tI]⟩, [])] }
def ai0 (ρ : Type) : acD ρ := ⟨[], 167, 2, apG, fun (p : Val (.pair abu (.pair f6 (.pair tI (.pair tI (.pair tI (.pair f6 (.pair tI (.pair tI (.pair tI (.pair l5 (.pair eI (.pair m5 (.pair eW (.pair eI (.pair tI (.pair tI (.pair f6 (.pair f6 (.pair tI abD)))))))))))))))))))) (v : Val tI) kn kx => afI p.1 p.2.2.1 p.2.2.2.2.2.1 p.2.2.2.2.2.2.1 p.2.2.2.2.2.2.2.2.2.2.2.2.2.2.2.1 v (fun u0 => kn u0) (kx 0) (kx 1)⟩
def apH : acb := { pin := 0, cs := [abu, f6, tI, tI, tI, l5, eI, m5, eW, eI, tI, tI, f6, f6, tI, tI, tI, tI, f6], vs := [tI], head := ⟨140, .any :: .con abu :: .any :: .box 0 0 :: .any :: .any :: .any :: .box 1 0 :: .con f6 :: aN 67 [.own 2, .con tI, .var tI], [.cells [.con tI, .con tI, .con l5, .con eI, .con m5, .con eW, .con eI], .cells [.con tI, .con tI, .con f6, .con f6, .con tI, .con tI, .con tI, .con tI], .rowc tI]⟩, exits := [(.ret, ⟨140, .any :: .con abu :: .any :: .box 0 0 :: .any :: .any :: .var tI :: .box 1 0 :: .con f6 :: aN 67 [.own 2, .con tI], [.cells [.con tI, .con tI, .con l5, .con eI, .con m5, .con eW, .con eI], .cells [.con tI, .con tI, .con f6, .con f6, .con tI, .con tI, .con tI, .con tI], .rowc tI]⟩, [tI]), (.exit 0, ⟨140, .any :: .con abu :: .any :: .box 0 0 :: .any :: .any :: .any :: .box 1 0 :: .con f6 :: aN 67 [.own 2, .con tI], [.cells [.con tI, .con tI, .con l5, .con eI, .con m5, .con eW, .con eI], .cells [.con tI, .con tI, .con f6, .con f6, .con tI, .con tI, .con tI, .con tI], .rowc tI]⟩, [])] }
def ai1 (ρ : Type) : acD ρ := ⟨[], 167, 0, apH, fun (p : Val (.pair abu (.pair f6 (.pair tI (.pair tI (.pair tI (.pair l5 (.pair eI (.pair m5 (.pair eW (.pair eI (.pair tI (.pair tI (.pair f6 (.pair f6 (.pair tI abD)))))))))))))))) (v : Val tI) kn kx => adZ p.1 p.2.1 p.2.2.1 p.2.2.2.2.2.2.2.2.2.2.2.1 p.2.2.2.2.2.2.2.2.2.2.2.2.2.2.2.2.2.2 v (fun u0 => kn u0) (kx 0) (kx 1)⟩
def apF : acb := { pin := 0, cs := [f6, tI, tI, tI, l5, eI, m5, eW, eI, tI, tI, f6, f6, tI, tI, tI, tI], vs := [tI], head := ⟨140, .any :: .any :: .any :: .box 0 0 :: .any :: .any :: .any :: .box 1 0 :: aN 90 [.con f6, .con tI, .var tI], [.cells [.con tI, .con tI, .con l5, .con eI, .con m5, .con eW, .con eI], .cells [.con tI, .con tI, .con f6, .con f6, .con tI, .con tI, .con tI, .con tI]]⟩, exits := [(.ret, ⟨140, .any :: .any :: .any :: .box 0 0 :: .any :: .any :: .var tI :: .box 1 0 :: aN 90 [.con f6, .con tI], [.cells [.con tI, .con tI, .con l5, .con eI, .con m5, .con eW, .con eI], .cells [.con tI, .con tI, .con f6, .con f6, .con tI, .con tI, .con tI, .con tI]]⟩, [tI]), (.exit 4, ⟨140, .any :: .any :: .any :: .box 0 0 :: .any :: .any :: .any :: .box 1 0 :: aN 90 [.con f6, .con tI], [.cells [.con tI, .con tI, .con l5, .con eI, .con m5, .con eW, .con eI], .cells [.con tI, .con tI, .con f6, .con f6, .con tI, .con tI, .con tI, .con tI]]⟩, [])] }
def aiZ (ρ : Type) : acD ρ := ⟨[], 167, 4, apF, fun (p : Val (.pair f6 (.pair tI (.pair tI (.pair tI (.pair l5 (.pair eI (.pair m5 (.pair eW (.pair eI ace)))))))))) (v : Val tI) kn kx => adY p.1 p.2.1 p.2.2.1 p.2.2.2.1 p.2.2.2.2.1 p.2.2.2.2.2.1 p.2.2.2.2.2.2.1 p.2.2.2.2.2.2.2.1 p.2.2.2.2.2.2.2.2.1 p.2.2.2.2.2.2.2.2.2.2.1 v (fun u0 => kn u0) (kx 0) (kx 1)⟩
def asG : List (Nat × acy) := [(82, al1), (88, aqg), (94, aed), (125, atk), (126, agq), (164, aiB), (198, avS), (223, aNn)]
def ajs (ρ : Type) : List (acD ρ) := [ai2 ρ, ai0 ρ, ai1 ρ, aiZ ρ]
def aeg (ρ : Type) : Env ρ := acA asG (ajs ρ)
def adK : acy := ⟨[ab6], [tI], fun (x : Val ab6) => acL x⟩
def aj3 : acy := ⟨[ab6, eI, eI], [ab6], fun (x : Val (.pair ab6 (.pair eI eI))) => aBZ x.1 x.2.1 x.2.2⟩
noncomputable def aJn : acb := { pin := 8, cs := [f6, tI, tI, tI, l5, eI, m5, eW, eI, tI, tI, abq, tI, tI], vs := [tI, abq], head := ⟨34, .any :: .any :: .any :: .box 2 0 :: aN 21 [.con f6, .con tI, .var tI], [.cells [.con tI, .con tI, .con l5, .con eI, .con m5, .con eW, .con eI], .cells [.con tI, .con tI, .nils, .nils, .nils, .nils, .nils], .cells [.omp 5], .cells [.omp 6], .cells [.nilfn, .fn 159 [(2, 0), (0, 0)], .fn 159 [(2, 0), (0, 0)], .fn 160 [(3, 0), (0, 0), (2, 0)]], .mapv tI .bool, .mapc tI .bool, .cells [.con tI, .con tI]]⟩, exits := [(.exit 0, ⟨34, .any :: .any :: .any :: .box 2 0 :: aN 21 [.con f6, .con tI], [.cells [.con tI, .con tI, .con l5, .con eI, .con m5, .con eW, .con eI], .cells [.con tI, .con tI, .nils, .nils, .nils, .nils, .nils], .cells [.omp 5], .cells [.omp 6], .cells [.nilfn, .fn 159 [(2, 0), (0, 0)], .fn 159 [(2, 0), (0, 0)], .fn 160 [(3, 0), (0, 0), (2, 0)]], .mapv tI .bool, .mapc tI .bool, .cells [.con tI, .con tI]]⟩, [abq])] }
noncomputable def axC (ρ : Type) : acD ρ := ⟨[7, 5], 160, 0, aJn, fun (p : Val (.pair f6 (.pair tI (.pair tI (.pair tI (.pair l5 (.pair eI (.pair m5 (.pair eW (.pair eI (.pair tI (.pair tI (.pair abq ab5))))))))))))) (v : Val (.pair tI abq)) kn kx => amg p.1 p.2.1 v.1 v.2 (fun u0 u1 => kn (u0, u1)) (kx 0)⟩
noncomputable def aJo : acb := { pin := 0, cs := [eI, eI, tI, tI, tI, l5, eI, m5, eW, eI, tI, tI], vs := [tI, abq, abq], head := ⟨130, .any :: .any :: .con eI :: .box 0 0 :: .any :: .any :: .box 1 0 :: .box 2 0 :: .box 3 0 :: .any :: .box 4 0 :: aN 19 [.con eI, .con tI, .var tI], [.cells [.con tI, .con tI, .con l5, .con eI, .con m5, .con eW, .con eI], .cells [.con tI, .con tI, .nils, .nils, .nils, .nils, .nils], .cells [.omp 5], .cells [.omp 6], .cells [.nilfn, .fn 159 [(2, 0), (0, 0)], .fn 159 [(2, 0), (0, 0)], .fn 160 [(3, 0), (0, 0), (2, 0)]], .mapv tI .bool, .mapv tI .bool]⟩, exits := [(.exit 0, ⟨130, .any :: .any :: .con eI :: .box 0 0 :: .any :: .any :: .box 1 0 :: .box 2 0 :: .box 3 0 :: .any :: .box 4 0 :: aN 19 [.con eI, .con tI], [.cells [.con tI, .con tI, .con l5, .con eI, .con m5, .con eW, .con eI], .cells [.con tI, .con tI, .nils, .nils, .nils, .nils, .nils], .cells [.omp 5], .cells [.omp 6], .cells [.nilfn, .fn 159 [(2, 0), (0, 0)], .fn 159 [(2, 0), (0, 0)], .fn 160 [(3, 0), (0, 0), (2, 0)]], .mapv tI .bool, .mapv tI .bool]⟩, [abq, abq])] }
noncomputable def axD (ρ : Type) : acD ρ := ⟨[], 79, 0, aJo, fun (p : Val (.pair eI (.pair eI (.pair tI (.pair tI (.pair tI (.pair l5 (.pair eI (.pair m5 (.pair eW abX)))))))))) (v : Val (.pair tI (.pair abq abq))) kn kx => aqk p.2.1 p.2.2.1 p.2.2.2.2.2.1 p.2.2.2.2.2.2.2.2.1 v.1 v.2.1 v.2.2 (fun u0 u1 u2 => kn (u0, u1, u2)) (kx 0)⟩
noncomputable def aJm : acb := { pin := 0, cs := [eI, eI, tI, tI, tI, l5, eI, m5, eW, eI, tI, tI, abq], vs := [tI, abq], head := ⟨130, .any :: .any :: .con eI :: .box 0 0 :: .any :: .any :: .box 1 0 :: .box 2 0 :: .box 3 0 :: aN 34 [.con eI, .con tI, .var tI], [.cells [.con tI, .con tI, .con l5, .con eI, .con m5, .con eW, .con eI], .cells [.con tI, .con tI, .nils, .nils, .nils, .nils, .nils], .cells [.omp 4], .cells [.omp 5], .mapv tI .bool, .mapc tI .bool]⟩, exits := [(.exit 2, ⟨130, .any :: .any :: .con eI :: .box 0 0 :: .any :: .any :: .box 1 0 :: .box 2 0 :: .box 3 0 :: aN 34 [.con eI, .con tI], [.cells [.con tI, .con tI, .con l5, .con eI, .con m5, .con eW, .con eI], .cells [.con tI, .con tI, .nils, .nils, .nils, .nils, .nils], .cells [.omp 4], .cells [.omp 5], .mapv tI .bool, .mapc tI .bool]⟩, [abq])] }
noncomputable def axB (ρ : Type) : acD ρ := ⟨[], 79, 2, aJm, fun (p : Val (.pair eI (.pair eI (.pair tI (.pair tI (.pair tI (.pair l5 (.pair eI (.pair m5 (.pair eW (.pair eI (.pair tI (.pair tI abq))))))))))))) (v : Val (.pair tI abq)) kn kx => amf p.2.1 p.2.2.1 v.1 v.2 (fun u0 u1 => kn (u0, u1)) (kx 0)⟩
noncomputable def aJl : acb := { pin := 0, cs := [eI, tI, tI, tI, l5, eI, m5, eW, eI, tI, tI, l5, eI, m5, eW, eI, tI, tI, eI, abq, abq, l5], vs := [tI, eI], head := ⟨130, .any :: .any :: .any :: .box 0 0 :: .any :: .any :: .box 1 0 :: .box 2 0 :: .box 3 0 :: aN 6 (.box 4 0 :: aN 52 [.con eI, .con tI, .var tI]), [.cells [.con tI, .con tI, .con l5, .con eI, .con m5, .con eW, .con eI], .cells [.con tI, .con tI, .con l5, .con eI, .con m5, .con eW, .con eI], .cells [.omp 5], .cells [.omp 6], .cells [.con tI, .con tI, .own 7, .own 8, .nils, .nils, .con eI], .mapc tI .bool, .mapc tI .bool, .rowc ach, .rowv ab5]⟩, exits := [(.exit 6, ⟨130, .any :: .any :: .any :: .box 0 0 :: .any :: .any :: .box 1 0 :: .box 2 0 :: .box 3 0 :: aN 6 (.box 4 0 :: aN 52 [.con eI, .con tI]), [.cells [.con tI, .con tI, .con l5, .con eI, .con m5, .con eW, .con eI], .cells [.con tI, .con tI, .con l5, .con eI, .con m5, .con eW, .con eI], .cells [.omp 5], .cells [.omp 6], .cells [.con tI, .con tI, .own 7, .own 8, .nils, .nils, .con eI], .mapc tI .bool, .mapc tI .bool, .rowc ach, .rowv ab5]⟩, [eI])] }
noncomputable def akW (ρ : Type) : acD ρ := ⟨[], 79, 6, aJl, fun (p : Val (.pair eI (.pair tI (.pair tI (.pair tI (.pair l5 (.pair eI (.pair m5 (.pair eW (.pair eI (.pair tI (.pair tI (.pair l5 (.pair eI (.pair m5 (.pair eW (.pair eI (.pair tI (.pair tI (.pair eI (.pair abq (.pair abq l5)))))))))))))))))))))) (v : Val abB) kn kx => ame p.1 p.2.1 p.2.2.2.2.2.2.2.2.2.2.2.2.2.2.2.2.2.2.2.1 v.1 v.2 (fun u0 u1 => kn (u0, u1)) (kx 0)⟩
noncomputable def aJk : acb := { pin := 0, cs := [m5, tI, tI, tI, l5, eI, m5, eW, eI, tI, tI, l5, eI, m5, eW, eI, tI, tI, eI, abq, abq, l5, eI], vs := [tI, m5], head := ⟨130, .any :: .any :: .any :: .box 0 0 :: .any :: .any :: .box 1 0 :: .box 2 0 :: .box 3 0 :: aN 6 (.box 4 0 :: aN 70 [.con m5, .con tI, .var tI]), [.cells [.con tI, .con tI, .con l5, .con eI, .con m5, .con eW, .con eI], .cells [.con tI, .con tI, .con l5, .con eI, .con m5, .con eW, .con eI], .cells [.omp 5], .cells [.omp 6], .cells [.con tI, .con tI, .own 7, .own 8, .own 9, .nils, .con eI], .mapc tI .bool, .mapc tI .bool, .rowc ach, .rowc ab5, .rowv adJ]⟩, exits := [(.exit 8, ⟨130, .any :: .any :: .any :: .box 0 0 :: .any :: .any :: .box 1 0 :: .box 2 0 :: .box 3 0 :: aN 6 (.box 4 0 :: aN 70 [.con m5, .con tI]), [.cells [.con tI, .con tI, .con l5, .con eI, .con m5, .con eW, .con eI], .cells [.con tI, .con tI, .con l5, .con eI, .con m5, .con eW, .con eI], .cells [.omp 5], .cells [.omp 6], .cells [.con tI, .con tI, .own 7, .own 8, .own 9, .nils, .con eI], .mapc tI .bool, .mapc tI .bool, .rowc ach, .rowc ab5, .rowv adJ]⟩, [m5])] }
noncomputable def akV (ρ : Type) : acD ρ := ⟨[], 79, 8, aJk, fun (p : Val (.pair m5 (.pair tI (.pair tI (.pair tI (.pair l5 (.pair eI (.pair m5 (.pair eW (.pair eI (.pair tI (.pair tI (.pair l5 (.pair eI (.pair m5 (.pair eW (.pair eI (.pair tI (.pair tI (.pair eI (.pair abq (.pair abq (.pair l5 eI))))))))))))))))))))))) (v : Val (.pair tI m5)) kn kx => amd p.1 p.2.1 p.2.2.2.2.2.2.2.2.2.2.2.2.2.2.2.2.2.2.2.1 v.1 v.2 (fun u0 u1 => kn (u0, u1)) (kx 0)⟩
noncomputable def aJj : acb := { pin := 0, cs := [eW, tI, tI, tI, l5, eI, m5, eW, eI, tI, tI, eI, abq, l5, eI, m5], vs := [tI, eW], head := ⟨130, aN 6 (.box 0 0 :: .any :: .box 1 0 :: aN 6 (.box 2 0 :: aN 88 [.con eW, .con tI, .var tI])), [.cells [.con tI, .con tI, .con l5, .con eI, .con m5, .con eW, .con eI], .cells [.omp 3], .cells [.con tI, .con tI, .own 4, .own 5, .own 6, .own 7, .con eI], .mapc tI .bool, .rowc ach, .rowc ab5, .rowc adJ, .rowv ace]⟩, exits := [(.exit 10, ⟨130, aN 6 (.box 0 0 :: .any :: .box 1 0 :: aN 6 (.box 2 0 :: aN 88 [.con eW, .con tI])), [.cells [.con tI, .con tI, .con l5, .con eI, .con m5, .con eW, .con eI], .cells [.omp 3], .cells [.con tI, .con tI, .own 4, .own 5, .own 6, .own 7, .con eI], .mapc tI .bool, .rowc ach, .rowc ab5, .rowc adJ, .rowv ace]⟩, [eW])] }
noncomputable def akU (ρ : Type) : acD ρ := ⟨[], 79, 10, aJj, fun (p : Val (.pair eW (.pair tI (.pair tI (.pair tI (.pair l5 (.pair eI (.pair m5 (.pair eW (.pair eI (.pair tI (.pair tI (.pair eI (.pair abq (.pair l5 (.pair eI m5)))))))))))))))) (v : Val (.pair tI eW)) kn kx => amc p.1 p.2.1 p.2.2.2.2.2.2.2.2.2.2.2.2.1 v.1 v.2 (fun u0 u1 => kn (u0, u1)) (kx 0)⟩
noncomputable def av7 : List (Nat × acy) := [(94, aed)]
noncomputable def asl (ρ : Type) : List (acD ρ) := [axC ρ, axD ρ, axB ρ, akW ρ, akV ρ, akU ρ]
noncomputable def aeF (ρ : Type) : Env ρ := acA av7 (asl ρ)
noncomputable def amb : Tpl := ⟨130, .any :: .any :: .any :: .box 0 0 :: .any :: .any :: .box 1 0 :: .box 2 0 :: .box 3 0 :: aN 6 (.box 4 0 :: aN 43 [.fn 218 [(5, 0), (6, 0)]]), [.cells [.var tI, .var tI, .var l5, .var eI, .var m5, .var eW, .var eI], .cells [.var tI, .var tI, .var l5, .var eI, .var m5, .var eW, .var eI], .cells [.omp 7], .cells [.omp 8], .cells [.con tI, .con tI, .own 9, .nils, .nils, .nils, .con eI], .cells [.var tI, .var tI, .var l5, .var eI, .var m5, .var eW, .var eI], .cells [.omp 7], .mapv tI .bool, .mapv tI .bool, .rowv ach]⟩
noncomputable def aAn : Tpl := ⟨130, .any :: .any :: .any :: .box 0 0 :: .any :: .any :: .box 1 0 :: .box 2 0 :: .box 3 0 :: aN 6 (.box 4 0 :: .box 10 0 :: aN 42 [.fn 218 [(5, 0), (6, 0)]]), [.cells [.var tI, .var tI, .var l5, .var eI, .var m5, .var eW, .var eI], .cells [.var tI, .var tI, .var l5, .var eI, .var m5, .var eW, .var eI], .cells [.omp 7], .cells [.omp 8], .cells [.con tI, .con tI, .own 9, .nils, .nils, .nils, .con eI], .cells [.var tI, .var tI, .var l5, .var eI, .var m5, .var eW, .var eI], .cells [.omp 7], .mapv tI .bool, .mapv tI .bool, .rowv ach, .cells [.var tI, .var tI, .var tI, .var tI, .var tI, .var tI, .var tI, .var tI]]⟩
noncomputable def akS (ρ : Type) : List (acD ρ) := [akW ρ, akV ρ, akU ρ]
noncomputable def ado (ρ : Type) : Env ρ := { acA av7 (akS ρ) with inl := fun _ => false }
noncomputable def akg : Tpl := ⟨130, aN 6 [.box 0 0], [.cells [.var tI, .var tI, .var l5, .var eI, .var m5, .var eW, .var eI]]⟩
abbrev agu : List Ty := [tI, tI, l5, eI, m5, eW, eI]
noncomputable def ahf (y : Val ab6) : Val abp := (y.1.1, y.1.2, y.2.1, y.2.2.1, y.2.2.2.1, y.2.2.2.2.1, y.2.2.2.2.2)
noncomputable def adr : Code := (alp Tryz.prog 79).getD .skip
abbrev afW : List Ty := [tI, tI, eI]
abbrev ail : List Ty := [tI, tI, l5, eI, m5, eW, eI, tI, tI, l5, eI, m5, eW, eI, tI, tI, l5, eI, m5, eW, eI, abq, abq, l5]
abbrev aqj : List Ty := [tI, tI, l5, eI, m5, eW, eI, tI, tI, l5, eI, m5, eW, eI, tI, tI, l5, eI, m5, eW, eI, abq, abq, l5, tI, tI, tI, tI, tI, tI, tI, tI]
abbrev acJ (v : Val wi) : List (Val ach) := v.2.2.2.2.2.2.2.2.2.2.2.2.2.2.2.2.1
abbrev aef (v : Val wi) : List (Int × Bool) := v.2.2.2.2.2.2.2.2.2.2.2.2.2.2.2.2.2.2.2.2.2.1
abbrev am7 (v : Val wi) : List (Val ach) := v.2.2.2.2.2.2.2.2.2.2.2.2.2.2.2.2.2.2.2.2.2.2.2
noncomputable def adq (v : Val wi) (z : List (Val ach)) : Val wi := (v.1, v.2.1, v.2.2.1, v.2.2.2.1, v.2.2.2.2.1, v.2.2.2.2.2.1, v.2.2.2.2.2.2.1, v.2.2.2.2.2.2.2.1, v.2.2.2.2.2.2.2.2.1, v.2.2.2.2.2.2.2.2.2.1, v.2.2.2.2.2.2.2.2.2.2.1, v.2.2.2.2.2.2.2.2.2.2.2.1, v.2.2.2.2.2.2.2.2.2.2.2.2.1, v.2.2.2.2.2.2.2.2.2.2.2.2.2.1, v.2.2.2.2.2.2.2.2.2.2.2.2.2.2.1, v.2.2.2.2.2.2.2.2.2.2.2.2.2.2.2.1, v.2.2.2.2.2.2.2.2.2.2.2.2.2.2.2.2.1, v.2.2.2.2.2.2.2.2.2.2.2.2.2.2.2.2.2.1, v.2.2.2.2.2.2.2.2.2.2.2.2.2.2.2.2.2.2.1, v.2.2.2.2.2.2.2.2.2.2.2.2.2.2.2.2.2.2.2.1, v.2.2.2.2.2.2.2.2.2.2.2.2.2.2.2.2.2.2.2.2.1, v.2.2.2.2.2.2.2.2.2.2.2.2.2.2.2.2.2.2.2.2.2.1, v.2.2.2.2.2.2.2.2.2.2.2.2.2.2.2.2.2.2.2.2.2.2.1, z)
noncomputable def asm (v : Val wi) (x : Val ach) : Val (.pair tI (.pair tI (.pair l5 (.pair eI (.pair m5 (.pair eW (.pair eI (.pair tI (.pair tI (.pair l5 (.pair eI (.pair m5 (.pair eW (.pair eI (.pair tI (.pair tI (.pair l5 (.pair eI (.pair m5 (.pair eW (.pair eI (.pair abq (.pair abq (.pair l5 abw)))))))))))))))))))))))) := (v.1, v.2.1, v.2.2.1, v.2.2.2.1, v.2.2.2.2.1, v.2.2.2.2.2.1, v.2.2.2.2.2.2.1, v.2.2.2.2.2.2.2.1, v.2.2.2.2.2.2.2.2.1, v.2.2.2.2.2.2.2.2.2.1, v.2.2.2.2.2.2.2.2.2.2.1, v.2.2.2.2.2.2.2.2.2.2.2.1, v.2.2.2.2.2.2.2.2.2.2.2.2.1, v.2.2.2.2.2.2.2.2.2.2.2.2.2.1, v.2.2.2.2.2.2.2.2.2.2.2.2.2.2.1, v.2.2.2.2.2.2.2.2.2.2.2.2.2.2.2.1, v.2.2.2.2.2.2.2.2.2.2.2.2.2.2.2.2.1, v.2.2.2.2.2.2.2.2.2.2.2.2.2.2.2.2.2.1, v.2.2.2.2.2.2.2.2.2.2.2.2.2.2.2.2.2.2.1, v.2.2.2.2.2.2.2.2.2.2.2.2.2.2.2.2.2.2.2.1, v.2.2.2.2.2.2.2.2.2.2.2.2.2.2.2.2.2.2.2.2.1, v.2.2.2.2.2.2.2.2.2.2.2.2.2.2.2.2.2.2.2.2.2.1, v.2.2.2.2.2.2.2.2.2.2.2.2.2.2.2.2.2.2.2.2.2.2.1, v.2.2.2.2.2.2.2.2.2.2.2.2.2.2.2.2.2.2.2.2.2.2.2, x.1, x.2.1, x.2.2.1, x.2.2.2.1.1, x.2.2.2.1.2, x.2.2.2.2.1.1, x.2.2.2.2.1.2, x.2.2.2.2.2)
end Go.Proofs.ZzM
end

noncomputable section
set_option maxRecDepth 100000
namespace Go.Proofs.ZzM
open Go Go.Am
def aEs : acy := ⟨[ace], [.bool], fun (x : Val ace) => aqy x⟩
def aF1 : List (Nat × acy) := []
def aq8 (ρ : Type) : List (acD ρ) := []
def axw (ρ : Type) : Env ρ := acA aF1 (aq8 ρ)
def aNh : acy := ⟨[ab6], [.bool], fun (x : Val ab6) => avi x⟩
def aFZ : acb := { pin := 0, cs := [tI, tI, l5, eI, m5, eW, eI], vs := [tI], head := ⟨50, [.any, .box 0 0, .any, .var tI], [.cells [.con tI, .con tI, .con l5, .con eI, .con m5, .con eW, .con eI]]⟩, exits := [(.ret, ⟨50, [.any, .box 0 0, .var .bool], [.cells [.con tI, .con tI, .con l5, .con eI, .con m5, .con eW, .con eI]]⟩, [.bool]), (.exit 0, ⟨50, [.any, .box 0 0], [.cells [.con tI, .con tI, .con l5, .con eI, .con m5, .con eW, .con eI]]⟩, [])] }
def atv (ρ : Type) : acD ρ := ⟨[], 13, 0, aFZ, fun (p : Val abp) (v : Val tI) kn kx => amX p.2.2.2.2.2.1 v (fun u0 => kn u0) (kx 0) (kx 1)⟩
def aLJ : List (Nat × acy) := [(29, aEs)]
def axv (ρ : Type) : List (acD ρ) := [atv ρ]
def avW (ρ : Type) : Env ρ := acA aLJ (axv ρ)
def aNm : acy := ⟨[ab6, ach, tI, tI], [tI], fun (x : Val (.pair ab6 (.pair ach ab5))) => aqA x.1 x.2.1 x.2.2.1 x.2.2.2⟩
def aG1 : acb := { pin := 0, cs := [tI, tI, m5, tI, tI, tI, l5, eI, m5, eW, eI, tI, tI, tI, tI, tI, tI, tI, tI], vs := [tI, tI], head := ⟨88, .any :: .any :: .con tI :: .con tI :: .box 0 0 :: .box 1 0 :: .any :: .any :: .any :: .var tI :: aN 7 [.con m5, .con tI, .var tI], [.cells [.con tI, .con tI, .con l5, .con eI, .con m5, .con eW, .con eI], .cells [.con tI, .con tI, .con tI, .con tI, .con tI, .con tI, .con tI, .con tI]]⟩, exits := [(.exit 0, ⟨88, .any :: .any :: .con tI :: .con tI :: .box 0 0 :: .box 1 0 :: .any :: .any :: .any :: .var tI :: aN 7 [.con m5, .con tI], [.cells [.con tI, .con tI, .con l5, .con eI, .con m5, .con eW, .con eI], .cells [.con tI, .con tI, .con tI, .con tI, .con tI, .con tI, .con tI, .con tI]]⟩, [tI])] }
def auO (ρ : Type) : acD ρ := ⟨[], 54, 0, aG1, fun (p : Val (.pair tI (.pair tI (.pair m5 abK)))) (v : Val ab5) kn kx => anA p.1 p.2.1 p.2.2.1 p.2.2.2.1 p.2.2.2.2.2.2.2.2.2.2.2.1 v.1 v.2 (fun u0 u1 => kn (u0, u1)) (kx 0)⟩
def aG0 : acb := { pin := 0, cs := [tI, tI, tI, eI, tI, tI, tI, tI, tI, tI, tI, tI, tI], vs := [tI, f6], head := ⟨88, .any :: .any :: .con tI :: .con tI :: .any :: .box 0 0 :: .any :: .any :: .any :: .con tI :: .any :: .any :: .any :: .own 1 :: aN 39 [.con eI, .con tI, .var tI], [.cells [.con tI, .con tI, .con tI, .con tI, .con tI, .con tI, .con tI, .con tI], .rowv tI]⟩, exits := [(.exit 2, ⟨88, .any :: .any :: .con tI :: .con tI :: .any :: .box 0 0 :: .any :: .any :: .any :: .con tI :: .any :: .any :: .any :: .own 1 :: aN 39 [.con eI, .con tI], [.cells [.con tI, .con tI, .con tI, .con tI, .con tI, .con tI, .con tI, .con tI], .rowv tI]⟩, [f6])] }
def auN (ρ : Type) : acD ρ := ⟨[], 54, 2, aG0, fun (p : Val (.pair tI (.pair tI (.pair tI (.pair eI (.pair tI abw)))))) (v : Val abz) kn kx => anz p.1 p.2.1 p.2.2.2.1 p.2.2.2.2.1 p.2.2.2.2.2.1 v.1 v.2 (fun u0 u1 => kn (u0, u1)) (kx 0)⟩
def aL9 : List (Nat × acy) := [(126, agq)]
def axT (ρ : Type) : List (acD ρ) := [auO ρ, auN ρ]
def aqp (ρ : Type) : Env ρ := acA aL9 (axT ρ)
def aeA : acy := ⟨[eI, ab5], [tI], fun (x : Val abX) => acS x.1 x.2⟩
def ahW : acb := { pin := 0, cs := [eI, tI, tI, tI], vs := [tI], head := ⟨19, [.con eI, .any, .any, .box 0 0, .any, .any, .any, .con tI, .var tI], [.cells [.con tI, .con tI]]⟩, exits := [(.ret, ⟨19, [.con eI, .any, .any, .box 0 0, .var tI, .any, .any, .con tI], [.cells [.con tI, .con tI]]⟩, [tI]), (.exit 0, ⟨19, [.con eI, .any, .any, .box 0 0, .any, .any, .any, .con tI], [.cells [.con tI, .con tI]]⟩, [])] }
def afg (ρ : Type) : acD ρ := ⟨[], 130, 0, ahW, fun (p : Val (.pair eI ac8)) (v : Val tI) kn kx => adw p.1 p.2.1 p.2.2.1 p.2.2.2 v (fun u0 => kn u0) (kx 0) (kx 1)⟩
def aiR : List (Nat × acy) := []
def afp (ρ : Type) : List (acD ρ) := [afg ρ]
def aej (ρ : Type) : Env ρ := acA aiR (afp ρ)
def aoQ : acy := ⟨[abC, f6, tI], [tI], fun (x : Val (.pair abC abE)) => afD x.1 x.2.1 x.2.2⟩
def aBl : List (Nat × acy) := [(130, aeA)]
def aot (ρ : Type) : List (acD ρ) := []
def arC (ρ : Type) : Env ρ := acA aBl (aot ρ)
def an7 : acy := ⟨[abu, f6], [ab5], fun (x : Val (.pair abu f6)) => afU x.1 x.2⟩
def asA : List (Nat × acy) := []
def ajq (ρ : Type) : List (acD ρ) := []
def alb (ρ : Type) : Env ρ := acA asA (ajq ρ)
def alZ : acy := ⟨[eI], [tI], fun (x : Val eI) => agQ x⟩
def aDE : acb := { pin := 0, cs := [eI, tI], vs := [tI], head := ⟨15, aN 5 [.con eI, .con tI, .var tI], []⟩, exits := [(.ret, ⟨15, [.any, .any, .var tI, .any, .any, .con eI, .con tI], []⟩, [tI]), (.exit 0, ⟨15, aN 5 [.con eI, .con tI], []⟩, [])] }
def ary (ρ : Type) : acD ρ := ⟨[], 227, 0, aDE, fun (p : Val abS) (v : Val tI) kn kx => ak9 p.1 p.2 v (fun u0 => kn u0) (kx 0) (kx 1)⟩
def aJD : List (Nat × acy) := [(219, atg)]
def auy (ρ : Type) : List (acD ρ) := [ary ρ]
def asw (ρ : Type) : Env ρ := acA aJD (auy ρ)
def ar6 : acy := ⟨[tI, tI], [ab5, tI], fun (x : Val ab5) => akw x.1 x.2⟩
def aDF : List (Nat × acy) := [(259, aFK), (260, aLz)]
def apu (ρ : Type) : List (acD ρ) := []
def auz (ρ : Type) : Env ρ := acA aDF (apu ρ)
def aP8 : acy := ⟨[ab5, ab5], [ab5, tI], fun (x : Val acY) => aHF x.1 x.2⟩
def aOO : List (Nat × acy) := [(227, alZ), (277, ar6)]
def aA7 (ρ : Type) : List (acD ρ) := []
def aJJ (ρ : Type) : Env ρ := acA aOO (aA7 ρ)
def ati : acy := ⟨[ab5, ab5], [ab5], fun (x : Val acY) => anS x.1 x.2⟩
def ayQ : List (Nat × acy) := [(262, aP8)]
def amt (ρ : Type) : List (acD ρ) := []
def apx (ρ : Type) : Env ρ := acA ayQ (amt ρ)
def aLA : acy := ⟨[ab5, ab5], [tI], fun (x : Val acY) => aB1 x.1 x.2⟩
def aON : List (Nat × acy) := []
def aA4 (ρ : Type) : List (acD ρ) := []
def aJH (ρ : Type) : Env ρ := acA aON (aA4 ρ)
def aq5 : acy := ⟨[acY], [.bool], fun (x : Val acY) => alQ x⟩
def aww : List (Nat × acy) := [(227, alZ), (287, aLA)]
def ala (ρ : Type) : List (acD ρ) := []
def aop (ρ : Type) : Env ρ := acA aww (ala ρ)
def aP9 : acy := ⟨[ab5, ab5], [ab5, tI], fun (x : Val acY) => aB3 x.1 x.2⟩
def aOP : List (Nat × acy) := [(227, alZ), (277, ar6)]
def aA9 (ρ : Type) : List (acD ρ) := []
def aJL (ρ : Type) : Env ρ := acA aOP (aA9 ρ)
def aIU : acy := ⟨[acY, ab5], [acY, tI], fun (x : Val (.pair acY ab5)) => aB2 x.1 x.2⟩
def axO : List (Nat × acy) := [(219, atg), (278, aq5), (281, aP9), (287, aLA)]
def ano (ρ : Type) : List (acD ρ) := []
def axN : List aSd := [⟨[3, 2], 279, 0, 4⟩]
def aJK (ρ : Type) : Env ρ := acA axO (ano ρ)
def asy (ρ : Type) : Env ρ := aTU axO (ano ρ) axN
def ath : acy := ⟨[ab5, ab5], [acY], fun (x : Val acY) => ajE x.1 x.2⟩
def ayP : List (Nat × acy) := [(263, aIU)]
def ams (ρ : Type) : List (acD ρ) := []
def apw (ρ : Type) : Env ρ := acA ayP (ams ρ)
def avT : acy := ⟨[ab6, ace], [acY], fun (x : Val abI) => ajW x.1 x.2⟩
def aG9 : List (Nat × acy) := [(53, ar7), (88, aqg), (224, an7), (225, ati), (226, ath)]
def arF (ρ : Type) : List (acD ρ) := []
def axW (ρ : Type) : Env ρ := acA aG9 (arF ρ)
def az0 : acy := ⟨[ab6, ace], [ab5], fun (x : Val abI) => amH x.1 x.2⟩
def aJW : List (Nat × acy) := []
def auT (ρ : Type) : List (acD ρ) := []
def aBq (ρ : Type) : Env ρ := acA aJW (auT ρ)
def azX : acy := ⟨[tI, tI], [tI], fun (x : Val ab5) => apW x.1 x.2⟩
def aJG : List (Nat × acy) := []
def auA (ρ : Type) : List (acD ρ) := []
def aA2 (ρ : Type) : Env ρ := acA aJG (auA ρ)
def aFL : acy := ⟨[ab5], [tI, tI], fun (x : Val ab5) => avp x⟩
def aL6 : List (Nat × acy) := [(227, alZ), (228, azX)]
def axP (ρ : Type) : List (acD ρ) := []
def aEL (ρ : Type) : Env ρ := acA aL6 (axP ρ)
def azY : acy := ⟨[ab5], [tI, tI], fun (x : Val ab5) => apX x⟩
def aJM : List (Nat × acy) := [(227, alZ), (228, azX)]
def auD (ρ : Type) : List (acD ρ) := []
def aBa (ρ : Type) : Env ρ := acA aJM (auD ρ)
def aFM : acy := ⟨[ab6, ace], [ab5], fun (x : Val abI) => anR x.1 x.2⟩
def aL7 : List (Nat × acy) := [(171, avT), (172, az0), (173, aFL), (174, azY)]
def axR (ρ : Type) : List (acD ρ) := []
def aEM (ρ : Type) : Env ρ := acA aL7 (axR ρ)
def aza : acy := ⟨[ab6], [abC], fun (x : Val ab6) => aqz x⟩
def aGX : acb := { pin := 2, cs := [tI, f6, tI, l5, tI, tI, tI, tI, l5, eI, m5, eW, eI, tI, tI, l5, eI, m5, eW, eI, eI, tI, tI, tI, tI, tI, tI, tI, tI, tI], vs := [tI, abo, eI], head := ⟨144, .box 1 0 :: .any :: .con tI :: .box 2 0 :: .con f6 :: .con tI :: .var tI :: aN 24 [.con l5, .con tI, .con tI], [.cells [.con tI, .con tI, .con l5, .con eI, .con m5, .con eW, .con eI], .cells [.con tI, .con tI, .con l5, .con eI, .con m5, .con eW, .con eI, .con eI, .con tI, .own 3, .own 4], .cells [.con tI, .con tI, .con tI, .con tI, .con tI, .con tI, .con tI, .con tI], .rowv ac8, .rowv ab5]⟩, exits := [(.exit 2, ⟨144, .box 1 0 :: .any :: .con tI :: .box 2 0 :: .con f6 :: .con tI :: aN 25 [.con l5, .con tI, .con tI], [.cells [.con tI, .con tI, .con l5, .con eI, .con m5, .con eW, .con eI], .cells [.con tI, .con tI, .con l5, .con eI, .con m5, .con eW, .con eI, .con eI, .con tI, .own 3, .own 4], .cells [.con tI, .con tI, .con tI, .con tI, .con tI, .con tI, .con tI, .con tI], .rowv ac8, .rowv ab5]⟩, [abo, eI])] }
def auL (ρ : Type) : acD ρ := ⟨[2, 1], 132, 2, aGX, fun (p : Val (.pair tI (.pair f6 (.pair tI (.pair l5 (.pair tI (.pair tI (.pair tI (.pair tI (.pair l5 (.pair eI (.pair m5 (.pair eW (.pair eI (.pair tI (.pair tI (.pair l5 (.pair eI (.pair m5 (.pair eW (.pair eI (.pair eI (.pair tI abw))))))))))))))))))))))) (v : Val (.pair tI asX)) kn kx => anw p.1 p.2.1 p.2.2.1 p.2.2.2.2.2.2.2.2.2.2.2.2.2.1 p.2.2.2.2.2.2.2.2.2.2.2.2.2.2.1 p.2.2.2.2.2.2.2.2.2.2.2.2.2.2.2.1 p.2.2.2.2.2.2.2.2.2.2.2.2.2.2.2.2.1 p.2.2.2.2.2.2.2.2.2.2.2.2.2.2.2.2.2.1 p.2.2.2.2.2.2.2.2.2.2.2.2.2.2.2.2.2.2.1 p.2.2.2.2.2.2.2.2.2.2.2.2.2.2.2.2.2.2.2.1 p.2.2.2.2.2.2.2.2.2.2.2.2.2.2.2.2.2.2.2.2.2.2.1 p.2.2.2.2.2.2.2.2.2.2.2.2.2.2.2.2.2.2.2.2.2.2.2.1 p.2.2.2.2.2.2.2.2.2.2.2.2.2.2.2.2.2.2.2.2.2.2.2.2.1 p.2.2.2.2.2.2.2.2.2.2.2.2.2.2.2.2.2.2.2.2.2.2.2.2.2.1 p.2.2.2.2.2.2.2.2.2.2.2.2.2.2.2.2.2.2.2.2.2.2.2.2.2.2.1 p.2.2.2.2.2.2.2.2.2.2.2.2.2.2.2.2.2.2.2.2.2.2.2.2.2.2.2.1 p.2.2.2.2.2.2.2.2.2.2.2.2.2.2.2.2.2.2.2.2.2.2.2.2.2.2.2.2.1 p.2.2.2.2.2.2.2.2.2.2.2.2.2.2.2.2.2.2.2.2.2.2.2.2.2.2.2.2.2 v.1 v.2.1 v.2.2 (fun u0 u1 u2 => kn (u0, u1, u2)) (kx 0)⟩
def aGY : acb := { pin := 2, cs := [l5, tI, tI, tI, l5, eI, m5, eW, eI, tI, tI, l5, eI, m5, eW, eI, eI, tI], vs := [tI, abo, eI], head := ⟨144, .box 1 0 :: aN 30 [.con l5, .con tI, .var tI], [.cells [.con tI, .con tI, .con l5, .con eI, .con m5, .con eW, .con eI], .cells [.con tI, .con tI, .con l5, .con eI, .con m5, .con eW, .con eI, .con eI, .con tI, .own 2, .own 3], .rowv ac8, .rowv ab5]⟩, exits := [(.exit 0, ⟨144, .box 1 0 :: aN 30 [.con l5, .con tI], [.cells [.con tI, .con tI, .con l5, .con eI, .con m5, .con eW, .con eI], .cells [.con tI, .con tI, .con l5, .con eI, .con m5, .con eW, .con eI, .con eI, .con tI, .own 2, .own 3], .rowv ac8, .rowv ab5]⟩, [abo, eI])] }
def auM (ρ : Type) : acD ρ := ⟨[2, 1], 132, 0, aGY, fun (p : Val (.pair l5 (.pair tI (.pair tI (.pair tI (.pair l5 (.pair eI (.pair m5 (.pair eW (.pair eI (.pair tI (.pair tI (.pair l5 (.pair eI (.pair m5 (.pair eW (.pair eI abS))))))))))))))))) (v : Val (.pair tI asX)) kn kx => anx p.1 p.2.1 p.2.2.2.2.2.2.2.2.2.1 p.2.2.2.2.2.2.2.2.2.2.1 p.2.2.2.2.2.2.2.2.2.2.2.1 p.2.2.2.2.2.2.2.2.2.2.2.2.1 p.2.2.2.2.2.2.2.2.2.2.2.2.2.1 p.2.2.2.2.2.2.2.2.2.2.2.2.2.2.1 p.2.2.2.2.2.2.2.2.2.2.2.2.2.2.2.1 p.2.2.2.2.2.2.2.2.2.2.2.2.2.2.2.2.1 p.2.2.2.2.2.2.2.2.2.2.2.2.2.2.2.2.2 v.1 v.2.1 v.2.2 (fun u0 u1 u2 => kn (u0, u1, u2)) (kx 0)⟩
def aGW : acb := { pin := 2, cs := [eW, tI, tI, tI, l5, eI, m5, eW, eI, tI, tI, l5, eI, m5, eW, eI, eI, tI], vs := [tI, abo, eI], head := ⟨144, .box 1 0 :: aN 107 [.con eW, .con tI, .var tI], [.cells [.con tI, .con tI, .con l5, .con eI, .con m5, .con eW, .con eI], .cells [.con tI, .con tI, .con l5, .con eI, .con m5, .con eW, .con eI, .con eI, .con tI, .own 2, .own 3], .rowv ac8, .rowv ab5]⟩, exits := [(.exit 4, ⟨144, .box 1 0 :: aN 107 [.con eW, .con tI], [.cells [.con tI, .con tI, .con l5, .con eI, .con m5, .con eW, .con eI], .cells [.con tI, .con tI, .con l5, .con eI, .con m5, .con eW, .con eI, .con eI, .con tI, .own 2, .own 3], .rowv ac8, .rowv ab5]⟩, [abo, eI])] }
def auK (ρ : Type) : acD ρ := ⟨[2, 1], 132, 4, aGW, fun (p : Val (.pair eW (.pair tI (.pair tI (.pair tI (.pair l5 (.pair eI (.pair m5 (.pair eW (.pair eI (.pair tI (.pair tI (.pair l5 (.pair eI (.pair m5 (.pair eW (.pair eI abS))))))))))))))))) (v : Val (.pair tI asX)) kn kx => anv p.1 p.2.1 p.2.2.2.2.2.2.2.2.2.1 p.2.2.2.2.2.2.2.2.2.2.1 p.2.2.2.2.2.2.2.2.2.2.2.1 p.2.2.2.2.2.2.2.2.2.2.2.2.1 p.2.2.2.2.2.2.2.2.2.2.2.2.2.1 p.2.2.2.2.2.2.2.2.2.2.2.2.2.2.1 p.2.2.2.2.2.2.2.2.2.2.2.2.2.2.2.1 p.2.2.2.2.2.2.2.2.2.2.2.2.2.2.2.2.1 p.2.2.2.2.2.2.2.2.2.2.2.2.2.2.2.2.2 v.1 v.2.1 v.2.2 (fun u0 u1 u2 => kn (u0, u1, u2)) (kx 0)⟩
def aL8 : List (Nat × acy) := [(54, aNm), (85, atj), (87, aoQ), (88, aqg), (168, aFN), (200, aFM)]
def axS (ρ : Type) : List (acD ρ) := [auL ρ, auM ρ, auK ρ]
def amu (ρ : Type) : Env ρ := acA aL8 (axS ρ)
def aee : acy := ⟨[ab6], [acf, eI, tI], fun (x : Val ab6) => adt x⟩
def aHi : List (Nat × acy) := [(38, adK), (62, aza)]
def arG (ρ : Type) : List (acD ρ) := []
def ax0 (ρ : Type) : Env ρ := acA aHi (arG ρ)
def agI : acy := ⟨[ab6, ab5], [tI, tI], fun (x : Val abQ) => aeo x.1 x.2⟩
def aJ2 : List (Nat × acy) := [(38, adK), (85, atj), (130, aeA)]
def au3 (ρ : Type) : List (acD ρ) := []
def aBt (ρ : Type) : Env ρ := acA aJ2 (au3 ρ)
def agZ : acy := ⟨[abx, ab5], [tI], fun (x : Val abO) => afc x.1 x.2⟩
def aCZ : List (Nat × acy) := [(60, agI)]
def ao4 (ρ : Type) : List (acD ρ) := []
def atC (ρ : Type) : Env ρ := acA aCZ (ao4 ρ)
def ay9 : acy := ⟨[acf, tI], [.bool], fun (x : Val (.pair acf tI)) => alk x.1 x.2⟩
def aLR : List (Nat × acy) := []
def axH (ρ : Type) : List (acD ρ) := []
def aEF (ρ : Type) : Env ρ := acA aLR (axH ρ)
def aj6 : acy := ⟨[acf], [tI, tI], fun (x : Val acf) => ahS x⟩
def aDA : acb := { pin := 0, cs := [abo, tI, tI, abo], vs := [tI], head := ⟨57, .any :: .box 0 0 :: aN 17 [.con abo, .con tI, .var tI], [.cells [.con tI, .con abo]]⟩, exits := [(.ret, ⟨57, .any :: .box 0 0 :: .var tI :: .var tI :: aN 15 [.con abo, .con tI], [.cells [.con tI, .con abo]]⟩, [tI, tI]), (.exit 0, ⟨57, .any :: .box 0 0 :: aN 17 [.con abo, .con tI], [.cells [.con tI, .con abo]]⟩, [])] }
def aru (ρ : Type) : acD ρ := ⟨[], 133, 0, aDA, fun (p : Val (.pair abo abH)) (v : Val tI) kn kx => ak4 p.1 p.2.1 p.2.2.1 p.2.2.2 v (fun u0 => kn u0) (kx 0) (kx 1)⟩
def aJA : List (Nat × acy) := [(134, ay9)]
def aus (ρ : Type) : List (acD ρ) := [aru ρ]
def asv (ρ : Type) : Env ρ := acA aJA (aus ρ)
def akH : acy := ⟨[acf, abq], [f6, .bool], fun (x : Val (.pair acf abq)) => ahh x.1 x.2⟩
def awp : acb := { pin := 2, cs := [abq, abo, tI, tI, abo, f6, tI, abo, aby, f6], vs := [tI, tI], head := ⟨140, .any :: .con abq :: .own 1 :: .box 2 0 :: .any :: .any :: .any :: .box 3 0 :: .own 4 :: .own 5 :: .var tI :: aN 14 [.con abo, .con tI, .var tI], [.cells [.con tI, .con abo], .rowc tI, .cells [.con tI, .con abo], .cells [.nils], .rowc .bool, .rowc tI]⟩, exits := [(.exit 0, ⟨140, .any :: .con abq :: .own 1 :: .box 2 0 :: .any :: .any :: .any :: .box 3 0 :: .own 4 :: .own 5 :: .var tI :: aN 14 [.con abo, .con tI], [.cells [.con tI, .con abo], .rowc tI, .cells [.con tI, .con abo], .cells [.nils], .rowc .bool, .rowc tI]⟩, [tI])] }
def amr (ρ : Type) : acD ρ := ⟨[2, 3], 136, 0, awp, fun (p : Val (.pair abq (.pair abo (.pair tI (.pair tI (.pair abo (.pair f6 (.pair tI (.pair abo abJ))))))))) (v : Val ab5) kn kx => afs p.2.1 p.2.2.1 v.1 v.2 (fun u0 u1 => kn (u0, u1)) (kx 0)⟩
def awo : acb := { pin := 2, cs := [abq, tI, tI, tI, abo, f6, tI, abo, f6], vs := [tI, aby, f6], head := ⟨140, .any :: .con abq :: .own 1 :: .box 2 0 :: .any :: .any :: .any :: .box 3 0 :: .own 4 :: .own 5 :: .con tI :: aN 27 [.con tI, .var tI], [.cells [.con tI, .con abo], .rowc tI, .cells [.con tI, .con abo], .cells [.own 6], .rowv .bool, .rowc tI, .rowv tI]⟩, exits := [(.exit 2, ⟨140, .any :: .con abq :: .own 1 :: .box 2 0 :: .any :: .any :: .any :: .box 3 0 :: .own 4 :: .own 5 :: .con tI :: aN 27 [.con tI], [.cells [.con tI, .con abo], .rowc tI, .cells [.con tI, .con abo], .cells [.own 6], .rowv .bool, .rowc tI, .rowv tI]⟩, [aby, f6])] }
def amq (ρ : Type) : acD ρ := ⟨[2, 3], 136, 2, awo, fun (p : Val (.pair abq (.pair tI (.pair tI (.pair tI (.pair abo (.pair f6 (.pair tI (.pair abo f6))))))))) (v : Val (.pair tI abJ)) kn kx => aea p.2.2.1 p.2.2.2.2.2.1 v.1 v.2.1 v.2.2 (fun u0 u1 u2 => kn (u0, u1, u2)) (kx 0)⟩
def awm : acb := { pin := 2, cs := [abq, tI, tI, abo, tI, tI, abo, tI, abo, f6], vs := [tI, f6, aby, f6], head := ⟨140, .any :: .con abq :: .own 1 :: .box 2 0 :: .any :: .any :: .any :: .box 3 0 :: .own 4 :: .own 5 :: .con tI :: .any :: .any :: .any :: .con tI :: aN 62 [.con abo, .con tI, .var tI], [.cells [.con tI, .con abo], .rowv tI, .cells [.con tI, .con abo], .cells [.own 6], .rowv .bool, .rowc tI, .rowv tI]⟩, exits := [(.ret, ⟨140, .any :: .con abq :: .own 1 :: .box 2 0 :: .any :: .any :: .var .bool :: .box 3 0 :: .own 4 :: .own 5 :: .con tI :: .any :: .any :: .any :: .con tI :: aN 62 [.con abo, .con tI], [.cells [.con tI, .con abo], .rowv tI, .cells [.con tI, .con abo], .cells [.own 6], .rowv .bool, .rowc tI, .rowv tI]⟩, [.bool, f6, aby, f6]), (.exit 6, ⟨140, .any :: .con abq :: .own 1 :: .box 2 0 :: .any :: .any :: .any :: .box 3 0 :: .own 4 :: .own 5 :: .con tI :: .any :: .any :: .any :: .con tI :: aN 62 [.con abo, .con tI], [.cells [.con tI, .con abo], .rowv tI, .cells [.con tI, .con abo], .cells [.own 6], .rowv .bool, .rowc tI, .rowv tI]⟩, [f6, aby, f6])] }
def amn (ρ : Type) : acD ρ := ⟨[2, 3], 136, 6, awm, fun (p : Val (.pair abq (.pair tI (.pair tI (.pair abo (.pair tI (.pair tI (.pair abo (.pair tI (.pair abo f6)))))))))) (v : Val (.pair tI abZ)) kn kx => agd p.1 p.2.1 p.2.2.1 p.2.2.2.1 p.2.2.2.2.1 v.1 v.2.1 v.2.2.1 v.2.2.2 (fun u0 u1 u2 u3 => kn (u0, u1, u2, u3)) (kx 0) (kx 1)⟩
def awn : acb := { pin := 2, cs := [abq, tI, tI, abo, tI, abo], vs := [f6, aby, f6, f6], head := ⟨140, [.any, .con abq, .own 1, .box 2 0, .any, .any, .any, .box 3 0, .own 4, .own 5, .con tI], [.cells [.con tI, .con abo], .rowv tI, .cells [.con tI, .con abo], .cells [.own 6], .rowv .bool, .rowv tI, .rowv tI]⟩, exits := [(.ret, ⟨140, [.any, .con abq, .own 1, .box 2 0, .any, .any, .var .bool, .box 3 0, .own 4, .own 5, .con tI], [.cells [.con tI, .con abo], .rowv tI, .cells [.con tI, .con abo], .cells [.own 6], .rowv .bool, .rowv tI, .rowv tI]⟩, [.bool, f6, aby, f6, f6])] }
def amo (ρ : Type) : acD ρ := ⟨[2, 3], 136, 4, awn, fun (p : Val (.pair abq ab1)) (v : Val abL) kn kx => adz p.1 p.2.1 p.2.2.2.2.1 p.2.2.2.2.2 v.1 v.2.1 v.2.2.1 v.2.2.2 (fun u0 u1 u2 u3 => kn (u0, u1, u2, u3)) (kx 0)⟩
def awl : acb := { pin := 0, cs := [tI, tI], vs := [tI, f6], head := ⟨34, aN 6 (.own 0 :: .con tI :: aN 13 [.con tI, .var tI]), [.rowv tI]⟩, exits := [(.exit 0, ⟨34, aN 6 (.own 0 :: .con tI :: aN 13 [.con tI]), [.rowv tI]⟩, [f6])] }
def amm (ρ : Type) : acD ρ := ⟨[], 135, 0, awl, fun (p : Val ab5) (v : Val abz) kn kx => agc p.1 p.2 v.1 v.2 (fun u0 u1 => kn (u0, u1)) (kx 0)⟩
def aAx : List (Nat × acy) := []
def aok (ρ : Type) : List (acD ρ) := [amr ρ, amq ρ, amn ρ, amo ρ, amm ρ]
def ae7 (ρ : Type) : Env ρ := acA aAx (aok ρ)
def azW : acy := ⟨[acf, f6], [tI], fun (x : Val abU) => apU x.1 x.2⟩
def aDq : acb := { pin := 0, cs := [f6, tI, tI, abo], vs := [tI], head := ⟨37, .any :: .any :: .box 0 0 :: aN 16 [.con f6, .con tI, .var tI], [.cells [.con tI, .con abo]]⟩, exits := [(.ret, ⟨37, .any :: .any :: .box 0 0 :: .any :: .var tI :: aN 14 [.con f6, .con tI], [.cells [.con tI, .con abo]]⟩, [tI]), (.exit 0, ⟨37, .any :: .any :: .box 0 0 :: aN 16 [.con f6, .con tI], [.cells [.con tI, .con abo]]⟩, [])] }
def arl (ρ : Type) : acD ρ := ⟨[], 63, 0, aDq, fun (p : Val (.pair f6 abH)) (v : Val tI) kn kx => akZ p.1 p.2.1 p.2.2.1 p.2.2.2 v (fun u0 => kn u0) (kx 0) (kx 1)⟩
def aJw : List (Nat × acy) := [(133, aj6), (134, ay9), (135, akH)]
def aul (ρ : Type) : List (acD ρ) := [arl ρ]
def asu (ρ : Type) : Env ρ := acA aJw (aul ρ)
def avR : acy := ⟨[acf, abq, tI], [f6], fun (x : Val (.pair acf (.pair abq tI))) => ajV x.1 x.2.1 x.2.2⟩
def aAE : acb := { pin := 0, cs := [abq, tI, tI, tI, abo], vs := [tI, f6], head := ⟨29, .any :: .con abq :: .con tI :: .box 0 0 :: .any :: .any :: .any :: .own 1 :: aN 5 [.con tI, .var tI], [.cells [.con tI, .con abo], .rowv tI]⟩, exits := [(.exit 0, ⟨29, .any :: .con abq :: .con tI :: .box 0 0 :: .any :: .any :: .any :: .own 1 :: aN 5 [.con tI], [.cells [.con tI, .con abo], .rowv tI]⟩, [f6])] }
def apr (ρ : Type) : acD ρ := ⟨[], 64, 0, aAE, fun (p : Val (.pair abq (.pair tI abH))) (v : Val abz) kn kx => ajz p.2.2.1 v.1 v.2 (fun u0 u1 => kn (u0, u1)) (kx 0)⟩
def aAD : acb := { pin := 2, cs := [abq, abo, tI, tI, abo, f6, tI, abo, aby, f6], vs := [tI, tI], head := ⟨140, .any :: .con abq :: .own 1 :: .box 2 0 :: .any :: .any :: .any :: .box 3 0 :: .own 4 :: .own 5 :: .var tI :: aN 14 [.con abo, .con tI, .var tI], [.cells [.con tI, .con abo], .rowc tI, .cells [.con tI, .con abo], .cells [.nils], .rowc .bool, .rowc tI]⟩, exits := [(.exit 0, ⟨140, .any :: .con abq :: .own 1 :: .box 2 0 :: .any :: .any :: .any :: .box 3 0 :: .own 4 :: .own 5 :: .var tI :: aN 14 [.con abo, .con tI], [.cells [.con tI, .con abo], .rowc tI, .cells [.con tI, .con abo], .cells [.nils], .rowc .bool, .rowc tI]⟩, [tI])] }
def apq (ρ : Type) : acD ρ := ⟨[8, 3], 136, 0, aAD, fun (p : Val (.pair abq (.pair abo (.pair tI (.pair tI (.pair abo (.pair f6 (.pair tI (.pair abo abJ))))))))) (v : Val ab5) kn kx => anl p.2.1 p.2.2.1 v.1 v.2 (fun u0 u1 => kn (u0, u1)) (kx 0)⟩
def aAC : acb := { pin := 2, cs := [abq, tI, tI, tI, abo, f6, tI, abo, f6], vs := [tI, aby, f6], head := ⟨140, .any :: .con abq :: .own 1 :: .box 2 0 :: .any :: .any :: .any :: .box 3 0 :: .own 4 :: .own 5 :: .con tI :: aN 27 [.con tI, .var tI], [.cells [.con tI, .con abo], .rowc tI, .cells [.con tI, .con abo], .cells [.own 6], .rowv .bool, .rowc tI, .rowv tI]⟩, exits := [(.exit 2, ⟨140, .any :: .con abq :: .own 1 :: .box 2 0 :: .any :: .any :: .any :: .box 3 0 :: .own 4 :: .own 5 :: .con tI :: aN 27 [.con tI], [.cells [.con tI, .con abo], .rowc tI, .cells [.con tI, .con abo], .cells [.own 6], .rowv .bool, .rowc tI, .rowv tI]⟩, [aby, f6])] }
def apo (ρ : Type) : acD ρ := ⟨[8, 3], 136, 2, aAC, fun (p : Val (.pair abq (.pair tI (.pair tI (.pair tI (.pair abo (.pair f6 (.pair tI (.pair abo f6))))))))) (v : Val (.pair tI abJ)) kn kx => ank p.2.2.1 p.2.2.2.2.2.1 v.1 v.2.1 v.2.2 (fun u0 u1 u2 => kn (u0, u1, u2)) (kx 0)⟩
def aAA : acb := { pin := 2, cs := [abq, tI, tI, abo, tI, tI, abo, tI, abo, f6], vs := [tI, f6, aby, f6], head := ⟨140, .any :: .con abq :: .own 1 :: .box 2 0 :: .any :: .any :: .any :: .box 3 0 :: .own 4 :: .own 5 :: .con tI :: .any :: .any :: .any :: .con tI :: aN 62 [.con abo, .con tI, .var tI], [.cells [.con tI, .con abo], .rowv tI, .cells [.con tI, .con abo], .cells [.own 6], .rowv .bool, .rowc tI, .rowv tI]⟩, exits := [(.ret, ⟨140, .any :: .con abq :: .own 1 :: .box 2 0 :: .any :: .any :: .var .bool :: .box 3 0 :: .own 4 :: .own 5 :: .con tI :: .any :: .any :: .any :: .con tI :: aN 62 [.con abo, .con tI], [.cells [.con tI, .con abo], .rowv tI, .cells [.con tI, .con abo], .cells [.own 6], .rowv .bool, .rowc tI, .rowv tI]⟩, [.bool, f6, aby, f6]), (.exit 6, ⟨140, .any :: .con abq :: .own 1 :: .box 2 0 :: .any :: .any :: .any :: .box 3 0 :: .own 4 :: .own 5 :: .con tI :: .any :: .any :: .any :: .con tI :: aN 62 [.con abo, .con tI], [.cells [.con tI, .con abo], .rowv tI, .cells [.con tI, .con abo], .cells [.own 6], .rowv .bool, .rowc tI, .rowv tI]⟩, [f6, aby, f6])] }
def apm (ρ : Type) : acD ρ := ⟨[8, 3], 136, 6, aAA, fun (p : Val (.pair abq (.pair tI (.pair tI (.pair abo (.pair tI (.pair tI (.pair abo (.pair tI (.pair abo f6)))))))))) (v : Val (.pair tI abZ)) kn kx => auk p.1 p.2.1 p.2.2.1 p.2.2.2.1 p.2.2.2.2.1 v.1 v.2.1 v.2.2.1 v.2.2.2 (fun u0 u1 u2 u3 => kn (u0, u1, u2, u3)) (kx 0) (kx 1)⟩
def aAB : acb := { pin := 2, cs := [abq, tI, tI, abo, tI, abo], vs := [f6, aby, f6, f6], head := ⟨140, [.any, .con abq, .own 1, .box 2 0, .any, .any, .any, .box 3 0, .own 4, .own 5, .con tI], [.cells [.con tI, .con abo], .rowv tI, .cells [.con tI, .con abo], .cells [.own 6], .rowv .bool, .rowv tI, .rowv tI]⟩, exits := [(.ret, ⟨140, [.any, .con abq, .own 1, .box 2 0, .any, .any, .var .bool, .box 3 0, .own 4, .own 5, .con tI], [.cells [.con tI, .con abo], .rowv tI, .cells [.con tI, .con abo], .cells [.own 6], .rowv .bool, .rowv tI, .rowv tI]⟩, [.bool, f6, aby, f6, f6])] }
def apn (ρ : Type) : acD ρ := ⟨[8, 3], 136, 4, aAB, fun (p : Val (.pair abq ab1)) (v : Val abL) kn kx => anj p.1 p.2.1 p.2.2.2.2.1 p.2.2.2.2.2 v.1 v.2.1 v.2.2.1 v.2.2.2 (fun u0 u1 u2 u3 => kn (u0, u1, u2, u3)) (kx 0)⟩
def aGz : List (Nat × acy) := []
def ark (ρ : Type) : List (acD ρ) := [apr ρ, apq ρ, apo ρ, apm ρ, apn ρ]
def age (ρ : Type) : Env ρ := acA aGz (ark ρ)
def atf : acy := ⟨[acf, tI, tI], [tI, tI], fun (x : Val abW) => akv x.1 x.2.1 x.2.2⟩
def aJC : List (Nat × acy) := [(63, azW), (64, avR)]
def auw (ρ : Type) : List (acD ρ) := []
def aAV (ρ : Type) : Env ρ := acA aJC (auw ρ)
def agH : acy := ⟨[abx, tI, tI], [tI], fun (x : Val abO) => ac4 x.1 x.2.1 x.2.2⟩
def av2 : List (Nat × acy) := [(89, atf)]
def akP (ρ : Type) : List (acD ρ) := []
def aoc (ρ : Type) : Env ρ := acA av2 (akP ρ)
def als : acy := ⟨[abx, ab5], [tI], fun (x : Val abO) => afb x.1 x.2⟩
def av1 : List (Nat × acy) := [(55, agZ), (56, agH)]
def akO (ρ : Type) : List (acD ρ) := []
def aob (ρ : Type) : Env ρ := acA av1 (akO ρ)
def ah8 : acy := ⟨[abx, ab5], [tI], fun (x : Val abO) => afv x.1 x.2⟩
def aqR : List (Nat × acy) := [(55, agZ), (56, agH)]
def aiU (ρ : Type) : List (acD ρ) := []
def akc (ρ : Type) : Env ρ := acA aqR (aiU ρ)
def agp : acy := ⟨[abx, ab5], [ab5], fun (x : Val abO) => aew x.1 x.2⟩
def aqQ : List (Nat × acy) := [(121, als), (122, ah8)]
def aiT (ρ : Type) : List (acD ρ) := []
def ag5 (ρ : Type) : Env ρ := { acA aqQ (aiT ρ) with hint := awT [(12, 121), (16, 122)] }
def akI : acy := ⟨[ab6, ab5], [ab6, tI], fun (x : Val abQ) => agW x.1 x.2⟩
def aHk : acb := { pin := 6, cs := [tI, tI, tI, l5, eI, m5, eW, eI, tI, tI, tI, tI, tI, tI, l5, eI, m5, eW, eI, tI, tI, tI, tI, eW, tI, tI, l5, eI, m5, eI], vs := [tI, eW], head := ⟨50, .any :: .box 6 0 :: .box 7 0 :: .own 8 :: aN 21 [.own 8, .con tI, .var tI], [.cells [.con tI, .con tI, .con l5, .con eI, .con m5, .con eW, .con eI], .cells [.con tI, .con tI], .cells [.con tI, .con tI, .nils, .nils, .nils, .nils, .nils], .cells [.con tI, .con tI, .con l5, .con eI, .con m5, .con eW, .con eI], .cells [.con tI, .con tI, .nils, .nils, .nils, .nils, .nils], .dead, .cells [.con tI, .con tI, .own 9, .own 10, .own 11, .con eW, .own 12], .cells [.con tI, .con tI, .nils, .nils, .nils, .nils, .nils], .rowv ace, .rowc ach, .rowc ab5, .rowc adJ, .rowc ab5]⟩, exits := [(.exit 0, ⟨50, .any :: .box 6 0 :: .box 7 0 :: .own 8 :: aN 21 [.own 8, .con tI], [.cells [.con tI, .con tI, .con l5, .con eI, .con m5, .con eW, .con eI], .cells [.con tI, .con tI], .cells [.con tI, .con tI, .nils, .nils, .nils, .nils, .nils], .cells [.con tI, .con tI, .con l5, .con eI, .con m5, .con eW, .con eI], .cells [.con tI, .con tI, .nils, .nils, .nils, .nils, .nils], .dead, .cells [.con tI, .con tI, .own 9, .own 10, .own 11, .con eW, .own 12], .cells [.con tI, .con tI, .nils, .nils, .nils, .nils, .nils], .rowv ace, .rowc ach, .rowc ab5, .rowc adJ, .rowc ab5]⟩, [eW])] }
def au2 (ρ : Type) : acD ρ := ⟨[1, 2, 4, 1], 175, 0, aHk, fun (p : Val (.pair tI (.pair tI (.pair tI (.pair l5 (.pair eI (.pair m5 (.pair eW (.pair eI (.pair tI (.pair tI (.pair tI (.pair tI (.pair tI (.pair tI (.pair l5 (.pair eI (.pair m5 (.pair eW (.pair eI (.pair tI (.pair tI (.pair tI (.pair tI (.pair eW (.pair tI (.pair tI (.pair l5 (.pair eI (.pair m5 eI)))))))))))))))))))))))))))))) (v : Val (.pair tI eW)) kn kx => anH p.1 v.1 v.2 (fun u0 u1 => kn (u0, u1)) (kx 0)⟩
def aMf : List (Nat × acy) := [(38, adK)]
def ax2 (ρ : Type) : List (acD ρ) := [au2 ρ]
def awK (ρ : Type) : Env ρ := acA aMf (ax2 ρ)
def ad4 : acy := ⟨[acf], [.bool, tI], fun (x : Val acf) => adc x⟩
def awt : List (Nat × acy) := [(133, aj6), (135, akH)]
def ak2 (ρ : Type) : List (acD ρ) := []
def aom (ρ : Type) : Env ρ := acA awt (ak2 ρ)
def axu : acy := ⟨[ab6, ab5], [ab5, tI], fun (x : Val abQ) => ai8 x.1 x.2⟩
def awd : acb := { pin := 4, cs := [tI, tI, tI, l5, eI, m5, eW, eI, tI, tI, tI, tI, eI], vs := [tI, tI, tI, l5, eI, m5, eW, eI], head := ⟨68, .any :: .any :: .box 4 0 :: aN 20 [.own 3, .con tI, .var tI], [.cells [.con tI, .con tI, .con l5, .con eI, .con m5, .con eW, .con eI], .cells [.con tI, .con tI], .cells [.con tI, .con tI], .rowc ab5, .cells [.var tI, .var tI, .var l5, .var eI, .var m5, .var eW, .var eI]]⟩, exits := [(.ret, ⟨68, .any :: .any :: .box 4 0 :: .any :: .nilp :: .var tI :: aN 17 [.own 3, .con tI], [.cells [.con tI, .con tI, .con l5, .con eI, .con m5, .con eW, .con eI], .cells [.con tI, .con tI], .cells [.con tI, .con tI], .rowc ab5, .cells [.var tI, .var tI, .var l5, .var eI, .var m5, .var eW, .var eI]]⟩, [tI, tI, tI, l5, eI, m5, eW, eI]), (.exit 0, ⟨68, .any :: .any :: .box 4 0 :: aN 20 [.own 3, .con tI], [.cells [.con tI, .con tI, .con l5, .con eI, .con m5, .con eW, .con eI], .cells [.con tI, .con tI], .cells [.con tI, .con tI], .rowc ab5, .cells [.var tI, .var tI, .var l5, .var eI, .var m5, .var eW, .var eI]]⟩, [tI, tI, l5, eI, m5, eW, eI])] }
def amj (ρ : Type) : acD ρ := ⟨[1, 3], 50, 0, awd, fun (p : Val (.pair tI (.pair tI (.pair tI (.pair l5 (.pair eI (.pair m5 (.pair eW (.pair eI (.pair tI (.pair tI abR))))))))))) (v : Val abA) kn kx => ac9 p.1 p.2.2.2.2.2.2.2.2.2.2.2.2 v.1 v.2.1 v.2.2.1 v.2.2.2.1 v.2.2.2.2.1 v.2.2.2.2.2.1 v.2.2.2.2.2.2.1 v.2.2.2.2.2.2.2 (fun u0 u1 u2 u3 u4 u5 u6 u7 => kn (u0, u1, u2, u3, u4, u5, u6, u7)) (kx 0) (kx 1)⟩
def aAt : List (Nat × acy) := [(20, aee), (38, adK), (51, agp), (60, agI), (61, akI), (123, ad4)]
def aof (ρ : Type) : List (acD ρ) := [amj ρ]
def alB (ρ : Type) : Env ρ := acA aAt (aof ρ)
def azU : acy := ⟨[ab6, ab5, ab5], [ab5, tI], fun (x : Val (.pair ab6 acY)) => anQ x.1 x.2.1 x.2.2⟩
def ayG : acb := { pin := 5, cs := [tI, tI, tI, l5, eI, m5, eW, eI, tI, tI, tI, tI, tI, tI, eI], vs := [tI, tI, tI, l5, eI, m5, eW, eI], head := ⟨68, .any :: .any :: .box 5 0 :: aN 20 [.own 4, .con tI, .var tI], [.cells [.con tI, .con tI, .con l5, .con eI, .con m5, .con eW, .con eI], .cells [.con tI, .con tI], .cells [.con tI, .con tI], .cells [.con tI, .con tI], .rowc ab5, .cells [.var tI, .var tI, .var l5, .var eI, .var m5, .var eW, .var eI]]⟩, exits := [(.ret, ⟨68, .any :: .any :: .box 5 0 :: .any :: .nilp :: .var tI :: aN 17 [.own 4, .con tI], [.cells [.con tI, .con tI, .con l5, .con eI, .con m5, .con eW, .con eI], .cells [.con tI, .con tI], .cells [.con tI, .con tI], .cells [.con tI, .con tI], .rowc ab5, .cells [.var tI, .var tI, .var l5, .var eI, .var m5, .var eW, .var eI]]⟩, [tI, tI, tI, l5, eI, m5, eW, eI]), (.exit 0, ⟨68, .any :: .any :: .box 5 0 :: aN 20 [.own 4, .con tI], [.cells [.con tI, .con tI, .con l5, .con eI, .con m5, .con eW, .con eI], .cells [.con tI, .con tI], .cells [.con tI, .con tI], .cells [.con tI, .con tI], .rowc ab5, .cells [.var tI, .var tI, .var l5, .var eI, .var m5, .var eW, .var eI]]⟩, [tI, tI, l5, eI, m5, eW, eI])] }
def aoj (ρ : Type) : acD ρ := ⟨[1, 4], 50, 0, ayG, fun (p : Val (.pair tI (.pair tI (.pair tI (.pair l5 (.pair eI (.pair m5 (.pair eW (.pair eI (.pair tI (.pair tI (.pair tI (.pair tI abR))))))))))))) (v : Val abA) kn kx => alF p.1 p.2.2.2.2.2.2.2.2.2.2.2.2.2.2 v.1 v.2.1 v.2.2.1 v.2.2.2.1 v.2.2.2.2.1 v.2.2.2.2.2.1 v.2.2.2.2.2.2.1 v.2.2.2.2.2.2.2 (fun u0 u1 u2 u3 u4 u5 u6 u7 => kn (u0, u1, u2, u3, u4, u5, u6, u7)) (kx 0) (kx 1)⟩
def aDm : List (Nat × acy) := [(20, aee), (38, adK), (55, agZ), (56, agH), (60, agI), (61, akI), (123, ad4)]
def apj (ρ : Type) : List (acD ρ) := [aoj ρ]
def ang (ρ : Type) : Env ρ := acA aDm (apj ρ)
def avU : acy := ⟨[f6, f6], [f6, f6, tI], fun (x : Val (.pair f6 f6)) => amI x.1 x.2⟩
def aHo : List (Nat × acy) := [(88, aqg), (198, avS)]
def arH (ρ : Type) : List (acD ρ) := []
def ax4 (ρ : Type) : Env ρ := acA aHo (arH ρ)
def aNi : acy := ⟨[f6, tI], [.bool], fun (x : Val abE) => azn x.1 x.2⟩
def aLK : List (Nat × acy) := [(129, avU)]
def axx (ρ : Type) : List (acD ρ) := []
def aEE (ρ : Type) : Env ρ := acA aLK (axx ρ)
def aIO : acy := ⟨[tI], [.bool], fun (x : Val tI) => avl x⟩
def aJh : List (Nat × acy) := []
def atQ (ρ : Type) : List (acD ρ) := []
def aAk (ρ : Type) : Env ρ := acA aJh (atQ ρ)
def aIN : acy := ⟨[tI, abt], [eI], fun (x : Val (.pair tI abt)) => avk x.1 x.2⟩
def aDa : acb := { pin := 0, cs := [tI, f6, tI], vs := [tI, eI], head := ⟨23, .con tI :: aN 4 [.own 0, .any, .any, .any, .con f6, .con tI, .var tI], [.rowv ab5]⟩, exits := [(.exit 0, ⟨23, .con tI :: aN 4 [.own 0, .any, .any, .any, .con f6, .con tI], [.rowv ab5]⟩, [eI])] }
def aq9 (ρ : Type) : acD ρ := ⟨[], 59, 0, aDa, fun (p : Val (.pair tI abE)) (v : Val abB) kn kx => akQ p.1 p.2.1 p.2.2 v.1 v.2 (fun u0 u1 => kn (u0, u1)) (kx 0)⟩
def aJg : List (Nat × acy) := [(94, aed)]
def atO (ρ : Type) : List (acD ρ) := [aq9 ρ]
def asj (ρ : Type) : Env ρ := acA aJg (atO ρ)
def aNk : acy := ⟨[ab6, tI, f6], [ab5, tI], fun (x : Val (.pair ab6 abz)) => azo x.1 x.2.1 x.2.2⟩
def aGr : acb := { pin := 3, cs := [eI, tI, tI, tI, l5, eI, m5, eW, eI, tI, tI, abt], vs := [tI, tI, tI, l5, eI, m5, eW, eI], head := ⟨68, .any :: .any :: .box 3 0 :: aN 20 [.con eI, .con tI, .var tI], [.cells [.con tI, .con tI, .con l5, .con eI, .con m5, .con eW, .con eI], .cells [.con tI, .con tI], .rowf f6 0, .cells [.var tI, .var tI, .var l5, .var eI, .var m5, .var eW, .var eI]]⟩, exits := [(.ret, ⟨68, .any :: .any :: .box 3 0 :: .any :: .nilp :: .var tI :: aN 17 [.con eI, .con tI], [.cells [.con tI, .con tI, .con l5, .con eI, .con m5, .con eW, .con eI], .cells [.con tI, .con tI], .rowf f6 0, .cells [.var tI, .var tI, .var l5, .var eI, .var m5, .var eW, .var eI]]⟩, [tI, tI, tI, l5, eI, m5, eW, eI]), (.exit 0, ⟨68, .any :: .any :: .box 3 0 :: aN 20 [.con eI, .con tI], [.cells [.con tI, .con tI, .con l5, .con eI, .con m5, .con eW, .con eI], .cells [.con tI, .con tI], .rowf f6 0, .cells [.var tI, .var tI, .var l5, .var eI, .var m5, .var eW, .var eI]]⟩, [tI, tI, l5, eI, m5, eW, eI])] }
def at0 (ρ : Type) : acD ρ := ⟨[7, 2], 50, 0, aGr, fun (p : Val (.pair eI (.pair tI (.pair tI (.pair tI (.pair l5 (.pair eI (.pair m5 (.pair eW (.pair eI (.pair tI (.pair tI abt)))))))))))) (v : Val abA) kn kx => anb p.1 p.2.1 v.1 v.2.1 v.2.2.1 v.2.2.2.1 v.2.2.2.2.1 v.2.2.2.2.2.1 v.2.2.2.2.2.2.1 v.2.2.2.2.2.2.2 (fun u0 u1 u2 u3 u4 u5 u6 u7 => kn (u0, u1, u2, u3, u4, u5, u6, u7)) (kx 0) (kx 1)⟩
def aGq : acb := { pin := 0, cs := [abx, eI, tI, tI, tI], vs := [tI, tI, tI], head := ⟨87, aN 6 (.box 0 0 :: .any :: .any :: .any :: .con abx :: .any :: .any :: .box 1 0 :: aN 51 [.con eI, .con tI, .var tI]), [.cells [.con tI, .con tI], .cells [.var tI, .var tI]]⟩, exits := [(.exit 0, ⟨87, aN 6 (.box 0 0 :: .any :: .any :: .any :: .con abx :: .any :: .any :: .box 1 0 :: aN 51 [.con eI, .con tI]), [.cells [.con tI, .con tI], .cells [.var tI, .var tI]]⟩, [tI, tI])] }
def atZ (ρ : Type) : acD ρ := ⟨[], 18, 0, aGq, fun (p : Val (.pair abx (.pair eI ac8))) (v : Val ac8) kn kx => ana p.1 p.2.1 p.2.2.1 v.1 v.2.1 v.2.2 (fun u0 u1 u2 => kn (u0, u1, u2)) (kx 0)⟩
def aLP : List (Nat × acy) := [(20, aee), (38, adK), (51, agp), (57, aNi), (58, aIO), (59, aIN), (60, agI), (61, akI), (123, ad4)]
def axF (ρ : Type) : List (acD ρ) := [at0 ρ, atZ ρ]
def aql (ρ : Type) : Env ρ := acA aLP (axF ρ)
def ar2 : acy := ⟨[ab5, ab5], [tI], fun (x : Val acY) => akr x.1 x.2⟩
def aCX : List (Nat × acy) := []
def ao0 (ρ : Type) : List (acD ρ) := []
def atz (ρ : Type) : Env ρ := acA aCX (ao0 ρ)
def aIQ : acy := ⟨[ab6, ab5, ab5], [tI, tI], fun (x : Val (.pair ab6 acY)) => avm x.1 x.2.1 x.2.2⟩
def aDk : acb := { pin := 4, cs := [tI, tI, tI, l5, eI, m5, eW, eI, tI, tI, tI, tI, eI], vs := [tI, tI, tI, l5, eI, m5, eW, eI], head := ⟨68, .any :: .any :: .box 4 0 :: aN 20 [.own 3, .con tI, .var tI], [.cells [.con tI, .con tI, .con l5, .con eI, .con m5, .con eW, .con eI], .cells [.con tI, .con tI], .cells [.con tI, .con tI], .rowc ab5, .cells [.var tI, .var tI, .var l5, .var eI, .var m5, .var eW, .var eI]]⟩, exits := [(.ret, ⟨68, .any :: .any :: .box 4 0 :: .any :: .nilp :: .var tI :: aN 17 [.own 3, .con tI], [.cells [.con tI, .con tI, .con l5, .con eI, .con m5, .con eW, .con eI], .cells [.con tI, .con tI], .cells [.con tI, .con tI], .rowc ab5, .cells [.var tI, .var tI, .var l5, .var eI, .var m5, .var eW, .var eI]]⟩, [tI, tI, tI, l5, eI, m5, eW, eI]), (.exit 0, ⟨68, .any :: .any :: .box 4 0 :: aN 20 [.own 3, .con tI], [.cells [.con tI, .con tI, .con l5, .con eI, .con m5, .con eW, .con eI], .cells [.con tI, .con tI], .cells [.con tI, .con tI], .rowc ab5, .cells [.var tI, .var tI, .var l5, .var eI, .var m5, .var eW, .var eI]]⟩, [tI, tI, l5, eI, m5, eW, eI])] }
def arj (ρ : Type) : acD ρ := ⟨[1, 3], 50, 0, aDk, fun (p : Val (.pair tI (.pair tI (.pair tI (.pair l5 (.pair eI (.pair m5 (.pair eW (.pair eI (.pair tI (.pair tI abR))))))))))) (v : Val abA) kn kx => apc p.1 p.2.2.2.2.2.2.2.2.2.2.2.2 v.1 v.2.1 v.2.2.1 v.2.2.2.1 v.2.2.2.2.1 v.2.2.2.2.2.1 v.2.2.2.2.2.2.1 v.2.2.2.2.2.2.2 (fun u0 u1 u2 u3 u4 u5 u6 u7 => kn (u0, u1, u2, u3, u4, u5, u6, u7)) (kx 0) (kx 1)⟩
def aJr : List (Nat × acy) := [(20, aee), (38, adK), (51, agp), (60, agI), (61, akI), (69, ar2), (123, ad4)]
def at6 (ρ : Type) : List (acD ρ) := [arj ρ]
def asp (ρ : Type) : Env ρ := acA aJr (at6 ρ)
def aFP : acy := ⟨[ab6, ace], [ab6, tI], fun (x : Val abI) => ajG x.1 x.2⟩
def aHg : acb := { pin := 8, cs := [tI, tI, tI, l5, eI, m5, eW, eI, tI, tI, f6, f6, tI, tI, tI, tI, tI, tI, tI, tI, l5, eI, m5, eW, eI, tI, tI, tI, tI, eW, tI, tI, l5, eI, m5, eI], vs := [tI, eW], head := ⟨50, .any :: .box 8 0 :: .box 9 0 :: .own 10 :: aN 21 [.own 10, .con tI, .var tI], [.cells [.con tI, .con tI, .con l5, .con eI, .con m5, .con eW, .con eI], .cells [.con tI, .con tI, .con f6, .con f6, .con tI, .con tI, .con tI, .con tI], .cells [.con tI, .con tI, .nils, .nils, .nils, .nils, .nils], .dead, .dead, .cells [.con tI, .con tI, .con l5, .con eI, .con m5, .con eW, .con eI], .cells [.con tI, .con tI, .nils, .nils, .nils, .nils, .nils], .dead, .cells [.con tI, .con tI, .own 11, .own 12, .own 13, .con eW, .own 14], .cells [.con tI, .con tI, .nils, .nils, .nils, .nils, .nils], .rowv ace, .rowc ach, .rowc ab5, .rowc adJ, .rowc ab5]⟩, exits := [(.exit 0, ⟨50, .any :: .box 8 0 :: .box 9 0 :: .own 10 :: aN 21 [.own 10, .con tI], [.cells [.con tI, .con tI, .con l5, .con eI, .con m5, .con eW, .con eI], .cells [.con tI, .con tI, .con f6, .con f6, .con tI, .con tI, .con tI, .con tI], .cells [.con tI, .con tI, .nils, .nils, .nils, .nils, .nils], .dead, .dead, .cells [.con tI, .con tI, .con l5, .con eI, .con m5, .con eW, .con eI], .cells [.con tI, .con tI, .nils, .nils, .nils, .nils, .nils], .dead, .cells [.con tI, .con tI, .own 11, .own 12, .own 13, .con eW, .own 14], .cells [.con tI, .con tI, .nils, .nils, .nils, .nils, .nils], .rowv ace, .rowc ach, .rowc ab5, .rowc adJ, .rowc ab5]⟩, [eW])] }
def au0 (ρ : Type) : acD ρ := ⟨[2, 2, 4, 1], 175, 0, aHg, fun (p : Val (.pair tI (.pair tI (.pair tI (.pair l5 (.pair eI (.pair m5 (.pair eW (.pair eI (.pair tI (.pair tI (.pair f6 (.pair f6 (.pair tI (.pair tI (.pair tI (.pair tI (.pair tI (.pair tI (.pair tI (.pair tI (.pair l5 (.pair eI (.pair m5 (.pair eW (.pair eI (.pair tI (.pair tI (.pair tI (.pair tI (.pair eW (.pair tI (.pair tI (.pair l5 (.pair eI (.pair m5 eI)))))))))))))))))))))))))))))))))))) (v : Val (.pair tI eW)) kn kx => anG p.1 v.1 v.2 (fun u0 u1 => kn (u0, u1)) (kx 0)⟩
def aMd : List (Nat × acy) := [(38, adK)]
def axZ (ρ : Type) : List (acD ρ) := [au0 ρ]
def awI (ρ : Type) : Env ρ := acA aMd (axZ ρ)
def aIW : acy := ⟨[ab6, ace, ab5], [ab5, tI], fun (x : Val (.pair ab6 (.pair ace ab5))) => amG x.1 x.2.1 x.2.2⟩
def aJP : List (Nat × acy) := [(171, avT), (172, az0), (173, aFL), (174, azY)]
def auF (ρ : Type) : List (acD ρ) := []
def aBe (ρ : Type) : Env ρ := acA aJP (auF ρ)
def az1 : acy := ⟨[ab6, ace], [ab5, tI], fun (x : Val abI) => anU x.1 x.2⟩
def aD1 : List (Nat × acy) := [(41, aFP), (62, aza), (87, aoQ), (88, aqg), (89, atf), (90, aIW)]
def apJ (ρ : Type) : List (acD ρ) := []
def au1 (ρ : Type) : Env ρ := acA aD1 (apJ ρ)
def aIV : acy := ⟨[ab6, tI], [ace, tI], fun (x : Val abP) => avq x.1 x.2⟩
def aJO : List (Nat × acy) := [(38, adK)]
def auE (ρ : Type) : List (acD ρ) := []
def aBc (ρ : Type) : Env ρ := acA aJO (auE ρ)
def aNo : acy := ⟨[ab6, tI], [ab5, tI], fun (x : Val abP) => azq x.1 x.2⟩
def aMe : List (Nat × acy) := [(200, aFM), (205, aIV)]
def ax1 (ρ : Type) : List (acD ρ) := []
def aEN (ρ : Type) : Env ρ := acA aMe (ax1 ρ)
def axt : acy := ⟨[f6, abx, (.ptr ace)], [tI], fun (x : Val (.pair f6 (.pair abx (.ptr ace)))) => ai7 x.1 x.2.1 x.2.2⟩
def aAj : List (Nat × acy) := [(55, agZ)]
def aoe (ρ : Type) : List (acD ρ) := []
def arc (ρ : Type) : Env ρ := acA aAj (aoe ρ)
def axs : acy := ⟨[tI, tI, abx, (.ptr tI), abT, (.ptr tI)], [ac8], fun (x : Val (.pair tI (.pair tI (.pair abx (.pair (.ptr tI) (.pair abT (.ptr tI))))))) => ai6 x.1 x.2.1 x.2.2.1 x.2.2.2.1 x.2.2.2.2.1 x.2.2.2.2.2⟩
def aAi : List (Nat × acy) := [(56, agH)]
def aod (ρ : Type) : List (acD ρ) := []
def arb (ρ : Type) : Env ρ := acA aAi (aod ρ)
def avP : acy := ⟨[abx, ab5, ace], [aey, tI], fun (x : Val (.pair abx abV)) => amD x.1 x.2.1 x.2.2⟩
def aAh : acb := { pin := 0, cs := [tI, f6, f6, eI, abo, tI, tI, tI, tI, tI, f6, f6, tI, tI, tI, tI, tI, tI, tI, tI, tI, tI, tI, tI, tI, tI, tI, tI, tI, tI, l5, eI, m5, eW, eI, tI], vs := [tI, abo], head := ⟨127, aN 4 (.box 0 0 :: .box 1 0 :: .box 2 0 :: .any :: .box 3 0 :: .any :: .any :: .con tI :: .box 4 0 :: .any :: .con f6 :: .con f6 :: .any :: .any :: .con eI :: .any :: .box 5 0 :: aN 65 [.con abo, .con tI, .var tI]), [.cells [.con tI, .con tI], .cells [.con tI, .con tI, .con f6, .con f6, .con tI, .con tI, .con tI, .con tI], .cells [.con tI, .con tI, .con tI, .con tI, .con tI, .con tI, .con tI, .con tI], .cells [.con tI, .con tI], .cells [.con tI, .con tI], .cells [.con tI, .con tI, .con l5, .con eI, .con m5, .con eW, .con eI, .con tI, .own 6], .rowv ac8]⟩, exits := [(.exit 0, ⟨127, aN 4 (.box 0 0 :: .box 1 0 :: .box 2 0 :: .any :: .box 3 0 :: .any :: .any :: .con tI :: .box 4 0 :: .any :: .con f6 :: .con f6 :: .any :: .any :: .con eI :: .any :: .box 5 0 :: aN 65 [.con abo, .con tI]), [.cells [.con tI, .con tI], .cells [.con tI, .con tI, .con f6, .con f6, .con tI, .con tI, .con tI, .con tI], .cells [.con tI, .con tI, .con tI, .con tI, .con tI, .con tI, .con tI, .con tI], .cells [.con tI, .con tI], .cells [.con tI, .con tI], .cells [.con tI, .con tI, .con l5, .con eI, .con m5, .con eW, .con eI, .con tI, .own 6], .rowv ac8]⟩, [abo])] }
def ao5 (ρ : Type) : acD ρ := ⟨[], 71, 0, aAh, fun (p : Val (.pair tI (.pair f6 (.pair f6 (.pair eI (.pair abo (.pair tI (.pair tI (.pair tI (.pair tI (.pair tI (.pair f6 (.pair f6 (.pair tI (.pair tI (.pair tI (.pair tI (.pair tI (.pair tI (.pair tI (.pair tI (.pair tI (.pair tI (.pair tI (.pair tI (.pair tI (.pair tI (.pair tI (.pair tI (.pair tI (.pair tI (.pair l5 (.pair eI (.pair m5 (.pair eW abS))))))))))))))))))))))))))))))))))) (v : Val acf) kn kx => ahG p.1 p.2.2.2.1 p.2.2.2.2.1 p.2.2.2.2.2.1 v.1 v.2 (fun u0 u1 => kn (u0, u1)) (kx 0)⟩
def aGf : List (Nat × acy) := [(20, aee), (40, az1), (41, aFP), (55, agZ), (129, avU), (142, aNo), (143, axt), (144, axs)]
def ara (ρ : Type) : List (acD ρ) := [ao5 ρ]
def akR (ρ : Type) : Env ρ := { acA aGf (ara ρ) with hint := awT [(110, 143), (113, 143), (120, 144), (123, 144)] }
def amS : acy := ⟨[ac8], [f6], fun (x : Val ac8) => afM x⟩
def ayx : List (Nat × acy) := []
def al9 (ρ : Type) : List (acD ρ) := []
def ao8 (ρ : Type) : Env ρ := acA ayx (al9 ρ)
def aEt : acy := ⟨[ac8, tI], [tI], fun (x : Val (.pair ac8 tI)) => amE x.1 x.2⟩
def aGh : List (Nat × acy) := []
def ard (ρ : Type) : List (acD ρ) := []
def axz (ρ : Type) : Env ρ := acA aGh (ard ρ)
def alq : acy := ⟨[aey, tI], [ab5], fun (x : Val (.pair aey tI)) => ad6 x.1 x.2⟩
def avY : List (Nat × acy) := [(177, aEt)]
def akM (ρ : Type) : List (acD ρ) := []
def an9 (ρ : Type) : Env ρ := acA avY (akM ρ)
def alr : acy := ⟨[aey, f6], [f6], fun (x : Val (.pair aey f6)) => agO x.1 x.2⟩
def ase : acb := { pin := 0, cs := [tI, f6, tI, tI, tI, tI, tI, tI, tI, tI, tI, tI], vs := [tI, f6], head := ⟨48, .any :: .any :: .box 0 0 :: .any :: .any :: .own 1 :: .any :: .con tI :: .var tI :: aN 7 [.con f6, .con tI, .con tI], [.cells [.con tI, .con tI, .con tI, .con tI, .con tI, .con tI, .con tI, .con tI], .rowv tI]⟩, exits := [(.exit 2, ⟨48, .any :: .any :: .box 0 0 :: .any :: .any :: .own 1 :: .any :: .con tI :: aN 8 [.con f6, .con tI, .con tI], [.cells [.con tI, .con tI, .con tI, .con tI, .con tI, .con tI, .con tI, .con tI], .rowv tI]⟩, [f6])] }
def aka (ρ : Type) : acD ρ := ⟨[], 101, 2, ase, fun (p : Val (.pair tI (.pair f6 (.pair tI (.pair tI abw))))) (v : Val abz) kn kx => afr p.1 p.2.2.2.2.1 p.2.2.2.2.2.1 v.1 v.2 (fun u0 u1 => kn (u0, u1)) (kx 0)⟩
def asf : acb := { pin := 0, cs := [f6, tI, tI, tI, tI, tI, tI, tI, tI, tI], vs := [tI, f6], head := ⟨48, .any :: .any :: .box 0 0 :: .any :: .any :: .own 1 :: aN 10 [.con f6, .con tI, .var tI], [.cells [.con tI, .con tI, .con tI, .con tI, .con tI, .con tI, .con tI, .con tI], .rowv tI]⟩, exits := [(.exit 0, ⟨48, .any :: .any :: .box 0 0 :: .any :: .any :: .own 1 :: aN 10 [.con f6, .con tI], [.cells [.con tI, .con tI, .con tI, .con tI, .con tI, .con tI, .con tI, .con tI], .rowv tI]⟩, [f6])] }
def akb (ρ : Type) : acD ρ := ⟨[], 101, 0, asf, fun (p : Val (.pair f6 (.pair tI abw))) (v : Val abz) kn kx => agt p.1 p.2.1 p.2.2.1 p.2.2.2.1 v.1 v.2 (fun u0 u1 => kn (u0, u1)) (kx 0)⟩
def avZ : List (Nat × acy) := []
def akN (ρ : Type) : List (acD ρ) := [aka ρ, akb ρ]
def agU (ρ : Type) : Env ρ := acA avZ (akN ρ)
def aoP : acy := ⟨[aey], [tI], fun (x : Val aey) => ahN x⟩
def aqN : acb := { pin := 0, cs := [f6, tI, tI, tI, tI, tI, tI, tI, tI, tI], vs := [tI, tI], head := ⟨34, .any :: .box 0 0 :: .any :: .var tI :: aN 12 [.con f6, .con tI, .var tI], [.cells [.con tI, .con tI, .con tI, .con tI, .con tI, .con tI, .con tI, .con tI]]⟩, exits := [(.exit 0, ⟨34, .any :: .box 0 0 :: .any :: .var tI :: aN 12 [.con f6, .con tI], [.cells [.con tI, .con tI, .con tI, .con tI, .con tI, .con tI, .con tI, .con tI]]⟩, [tI])] }
def ajp (ρ : Type) : acD ρ := ⟨[], 72, 0, aqN, fun (p : Val (.pair f6 (.pair tI abw))) (v : Val ab5) kn kx => af6 p.1 p.2.1 p.2.2.1 p.2.2.2.1 p.2.2.2.2.1 p.2.2.2.2.2.1 p.2.2.2.2.2.2.1 p.2.2.2.2.2.2.2.1 p.2.2.2.2.2.2.2.2.1 p.2.2.2.2.2.2.2.2.2 v.1 v.2 (fun u0 u1 => kn (u0, u1)) (kx 0)⟩
def atw : List (Nat × acy) := [(94, aed), (95, amS), (99, alq), (101, alr)]
def aj8 (ρ : Type) : List (acD ρ) := [ajp ρ]
def aig (ρ : Type) : Env ρ := acA atw (aj8 ρ)
def aIP : acy := ⟨[ab6, ab5, ace], [tI, tI], fun (x : Val (.pair ab6 abV)) => apS x.1 x.2.1 x.2.2⟩
def aDg : acb := { pin := 4, cs := [tI, tI, tI, l5, eI, m5, eW, eI, tI, tI, tI, tI, f6, f6, tI, tI, tI, tI, eI], vs := [tI, tI, tI, l5, eI, m5, eW, eI], head := ⟨68, .any :: .any :: .box 4 0 :: aN 20 [.own 3, .con tI, .var tI], [.cells [.con tI, .con tI, .con l5, .con eI, .con m5, .con eW, .con eI], .cells [.con tI, .con tI], .cells [.con tI, .con tI, .con f6, .con f6, .con tI, .con tI, .con tI, .con tI], .rowc ab5, .cells [.var tI, .var tI, .var l5, .var eI, .var m5, .var eW, .var eI]]⟩, exits := [(.ret, ⟨68, .any :: .any :: .box 4 0 :: .any :: .nilp :: .var tI :: aN 17 [.own 3, .con tI], [.cells [.con tI, .con tI, .con l5, .con eI, .con m5, .con eW, .con eI], .cells [.con tI, .con tI], .cells [.con tI, .con tI, .con f6, .con f6, .con tI, .con tI, .con tI, .con tI], .rowc ab5, .cells [.var tI, .var tI, .var l5, .var eI, .var m5, .var eW, .var eI]]⟩, [tI, tI, tI, l5, eI, m5, eW, eI]), (.exit 0, ⟨68, .any :: .any :: .box 4 0 :: aN 20 [.own 3, .con tI], [.cells [.con tI, .con tI, .con l5, .con eI, .con m5, .con eW, .con eI], .cells [.con tI, .con tI], .cells [.con tI, .con tI, .con f6, .con f6, .con tI, .con tI, .con tI, .con tI], .rowc ab5, .cells [.var tI, .var tI, .var l5, .var eI, .var m5, .var eW, .var eI]]⟩, [tI, tI, l5, eI, m5, eW, eI])] }
def arf (ρ : Type) : acD ρ := ⟨[1, 3], 50, 0, aDg, fun (p : Val (.pair tI (.pair tI (.pair tI (.pair l5 (.pair eI (.pair m5 (.pair eW (.pair eI (.pair tI (.pair tI (.pair tI (.pair tI (.pair f6 (.pair f6 (.pair tI (.pair tI abR))))))))))))))))) (v : Val abA) kn kx => apa p.1 p.2.2.2.2.2.2.2.2.2.2.2.2.2.2.2.2.2.2 v.1 v.2.1 v.2.2.1 v.2.2.2.1 v.2.2.2.2.1 v.2.2.2.2.2.1 v.2.2.2.2.2.2.1 v.2.2.2.2.2.2.2 (fun u0 u1 u2 u3 u4 u5 u6 u7 => kn (u0, u1, u2, u3, u4, u5, u6, u7)) (kx 0) (kx 1)⟩
def aJp : List (Nat × acy) := [(20, aee), (38, adK), (60, agI), (61, akI), (71, avP), (72, aoP), (123, ad4)]
def atU (ρ : Type) : List (acD ρ) := [arf ρ]
def asn (ρ : Type) : Env ρ := acA aJp (atU ρ)
def ar5 : acy := ⟨[acf, f6], [tI], fun (x : Val abU) => aku x.1 x.2⟩
def ayI : acb := { pin := 1, cs := [f6, tI, tI, abo], vs := [tI], head := ⟨19, .con f6 :: .fn 206 [(0, 0)] :: aN 5 [.con tI, .var tI], [.cells [.con tI, .con abo]]⟩, exits := [(.ret, ⟨19, [.con f6, .fn 206 [(0, 0)], .any, .any, .var tI, .any, .any, .con tI], [.cells [.con tI, .con abo]]⟩, [tI]), (.exit 0, ⟨19, .con f6 :: .fn 206 [(0, 0)] :: aN 5 [.con tI], [.cells [.con tI, .con abo]]⟩, [])] }
def aol (ρ : Type) : acD ρ := ⟨[3, 2, 1, 2], 178, 0, ayI, fun (p : Val (.pair f6 abH)) (v : Val tI) kn kx => aiF p.1 p.2.1 p.2.2.2 v (fun u0 => kn u0) (kx 0) (kx 1)⟩
def aDo : List (Nat × acy) := []
def apl (ρ : Type) : List (acD ρ) := [aol ρ]
def ani (ρ : Type) : Env ρ := acA aDo (apl ρ)
def aFJ : acy := ⟨[acf, tI, f6], [tI, tI, .bool], fun (x : Val (.pair acf abz)) => avn x.1 x.2.1 x.2.2⟩
def aGv : acb := { pin := 0, cs := [f6, tI, tI, abo], vs := [tI, tI, tI], head := ⟨37, .any :: .var tI :: .any :: .box 0 0 :: aN 5 [.var tI, .any, .any, .any, .con f6, .con tI, .var tI], [.cells [.con tI, .con abo]]⟩, exits := [(.ret, ⟨37, .any :: .any :: .any :: .box 0 0 :: .any :: .any :: .var tI :: .var tI :: .var .bool :: aN 4 [.con f6, .con tI], [.cells [.con tI, .con abo]]⟩, [tI, tI, .bool]), (.exit 0, ⟨37, .any :: .var tI :: .any :: .box 0 0 :: aN 5 [.var tI, .any, .any, .any, .con f6, .con tI], [.cells [.con tI, .con abo]]⟩, [tI, tI])] }
def aud (ρ : Type) : acD ρ := ⟨[], 146, 0, aGv, fun (p : Val (.pair f6 abH)) (v : Val ac8) kn kx => anh p.1 p.2.1 p.2.2.2 v.1 v.2.1 v.2.2 (fun u0 u1 u2 => kn (u0, u1, u2)) (kx 0) (kx 1)⟩
def aLQ : List (Nat × acy) := []
def axG (ρ : Type) : List (acD ρ) := [aud ρ]
def awk (ρ : Type) : Env ρ := acA aLQ (axG ρ)
def aq4 : acy := ⟨[acf, tI, tI, f6], [tI, tI], fun (x : Val (.pair acf (.pair tI abz))) => agP x.1 x.2.1 x.2.2.1 x.2.2.2⟩
def awv : List (Nat × acy) := [(133, aj6), (134, ay9), (145, ar5), (146, aFJ)]
def ak6 (ρ : Type) : List (acD ρ) := []
def aoo (ρ : Type) : Env ρ := acA awv (ak6 ρ)
def amT : acy := ⟨[aec], [tI], fun (x : Val aec) => ahQ x⟩
def ayC : List (Nat × acy) := [(20, aee), (38, adK), (60, agI), (76, aq4)]
def amk (ρ : Type) : List (acD ρ) := []
def apf (ρ : Type) : Env ρ := acA ayC (amk ρ)
def aq3 : acy := ⟨[acf, f6], [tI], fun (x : Val abU) => aiI x.1 x.2⟩
def awu : List (Nat × acy) := [(133, aj6), (145, ar5), (146, aFJ)]
def ak5 (ρ : Type) : List (acD ρ) := []
def aon (ρ : Type) : Env ρ := acA awu (ak5 ρ)
def alt : acy := ⟨[aec], [tI], fun (x : Val aec) => acg x⟩
def awe : List (Nat × acy) := [(20, aee), (38, adK), (86, aq3)]
def akY (ρ : Type) : List (acD ρ) := []
def aog (ρ : Type) : Env ρ := acA awe (akY ρ)
def afR : acy := ⟨[l5, ach], [tI], fun (x : Val (.pair l5 ach)) => aem x.1 x.2⟩
def ahq : acb := { pin := 0, cs := [l5, tI, tI, tI, tI, tI, tI, tI, tI, tI], vs := [tI], head := ⟨19, [.con l5, .any, .any, .box 0 0, .any, .any, .any, .con tI, .var tI], [.cells [.con tI, .con tI, .con tI, .con tI, .con tI, .con tI, .con tI, .con tI]]⟩, exits := [(.ret, ⟨19, [.con l5, .any, .any, .box 0 0, .var tI, .any, .any, .con tI], [.cells [.con tI, .con tI, .con tI, .con tI, .con tI, .con tI, .con tI, .con tI]]⟩, [tI]), (.exit 0, ⟨19, [.con l5, .any, .any, .box 0 0, .any, .any, .any, .con tI], [.cells [.con tI, .con tI, .con tI, .con tI, .con tI, .con tI, .con tI, .con tI]]⟩, [])] }
def aeK (ρ : Type) : acD ρ := ⟨[], 254, 0, ahq, fun (p : Val (.pair l5 (.pair tI abw))) (v : Val tI) kn kx => ac1 p.1 p.2.1 p.2.2.1 p.2.2.2.1 p.2.2.2.2.1 p.2.2.2.2.2.1 p.2.2.2.2.2.2.1 p.2.2.2.2.2.2.2.1 p.2.2.2.2.2.2.2.2.1 p.2.2.2.2.2.2.2.2.2 v (fun u0 => kn u0) (kx 0) (kx 1)⟩
def ahY : List (Nat × acy) := []
def ae0 (ρ : Type) : List (acD ρ) := [aeK ρ]
def adX (ρ : Type) : Env ρ := acA ahY (ae0 ρ)
def aff : acy := ⟨[l5, ach], [.bool], fun (x : Val (.pair l5 ach)) => adp x.1 x.2⟩
def ag4 : List (Nat × acy) := [(254, afR)]
def aet (ρ : Type) : List (acD ρ) := []
def aeM (ρ : Type) : Env ρ := acA ag4 (aet ρ)
def agG : acy := ⟨[eI, ab5], [tI], fun (x : Val abX) => afa x.1 x.2⟩
def aiQ : acb := { pin := 0, cs := [eI, tI, tI, tI], vs := [tI], head := ⟨19, [.con eI, .any, .any, .box 0 0, .any, .any, .any, .con tI, .var tI], [.cells [.con tI, .con tI]]⟩, exits := [(.ret, ⟨19, [.con eI, .any, .any, .box 0 0, .var tI, .any, .any, .con tI], [.cells [.con tI, .con tI]]⟩, [tI]), (.exit 0, ⟨19, [.con eI, .any, .any, .box 0 0, .any, .any, .any, .con tI], [.cells [.con tI, .con tI]]⟩, [])] }
def afA (ρ : Type) : acD ρ := ⟨[], 256, 0, aiQ, fun (p : Val (.pair eI ac8)) (v : Val tI) kn kx => adi p.1 p.2.1 p.2.2.1 p.2.2.2 v (fun u0 => kn u0) (kx 0) (kx 1)⟩
def ajy : List (Nat × acy) := []
def afS (ρ : Type) : List (acD ρ) := [afA ρ]
def aeC (ρ : Type) : Env ρ := acA ajy (afS ρ)
def af4 : acy := ⟨[eI, ab5], [.bool], fun (x : Val abX) => adl x.1 x.2⟩
def aif : List (Nat × acy) := [(256, agG)]
def afi (ρ : Type) : List (acD ρ) := []
def afB (ρ : Type) : Env ρ := acA aif (afi ρ)
def aga : acy := ⟨[m5, adJ], [tI], fun (x : Val (.pair m5 adJ)) => aeG x.1 x.2⟩
def ahX : acb := { pin := 0, cs := [m5, tI, tI, tI, tI, tI], vs := [tI], head := ⟨19, [.con m5, .any, .any, .box 0 0, .any, .any, .any, .con tI, .var tI], [.cells [.con tI, .con tI, .con tI, .con tI]]⟩, exits := [(.ret, ⟨19, [.con m5, .any, .any, .box 0 0, .var tI, .any, .any, .con tI], [.cells [.con tI, .con tI, .con tI, .con tI]]⟩, [tI]), (.exit 0, ⟨19, [.con m5, .any, .any, .box 0 0, .any, .any, .any, .con tI], [.cells [.con tI, .con tI, .con tI, .con tI]]⟩, [])] }
def afh (ρ : Type) : acD ρ := ⟨[], 258, 0, ahX, fun (p : Val (.pair m5 (.pair tI (.pair tI ac8)))) (v : Val tI) kn kx => ac5 p.1 p.2.1 p.2.2.1 p.2.2.2.1 p.2.2.2.2.1 p.2.2.2.2.2 v (fun u0 => kn u0) (kx 0) (kx 1)⟩
def aiS : List (Nat × acy) := []
def afq (ρ : Type) : List (acD ρ) := [afh ρ]
def aek (ρ : Type) : Env ρ := acA aiS (afq ρ)
def afz : acy := ⟨[m5, adJ], [.bool], fun (x : Val (.pair m5 adJ)) => ac6 x.1 x.2⟩
def ahD : List (Nat × acy) := [(258, aga)]
def aeL (ρ : Type) : List (acD ρ) := []
def afj (ρ : Type) : Env ρ := acA ahD (aeL ρ)
def aNj : acy := ⟨[ab6, ab6], [.bool], fun (x : Val (.pair ab6 ab6)) => avj x.1 x.2⟩
def aGc : acb := { pin := 0, cs := [l5, tI, tI, tI, l5, eI, m5, eW, eI, tI, tI, l5, eI, m5, eW, eI], vs := [tI, abq], head := ⟨87, .any :: .any :: .box 0 0 :: .box 1 0 :: .any :: .box 2 0 :: aN 10 [.con l5, .con tI, .var tI], [.cells [.con tI, .con tI, .con l5, .con eI, .con m5, .con eW, .con eI], .cells [.con tI, .con tI, .con l5, .con eI, .con m5, .con eW, .con eI], .cells [.omp 3], .mapv tI .bool]⟩, exits := [(.exit 0, ⟨87, .any :: .any :: .box 0 0 :: .box 1 0 :: .any :: .box 2 0 :: aN 10 [.con l5, .con tI], [.cells [.con tI, .con tI, .con l5, .con eI, .con m5, .con eW, .con eI], .cells [.con tI, .con tI, .con l5, .con eI, .con m5, .con eW, .con eI], .cells [.omp 3], .mapv tI .bool]⟩, [abq])] }
def atN (ρ : Type) : acD ρ := ⟨[], 77, 0, aGc, fun (p : Val (.pair l5 (.pair tI abN))) (v : Val (.pair tI abq)) kn kx => am4 p.1 p.2.1 v.1 v.2 (fun u0 u1 => kn (u0, u1)) (kx 0)⟩
def aF9 : acb := { pin := 6, cs := [f6, f6, tI, tI, tI, l5, eI, m5, eW, eI, tI, tI, l5, eI, m5, eW, eI, abq, tI, tI, f6, f6, tI, tI, tI, tI, tI, tI, f6, f6, tI, tI, tI, tI], vs := [tI], head := ⟨26, .con f6 :: .con f6 :: aN 10 [.con tI, .var tI], [.cells [.con tI, .con tI, .con l5, .con eI, .con m5, .con eW, .con eI], .cells [.con tI, .con tI, .con l5, .con eI, .con m5, .con eW, .con eI], .cells [.omp 3], .mapc tI .bool, .cells [.con tI, .con tI, .con f6, .con f6, .con tI, .con tI, .con tI, .con tI], .cells [.con tI, .con tI, .con f6, .con f6, .con tI, .con tI, .con tI, .con tI]]⟩, exits := [(.ret, ⟨26, .con f6 :: .con f6 :: .any :: .any :: .var .bool :: aN 7 [.con tI], [.cells [.con tI, .con tI, .con l5, .con eI, .con m5, .con eW, .con eI], .cells [.con tI, .con tI, .con l5, .con eI, .con m5, .con eW, .con eI], .cells [.omp 3], .mapc tI .bool, .cells [.con tI, .con tI, .con f6, .con f6, .con tI, .con tI, .con tI, .con tI], .cells [.con tI, .con tI, .con f6, .con f6, .con tI, .con tI, .con tI, .con tI]]⟩, [.bool]), (.exit 0, ⟨26, .con f6 :: .con f6 :: aN 10 [.con tI], [.cells [.con tI, .con tI, .con l5, .con eI, .con m5, .con eW, .con eI], .cells [.con tI, .con tI, .con l5, .con eI, .con m5, .con eW, .con eI], .cells [.omp 3], .mapc tI .bool, .cells [.con tI, .con tI, .con f6, .con f6, .con tI, .con tI, .con tI, .con tI], .cells [.con tI, .con tI, .con f6, .con f6, .con tI, .con tI, .con tI, .con tI]]⟩, [])] }
def atK (ρ : Type) : acD ρ := ⟨[14, 3, 1, 2, 4, 5, 1, 38], 151, 0, aF9, fun (p : Val (.pair f6 (.pair f6 (.pair tI (.pair tI (.pair tI (.pair l5 (.pair eI (.pair m5 (.pair eW (.pair eI (.pair tI (.pair tI (.pair l5 (.pair eI (.pair m5 (.pair eW (.pair eI (.pair abq (.pair tI (.pair tI (.pair f6 (.pair f6 (.pair tI (.pair tI (.pair tI (.pair tI ace))))))))))))))))))))))))))) (v : Val tI) kn kx => aik p.1 p.2.1 p.2.2.1 v (fun u0 => kn u0) (kx 0) (kx 1)⟩
def aF8 : acb := { pin := 6, cs := [f6, f6, tI, tI, tI, l5, eI, m5, eW, eI, tI, tI, l5, eI, m5, eW, eI, abq, tI, tI, f6, f6, tI, tI, tI, tI, tI, tI, f6, f6, tI, tI, tI, tI], vs := [tI], head := ⟨26, .con f6 :: .con f6 :: aN 10 [.con tI, .var tI], [.cells [.con tI, .con tI, .con l5, .con eI, .con m5, .con eW, .con eI], .cells [.con tI, .con tI, .con l5, .con eI, .con m5, .con eW, .con eI], .cells [.omp 3], .mapc tI .bool, .cells [.con tI, .con tI, .con f6, .con f6, .con tI, .con tI, .con tI, .con tI], .cells [.con tI, .con tI, .con f6, .con f6, .con tI, .con tI, .con tI, .con tI]]⟩, exits := [(.ret, ⟨26, .con f6 :: .con f6 :: .any :: .any :: .var .bool :: aN 7 [.con tI], [.cells [.con tI, .con tI, .con l5, .con eI, .con m5, .con eW, .con eI], .cells [.con tI, .con tI, .con l5, .con eI, .con m5, .con eW, .con eI], .cells [.omp 3], .mapc tI .bool, .cells [.con tI, .con tI, .con f6, .con f6, .con tI, .con tI, .con tI, .con tI], .cells [.con tI, .con tI, .con f6, .con f6, .con tI, .con tI, .con tI, .con tI]]⟩, [.bool]), (.exit 0, ⟨26, .con f6 :: .con f6 :: aN 10 [.con tI], [.cells [.con tI, .con tI, .con l5, .con eI, .con m5, .con eW, .con eI], .cells [.con tI, .con tI, .con l5, .con eI, .con m5, .con eW, .con eI], .cells [.omp 3], .mapc tI .bool, .cells [.con tI, .con tI, .con f6, .con f6, .con tI, .con tI, .con tI, .con tI], .cells [.con tI, .con tI, .con f6, .con f6, .con tI, .con tI, .con tI, .con tI]]⟩, [])] }
def atJ (ρ : Type) : acD ρ := ⟨[14, 3, 1, 2, 4, 5, 1, 45], 151, 0, aF8, fun (p : Val (.pair f6 (.pair f6 (.pair tI (.pair tI (.pair tI (.pair l5 (.pair eI (.pair m5 (.pair eW (.pair eI (.pair tI (.pair tI (.pair l5 (.pair eI (.pair m5 (.pair eW (.pair eI (.pair abq (.pair tI (.pair tI (.pair f6 (.pair f6 (.pair tI (.pair tI (.pair tI (.pair tI ace))))))))))))))))))))))))))) (v : Val tI) kn kx => am3 p.1 p.2.1 p.2.2.1 v (fun u0 => kn u0) (kx 0) (kx 1)⟩
def aGa : acb := { pin := 5, cs := [eW, tI, tI, tI, l5, eI, m5, eW, eI, tI, tI, l5, eI, m5, eW, eI, abq, tI, tI, f6, f6, tI, tI, tI, tI], vs := [tI], head := ⟨19, .con eW :: .fn 150 [(4, 0)] :: aN 5 [.con tI, .var tI], [.cells [.con tI, .con tI, .con l5, .con eI, .con m5, .con eW, .con eI], .cells [.con tI, .con tI, .con l5, .con eI, .con m5, .con eW, .con eI], .cells [.omp 3], .mapc tI .bool, .cells [.con tI, .con tI, .con f6, .con f6, .con tI, .con tI, .con tI, .con tI]]⟩, exits := [(.ret, ⟨19, [.con eW, .fn 150 [(4, 0)], .any, .any, .var tI, .any, .any, .con tI], [.cells [.con tI, .con tI, .con l5, .con eI, .con m5, .con eW, .con eI], .cells [.con tI, .con tI, .con l5, .con eI, .con m5, .con eW, .con eI], .cells [.omp 3], .mapc tI .bool, .cells [.con tI, .con tI, .con f6, .con f6, .con tI, .con tI, .con tI, .con tI]]⟩, [tI]), (.exit 0, ⟨19, .con eW :: .fn 150 [(4, 0)] :: aN 5 [.con tI], [.cells [.con tI, .con tI, .con l5, .con eI, .con m5, .con eW, .con eI], .cells [.con tI, .con tI, .con l5, .con eI, .con m5, .con eW, .con eI], .cells [.omp 3], .mapc tI .bool, .cells [.con tI, .con tI, .con f6, .con f6, .con tI, .con tI, .con tI, .con tI]]⟩, [])] }
def atL (ρ : Type) : acD ρ := ⟨[14, 3, 1, 2], 207, 0, aGa, fun (p : Val (.pair eW (.pair tI (.pair tI (.pair tI (.pair l5 (.pair eI (.pair m5 (.pair eW (.pair eI (.pair tI (.pair tI (.pair l5 (.pair eI (.pair m5 (.pair eW (.pair eI (.pair abq ace)))))))))))))))))) (v : Val tI) kn kx => ake p.1 p.2.1 p.2.2.2.2.2.2.2.2.2.2.2.2.2.2.2.2.2.1 p.2.2.2.2.2.2.2.2.2.2.2.2.2.2.2.2.2.2.1 p.2.2.2.2.2.2.2.2.2.2.2.2.2.2.2.2.2.2.2.1 p.2.2.2.2.2.2.2.2.2.2.2.2.2.2.2.2.2.2.2.2.1 p.2.2.2.2.2.2.2.2.2.2.2.2.2.2.2.2.2.2.2.2.2.1 p.2.2.2.2.2.2.2.2.2.2.2.2.2.2.2.2.2.2.2.2.2.2.1 p.2.2.2.2.2.2.2.2.2.2.2.2.2.2.2.2.2.2.2.2.2.2.2.1 p.2.2.2.2.2.2.2.2.2.2.2.2.2.2.2.2.2.2.2.2.2.2.2.2 v (fun u0 => kn u0) (kx 0) (kx 1)⟩
def aGb : acb := { pin := 0, cs := [eW, tI, tI, tI, l5, eI, m5, eW, eI, tI, tI, l5, eI, m5, eW, eI, abq], vs := [tI], head := ⟨87, .any :: .any :: .box 0 0 :: .box 1 0 :: aN 4 (.fn 147 [] :: .fn 148 [(2, 0)] :: .fn 149 [(2, 0)] :: aN 18 [.con eW, .con tI, .var tI]), [.cells [.con tI, .con tI, .con l5, .con eI, .con m5, .con eW, .con eI], .cells [.con tI, .con tI, .con l5, .con eI, .con m5, .con eW, .con eI], .cells [.omp 3], .mapc tI .bool]⟩, exits := [(.ret, ⟨87, .any :: .any :: .box 0 0 :: .box 1 0 :: .var .bool :: .any :: .any :: .any :: .fn 147 [] :: .fn 148 [(2, 0)] :: .fn 149 [(2, 0)] :: aN 18 [.con eW, .con tI], [.cells [.con tI, .con tI, .con l5, .con eI, .con m5, .con eW, .con eI], .cells [.con tI, .con tI, .con l5, .con eI, .con m5, .con eW, .con eI], .cells [.omp 3], .mapc tI .bool]⟩, [.bool]), (.exit 2, ⟨87, .any :: .any :: .box 0 0 :: .box 1 0 :: aN 4 (.fn 147 [] :: .fn 148 [(2, 0)] :: .fn 149 [(2, 0)] :: aN 18 [.con eW, .con tI]), [.cells [.con tI, .con tI, .con l5, .con eI, .con m5, .con eW, .con eI], .cells [.con tI, .con tI, .con l5, .con eI, .con m5, .con eW, .con eI], .cells [.omp 3], .mapc tI .bool]⟩, [])] }
def atM (ρ : Type) : acD ρ := ⟨[], 77, 2, aGb, fun (p : Val (.pair eW (.pair tI (.pair tI (.pair tI (.pair l5 (.pair eI (.pair m5 (.pair eW (.pair eI (.pair tI (.pair tI (.pair l5 (.pair eI (.pair m5 (.pair eW (.pair eI abq))))))))))))))))) (v : Val tI) kn kx => akf p.1 p.2.1 p.2.2.2.2.2.2.2.2.2.2.2.2.2.2.1 v (fun u0 => kn u0) (kx 0) (kx 1)⟩
def aF7 : acb := { pin := 6, cs := [l5, tI, tI, tI, l5, eI, m5, eW, eI, tI, tI, l5, eI, m5, eW, eI, abq, l5], vs := [tI], head := ⟨19, .con l5 :: .fn 209 [(5, 0), (4, 0)] :: aN 5 [.con tI, .var tI], [.cells [.con tI, .con tI, .con l5, .con eI, .con m5, .con eW, .con eI], .cells [.con tI, .con tI, .con l5, .con eI, .con m5, .con eW, .con eI], .cells [.omp 3], .mapc tI .bool, .cells [.con l5], .cells [.fn 147 []]]⟩, exits := [(.ret, ⟨19, [.con l5, .fn 209 [(5, 0), (4, 0)], .any, .any, .var tI, .any, .any, .con tI], [.cells [.con tI, .con tI, .con l5, .con eI, .con m5, .con eW, .con eI], .cells [.con tI, .con tI, .con l5, .con eI, .con m5, .con eW, .con eI], .cells [.omp 3], .mapc tI .bool, .cells [.con l5], .cells [.fn 147 []]]⟩, [tI]), (.exit 0, ⟨19, .con l5 :: .fn 209 [(5, 0), (4, 0)] :: aN 5 [.con tI], [.cells [.con tI, .con tI, .con l5, .con eI, .con m5, .con eW, .con eI], .cells [.con tI, .con tI, .con l5, .con eI, .con m5, .con eW, .con eI], .cells [.omp 3], .mapc tI .bool, .cells [.con l5], .cells [.fn 147 []]]⟩, [])] }
def atI (ρ : Type) : acD ρ := ⟨[17, 11, 1, 2, 1, 2], 253, 0, aF7, fun (p : Val (.pair l5 (.pair tI (.pair tI (.pair tI (.pair l5 (.pair eI (.pair m5 (.pair eW (.pair eI (.pair tI (.pair tI (.pair l5 (.pair eI (.pair m5 (.pair eW (.pair eI (.pair abq l5)))))))))))))))))) (v : Val tI) kn kx => akd p.1 p.2.1 p.2.2.2.2.2.2.2.2.2.2.2.2.2.2.2.2.2 v (fun u0 => kn u0) (kx 0) (kx 1)⟩
def aF6 : acb := { pin := 8, cs := [eI, tI, tI, tI, l5, eI, m5, eW, eI, tI, tI, l5, eI, m5, eW, eI, abq, l5, eI], vs := [tI], head := ⟨19, .con eI :: .fn 212 [(7, 0), (6, 0)] :: aN 5 [.con tI, .var tI], [.cells [.con tI, .con tI, .con l5, .con eI, .con m5, .con eW, .con eI], .cells [.con tI, .con tI, .con l5, .con eI, .con m5, .con eW, .con eI], .cells [.omp 3], .mapc tI .bool, .cells [.con l5], .cells [.fn 147 []], .cells [.con eI], .cells [.fn 148 [(2, 0)]]]⟩, exits := [(.ret, ⟨19, [.con eI, .fn 212 [(7, 0), (6, 0)], .any, .any, .var tI, .any, .any, .con tI], [.cells [.con tI, .con tI, .con l5, .con eI, .con m5, .con eW, .con eI], .cells [.con tI, .con tI, .con l5, .con eI, .con m5, .con eW, .con eI], .cells [.omp 3], .mapc tI .bool, .cells [.con l5], .cells [.fn 147 []], .cells [.con eI], .cells [.fn 148 [(2, 0)]]]⟩, [tI]), (.exit 0, ⟨19, .con eI :: .fn 212 [(7, 0), (6, 0)] :: aN 5 [.con tI], [.cells [.con tI, .con tI, .con l5, .con eI, .con m5, .con eW, .con eI], .cells [.con tI, .con tI, .con l5, .con eI, .con m5, .con eW, .con eI], .cells [.omp 3], .mapc tI .bool, .cells [.con l5], .cells [.fn 147 []], .cells [.con eI], .cells [.fn 148 [(2, 0)]]]⟩, [])] }
def atH (ρ : Type) : acD ρ := ⟨[17, 19, 1, 2, 1, 2], 255, 0, aF6, fun (p : Val (.pair eI (.pair tI (.pair tI (.pair tI (.pair l5 (.pair eI (.pair m5 (.pair eW (.pair eI (.pair tI (.pair tI (.pair l5 (.pair eI (.pair m5 (.pair eW (.pair eI (.pair abq (.pair l5 eI))))))))))))))))))) (v : Val tI) kn kx => ag6 p.1 p.2.1 p.2.2.2.2.2.2.2.2.2.2.2.2.2.2.2.2.1 p.2.2.2.2.2.2.2.2.2.2.2.2.2.2.2.2.2.2 v (fun u0 => kn u0) (kx 0) (kx 1)⟩
def aF5 : acb := { pin := 10, cs := [eI, tI, tI, tI, l5, eI, m5, eW, eI, tI, tI, l5, eI, m5, eW, eI, abq, l5, eI, eI], vs := [tI], head := ⟨19, .con eI :: .fn 212 [(9, 0), (8, 0)] :: aN 5 [.con tI, .var tI], [.cells [.con tI, .con tI, .con l5, .con eI, .con m5, .con eW, .con eI], .cells [.con tI, .con tI, .con l5, .con eI, .con m5, .con eW, .con eI], .cells [.omp 3], .mapc tI .bool, .cells [.con l5], .cells [.fn 147 []], .cells [.con eI], .cells [.fn 148 [(2, 0)]], .cells [.con eI], .cells [.fn 148 [(2, 0)]]]⟩, exits := [(.ret, ⟨19, [.con eI, .fn 212 [(9, 0), (8, 0)], .any, .any, .var tI, .any, .any, .con tI], [.cells [.con tI, .con tI, .con l5, .con eI, .con m5, .con eW, .con eI], .cells [.con tI, .con tI, .con l5, .con eI, .con m5, .con eW, .con eI], .cells [.omp 3], .mapc tI .bool, .cells [.con l5], .cells [.fn 147 []], .cells [.con eI], .cells [.fn 148 [(2, 0)]], .cells [.con eI], .cells [.fn 148 [(2, 0)]]]⟩, [tI]), (.exit 0, ⟨19, .con eI :: .fn 212 [(9, 0), (8, 0)] :: aN 5 [.con tI], [.cells [.con tI, .con tI, .con l5, .con eI, .con m5, .con eW, .con eI], .cells [.con tI, .con tI, .con l5, .con eI, .con m5, .con eW, .con eI], .cells [.omp 3], .mapc tI .bool, .cells [.con l5], .cells [.fn 147 []], .cells [.con eI], .cells [.fn 148 [(2, 0)]], .cells [.con eI], .cells [.fn 148 [(2, 0)]]]⟩, [])] }
def atG (ρ : Type) : acD ρ := ⟨[17, 27, 1, 2, 1, 2], 255, 0, aF5, fun (p : Val (.pair eI (.pair tI (.pair tI (.pair tI (.pair l5 (.pair eI (.pair m5 (.pair eW (.pair eI (.pair tI (.pair tI (.pair l5 (.pair eI (.pair m5 (.pair eW (.pair eI (.pair abq (.pair l5 (.pair eI eI)))))))))))))))))))) (v : Val tI) kn kx => aij p.1 p.2.1 p.2.2.2.2.2.2.2.2.2.2.2.2.2.2.2.2.1 p.2.2.2.2.2.2.2.2.2.2.2.2.2.2.2.2.2.2.2 v (fun u0 => kn u0) (kx 0) (kx 1)⟩
def aF4 : acb := { pin := 12, cs := [m5, tI, tI, tI, l5, eI, m5, eW, eI, tI, tI, l5, eI, m5, eW, eI, abq, l5, eI, eI, m5], vs := [tI], head := ⟨19, .con m5 :: .fn 215 [(11, 0), (10, 0)] :: aN 5 [.con tI, .var tI], [.cells [.con tI, .con tI, .con l5, .con eI, .con m5, .con eW, .con eI], .cells [.con tI, .con tI, .con l5, .con eI, .con m5, .con eW, .con eI], .cells [.omp 3], .mapc tI .bool, .cells [.con l5], .cells [.fn 147 []], .cells [.con eI], .cells [.fn 148 [(2, 0)]], .cells [.con eI], .cells [.fn 148 [(2, 0)]], .cells [.con m5], .cells [.fn 149 [(2, 0)]]]⟩, exits := [(.ret, ⟨19, [.con m5, .fn 215 [(11, 0), (10, 0)], .any, .any, .var tI, .any, .any, .con tI], [.cells [.con tI, .con tI, .con l5, .con eI, .con m5, .con eW, .con eI], .cells [.con tI, .con tI, .con l5, .con eI, .con m5, .con eW, .con eI], .cells [.omp 3], .mapc tI .bool, .cells [.con l5], .cells [.fn 147 []], .cells [.con eI], .cells [.fn 148 [(2, 0)]], .cells [.con eI], .cells [.fn 148 [(2, 0)]], .cells [.con m5], .cells [.fn 149 [(2, 0)]]]⟩, [tI]), (.exit 0, ⟨19, .con m5 :: .fn 215 [(11, 0), (10, 0)] :: aN 5 [.con tI], [.cells [.con tI, .con tI, .con l5, .con eI, .con m5, .con eW, .con eI], .cells [.con tI, .con tI, .con l5, .con eI, .con m5, .con eW, .con eI], .cells [.omp 3], .mapc tI .bool, .cells [.con l5], .cells [.fn 147 []], .cells [.con eI], .cells [.fn 148 [(2, 0)]], .cells [.con eI], .cells [.fn 148 [(2, 0)]], .cells [.con m5], .cells [.fn 149 [(2, 0)]]]⟩, [])] }
def atF (ρ : Type) : acD ρ := ⟨[17, 35, 1, 2, 1, 2], 257, 0, aF4, fun (p : Val (.pair m5 (.pair tI (.pair tI (.pair tI (.pair l5 (.pair eI (.pair m5 (.pair eW (.pair eI (.pair tI (.pair tI (.pair l5 (.pair eI (.pair m5 (.pair eW (.pair eI (.pair abq (.pair l5 (.pair eI (.pair eI m5))))))))))))))))))))) (v : Val tI) kn kx => adL p.1 p.2.1 p.2.2.2.2.2.2.2.2.2.2.2.2.2.2.2.2.1 p.2.2.2.2.2.2.2.2.2.2.2.2.2.2.2.2.2.2.2.2 v (fun u0 => kn u0) (kx 0) (kx 1)⟩
def aF3 : acb := { pin := 14, cs := [m5, tI, tI, tI, l5, eI, m5, eW, eI, tI, tI, l5, eI, m5, eW, eI, abq, l5, eI, eI, m5, m5], vs := [tI], head := ⟨19, .con m5 :: .fn 215 [(13, 0), (12, 0)] :: aN 5 [.con tI, .var tI], [.cells [.con tI, .con tI, .con l5, .con eI, .con m5, .con eW, .con eI], .cells [.con tI, .con tI, .con l5, .con eI, .con m5, .con eW, .con eI], .cells [.omp 3], .mapc tI .bool, .cells [.con l5], .cells [.fn 147 []], .cells [.con eI], .cells [.fn 148 [(2, 0)]], .cells [.con eI], .cells [.fn 148 [(2, 0)]], .cells [.con m5], .cells [.fn 149 [(2, 0)]], .cells [.con m5], .cells [.fn 149 [(2, 0)]]]⟩, exits := [(.ret, ⟨19, [.con m5, .fn 215 [(13, 0), (12, 0)], .any, .any, .var tI, .any, .any, .con tI], [.cells [.con tI, .con tI, .con l5, .con eI, .con m5, .con eW, .con eI], .cells [.con tI, .con tI, .con l5, .con eI, .con m5, .con eW, .con eI], .cells [.omp 3], .mapc tI .bool, .cells [.con l5], .cells [.fn 147 []], .cells [.con eI], .cells [.fn 148 [(2, 0)]], .cells [.con eI], .cells [.fn 148 [(2, 0)]], .cells [.con m5], .cells [.fn 149 [(2, 0)]], .cells [.con m5], .cells [.fn 149 [(2, 0)]]]⟩, [tI]), (.exit 0, ⟨19, .con m5 :: .fn 215 [(13, 0), (12, 0)] :: aN 5 [.con tI], [.cells [.con tI, .con tI, .con l5, .con eI, .con m5, .con eW, .con eI], .cells [.con tI, .con tI, .con l5, .con eI, .con m5, .con eW, .con eI], .cells [.omp 3], .mapc tI .bool, .cells [.con l5], .cells [.fn 147 []], .cells [.con eI], .cells [.fn 148 [(2, 0)]], .cells [.con eI], .cells [.fn 148 [(2, 0)]], .cells [.con m5], .cells [.fn 149 [(2, 0)]], .cells [.con m5], .cells [.fn 149 [(2, 0)]]]⟩, [])] }
def atD (ρ : Type) : acD ρ := ⟨[17, 43, 1, 2, 1, 2], 257, 0, aF3, fun (p : Val (.pair m5 (.pair tI (.pair tI (.pair tI (.pair l5 (.pair eI (.pair m5 (.pair eW (.pair eI (.pair tI (.pair tI (.pair l5 (.pair eI (.pair m5 (.pair eW (.pair eI (.pair abq (.pair l5 (.pair eI (.pair eI (.pair m5 m5)))))))))))))))))))))) (v : Val tI) kn kx => adf p.1 p.2.1 p.2.2.2.2.2.2.2.2.2.2.2.2.2.2.2.2.1 p.2.2.2.2.2.2.2.2.2.2.2.2.2.2.2.2.2.2.2.2.2 v (fun u0 => kn u0) (kx 0) (kx 1)⟩
def aLL : List (Nat × acy) := [(210, aff), (213, af4), (216, afz)]
def axy (ρ : Type) : List (acD ρ) := [atN ρ, atK ρ, atJ ρ, atL ρ, atM ρ, atI ρ, atH ρ, atG ρ, atF ρ, atD ρ]
def aeS (ρ : Type) : Env ρ := acA aLL (axy ρ)
def avQ : acy := ⟨[ab6, aec], [.bool, tI], fun (x : Val (.pair ab6 aec)) => adQ x.1 x.2⟩
def aGp : List (Nat × acy) := [(33, amT), (38, adK), (39, alt), (77, aNj)]
def arh (ρ : Type) : List (acD ρ) := []
def axE (ρ : Type) : Env ρ := acA aGp (arh ρ)
def azV : acy := ⟨[acf, tI, tI], [abt], fun (x : Val abW) => apT x.1 x.2.1 x.2.2⟩
def aOL : acb := { pin := 0, cs := [tI, tI, tI, tI, abo], vs := [tI, f6], head := ⟨45, .any :: .con tI :: .con tI :: .box 0 0 :: .any :: .any :: .any :: .own 1 :: aN 7 [.con tI, .var tI], [.cells [.con tI, .con abo], .rowv tI]⟩, exits := [(.exit 0, ⟨45, .any :: .con tI :: .con tI :: .box 0 0 :: .any :: .any :: .any :: .own 1 :: aN 7 [.con tI], [.cells [.con tI, .con abo], .rowv tI]⟩, [f6])] }
def aEJ (ρ : Type) : acD ρ := ⟨[], 156, 0, aOL, fun (p : Val (.pair tI (.pair tI abH))) (v : Val abz) kn kx => aqm p.2.2.1 v.1 v.2 (fun u0 u1 => kn (u0, u1)) (kx 0)⟩
def aOJ : acb := { pin := 4, cs := [f6, tI, abt, tI, abo], vs := [tI, f6], head := ⟨53, .con f6 :: .box 1 0 :: .any :: .any :: .own 4 :: aN 7 [.con tI, .var tI], [.rowc f6, .cells [.con tI, .con abo], .dead, .dead, .rowv tI]⟩, exits := [(.exit 0, ⟨53, .con f6 :: .box 1 0 :: .any :: .any :: .own 4 :: aN 7 [.con tI], [.rowc f6, .cells [.con tI, .con abo], .dead, .dead, .rowv tI]⟩, [f6])] }
def aEH (ρ : Type) : acD ρ := ⟨[12, 8], 217, 0, aOJ, fun (p : Val (.pair f6 (.pair tI (.pair abt acf)))) (v : Val abz) kn kx => aGy p.2.1 v.1 v.2 (fun u0 u1 => kn (u0, u1)) (kx 0)⟩
def aOI : acb := { pin := 4, cs := [f6, abo, tI, abt, tI, abo], vs := [tI, f6], head := ⟨53, .con f6 :: .any :: .any :: .any :: .own 4 :: aN 16 [.con abo, .con tI, .var tI], [.rowc f6, .cells [.con tI, .con abo], .dead, .dead, .rowv tI]⟩, exits := [(.exit 2, ⟨53, .con f6 :: .any :: .any :: .any :: .own 4 :: aN 16 [.con abo, .con tI], [.rowc f6, .cells [.con tI, .con abo], .dead, .dead, .rowv tI]⟩, [f6])] }
def aEG (ρ : Type) : acD ρ := ⟨[12, 8], 217, 2, aOI, fun (p : Val (.pair f6 (.pair abo (.pair tI (.pair abt acf))))) (v : Val abz) kn kx => auj p.1 p.2.1 p.2.2.1 v.1 v.2 (fun u0 u1 => kn (u0, u1)) (kx 0)⟩
def aOK : acb := { pin := 0, cs := [tI, tI, abo], vs := [tI, abt], head := ⟨45, aN 9 (.own 0 :: .fn 217 [(1, 0)] :: aN 18 [.con tI, .var tI]), [.rowv f6, .cells [.con tI, .con abo]]⟩, exits := [(.exit 2, ⟨45, aN 9 (.own 0 :: .fn 217 [(1, 0)] :: aN 18 [.con tI]), [.rowv f6, .cells [.con tI, .con abo]]⟩, [abt])] }
def aEI (ρ : Type) : acD ρ := ⟨[], 156, 2, aOK, fun (p : Val abH) (v : Val (.pair tI abt)) kn kx => azh p.1 p.2.1 p.2.2 v.1 v.2 (fun u0 u1 => kn (u0, u1)) (kx 0)⟩
def aSM : List (Nat × acy) := []
def aJv (ρ : Type) : List (acD ρ) := [aEJ ρ, aEH ρ, aEG ρ, aEI ρ]
def awr (ρ : Type) : Env ρ := acA aSM (aJv ρ)
def aIS : acy := ⟨[acf], [f6, tI], fun (x : Val acf) => ai9 x⟩
def aDz : acb := { pin := 0, cs := [tI, tI, abo], vs := [tI, abM], head := ⟨93, .any :: .box 0 0 :: aN 6 (.own 1 :: aN 24 [.con tI, .var tI]), [.cells [.con tI, .con abo], .rowv abt]⟩, exits := [(.exit 0, ⟨93, .any :: .box 0 0 :: aN 6 (.own 1 :: aN 24 [.con tI]), [.cells [.con tI, .con abo], .rowv abt]⟩, [abM])] }
def art (ρ : Type) : acD ρ := ⟨[], 78, 0, aDz, fun (p : Val abH) (v : Val (.pair tI abM)) kn kx => aiX p.1 p.2.1 p.2.2 v.1 v.2 (fun u0 u1 => kn (u0, u1)) (kx 0)⟩
def aDv : acb := { pin := 3, cs := [tI, abt, abo, tI, tI, abo, abM, tI, tI, tI, tI, abo], vs := [tI, tI, tI, f6], head := ⟨73, .any :: .var tI :: .con tI :: .con abt :: .fn 157 [] :: .box 3 0 :: aN 5 (.own 4 :: .var tI :: aN 7 [.con abo, .con tI, .var tI]), [.cells [.con tI, .con abo], .rowc abt, .cells [.con tI, .con tI, .con tI], .cells [.con tI, .con abo], .rowv tI]⟩, exits := [(.exit 2, ⟨73, .any :: .var tI :: .con tI :: .con abt :: .fn 157 [] :: .box 3 0 :: aN 5 (.own 4 :: .var tI :: aN 7 [.con abo, .con tI]), [.cells [.con tI, .con abo], .rowc abt, .cells [.con tI, .con tI, .con tI], .cells [.con tI, .con abo], .rowv tI]⟩, [tI, tI, f6])] }
def aro (ρ : Type) : acD ρ := ⟨[22, 10], 158, 2, aDv, fun (p : Val (.pair tI (.pair abt (.pair abo (.pair tI (.pair tI (.pair abo (.pair abM (.pair tI (.pair tI abH)))))))))) (v : Val abD) kn kx => axJ p.1 p.2.1 p.2.2.1 p.2.2.2.1 v.1 v.2.1 v.2.2.1 v.2.2.2 (fun u0 u1 u2 u3 => kn (u0, u1, u2, u3)) (kx 0)⟩
def aDw : acb := { pin := 3, cs := [abt, tI, abo, abM, tI, tI, tI, tI, abo], vs := [tI, tI, tI, f6], head := ⟨73, .any :: .var tI :: .var tI :: .con abt :: .fn 157 [] :: .box 3 0 :: aN 5 [.own 4, .var tI], [.cells [.con tI, .con abo], .rowc abt, .cells [.con tI, .con tI, .con tI], .cells [.con tI, .con abo], .rowv tI]⟩, exits := [(.exit 0, ⟨73, .any :: .any :: .any :: .con abt :: .fn 157 [] :: .box 3 0 :: aN 5 [.own 4], [.cells [.con tI, .con abo], .rowc abt, .cells [.con tI, .con tI, .con tI], .cells [.con tI, .con abo], .rowv tI]⟩, [f6])] }
def arp (ρ : Type) : acD ρ := ⟨[22, 10], 158, 0, aDw, fun (p : Val (.pair abt (.pair tI (.pair abo (.pair abM (.pair tI (.pair tI abH))))))) (v : Val abD) kn kx => apt p.1 p.2.2.2.2.2.2.2.2 v.1 v.2.1 v.2.2.1 v.2.2.2 (fun u0 u1 u2 u3 => kn (u0, u1, u2, u3)) (kx 0)⟩
def aDx : acb := { pin := 0, cs := [tI, abo, tI, tI, abo, abM], vs := [tI], head := ⟨93, .any :: .box 0 0 :: aN 6 (.own 1 :: .any :: .fn 157 [] :: .con tI :: aN 37 [.con abo, .con tI, .var tI]), [.cells [.con tI, .con abo], .rowc abt]⟩, exits := [(.exit 2, ⟨93, .any :: .box 0 0 :: aN 6 (.own 1 :: .any :: .fn 157 [] :: .con tI :: aN 37 [.con abo, .con tI]), [.cells [.con tI, .con abo], .rowc abt]⟩, []), (.ret, ⟨93, .any :: .box 0 0 :: .own 2 :: .var tI :: aN 4 (.own 1 :: .any :: .fn 157 [] :: .con tI :: aN 37 [.con abo, .con tI]), [.cells [.con tI, .con abo], .rowc abt, .rowv tI]⟩, [tI, f6]), (.exit 4, ⟨93, .any :: .box 0 0 :: aN 6 (.own 1 :: .any :: .fn 157 [] :: .con tI :: aN 37 [.con abo, .con tI]), [.cells [.con tI, .con abo], .rowc abt]⟩, [])] }
def arq (ρ : Type) : acD ρ := ⟨[], 78, 4, aDx, fun (p : Val (.pair tI (.pair abo (.pair tI (.pair tI (.pair abo abM)))))) (v : Val tI) kn kx => aiW p.1 p.2.1 p.2.2.1 p.2.2.2.1 p.2.2.2.2.1 p.2.2.2.2.2 v (fun u0 => kn u0) (kx 0) (kx 1) (kx 2)⟩
def aDy : acb := { pin := 0, cs := [tI, abo, abM], vs := [tI], head := ⟨93, .any :: .box 0 0 :: aN 6 [.own 1, .any, .fn 157 [], .var tI], [.cells [.con tI, .con abo], .rowc abt]⟩, exits := [(.exit 2, ⟨93, .any :: .box 0 0 :: aN 6 [.own 1, .any, .fn 157 []], [.cells [.con tI, .con abo], .rowc abt]⟩, []), (.ret, ⟨93, .any :: .box 0 0 :: .own 2 :: .var tI :: aN 4 [.own 1, .any, .fn 157 []], [.cells [.con tI, .con abo], .rowc abt, .rowv tI]⟩, [tI, f6])] }
def ars (ρ : Type) : acD ρ := ⟨[], 78, 2, aDy, fun (p : Val (.pair tI (.pair abo abM))) (v : Val tI) kn kx => ak3 p.1 p.2.1 p.2.2 v (fun u0 => kn u0) (kx 0) (kx 1)⟩
def aJz : List (Nat × acy) := [(133, aj6), (135, akH), (156, azV)]
def auq (ρ : Type) : List (acD ρ) := [art ρ, aro ρ, arp ρ, arq ρ, ars ρ]
def ag7 (ρ : Type) : Env ρ := acA aJz (auq ρ)
def ar4 : acy := ⟨[ab6, f6], [eI], fun (x : Val (.pair ab6 f6)) => aks x.1 x.2⟩
def ayt : acb := { pin := 0, cs := [eI, f6, tI], vs := [tI, eI], head := ⟨32, aN 6 (.con eI :: .any :: .own 0 :: aN 8 [.con f6, .con tI, .var tI]), [.rowv ab5]⟩, exits := [(.exit 0, ⟨32, aN 6 (.con eI :: .any :: .own 0 :: aN 8 [.con f6, .con tI]), [.rowv ab5]⟩, [eI])] }
def aoa (ρ : Type) : acD ρ := ⟨[], 80, 0, ayt, fun (p : Val (.pair eI abE)) (v : Val abB) kn kx => aiD p.1 p.2.1 p.2.2 v.1 v.2 (fun u0 u1 => kn (u0, u1)) (kx 0)⟩
def aCY : List (Nat × acy) := [(20, aee)]
def ao1 (ρ : Type) : List (acD ρ) := [aoa ρ]
def am2 (ρ : Type) : Env ρ := acA aCY (ao1 ρ)
def azS : acy := ⟨[ab6], [aec, tI], fun (x : Val ab6) => ahP x⟩
def aJs : List (Nat × acy) := [(20, aee), (78, aIS), (79, aj3), (80, ar4)]
def aub (ρ : Type) : List (acD ρ) := []
def aAu (ρ : Type) : Env ρ := acA aJs (aub ρ)
def atc : acy := ⟨[tI], [tI], fun (x : Val tI) => ahO x⟩
def ayz : List (Nat × acy) := []
def amh (ρ : Type) : List (acD ρ) := []
def apb (ρ : Type) : Env ρ := acA ayz (amh ρ)
def atb : acy := ⟨[ac8, tI], [f6], fun (x : Val (.pair ac8 tI)) => afN x.1 x.2⟩
def ayy : List (Nat × acy) := []
def ama (ρ : Type) : List (acD ρ) := []
def ao9 (ρ : Type) : Env ρ := acA ayy (ama ρ)
def azR : acy := ⟨[ab6, ab5, ab5, ace], [.bool, tI], fun (x : Val (.pair ab6 (.pair ab5 abV))) => akt x.1 x.2.1 x.2.2.1 x.2.2.2⟩
def aeU : acb := { pin := 5, cs := [tI, tI, tI, l5, eI, m5, eW, eI, tI, tI, tI, tI, tI, tI, f6, f6, tI, tI, tI, tI, eI], vs := [tI, tI, tI, l5, eI, m5, eW, eI], head := ⟨68, .any :: .any :: .box 5 0 :: aN 20 [.own 4, .con tI, .var tI], [.cells [.con tI, .con tI, .con l5, .con eI, .con m5, .con eW, .con eI], .cells [.con tI, .con tI], .cells [.con tI, .con tI], .cells [.con tI, .con tI, .con f6, .con f6, .con tI, .con tI, .con tI, .con tI], .rowc ab5, .cells [.var tI, .var tI, .var l5, .var eI, .var m5, .var eW, .var eI]]⟩, exits := [(.ret, ⟨68, .any :: .any :: .box 5 0 :: .any :: .nilp :: .var tI :: aN 17 [.own 4, .con tI], [.cells [.con tI, .con tI, .con l5, .con eI, .con m5, .con eW, .con eI], .cells [.con tI, .con tI], .cells [.con tI, .con tI], .cells [.con tI, .con tI, .con f6, .con f6, .con tI, .con tI, .con tI, .con tI], .rowc ab5, .cells [.var tI, .var tI, .var l5, .var eI, .var m5, .var eW, .var eI]]⟩, [tI, tI, tI, l5, eI, m5, eW, eI]), (.exit 0, ⟨68, .any :: .any :: .box 5 0 :: aN 20 [.own 4, .con tI], [.cells [.con tI, .con tI, .con l5, .con eI, .con m5, .con eW, .con eI], .cells [.con tI, .con tI], .cells [.con tI, .con tI], .cells [.con tI, .con tI, .con f6, .con f6, .con tI, .con tI, .con tI, .con tI], .rowc ab5, .cells [.var tI, .var tI, .var l5, .var eI, .var m5, .var eW, .var eI]]⟩, [tI, tI, l5, eI, m5, eW, eI])] }
def ajh (ρ : Type) : acD ρ := ⟨[1, 3], 50, 0, aeU, fun (p : Val abv) (v : Val abA) kn kx => alA p.1 p.2.2.2.2.2.2.2.2.2.2.2.2.2.2.2.2.2.2.2.2 v.1 v.2.1 v.2.2.1 v.2.2.2.1 v.2.2.2.2.1 v.2.2.2.2.2.1 v.2.2.2.2.2.2.1 v.2.2.2.2.2.2.2 (fun u0 u1 u2 u3 u4 u5 u6 u7 => kn (u0, u1, u2, u3, u4, u5, u6, u7)) (kx 0) (kx 1)⟩
def aeT : acb := { pin := 12, cs := [f6, tI, tI, tI, l5, eI, m5, eW, eI, tI, tI, tI, tI, tI, tI, f6, f6, tI, tI, tI, tI, eI, tI, tI, l5, eI, m5, eW, eI, tI, abo, tI, tI, tI, tI, tI, tI, tI, tI, abt, abt, abt], vs := [tI], head := ⟨19, .con f6 :: .fn 98 [(8, 0), (2, 0)] :: aN 5 [.con tI, .var tI], [.cells [.con tI, .con tI, .con l5, .con eI, .con m5, .con eW, .con eI], .cells [.con tI, .con tI], .cells [.con tI, .con tI], .cells [.con tI, .con tI, .con f6, .con f6, .con tI, .con tI, .con tI, .con tI], .rowc ab5, .cells [.con tI, .con tI, .con l5, .con eI, .con m5, .con eW, .con eI], .cells [.con tI, .con abo], .dead, .cells [.con tI, .con tI, .con tI, .con tI, .con tI, .con tI, .con tI, .con tI], .rowf f6 0, .rowf f6 0, .rowf f6 0]⟩, exits := [(.ret, ⟨19, [.con f6, .fn 98 [(8, 0), (2, 0)], .any, .any, .var tI, .any, .any, .con tI], [.cells [.con tI, .con tI, .con l5, .con eI, .con m5, .con eW, .con eI], .cells [.con tI, .con tI], .cells [.con tI, .con tI], .cells [.con tI, .con tI, .con f6, .con f6, .con tI, .con tI, .con tI, .con tI], .rowc ab5, .cells [.con tI, .con tI, .con l5, .con eI, .con m5, .con eW, .con eI], .cells [.con tI, .con abo], .dead, .cells [.con tI, .con tI, .con tI, .con tI, .con tI, .con tI, .con tI, .con tI], .rowf f6 0, .rowf f6 0, .rowf f6 0]⟩, [tI]), (.exit 0, ⟨19, .con f6 :: .fn 98 [(8, 0), (2, 0)] :: aN 5 [.con tI], [.cells [.con tI, .con tI, .con l5, .con eI, .con m5, .con eW, .con eI], .cells [.con tI, .con tI], .cells [.con tI, .con tI], .cells [.con tI, .con tI, .con f6, .con f6, .con tI, .con tI, .con tI, .con tI], .rowc ab5, .cells [.con tI, .con tI, .con l5, .con eI, .con m5, .con eW, .con eI], .cells [.con tI, .con abo], .dead, .cells [.con tI, .con tI, .con tI, .con tI, .con tI, .con tI, .con tI, .con tI], .rowf f6 0, .rowf f6 0, .rowf f6 0]⟩, [])] }
def ajg (ρ : Type) : acD ρ := ⟨[18, 4, 1, 2], 178, 0, aeT, fun (p : Val abr) (v : Val tI) kn kx => aiE p.1 p.2.1 p.2.2.2.2.2.2.2.2.2.2.2.1 p.2.2.2.2.2.2.2.2.2.2.2.2.1 p.2.2.2.2.2.2.2.2.2.2.2.2.2.2.2.2.2.2.2.2.2.2.2.2.2.2.2.2.2.2.2.1 p.2.2.2.2.2.2.2.2.2.2.2.2.2.2.2.2.2.2.2.2.2.2.2.2.2.2.2.2.2.2.2.2.1 p.2.2.2.2.2.2.2.2.2.2.2.2.2.2.2.2.2.2.2.2.2.2.2.2.2.2.2.2.2.2.2.2.2.1 p.2.2.2.2.2.2.2.2.2.2.2.2.2.2.2.2.2.2.2.2.2.2.2.2.2.2.2.2.2.2.2.2.2.2.1 p.2.2.2.2.2.2.2.2.2.2.2.2.2.2.2.2.2.2.2.2.2.2.2.2.2.2.2.2.2.2.2.2.2.2.2.1 p.2.2.2.2.2.2.2.2.2.2.2.2.2.2.2.2.2.2.2.2.2.2.2.2.2.2.2.2.2.2.2.2.2.2.2.2.1 p.2.2.2.2.2.2.2.2.2.2.2.2.2.2.2.2.2.2.2.2.2.2.2.2.2.2.2.2.2.2.2.2.2.2.2.2.2.1 p.2.2.2.2.2.2.2.2.2.2.2.2.2.2.2.2.2.2.2.2.2.2.2.2.2.2.2.2.2.2.2.2.2.2.2.2.2.2.1 v (fun u0 => kn u0) (kx 0) (kx 1)⟩
def ari : List (Nat × acy) := [(20, aee), (38, adK), (60, agI), (61, akI), (69, ar2), (71, avP), (94, aed), (95, amS), (96, atc), (97, atb), (99, alq), (101, alr), (123, ad4)]
def akh (ρ : Type) : List (acD ρ) := [ajh ρ, ajg ρ]
def alz : List aSd := [⟨[], 42, 0, 4⟩]
def ada (ρ : Type) : Env ρ := { acA ari (akh ρ) with hint := awT [(51, 96), (55, 96)] }
def am8 (ρ : Type) : Env ρ := { { aTU ari (akh ρ) alz with loops := aJ6 (ada ρ) alz } with hint := awT [(51, 96), (55, 96)] }
def axr : acy := ⟨[], [ab6], fun (_ : Unit) => apR⟩
def aAb : List (Nat × acy) := []
def an8 (ρ : Type) : List (acD ρ) := []
def aq7 (ρ : Type) : Env ρ := acA aAb (an8 ρ)
def aIT : acy := ⟨[acf, tI, tI], [f6, tI], fun (x : Val abW) => apV x.1 x.2.1 x.2.2⟩
def aDD : acb := { pin := 3, cs := [abt, tI, tI, abo, tI, tI], vs := [tI], head := ⟨19, .con abt :: .fn 194 [(1, 0), (2, 0)] :: aN 5 [.con tI, .var tI], [.cells [.con tI, .con abo], .cells [.con tI], .cells [.con tI]]⟩, exits := [(.ret, ⟨19, [.con abt, .fn 194 [(1, 0), (2, 0)], .any, .any, .var tI, .any, .any, .con tI], [.cells [.con tI, .con abo], .cells [.con tI], .cells [.con tI]]⟩, [tI]), (.exit 0, ⟨19, .con abt :: .fn 194 [(1, 0), (2, 0)] :: aN 5 [.con tI], [.cells [.con tI, .con abo], .cells [.con tI], .cells [.con tI]]⟩, [])] }
def arx (ρ : Type) : acD ρ := ⟨[5, 2], 193, 0, aDD, fun (p : Val (.pair abt (.pair tI (.pair tI (.pair abo ab5))))) (v : Val tI) kn kx => ak8 p.1 p.2.1 p.2.2.2.2.1 p.2.2.2.2.2 v (fun u0 => kn u0) (kx 0) (kx 1)⟩
def aDB : acb := { pin := 3, cs := [tI, abt, abo, tI, tI, abo, tI, tI, tI, abo], vs := [tI, tI, tI, f6], head := ⟨73, .any :: .var tI :: .con tI :: .con abt :: .fn 195 [(2, 0)] :: .box 3 0 :: aN 5 (.own 4 :: .var tI :: aN 7 [.con abo, .con tI, .var tI]), [.cells [.con tI, .con abo], .cells [.con tI], .cells [.con tI], .cells [.con tI, .con abo], .rowv tI]⟩, exits := [(.exit 2, ⟨73, .any :: .var tI :: .con tI :: .con abt :: .fn 195 [(2, 0)] :: .box 3 0 :: aN 5 (.own 4 :: .var tI :: aN 7 [.con abo, .con tI]), [.cells [.con tI, .con abo], .cells [.con tI], .cells [.con tI], .cells [.con tI, .con abo], .rowv tI]⟩, [tI, tI, f6])] }
def arv (ρ : Type) : acD ρ := ⟨[6, 5], 158, 2, aDB, fun (p : Val (.pair tI (.pair abt (.pair abo (.pair tI (.pair tI (.pair abo (.pair tI abH)))))))) (v : Val abD) kn kx => axK p.1 p.2.1 p.2.2.1 p.2.2.2.1 p.2.2.2.2.2.2.2.1 v.1 v.2.1 v.2.2.1 v.2.2.2 (fun u0 u1 u2 u3 => kn (u0, u1, u2, u3)) (kx 0)⟩
def aDC : acb := { pin := 3, cs := [abt, tI, abo, tI, tI, tI, abo], vs := [tI, tI, tI, f6], head := ⟨73, .any :: .var tI :: .var tI :: .con abt :: .fn 195 [(2, 0)] :: .box 3 0 :: aN 5 [.own 4, .var tI], [.cells [.con tI, .con abo], .cells [.con tI], .cells [.con tI], .cells [.con tI, .con abo], .rowv tI]⟩, exits := [(.exit 0, ⟨73, .any :: .any :: .any :: .con abt :: .fn 195 [(2, 0)] :: .box 3 0 :: aN 5 [.own 4], [.cells [.con tI, .con abo], .cells [.con tI], .cells [.con tI], .cells [.con tI, .con abo], .rowv tI]⟩, [f6])] }
def arw (ρ : Type) : acD ρ := ⟨[6, 5], 158, 0, aDC, fun (p : Val (.pair abt (.pair tI (.pair abo (.pair tI abH))))) (v : Val abD) kn kx => ak7 p.1 p.2.2.2.2.1 p.2.2.2.2.2.2 v.1 v.2.1 v.2.2.1 v.2.2.2 (fun u0 u1 u2 u3 => kn (u0, u1, u2, u3)) (kx 0)⟩
def aJB : List (Nat × acy) := [(89, atf), (156, azV)]
def auv (ρ : Type) : List (acD ρ) := [arx ρ, arv ρ, arw ρ]
def akj (ρ : Type) : Env ρ := acA aJB (auv ρ)
def ate : acy := ⟨[abx, abT, (.ptr .bool)], [f6], fun (x : Val (.pair abx (.pair abT (.ptr .bool)))) => ahR x.1 x.2.1 x.2.2⟩
def ayF : List (Nat × acy) := [(55, agZ), (120, aIT)]
def aml (ρ : Type) : List (acD ρ) := []
def aph (ρ : Type) : Env ρ := acA ayF (aml ρ)
def azT : acy := ⟨[ab6, ab5, .bool], [aec, tI], fun (x : Val (.pair ab6 (.pair ab5 .bool))) => anP x.1 x.2.1 x.2.2⟩
def ayE : acb := { pin := 5, cs := [tI, tI, tI, l5, eI, m5, eW, eI, tI, tI, tI, tI, .bool, tI, eI], vs := [tI, tI, tI, l5, eI, m5, eW, eI], head := ⟨68, .any :: .any :: .box 5 0 :: aN 20 [.own 4, .con tI, .var tI], [.cells [.con tI, .con tI, .con l5, .con eI, .con m5, .con eW, .con eI], .dead, .dead, .cells [.con tI, .con tI, .nils, .nils, .nils, .nils, .nils, .con tI, .con tI, .con .bool, .con tI, .nils], .rowc ab5, .cells [.var tI, .var tI, .var l5, .var eI, .var m5, .var eW, .var eI]]⟩, exits := [(.ret, ⟨68, .any :: .any :: .box 5 0 :: .any :: .nilp :: .var tI :: aN 17 [.own 4, .con tI], [.cells [.con tI, .con tI, .con l5, .con eI, .con m5, .con eW, .con eI], .dead, .dead, .cells [.con tI, .con tI, .nils, .nils, .nils, .nils, .nils, .con tI, .con tI, .con .bool, .con tI, .nils], .rowc ab5, .cells [.var tI, .var tI, .var l5, .var eI, .var m5, .var eW, .var eI]]⟩, [tI, tI, tI, l5, eI, m5, eW, eI]), (.exit 0, ⟨68, .any :: .any :: .box 5 0 :: aN 20 [.own 4, .con tI], [.cells [.con tI, .con tI, .con l5, .con eI, .con m5, .con eW, .con eI], .dead, .dead, .cells [.con tI, .con tI, .nils, .nils, .nils, .nils, .nils, .con tI, .con tI, .con .bool, .con tI, .nils], .rowc ab5, .cells [.var tI, .var tI, .var l5, .var eI, .var m5, .var eW, .var eI]]⟩, [tI, tI, l5, eI, m5, eW, eI])] }
def aoi (ρ : Type) : acD ρ := ⟨[1, 3], 50, 0, ayE, fun (p : Val (.pair tI (.pair tI (.pair tI (.pair l5 (.pair eI (.pair m5 (.pair eW (.pair eI (.pair tI (.pair tI (.pair tI (.pair tI (.pair .bool abB)))))))))))))) (v : Val abA) kn kx => alE p.1 p.2.2.2.2.2.2.2.2.2.2.2.2.2.2 v.1 v.2.1 v.2.2.1 v.2.2.2.1 v.2.2.2.2.1 v.2.2.2.2.2.1 v.2.2.2.2.2.2.1 v.2.2.2.2.2.2.2 (fun u0 u1 u2 u3 u4 u5 u6 u7 => kn (u0, u1, u2, u3, u4, u5, u6, u7)) (kx 0) (kx 1)⟩
def ayD : acb := { pin := 10, cs := [tI, tI, tI, l5, eI, m5, eW, eI, tI, tI, tI, tI, .bool, tI, eI, tI, tI, l5, eI, m5, eW, eI, tI, abo, eI, tI, tI, l5, eI, m5, eW, eI, tI, tI, l5, eI, m5, eW, eI], vs := [tI], head := ⟨68, .any :: .any :: .box 10 0 :: aN 20 [.nils, .con tI, .var tI], [.cells [.con tI, .con tI, .con l5, .con eI, .con m5, .con eW, .con eI], .dead, .dead, .cells [.con tI, .con tI, .nils, .nils, .nils, .nils, .nils, .con tI, .con tI, .con .bool, .con tI, .nils], .rowc ab5, .cells [.con tI, .con tI, .con l5, .con eI, .con m5, .con eW, .con eI], .cells [.con tI, .con abo], .dead, .rowf ab5 0, .cells [.con tI, .con tI, .con l5, .con eI, .con m5, .con eW, .con eI], .cells [.con tI, .con tI, .con l5, .con eI, .con m5, .con eW, .con eI]]⟩, exits := [(.exit 0, ⟨68, .any :: .any :: .box 10 0 :: aN 20 [.nils, .con tI], [.cells [.con tI, .con tI, .con l5, .con eI, .con m5, .con eW, .con eI], .dead, .dead, .cells [.con tI, .con tI, .nils, .nils, .nils, .nils, .nils, .con tI, .con tI, .con .bool, .con tI, .nils], .rowc ab5, .cells [.con tI, .con tI, .con l5, .con eI, .con m5, .con eW, .con eI], .cells [.con tI, .con abo], .dead, .rowf ab5 0, .cells [.con tI, .con tI, .con l5, .con eI, .con m5, .con eW, .con eI], .cells [.con tI, .con tI, .con l5, .con eI, .con m5, .con eW, .con eI]]⟩, [])] }
def aoh (ρ : Type) : acD ρ := ⟨[6, 1], 50, 0, ayD, fun (p : Val (.pair tI (.pair tI (.pair tI (.pair l5 (.pair eI (.pair m5 (.pair eW (.pair eI (.pair tI (.pair tI (.pair tI (.pair tI (.pair .bool (.pair tI (.pair eI (.pair tI (.pair tI (.pair l5 (.pair eI (.pair m5 (.pair eW (.pair eI (.pair tI (.pair abo (.pair eI abN)))))))))))))))))))))))))) (v : Val tI) kn kx => alD p.1 v (fun u0 => kn u0) (kx 0)⟩
def aDl : List (Nat × acy) := [(20, aee), (38, adK), (60, agI), (61, akI), (79, aj3), (80, ar4), (119, ate), (121, als), (122, ah8), (123, ad4)]
def apg (ρ : Type) : List (acD ρ) := [aoi ρ, aoh ρ]
def ahH (ρ : Type) : Env ρ := { acA aDl (apg ρ) with hint := awT [(34, 119), (56, 119)] }
def azQ : acy := ⟨[], [.bool], fun (_ : Unit) => acr⟩
def aCU : List (Nat × acy) := [(15, axu), (17, azU), (18, aNk), (25, aIQ), (31, aIP), (33, amT), (35, avQ), (36, azS), (42, azR), (48, axr), (49, azT)]
def aoV (ρ : Type) : List (acD ρ) := []
def atu (ρ : Type) : Env ρ := acA aCU (aoV ρ)
def al0 : acy := ⟨[abC, f6], [tI], fun (x : Val (.pair abC f6)) => agz x.1 x.2⟩
def aoy : acb := { pin := 0, cs := [f6, tI], vs := [tI], head := ⟨19, .con f6 :: .fn 137 [] :: aN 5 [.con tI, .var tI], []⟩, exits := [(.ret, ⟨19, [.con f6, .fn 137 [], .any, .any, .var tI, .any, .any, .con tI], []⟩, [tI]), (.exit 0, ⟨19, .con f6 :: .fn 137 [] :: aN 5 [.con tI], []⟩, [])] }
def ah5 (ρ : Type) : acD ρ := ⟨[1, 10, 1, 2], 178, 0, aoy, fun (p : Val abE) (v : Val tI) kn kx => afm p.1 p.2 v (fun u0 => kn u0) (kx 0) (kx 1)⟩
def aqT : List (Nat × acy) := [(126, agq)]
def aiY (ρ : Type) : List (acD ρ) := [ah5 ρ]
def ag8 (ρ : Type) : Env ρ := acA aqT (aiY ρ)
def aNl : acy := ⟨[acf, f6], [.bool, tI], fun (x : Val abU) => azp x.1 x.2⟩
def aGD : acb := { pin := 1, cs := [f6, tI, tI, abo], vs := [tI], head := ⟨19, .con f6 :: .fn 203 [] :: aN 5 [.con tI, .var tI], [.cells [.con tI, .con abo]]⟩, exits := [(.ret, ⟨19, [.con f6, .fn 203 [], .any, .any, .var tI, .any, .any, .con tI], [.cells [.con tI, .con abo]]⟩, [tI]), (.exit 0, ⟨19, .con f6 :: .fn 203 [] :: aN 5 [.con tI], [.cells [.con tI, .con abo]]⟩, [])] }
def auo (ρ : Type) : acD ρ := ⟨[4, 7, 1, 2], 178, 0, aGD, fun (p : Val (.pair f6 abH)) (v : Val tI) kn kx => ann p.1 p.2.1 v (fun u0 => kn u0) (kx 0) (kx 1)⟩
def aGC : acb := { pin := 0, cs := [f6, abo, tI], vs := [tI], head := ⟨53, .any :: .con f6 :: aN 26 [.con abo, .con tI, .var tI], []⟩, exits := [(.ret, ⟨53, .any :: .con f6 :: .any :: .any :: .var .bool :: .var tI :: aN 22 [.con abo, .con tI], []⟩, [.bool, tI]), (.exit 0, ⟨53, .any :: .con f6 :: aN 26 [.con abo, .con tI], []⟩, [])] }
def aun (ρ : Type) : acD ρ := ⟨[], 138, 0, aGC, fun (p : Val (.pair f6 (.pair abo tI))) (v : Val tI) kn kx => aim p.1 p.2.1 p.2.2 v (fun u0 => kn u0) (kx 0) (kx 1)⟩
def aLW : List (Nat × acy) := [(133, aj6)]
def axI (ρ : Type) : List (acD ρ) := [auo ρ, aun ρ]
def aqn (ρ : Type) : Env ρ := acA aLW (axI ρ)
def aq6 : acy := ⟨[abC, f6], [.bool], fun (x : Val (.pair abC f6)) => aiJ x.1 x.2⟩
def awC : List (Nat × acy) := [(138, aNl)]
def alf (ρ : Type) : List (acD ρ) := []
def aos (ρ : Type) : Env ρ := acA awC (alf ρ)
def aNp : acy := ⟨[ab6, f6], [.bool, tI], fun (x : Val (.pair ab6 f6)) => acV x.1 x.2⟩
def aMg : List (Nat × acy) := [(38, adK), (62, aza), (67, al0), (68, aq6)]
def ax3 (ρ : Type) : List (acD ρ) := []
def aEO (ρ : Type) : Env ρ := acA aMg (ax3 ρ)
def aIR : acy := ⟨[acf], [eI, tI], fun (x : Val acf) => avo x⟩
def aDs : acb := { pin := 1, cs := [f6, tI, tI, abo, tI, abo], vs := [tI, f6], head := ⟨28, .any :: .box 1 0 :: .any :: .any :: .con f6 :: .own 2 :: aN 7 [.con tI, .var tI], [.cells [.con tI, .con abo], .cells [.con tI, .con abo], .rowv tI]⟩, exits := [(.exit 0, ⟨28, .any :: .box 1 0 :: .any :: .any :: .con f6 :: .own 2 :: aN 7 [.con tI], [.cells [.con tI, .con abo], .cells [.con tI, .con abo], .rowv tI]⟩, [f6])] }
def arn (ρ : Type) : acD ρ := ⟨[4, 1], 66, 0, aDs, fun (p : Val (.pair f6 ab1)) (v : Val abz) kn kx => ak1 p.2.1 p.2.2.2.2.1 p.2.2.2.2.2 v.1 v.2 (fun u0 u1 => kn (u0, u1)) (kx 0)⟩
def aDr : acb := { pin := 0, cs := [f6, tI, f6], vs := [tI, eI], head := ⟨39, aN 5 (.con f6 :: .own 0 :: .own 1 :: aN 12 [.con tI, .var tI]), [.rowc tI, .rowv ab5]⟩, exits := [(.exit 0, ⟨39, aN 5 (.con f6 :: .own 0 :: .own 1 :: aN 12 [.con tI]), [.rowc tI, .rowv ab5]⟩, [eI])] }
def arm (ρ : Type) : acD ρ := ⟨[], 81, 0, aDr, fun (p : Val (.pair f6 abz)) (v : Val abB) kn kx => ak0 p.1 p.2.1 p.2.2 v.1 v.2 (fun u0 u1 => kn (u0, u1)) (kx 0)⟩
def aJx : List (Nat × acy) := [(63, azW), (64, avR)]
def aum (ρ : Type) : List (acD ρ) := [arn ρ, arm ρ]
def anm (ρ : Type) : Env ρ := acA aJx (aum ρ)
def atd : acy := ⟨[ab6], [eI, tI], fun (x : Val ab6) => ajD x⟩
def at7 : acb := { pin := 1, cs := [tI, tI, tI, l5, eI, m5, eW, eI, tI, tI, l5, eI, m5, eW, eI], vs := [tI], head := ⟨68, .any :: .any :: .box 1 0 :: aN 20 [.nils, .con tI, .var tI], [.cells [.con tI, .con tI, .con l5, .con eI, .con m5, .con eW, .con eI], .cells [.con tI, .con tI, .con l5, .con eI, .con m5, .con eW, .con eI]]⟩, exits := [(.exit 0, ⟨68, .any :: .any :: .box 1 0 :: aN 20 [.nils, .con tI], [.cells [.con tI, .con tI, .con l5, .con eI, .con m5, .con eW, .con eI], .cells [.con tI, .con tI, .con l5, .con eI, .con m5, .con eW, .con eI]]⟩, [])] }
def akX (ρ : Type) : acD ρ := ⟨[1, 1], 50, 0, at7, fun (p : Val (.pair tI abN)) (v : Val tI) kn kx => aji p.1 v (fun u0 => kn u0) (kx 0)⟩
def ayA : List (Nat × acy) := [(20, aee), (38, adK), (81, aIR), (123, ad4)]
def ami (ρ : Type) : List (acD ρ) := [akX ρ]
def aki (ρ : Type) : Env ρ := acA ayA (ami ρ)
def aeZ : acy := ⟨[ab6, aec, f6], [.bool], fun (x : Val (.pair ab6 (.pair aec f6))) => agj x.1 x.2.1 x.2.2⟩
def al5 : List (Nat × acy) := [(13, aNh), (14, azQ), (23, aNp), (35, avQ), (36, azS), (37, atd), (38, adK), (39, alt)]
def agK (ρ : Type) : List (acD ρ) := []
def ahz (ρ : Type) : Env ρ := acA al5 (agK ρ)
end Go.Proofs.ZzM
end
