/- lemmas -/
import Derived.Test.YthhhehllmdfhiaaGreatAmE
import Derived.KernelRfl
import Derived.Test.YthhhehllmdfhiaaGreatMdTA
import Derived.Test.YthhhehllmdfhiaaGreatProg
set_option linter.all false
set_option linter.unusedSectionVars false
set_option linter.unusedVariables false
set_option linter.unusedSimpArgs false
noncomputable section
set_option maxRecDepth 100000
namespace Go.Proofs.ZzM
open Go Go.Am
def aA5 : Nat → Bool
  | 91 => true
  | 140 => true
  | 229 => true
  | 230 => true
  | 231 => true
  | 232 => true
  | 233 => true
  | _ => false
def aJo : Nat → Bool
  | 127 => true
  | _ => false
def apq : Nat → Bool
  | 128 => true
  | _ => false
def isInl : Nat → Bool
  | 2 => true
  | 50 => true
  | 66 => true
  | 74 => true
  | 84 => true
  | 92 => true
  | 93 => true
  | 98 => true
  | 100 => true
  | 124 => true
  | 131 => true
  | 132 => true
  | 136 => true
  | 137 => true
  | 139 => true
  | 141 => true
  | 147 => true
  | 148 => true
  | 149 => true
  | 150 => true
  | 151 => true
  | 152 => true
  | 153 => true
  | 154 => true
  | 155 => true
  | 157 => true
  | 158 => true
  | 159 => true
  | 160 => true
  | 161 => true
  | 165 => true
  | 169 => true
  | 170 => true
  | 175 => true
  | 176 => true
  | 178 => true
  | 193 => true
  | 194 => true
  | 195 => true
  | 196 => true
  | 199 => true
  | 201 => true
  | 202 => true
  | 203 => true
  | 204 => true
  | 206 => true
  | 207 => true
  | 208 => true
  | 209 => true
  | 211 => true
  | 212 => true
  | 214 => true
  | 215 => true
  | 217 => true
  | 218 => true
  | 220 => true
  | 221 => true
  | 222 => true
  | 242 => true
  | 243 => true
  | 244 => true
  | 245 => true
  | 246 => true
  | 247 => true
  | 249 => true
  | 250 => true
  | 253 => true
  | 255 => true
  | 257 => true
  | 261 => true
  | 269 => true
  | 270 => true
  | 272 => true
  | 273 => true
  | 275 => true
  | 276 => true
  | 279 => true
  | 280 => true
  | 286 => true
  | 288 => true
  | 289 => true
  | _ => false
def isFz : Nat → Bool
  | 59 => true
  | 79 => true
  | 94 => true
  | _ => false
def isEat : Nat → Nat → Bool
  | 41, 8 => true
  | 41, 11 => true
  | 49, 4 => true
  | 49, 5 => true
  | 50, 67 => true
  | 176, 25 => true
  | 202, 0 => true
  | _, _ => false
def acE {ρ : Type} (pt : List (Nat × acC)) (tab : List (acJ ρ)) : Env ρ :=
  { P := Tryz.prog, eat := isEat, clone := aA5, sort := aJo, compact := apq, inl := isInl, fz := isFz, pure := aN4 pt, loops := ajt tab }
def aSJ {ρ : Type} (pt : List (Nat × acC)) (tab : List (acJ ρ)) (us : List aQ9) : Env ρ :=
  { P := Tryz.prog, eat := isEat, clone := aA5, sort := aJo, compact := apq, inl := isInl, fz := isFz, pure := aN4 pt, loops := aJf (acE pt tab) us }
end Go.Proofs.ZzM
end

noncomputable section
set_option maxRecDepth 100000
namespace Go.Proofs.ZzM
open Go Go.Am
def arB : acC := ⟨[ab9], [aby], fun (x : Val ab9) => afb x⟩
def ayg : acf := { pin := 0, cs := [abo, tI], vs := [tI, aby], head := ⟨20, .any :: .any :: .any :: .omp 0 :: aN 4 [.con abo, .con tI, .var tI], [.mapv tI ach]⟩, exits := [(.exit 0, ⟨20, .any :: .any :: .any :: .omp 0 :: aN 4 [.con abo, .con tI], [.mapv tI ach]⟩, [aby])] }
def an5 (ρ : Type) : acJ ρ := ⟨[], 53, 0, ayg, fun (p : Val (.pair abo tI)) (v : Val (.pair tI aby)) kn kx => ais p.1 p.2 v.1 v.2 (fun u0 u1 => kn (u0, u1)) (kx 0)⟩
def aCX : List (Nat × acC) := []
def ao7 (ρ : Type) : List (acJ ρ) := [an5 ρ]
def am5 (ρ : Type) : Env ρ := acE aCX (ao7 ρ)
def alN : acC := ⟨[ab6, tI, tI], [.bool], fun (x : Val acZ) => aeY x.1 x.2.1 x.2.2⟩
def aGr : List (Nat × acC) := []
def arc (ρ : Type) : List (acJ ρ) := []
def axo (ρ : Type) : Env ρ := acE aGr (arc ρ)
def agY : acC := ⟨[tI, tI, tI], [.bool], fun (x : Val ac8) => adn x.1 x.2.1 x.2.2⟩
def aGa : List (Nat × acC) := []
def aq7 (ρ : Type) : List (acJ ρ) := []
def axj (ρ : Type) : Env ρ := acE aGa (aq7 ρ)
def asU : acC := ⟨[tI], [.bool], fun (x : Val tI) => aiU x⟩
def aI5 : List (Nat × acC) := [(126, agY)]
def auo (ρ : Type) : List (acJ ρ) := []
def aAS (ρ : Type) : Env ρ := acE aI5 (auo ρ)
def aE6 : acC := ⟨[tI], [(.int .u64)], fun (x : Val tI) => ak4 x⟩
def aK3 : List (Nat × acC) := []
def axe (ρ : Type) : List (acJ ρ) := []
def aD7 (ρ : Type) : Env ρ := acE aK3 (axe ρ)
def aKH : acC := ⟨[(.int .u64), (.int .u64)], [(.int .u64)], fun (x : Val ab2) => aBq x.1 x.2⟩
def aIP : acf := { pin := 0, cs := [], vs := [(.int .u64), (.int .u64)], head := ⟨12, [.var (.int .u64), .var (.int .u64)], []⟩, exits := [(.exit 0, ⟨12, [.var (.int .u64)], []⟩, [(.int .u64)])] }
def axf (ρ : Type) : acJ ρ := ⟨[], 260, 0, aIP, fun (p : Unit) (v : Val ab2) kn kx => ap3 v.1 v.2 (fun u0 u1 => kn (u0, u1)) (kx 0)⟩
def aNS : List (Nat × acC) := []
def aAu (ρ : Type) : List (acJ ρ) := [axf ρ]
def aAv (ρ : Type) : Env ρ := acE aNS (aAu ρ)
def asQ : acC := ⟨[ab6], [.bool], fun (x : Val ab6) => amq x⟩
def aIS : List (Nat × acC) := [(259, aE6), (260, aKH)]
def at6 (ρ : Type) : List (acJ ρ) := []
def aAz (ρ : Type) : Env ρ := acE aIS (at6 ρ)
def azu : acC := ⟨[ach], [.bool], fun (x : Val ach) => anx x⟩
def aC9 : List (Nat × acC) := [(82, alN), (125, asU), (126, agY), (219, asQ)]
def ape (ρ : Type) : List (acJ ρ) := []
def aun (ρ : Type) : Env ρ := acE aC9 (ape ρ)
def aoz : acC := ⟨[ab9], [tI], fun (x : Val ab9) => aeK x⟩
def aqx : acf := { pin := 0, cs := [abo, tI, tI, tI, abo, f6, abq, wi, f6], vs := [tI], head := ⟨31, .any :: .box 0 0 :: aN 4 [.con abo, .con tI, .var tI], [.cells [.con tI, .con tI, .con abo, .con f6, .con abq, .con wi, .con f6]]⟩, exits := [(.ret, ⟨31, [.any, .box 0 0, .var tI, .any, .any, .any, .con abo, .con tI], [.cells [.con tI, .con tI, .con abo, .con f6, .con abq, .con wi, .con f6]]⟩, [tI]), (.exit 0, ⟨31, .any :: .box 0 0 :: aN 4 [.con abo, .con tI], [.cells [.con tI, .con tI, .con abo, .con f6, .con abq, .con wi, .con f6]]⟩, [])] }
def ajf (ρ : Type) : acJ ρ := ⟨[], 83, 0, aqx, fun (p : Val (.pair abo abG)) (v : Val tI) kn kx => af4 p.1 p.2.1 p.2.2.2.2.1 v (fun u0 => kn u0) (kx 0) (kx 1)⟩
def auu : List (Nat × acC) := [(162, azu)]
def aj9 (ρ : Type) : List (acJ ρ) := [ajf ρ]
def ah8 (ρ : Type) : Env ρ := acE auu (aj9 ρ)
def alK : acC := ⟨[abp, tI], [tI], fun (x : Val abJ) => agq x.1 x.2⟩
def aoc : acf := { pin := 0, cs := [abp, tI, tI], vs := [tI], head := ⟨19, .con abp :: .con tI :: aN 5 [.con tI, .var tI], []⟩, exits := [(.ret, ⟨19, [.con abp, .con tI, .any, .any, .var tI, .any, .any, .con tI], []⟩, [tI]), (.exit 0, ⟨19, .con abp :: .con tI :: aN 5 [.con tI], []⟩, [])] }
def ahP (ρ : Type) : acJ ρ := ⟨[], 73, 0, aoc, fun (p : Val (.pair abp ab6)) (v : Val tI) kn kx => afi p.1 p.2.1 p.2.2 v (fun u0 => kn u0) (kx 0) (kx 1)⟩
def aqq : List (Nat × acC) := []
def aiB (ρ : Type) : List (acJ ρ) := [ahP ρ]
def agO (ρ : Type) : Env ρ := acE aqq (aiB ρ)
def agv : acC := ⟨[abp, tI], [.bool], fun (x : Val abJ) => adu x.1 x.2⟩
def amJ : List (Nat × acC) := [(73, alK)]
def ag3 (ρ : Type) : List (acJ ρ) := []
def ahQ (ρ : Type) : Env ρ := acE amJ (ag3 ρ)
def aFa : acC := ⟨[ab9, ach], [abp], fun (x : Val (.pair ab9 ach)) => ajy x.1 x.2⟩
def aGv : acf := { pin := 0, cs := [wi, tI, tI, tI, abo, f6, abq, wi, f6, tI, tI, tI, tI, tI, tI, tI, tI], vs := [tI, abp], head := ⟨59, .any :: .any :: .box 0 0 :: .box 1 0 :: .any :: .own 2 :: aN 8 [.con wi, .con tI, .var tI], [.cells [.con tI, .con tI, .con abo, .con f6, .con abq, .con wi, .con f6], .cells [.con tI, .con tI, .con tI, .con tI, .con tI, .con tI, .con tI, .con tI], .rowv tI]⟩, exits := [(.exit 0, ⟨59, .any :: .any :: .box 0 0 :: .box 1 0 :: .any :: .own 2 :: aN 8 [.con wi, .con tI], [.cells [.con tI, .con tI, .con abo, .con f6, .con abq, .con wi, .con f6], .cells [.con tI, .con tI, .con tI, .con tI, .con tI, .con tI, .con tI, .con tI], .rowv tI]⟩, [abp])] }
def aur (ρ : Type) : acJ ρ := ⟨[], 168, 0, aGv, fun (p : Val (.pair wi abO)) (v : Val abD) kn kx => anh p.1 p.2.1 p.2.2.2.2.2.2.2.2.2.1 v.1 v.2 (fun u0 u1 => kn (u0, u1)) (kx 0)⟩
def aGu : acf := { pin := 0, cs := [f6, tI, tI, tI, tI, tI, tI, tI, tI, tI], vs := [tI, abp], head := ⟨59, .any :: .any :: .any :: .box 0 0 :: .any :: .own 1 :: aN 32 [.con f6, .con tI, .var tI], [.cells [.con tI, .con tI, .con tI, .con tI, .con tI, .con tI, .con tI, .con tI], .rowv tI]⟩, exits := [(.exit 2, ⟨59, .any :: .any :: .any :: .box 0 0 :: .any :: .own 1 :: aN 32 [.con f6, .con tI], [.cells [.con tI, .con tI, .con tI, .con tI, .con tI, .con tI, .con tI, .con tI], .rowv tI]⟩, [abp])] }
def auq (ρ : Type) : acJ ρ := ⟨[], 168, 2, aGu, fun (p : Val (.pair f6 (.pair tI abA))) (v : Val abD) kn kx => ang p.1 p.2.1 p.2.2.1 v.1 v.2 (fun u0 u1 => kn (u0, u1)) (kx 0)⟩
def aLh : List (Nat × acC) := [(65, agv)]
def axq (ρ : Type) : List (acJ ρ) := [aur ρ, auq ρ]
def ap6 (ρ : Type) : Env ρ := acE aLh (axq ρ)
def asT : acC := ⟨[ab9], [f6], fun (x : Val ab9) => akj x⟩
def aCZ : acf := { pin := 0, cs := [abo, tI, tI, abp, tI, tI, tI, abo, f6, abq, wi, f6, tI, tI, tI, tI, tI, tI, tI, tI], vs := [tI, f6], head := ⟨33, .any :: .box 0 0 :: .any :: .own 1 :: .any :: .box 2 0 :: .any :: .any :: .any :: .con abo :: .con tI :: .con tI :: aN 5 [.con abp, .con tI, .var tI], [.cells [.con tI, .con tI, .con abo, .con f6, .con abq, .con wi, .con f6], .rowv ab6, .cells [.con tI, .con tI, .con tI, .con tI, .con tI, .con tI, .con tI, .con tI]]⟩, exits := [(.exit 2, ⟨33, .any :: .box 0 0 :: .any :: .own 1 :: .any :: .box 2 0 :: .any :: .any :: .any :: .con abo :: .con tI :: .con tI :: aN 5 [.con abp, .con tI], [.cells [.con tI, .con tI, .con abo, .con f6, .con abq, .con wi, .con f6], .rowv ab6, .cells [.con tI, .con tI, .con tI, .con tI, .con tI, .con tI, .con tI, .con tI]]⟩, [f6])] }
def aq8 (ρ : Type) : acJ ρ := ⟨[], 85, 2, aCZ, fun (p : Val (.pair abo (.pair tI (.pair tI (.pair abp abO))))) (v : Val abH) kn kx => akX p.2.2.2.1 p.2.2.2.2.1 p.2.2.2.2.2.2.2.2.2.2.2.2.1 v.1 v.2 (fun u0 u1 => kn (u0, u1)) (kx 0)⟩
def aC0 : acf := { pin := 0, cs := [abo, tI, tI, tI, abo, f6, abq, wi, f6], vs := [tI, f6], head := ⟨33, .any :: .box 0 0 :: .any :: .own 1 :: aN 5 [.con abo, .con tI, .var tI], [.cells [.con tI, .con tI, .con abo, .con f6, .con abq, .con wi, .con f6], .rowv ab6]⟩, exits := [(.exit 0, ⟨33, .any :: .box 0 0 :: .any :: .own 1 :: aN 5 [.con abo, .con tI], [.cells [.con tI, .con tI, .con abo, .con f6, .con abq, .con wi, .con f6], .rowv ab6]⟩, [f6])] }
def aq9 (ρ : Type) : acJ ρ := ⟨[], 85, 0, aC0, fun (p : Val (.pair abo abG)) (v : Val abH) kn kx => akY p.1 p.2.1 p.2.2.1 p.2.2.2.1 p.2.2.2.2.1 p.2.2.2.2.2.1 p.2.2.2.2.2.2.1 p.2.2.2.2.2.2.2.1 p.2.2.2.2.2.2.2.2 v.1 v.2 (fun u0 u1 => kn (u0, u1)) (kx 0)⟩
def aI1 : List (Nat × acC) := [(168, aFa)]
def auf (ρ : Type) : List (acJ ρ) := [aq8 ρ, aq9 ρ]
def am8 (ρ : Type) : Env ρ := acE aI1 (auf ρ)
def ain : acC := ⟨[aby, tI, tI], [tI], fun (x : Val (.pair aby ab6)) => afU x.1 x.2.1 x.2.2⟩
def av2 : List (Nat × acC) := []
def akW (ρ : Type) : List (acJ ρ) := []
def an6 (ρ : Type) : Env ρ := acE av2 (akW ρ)
def aKJ : acC := ⟨[tI, tI, (.ptr aby)], [tI], fun (x : Val (.pair tI (.pair tI (.ptr aby)))) => adO x.1 x.2.1 x.2.2⟩
def aCY : List (Nat × acC) := [(125, asU), (164, ain)]
def apa (ρ : Type) : List (acJ ρ) := []
def aue (ρ : Type) : Env ρ := acE aCY (apa ρ)
def aFb : acC := ⟨[ab9, aby, tI], [tI], fun (x : Val ab3) => ae1 x.1 x.2.1 x.2.2⟩
def aut : acf := { pin := 2, cs := [abq, tI, tI, tI, abo, f6, abq, wi, f6, tI, tI, tI, tI], vs := [tI], head := ⟨19, .con abq :: .fn 220 [(1, 0)] :: aN 5 [.con tI, .var tI], [.cells [.con tI, .con tI, .con abo, .con f6, .con abq, .con wi, .con f6], .cells [.con tI, .con tI, .con tI, .con tI]]⟩, exits := [(.ret, ⟨19, [.con abq, .fn 220 [(1, 0)], .any, .any, .var tI, .any, .any, .con tI], [.cells [.con tI, .con tI, .con abo, .con f6, .con abq, .con wi, .con f6], .cells [.con tI, .con tI, .con tI, .con tI]]⟩, [tI]), (.exit 0, ⟨19, .con abq :: .fn 220 [(1, 0)] :: aN 5 [.con tI], [.cells [.con tI, .con tI, .con abo, .con f6, .con abq, .con wi, .con f6], .cells [.con tI, .con tI, .con tI, .con tI]]⟩, [])] }
def ak0 (ρ : Type) : acJ ρ := ⟨[9, 5, 1, 2], 257, 0, aut, fun (p : Val (.pair abq (.pair tI (.pair tI (.pair tI (.pair abo (.pair f6 (.pair abq (.pair wi (.pair f6 (.pair tI ac8))))))))))) (v : Val tI) kn kx => agI p.1 p.2.1 p.2.2.2.2.2.2.2.2.2.1 p.2.2.2.2.2.2.2.2.2.2.1 p.2.2.2.2.2.2.2.2.2.2.2.1 v (fun u0 => kn u0) (kx 0) (kx 1)⟩
def aus : acf := { pin := 2, cs := [f6, tI, tI, tI, abo, f6, abq, wi, f6, tI, tI, tI, tI], vs := [tI], head := ⟨19, .con f6 :: .fn 221 [(1, 0)] :: aN 5 [.con tI, .var tI], [.cells [.con tI, .con tI, .con abo, .con f6, .con abq, .con wi, .con f6], .cells [.con tI, .con tI, .con tI, .con tI]]⟩, exits := [(.ret, ⟨19, [.con f6, .fn 221 [(1, 0)], .any, .any, .var tI, .any, .any, .con tI], [.cells [.con tI, .con tI, .con abo, .con f6, .con abq, .con wi, .con f6], .cells [.con tI, .con tI, .con tI, .con tI]]⟩, [tI]), (.exit 0, ⟨19, .con f6 :: .fn 221 [(1, 0)] :: aN 5 [.con tI], [.cells [.con tI, .con tI, .con abo, .con f6, .con abq, .con wi, .con f6], .cells [.con tI, .con tI, .con tI, .con tI]]⟩, [])] }
def akZ (ρ : Type) : acJ ρ := ⟨[9, 10, 1, 2], 255, 0, aus, fun (p : Val (.pair f6 (.pair tI (.pair tI (.pair tI (.pair abo (.pair f6 (.pair abq (.pair wi (.pair f6 (.pair tI ac8))))))))))) (v : Val tI) kn kx => aeX p.1 p.2.1 p.2.2.2.2.2.2.2.2.2.1 p.2.2.2.2.2.2.2.2.2.2.1 p.2.2.2.2.2.2.2.2.2.2.2.1 v (fun u0 => kn u0) (kx 0) (kx 1)⟩
def ayl : List (Nat × acC) := [(82, alN), (126, agY), (164, ain)]
def amd (ρ : Type) : List (acJ ρ) := [ak0 ρ, akZ ρ]
def aht (ρ : Type) : Env ρ := acE ayl (amd ρ)
def apX : acC := ⟨[abp, abp], [abp], fun (x : Val (.pair abp abp)) => aep x.1 x.2⟩
def aGn : acf := { pin := 2, cs := [tI, abp, abp], vs := [tI], head := ⟨19, .own 1 :: .fn 170 [(0, 0)] :: aN 5 [.con tI, .var tI], [.cells [.con abp], .rowc tI]⟩, exits := [(.ret, ⟨19, [.own 1, .fn 170 [(0, 0)], .any, .any, .var tI, .any, .any, .con tI], [.cells [.con abp], .rowc tI]⟩, [tI]), (.exit 0, ⟨19, .own 1 :: .fn 170 [(0, 0)] :: aN 5 [.con tI], [.cells [.con abp], .rowc tI]⟩, [])] }
def aum (ρ : Type) : acJ ρ := ⟨[1, 3, 1, 2], 178, 0, aGn, fun (p : Val (.pair tI (.pair abp abp))) (v : Val tI) kn kx => anf p.1 p.2.1 p.2.2 v (fun u0 => kn u0) (kx 0) (kx 1)⟩
def aGm : acf := { pin := 2, cs := [abp], vs := [tI, tI, abp], head := ⟨42, [.own 1, .fn 170 [(0, 0)], .any, .any, .any, .var tI, .var tI], [.cells [.con abp], .rowv tI]⟩, exits := [(.exit 0, ⟨42, [.own 1, .fn 170 [(0, 0)], .any, .any, .any, .var tI], [.cells [.con abp], .rowv tI]⟩, [tI, abp])] }
def aul (ρ : Type) : acJ ρ := ⟨[1, 3], 169, 0, aGm, fun (p : Val abp) (v : Val (.pair tI abD)) kn kx => agU p v.1 v.2.1 v.2.2 (fun u0 u1 u2 => kn (u0, u1, u2)) (kx 0)⟩
def aLg : List (Nat × acC) := [(65, agv)]
def axn (ρ : Type) : List (acJ ρ) := [aum ρ, aul ρ]
def ap5 (ρ : Type) : Env ρ := acE aLg (axn ρ)
def aeb : acC := ⟨[abx], [abp], fun (x : Val abx) => acG x⟩
def amL : acf := { pin := 0, cs := [abx, abx, tI], vs := [tI, tI], head := ⟨36, .con abx :: .any :: .any :: .var tI :: aN 5 [.con abx, .con tI, .var tI], []⟩, exits := [(.exit 0, ⟨36, .con abx :: .any :: .any :: .var tI :: aN 5 [.con abx, .con tI], []⟩, [tI])] }
def ahq (ρ : Type) : acJ ρ := ⟨[], 94, 0, amL, fun (p : Val (.pair abx (.pair abx tI))) (v : Val ab6) kn kx => adz p.2.1 p.2.2 v.1 v.2 (fun u0 u1 => kn (u0, u1)) (kx 0)⟩
def amK : acf := { pin := 0, cs := [abx, tI], vs := [tI, abp], head := ⟨36, aN 6 (.own 0 :: aN 18 [.con abx, .con tI, .var tI]), [.rowv tI]⟩, exits := [(.exit 2, ⟨36, aN 6 (.own 0 :: aN 18 [.con abx, .con tI]), [.rowv tI]⟩, [abp])] }
def ahp (ρ : Type) : acJ ρ := ⟨[], 94, 2, amK, fun (p : Val (.pair abx tI)) (v : Val abD) kn kx => acK p.1 p.2 v.1 v.2 (fun u0 u1 => kn (u0, u1)) (kx 0)⟩
def aoF : List (Nat × acC) := []
def ahR (ρ : Type) : List (acJ ρ) := [ahq ρ, ahp ρ]
def afj (ρ : Type) : Env ρ := acE aoF (ahR ρ)
def avl : acC := ⟨[abp], [.bool], fun (x : Val abp) => aih x⟩
def aAQ : acf := { pin := 0, cs := [abp, abp, tI], vs := [tI], head := ⟨32, .con abp :: aN 4 [.con abp, .con tI, .var tI], []⟩, exits := [(.ret, ⟨32, [.con abp, .any, .var .bool, .any, .any, .con abp, .con tI], []⟩, [.bool]), (.exit 0, ⟨32, .con abp :: aN 4 [.con abp, .con tI], []⟩, [])] }
def apc (ρ : Type) : acJ ρ := ⟨[], 198, 0, aAQ, fun (p : Val (.pair abp abJ)) (v : Val tI) kn kx => ajs p.1 p.2.1 p.2.2 v (fun u0 => kn u0) (kx 0) (kx 1)⟩
def aGp : List (Nat × acC) := [(126, agY)]
def arb (ρ : Type) : List (acJ ρ) := [apc ρ]
def apd (ρ : Type) : Env ρ := acE aGp (arb ρ)
def aMs : acC := ⟨[ab9, tI, tI], [adJ, .bool], fun (x : Val abU) => aqe x.1 x.2.1 x.2.2⟩
def aGx : acf := { pin := 4, cs := [abq, tI, tI, tI, abo, f6, abq, wi, f6, tI, tI, tI, tI, tI, tI], vs := [tI], head := ⟨19, .con abq :: .fn 261 [(1, 0), (2, 0)] :: aN 5 [.con tI, .var tI], [.cells [.con tI, .con tI, .con abo, .con f6, .con abq, .con wi, .con f6], .cells [.con tI], .cells [.con tI], .cells [.con tI, .con tI, .con tI, .con tI]]⟩, exits := [(.ret, ⟨19, [.con abq, .fn 261 [(1, 0), (2, 0)], .any, .any, .var tI, .any, .any, .con tI], [.cells [.con tI, .con tI, .con abo, .con f6, .con abq, .con wi, .con f6], .cells [.con tI], .cells [.con tI], .cells [.con tI, .con tI, .con tI, .con tI]]⟩, [tI]), (.exit 0, ⟨19, .con abq :: .fn 261 [(1, 0), (2, 0)] :: aN 5 [.con tI], [.cells [.con tI, .con tI, .con abo, .con f6, .con abq, .con wi, .con f6], .cells [.con tI], .cells [.con tI], .cells [.con tI, .con tI, .con tI, .con tI]]⟩, [])] }
def auv (ρ : Type) : acJ ρ := ⟨[1, 3], 257, 0, aGx, fun (p : Val (.pair abq (.pair tI (.pair tI (.pair tI (.pair abo (.pair f6 (.pair abq (.pair wi (.pair f6 (.pair tI (.pair tI (.pair tI ac8))))))))))))) (v : Val tI) kn kx => anj p.1 p.2.1 p.2.2.2.2.2.2.2.2.2.1 p.2.2.2.2.2.2.2.2.2.2.1 v (fun u0 => kn u0) (kx 0) (kx 1)⟩
def aLi : List (Nat × acC) := [(126, agY)]
def axr (ρ : Type) : List (acJ ρ) := [auv ρ]
def av9 (ρ : Type) : Env ρ := acE aLi (axr ρ)
def axS : acC := ⟨[ab9, aby, tI], [tI], fun (x : Val ab3) => adQ x.1 x.2.1 x.2.2⟩
def apk : acf := { pin := 2, cs := [wi, tI, tI, tI, abo, f6, abq, wi, f6, tI, tI, abp, abp, tI, tI, tI, tI], vs := [tI], head := ⟨19, .con wi :: .fn 222 [(1, 0)] :: aN 5 [.con tI, .var tI], [.cells [.con tI, .con tI, .con abo, .con f6, .con abq, .con wi, .con f6], .cells [.con tI, .con tI, .con abp, .con abp, .con tI, .con tI, .con tI, .con tI]]⟩, exits := [(.ret, ⟨19, [.con wi, .fn 222 [(1, 0)], .any, .any, .var tI, .any, .any, .con tI], [.cells [.con tI, .con tI, .con abo, .con f6, .con abq, .con wi, .con f6], .cells [.con tI, .con tI, .con abp, .con abp, .con tI, .con tI, .con tI, .con tI]]⟩, [tI]), (.exit 0, ⟨19, .con wi :: .fn 222 [(1, 0)] :: aN 5 [.con tI], [.cells [.con tI, .con tI, .con abo, .con f6, .con abq, .con wi, .con f6], .cells [.con tI, .con tI, .con abp, .con abp, .con tI, .con tI, .con tI, .con tI]]⟩, [])] }
def aiL (ρ : Type) : acJ ρ := ⟨[4, 5, 1, 2], 207, 0, apk, fun (p : Val (.pair wi (.pair tI (.pair tI (.pair tI (.pair abo (.pair f6 (.pair abq (.pair wi (.pair f6 acd)))))))))) (v : Val tI) kn kx => afI p.1 p.2.1 p.2.2.2.2.2.2.2.2.2.1 v (fun u0 => kn u0) (kx 0) (kx 1)⟩
def aph : acf := { pin := 0, cs := [aby, abp, tI, tI, tI, abp, tI, tI, tI, abo, f6, abq, wi, f6, tI, tI, abp, abp, tI, tI, tI, tI, abp], vs := [tI], head := ⟨140, .any :: .con aby :: .any :: .box 0 0 :: .any :: .any :: .any :: .box 1 0 :: .con abp :: .any :: .con tI :: aN 65 [.own 2, .con tI, .con tI, .any, .any, .any, .con abp, .con tI, .var tI], [.cells [.con tI, .con tI, .con abo, .con f6, .con abq, .con wi, .con f6], .cells [.con tI, .con tI, .con abp, .con abp, .con tI, .con tI, .con tI, .con tI], .rowc tI]⟩, exits := [(.ret, ⟨140, .any :: .con aby :: .any :: .box 0 0 :: .any :: .any :: .var tI :: .box 1 0 :: .con abp :: .any :: .con tI :: aN 65 [.own 2, .con tI, .con tI, .any, .any, .any, .con abp, .con tI], [.cells [.con tI, .con tI, .con abo, .con f6, .con abq, .con wi, .con f6], .cells [.con tI, .con tI, .con abp, .con abp, .con tI, .con tI, .con tI, .con tI], .rowc tI]⟩, [tI]), (.exit 2, ⟨140, .any :: .con aby :: .any :: .box 0 0 :: .any :: .any :: .any :: .box 1 0 :: .con abp :: .any :: .con tI :: aN 65 [.own 2, .con tI, .con tI, .any, .any, .any, .con abp, .con tI], [.cells [.con tI, .con tI, .con abo, .con f6, .con abq, .con wi, .con f6], .cells [.con tI, .con tI, .con abp, .con abp, .con tI, .con tI, .con tI, .con tI], .rowc tI]⟩, [])] }
def aiJ (ρ : Type) : acJ ρ := ⟨[], 167, 2, aph, fun (p : Val (.pair aby (.pair abp (.pair tI (.pair tI (.pair tI (.pair abp (.pair tI (.pair tI (.pair tI (.pair abo (.pair f6 (.pair abq (.pair wi (.pair f6 (.pair tI (.pair tI (.pair abp (.pair abp (.pair tI abI)))))))))))))))))))) (v : Val tI) kn kx => afH p.1 p.2.2.1 p.2.2.2.2.2.1 p.2.2.2.2.2.2.1 p.2.2.2.2.2.2.2.2.2.2.2.2.2.2.2.1 v (fun u0 => kn u0) (kx 0) (kx 1)⟩
def apj : acf := { pin := 0, cs := [aby, abp, tI, tI, tI, abo, f6, abq, wi, f6, tI, tI, abp, abp, tI, tI, tI, tI, abp], vs := [tI], head := ⟨140, .any :: .con aby :: .any :: .box 0 0 :: .any :: .any :: .any :: .box 1 0 :: .con abp :: aN 67 [.own 2, .con tI, .var tI], [.cells [.con tI, .con tI, .con abo, .con f6, .con abq, .con wi, .con f6], .cells [.con tI, .con tI, .con abp, .con abp, .con tI, .con tI, .con tI, .con tI], .rowc tI]⟩, exits := [(.ret, ⟨140, .any :: .con aby :: .any :: .box 0 0 :: .any :: .any :: .var tI :: .box 1 0 :: .con abp :: aN 67 [.own 2, .con tI], [.cells [.con tI, .con tI, .con abo, .con f6, .con abq, .con wi, .con f6], .cells [.con tI, .con tI, .con abp, .con abp, .con tI, .con tI, .con tI, .con tI], .rowc tI]⟩, [tI]), (.exit 0, ⟨140, .any :: .con aby :: .any :: .box 0 0 :: .any :: .any :: .any :: .box 1 0 :: .con abp :: aN 67 [.own 2, .con tI], [.cells [.con tI, .con tI, .con abo, .con f6, .con abq, .con wi, .con f6], .cells [.con tI, .con tI, .con abp, .con abp, .con tI, .con tI, .con tI, .con tI], .rowc tI]⟩, [])] }
def aiK (ρ : Type) : acJ ρ := ⟨[], 167, 0, apj, fun (p : Val (.pair aby (.pair abp (.pair tI (.pair tI (.pair tI (.pair abo (.pair f6 (.pair abq (.pair wi (.pair f6 (.pair tI (.pair tI (.pair abp (.pair abp (.pair tI abI)))))))))))))))) (v : Val tI) kn kx => ad1 p.1 p.2.1 p.2.2.1 p.2.2.2.2.2.2.2.2.2.2.2.1 p.2.2.2.2.2.2.2.2.2.2.2.2.2.2.2.2.2.2 v (fun u0 => kn u0) (kx 0) (kx 1)⟩
def apg : acf := { pin := 0, cs := [abp, tI, tI, tI, abo, f6, abq, wi, f6, tI, tI, abp, abp, tI, tI, tI, tI], vs := [tI], head := ⟨140, .any :: .any :: .any :: .box 0 0 :: .any :: .any :: .any :: .box 1 0 :: aN 90 [.con abp, .con tI, .var tI], [.cells [.con tI, .con tI, .con abo, .con f6, .con abq, .con wi, .con f6], .cells [.con tI, .con tI, .con abp, .con abp, .con tI, .con tI, .con tI, .con tI]]⟩, exits := [(.ret, ⟨140, .any :: .any :: .any :: .box 0 0 :: .any :: .any :: .var tI :: .box 1 0 :: aN 90 [.con abp, .con tI], [.cells [.con tI, .con tI, .con abo, .con f6, .con abq, .con wi, .con f6], .cells [.con tI, .con tI, .con abp, .con abp, .con tI, .con tI, .con tI, .con tI]]⟩, [tI]), (.exit 4, ⟨140, .any :: .any :: .any :: .box 0 0 :: .any :: .any :: .any :: .box 1 0 :: aN 90 [.con abp, .con tI], [.cells [.con tI, .con tI, .con abo, .con f6, .con abq, .con wi, .con f6], .cells [.con tI, .con tI, .con abp, .con abp, .con tI, .con tI, .con tI, .con tI]]⟩, [])] }
def aiI (ρ : Type) : acJ ρ := ⟨[], 167, 4, apg, fun (p : Val (.pair abp (.pair tI (.pair tI (.pair tI (.pair abo (.pair f6 (.pair abq (.pair wi (.pair f6 acd)))))))))) (v : Val tI) kn kx => ad0 p.1 p.2.1 p.2.2.1 p.2.2.2.1 p.2.2.2.2.1 p.2.2.2.2.2.1 p.2.2.2.2.2.2.1 p.2.2.2.2.2.2.2.1 p.2.2.2.2.2.2.2.2.1 p.2.2.2.2.2.2.2.2.2.2.1 v (fun u0 => kn u0) (kx 0) (kx 1)⟩
def ase : List (Nat × acC) := [(82, alN), (88, apX), (94, aeb), (125, asU), (126, agY), (164, ain), (198, avl), (223, aMs)]
def ajg (ρ : Type) : List (acJ ρ) := [aiL ρ, aiJ ρ, aiK ρ, aiI ρ]
def aed (ρ : Type) : Env ρ := acE ase (ajg ρ)
def ael : acC := ⟨[ab9], [tI], fun (x : Val ab9) => acV x⟩
def ajT : acC := ⟨[ab9, f6, f6], [ab9], fun (x : Val (.pair ab9 (.pair f6 f6))) => aBp x.1 x.2.1 x.2.2⟩
noncomputable def aIz : acf := { pin := 8, cs := [abp, tI, tI, tI, abo, f6, abq, wi, f6, tI, tI, abv, tI, tI], vs := [tI, abv], head := ⟨34, .any :: .any :: .any :: .box 2 0 :: aN 21 [.con abp, .con tI, .var tI], [.cells [.con tI, .con tI, .con abo, .con f6, .con abq, .con wi, .con f6], .cells [.con tI, .con tI, .nils, .nils, .nils, .nils, .nils], .cells [.omp 5], .cells [.omp 6], .cells [.nilfn, .fn 159 [(2, 0), (0, 0)], .fn 159 [(2, 0), (0, 0)], .fn 160 [(3, 0), (0, 0), (2, 0)]], .mapv tI .bool, .mapc tI .bool, .cells [.con tI, .con tI]]⟩, exits := [(.exit 0, ⟨34, .any :: .any :: .any :: .box 2 0 :: aN 21 [.con abp, .con tI], [.cells [.con tI, .con tI, .con abo, .con f6, .con abq, .con wi, .con f6], .cells [.con tI, .con tI, .nils, .nils, .nils, .nils, .nils], .cells [.omp 5], .cells [.omp 6], .cells [.nilfn, .fn 159 [(2, 0), (0, 0)], .fn 159 [(2, 0), (0, 0)], .fn 160 [(3, 0), (0, 0), (2, 0)]], .mapv tI .bool, .mapc tI .bool, .cells [.con tI, .con tI]]⟩, [abv])] }
noncomputable def aw2 (ρ : Type) : acJ ρ := ⟨[7, 5], 160, 0, aIz, fun (p : Val (.pair abp (.pair tI (.pair tI (.pair tI (.pair abo (.pair f6 (.pair abq (.pair wi (.pair f6 (.pair tI (.pair tI (.pair abv ab6))))))))))))) (v : Val (.pair tI abv)) kn kx => al0 p.1 p.2.1 v.1 v.2 (fun u0 u1 => kn (u0, u1)) (kx 0)⟩
noncomputable def aIA : acf := { pin := 0, cs := [f6, f6, tI, tI, tI, abo, f6, abq, wi, f6, tI, tI], vs := [tI, abv, abv], head := ⟨130, .any :: .any :: .con f6 :: .box 0 0 :: .any :: .any :: .box 1 0 :: .box 2 0 :: .box 3 0 :: .any :: .box 4 0 :: aN 19 [.con f6, .con tI, .var tI], [.cells [.con tI, .con tI, .con abo, .con f6, .con abq, .con wi, .con f6], .cells [.con tI, .con tI, .nils, .nils, .nils, .nils, .nils], .cells [.omp 5], .cells [.omp 6], .cells [.nilfn, .fn 159 [(2, 0), (0, 0)], .fn 159 [(2, 0), (0, 0)], .fn 160 [(3, 0), (0, 0), (2, 0)]], .mapv tI .bool, .mapv tI .bool]⟩, exits := [(.exit 0, ⟨130, .any :: .any :: .con f6 :: .box 0 0 :: .any :: .any :: .box 1 0 :: .box 2 0 :: .box 3 0 :: .any :: .box 4 0 :: aN 19 [.con f6, .con tI], [.cells [.con tI, .con tI, .con abo, .con f6, .con abq, .con wi, .con f6], .cells [.con tI, .con tI, .nils, .nils, .nils, .nils, .nils], .cells [.omp 5], .cells [.omp 6], .cells [.nilfn, .fn 159 [(2, 0), (0, 0)], .fn 159 [(2, 0), (0, 0)], .fn 160 [(3, 0), (0, 0), (2, 0)]], .mapv tI .bool, .mapv tI .bool]⟩, [abv, abv])] }
noncomputable def aw3 (ρ : Type) : acJ ρ := ⟨[], 79, 0, aIA, fun (p : Val (.pair f6 (.pair f6 (.pair tI (.pair tI (.pair tI (.pair abo (.pair f6 (.pair abq (.pair wi abY)))))))))) (v : Val (.pair tI (.pair abv abv))) kn kx => ap0 p.2.1 p.2.2.1 p.2.2.2.2.2.1 p.2.2.2.2.2.2.2.2.1 v.1 v.2.1 v.2.2 (fun u0 u1 u2 => kn (u0, u1, u2)) (kx 0)⟩
noncomputable def aIy : acf := { pin := 0, cs := [f6, f6, tI, tI, tI, abo, f6, abq, wi, f6, tI, tI, abv], vs := [tI, abv], head := ⟨130, .any :: .any :: .con f6 :: .box 0 0 :: .any :: .any :: .box 1 0 :: .box 2 0 :: .box 3 0 :: aN 34 [.con f6, .con tI, .var tI], [.cells [.con tI, .con tI, .con abo, .con f6, .con abq, .con wi, .con f6], .cells [.con tI, .con tI, .nils, .nils, .nils, .nils, .nils], .cells [.omp 4], .cells [.omp 5], .mapv tI .bool, .mapc tI .bool]⟩, exits := [(.exit 2, ⟨130, .any :: .any :: .con f6 :: .box 0 0 :: .any :: .any :: .box 1 0 :: .box 2 0 :: .box 3 0 :: aN 34 [.con f6, .con tI], [.cells [.con tI, .con tI, .con abo, .con f6, .con abq, .con wi, .con f6], .cells [.con tI, .con tI, .nils, .nils, .nils, .nils, .nils], .cells [.omp 4], .cells [.omp 5], .mapv tI .bool, .mapc tI .bool]⟩, [abv])] }
noncomputable def aw1 (ρ : Type) : acJ ρ := ⟨[], 79, 2, aIy, fun (p : Val (.pair f6 (.pair f6 (.pair tI (.pair tI (.pair tI (.pair abo (.pair f6 (.pair abq (.pair wi (.pair f6 (.pair tI (.pair tI abv))))))))))))) (v : Val (.pair tI abv)) kn kx => alZ p.2.1 p.2.2.1 v.1 v.2 (fun u0 u1 => kn (u0, u1)) (kx 0)⟩
noncomputable def aIx : acf := { pin := 0, cs := [f6, tI, tI, tI, abo, f6, abq, wi, f6, tI, tI, abo, f6, abq, wi, f6, tI, tI, f6, abv, abv, abo], vs := [tI, f6], head := ⟨130, .any :: .any :: .any :: .box 0 0 :: .any :: .any :: .box 1 0 :: .box 2 0 :: .box 3 0 :: aN 6 (.box 4 0 :: aN 52 [.con f6, .con tI, .var tI]), [.cells [.con tI, .con tI, .con abo, .con f6, .con abq, .con wi, .con f6], .cells [.con tI, .con tI, .con abo, .con f6, .con abq, .con wi, .con f6], .cells [.omp 5], .cells [.omp 6], .cells [.con tI, .con tI, .own 7, .own 8, .nils, .nils, .con f6], .mapc tI .bool, .mapc tI .bool, .rowc ach, .rowv ab6]⟩, exits := [(.exit 6, ⟨130, .any :: .any :: .any :: .box 0 0 :: .any :: .any :: .box 1 0 :: .box 2 0 :: .box 3 0 :: aN 6 (.box 4 0 :: aN 52 [.con f6, .con tI]), [.cells [.con tI, .con tI, .con abo, .con f6, .con abq, .con wi, .con f6], .cells [.con tI, .con tI, .con abo, .con f6, .con abq, .con wi, .con f6], .cells [.omp 5], .cells [.omp 6], .cells [.con tI, .con tI, .own 7, .own 8, .nils, .nils, .con f6], .mapc tI .bool, .mapc tI .bool, .rowc ach, .rowv ab6]⟩, [f6])] }
noncomputable def akK (ρ : Type) : acJ ρ := ⟨[], 79, 6, aIx, fun (p : Val (.pair f6 (.pair tI (.pair tI (.pair tI (.pair abo (.pair f6 (.pair abq (.pair wi (.pair f6 (.pair tI (.pair tI (.pair abo (.pair f6 (.pair abq (.pair wi (.pair f6 (.pair tI (.pair tI (.pair f6 (.pair abv (.pair abv abo)))))))))))))))))))))) (v : Val abH) kn kx => alY p.1 p.2.1 p.2.2.2.2.2.2.2.2.2.2.2.2.2.2.2.2.2.2.2.1 v.1 v.2 (fun u0 u1 => kn (u0, u1)) (kx 0)⟩
noncomputable def aIw : acf := { pin := 0, cs := [abq, tI, tI, tI, abo, f6, abq, wi, f6, tI, tI, abo, f6, abq, wi, f6, tI, tI, f6, abv, abv, abo, f6], vs := [tI, abq], head := ⟨130, .any :: .any :: .any :: .box 0 0 :: .any :: .any :: .box 1 0 :: .box 2 0 :: .box 3 0 :: aN 6 (.box 4 0 :: aN 70 [.con abq, .con tI, .var tI]), [.cells [.con tI, .con tI, .con abo, .con f6, .con abq, .con wi, .con f6], .cells [.con tI, .con tI, .con abo, .con f6, .con abq, .con wi, .con f6], .cells [.omp 5], .cells [.omp 6], .cells [.con tI, .con tI, .own 7, .own 8, .own 9, .nils, .con f6], .mapc tI .bool, .mapc tI .bool, .rowc ach, .rowc ab6, .rowv adJ]⟩, exits := [(.exit 8, ⟨130, .any :: .any :: .any :: .box 0 0 :: .any :: .any :: .box 1 0 :: .box 2 0 :: .box 3 0 :: aN 6 (.box 4 0 :: aN 70 [.con abq, .con tI]), [.cells [.con tI, .con tI, .con abo, .con f6, .con abq, .con wi, .con f6], .cells [.con tI, .con tI, .con abo, .con f6, .con abq, .con wi, .con f6], .cells [.omp 5], .cells [.omp 6], .cells [.con tI, .con tI, .own 7, .own 8, .own 9, .nils, .con f6], .mapc tI .bool, .mapc tI .bool, .rowc ach, .rowc ab6, .rowv adJ]⟩, [abq])] }
noncomputable def akJ (ρ : Type) : acJ ρ := ⟨[], 79, 8, aIw, fun (p : Val (.pair abq (.pair tI (.pair tI (.pair tI (.pair abo (.pair f6 (.pair abq (.pair wi (.pair f6 (.pair tI (.pair tI (.pair abo (.pair f6 (.pair abq (.pair wi (.pair f6 (.pair tI (.pair tI (.pair f6 (.pair abv (.pair abv (.pair abo f6))))))))))))))))))))))) (v : Val (.pair tI abq)) kn kx => alX p.1 p.2.1 p.2.2.2.2.2.2.2.2.2.2.2.2.2.2.2.2.2.2.2.1 v.1 v.2 (fun u0 u1 => kn (u0, u1)) (kx 0)⟩
noncomputable def aIv : acf := { pin := 0, cs := [wi, tI, tI, tI, abo, f6, abq, wi, f6, tI, tI, f6, abv, abo, f6, abq], vs := [tI, wi], head := ⟨130, aN 6 (.box 0 0 :: .any :: .box 1 0 :: aN 6 (.box 2 0 :: aN 88 [.con wi, .con tI, .var tI])), [.cells [.con tI, .con tI, .con abo, .con f6, .con abq, .con wi, .con f6], .cells [.omp 3], .cells [.con tI, .con tI, .own 4, .own 5, .own 6, .own 7, .con f6], .mapc tI .bool, .rowc ach, .rowc ab6, .rowc adJ, .rowv acd]⟩, exits := [(.exit 10, ⟨130, aN 6 (.box 0 0 :: .any :: .box 1 0 :: aN 6 (.box 2 0 :: aN 88 [.con wi, .con tI])), [.cells [.con tI, .con tI, .con abo, .con f6, .con abq, .con wi, .con f6], .cells [.omp 3], .cells [.con tI, .con tI, .own 4, .own 5, .own 6, .own 7, .con f6], .mapc tI .bool, .rowc ach, .rowc ab6, .rowc adJ, .rowv acd]⟩, [wi])] }
noncomputable def akI (ρ : Type) : acJ ρ := ⟨[], 79, 10, aIv, fun (p : Val (.pair wi (.pair tI (.pair tI (.pair tI (.pair abo (.pair f6 (.pair abq (.pair wi (.pair f6 (.pair tI (.pair tI (.pair f6 (.pair abv (.pair abo (.pair f6 abq)))))))))))))))) (v : Val (.pair tI wi)) kn kx => alW p.1 p.2.1 p.2.2.2.2.2.2.2.2.2.2.2.2.1 v.1 v.2 (fun u0 u1 => kn (u0, u1)) (kx 0)⟩
noncomputable def avB : List (Nat × acC) := [(94, aeb)]
noncomputable def arT (ρ : Type) : List (acJ ρ) := [aw2 ρ, aw3 ρ, aw1 ρ, akK ρ, akJ ρ, akI ρ]
noncomputable def aeI (ρ : Type) : Env ρ := acE avB (arT ρ)
noncomputable def alV : Tpl := ⟨130, .any :: .any :: .any :: .box 0 0 :: .any :: .any :: .box 1 0 :: .box 2 0 :: .box 3 0 :: aN 6 (.box 4 0 :: aN 43 [.fn 218 [(5, 0), (6, 0)]]), [.cells [.var tI, .var tI, .var abo, .var f6, .var abq, .var wi, .var f6], .cells [.var tI, .var tI, .var abo, .var f6, .var abq, .var wi, .var f6], .cells [.omp 7], .cells [.omp 8], .cells [.con tI, .con tI, .own 9, .nils, .nils, .nils, .con f6], .cells [.var tI, .var tI, .var abo, .var f6, .var abq, .var wi, .var f6], .cells [.omp 7], .mapv tI .bool, .mapv tI .bool, .rowv ach]⟩
noncomputable def azS : Tpl := ⟨130, .any :: .any :: .any :: .box 0 0 :: .any :: .any :: .box 1 0 :: .box 2 0 :: .box 3 0 :: aN 6 (.box 4 0 :: .box 10 0 :: aN 42 [.fn 218 [(5, 0), (6, 0)]]), [.cells [.var tI, .var tI, .var abo, .var f6, .var abq, .var wi, .var f6], .cells [.var tI, .var tI, .var abo, .var f6, .var abq, .var wi, .var f6], .cells [.omp 7], .cells [.omp 8], .cells [.con tI, .con tI, .own 9, .nils, .nils, .nils, .con f6], .cells [.var tI, .var tI, .var abo, .var f6, .var abq, .var wi, .var f6], .cells [.omp 7], .mapv tI .bool, .mapv tI .bool, .rowv ach, .cells [.var tI, .var tI, .var tI, .var tI, .var tI, .var tI, .var tI, .var tI]]⟩
noncomputable def akG (ρ : Type) : List (acJ ρ) := [akK ρ, akJ ρ, akI ρ]
noncomputable def adm (ρ : Type) : Env ρ := { acE avB (akG ρ) with inl := fun _ => false }
noncomputable def aj6 : Tpl := ⟨130, aN 6 [.box 0 0], [.cells [.var tI, .var tI, .var abo, .var f6, .var abq, .var wi, .var f6]]⟩
abbrev ago : List Ty := [tI, tI, abo, f6, abq, wi, f6]
noncomputable def ag4 (y : Val ab9) : Val abu := (y.1.1, y.1.2, y.2.1, y.2.2.1, y.2.2.2.1, y.2.2.2.2.1, y.2.2.2.2.2)
noncomputable def adr : Code := (ak6 Tryz.prog 79).getD .skip
abbrev afT : List Ty := [tI, tI, f6]
abbrev ah7 : List Ty := [tI, tI, abo, f6, abq, wi, f6, tI, tI, abo, f6, abq, wi, f6, tI, tI, abo, f6, abq, wi, f6, abv, abv, abo]
abbrev apZ : List Ty := [tI, tI, abo, f6, abq, wi, f6, tI, tI, abo, f6, abq, wi, f6, tI, tI, abo, f6, abq, wi, f6, abv, abv, abo, tI, tI, tI, tI, tI, tI, tI, tI]
abbrev acL (v : Val abr) : List (Val ach) := v.2.2.2.2.2.2.2.2.2.2.2.2.2.2.2.2.1
abbrev aec (v : Val abr) : List (Int × Bool) := v.2.2.2.2.2.2.2.2.2.2.2.2.2.2.2.2.2.2.2.2.2.1
abbrev amR (v : Val abr) : List (Val ach) := v.2.2.2.2.2.2.2.2.2.2.2.2.2.2.2.2.2.2.2.2.2.2.2
noncomputable def adq (v : Val abr) (z : List (Val ach)) : Val abr := (v.1, v.2.1, v.2.2.1, v.2.2.2.1, v.2.2.2.2.1, v.2.2.2.2.2.1, v.2.2.2.2.2.2.1, v.2.2.2.2.2.2.2.1, v.2.2.2.2.2.2.2.2.1, v.2.2.2.2.2.2.2.2.2.1, v.2.2.2.2.2.2.2.2.2.2.1, v.2.2.2.2.2.2.2.2.2.2.2.1, v.2.2.2.2.2.2.2.2.2.2.2.2.1, v.2.2.2.2.2.2.2.2.2.2.2.2.2.1, v.2.2.2.2.2.2.2.2.2.2.2.2.2.2.1, v.2.2.2.2.2.2.2.2.2.2.2.2.2.2.2.1, v.2.2.2.2.2.2.2.2.2.2.2.2.2.2.2.2.1, v.2.2.2.2.2.2.2.2.2.2.2.2.2.2.2.2.2.1, v.2.2.2.2.2.2.2.2.2.2.2.2.2.2.2.2.2.2.1, v.2.2.2.2.2.2.2.2.2.2.2.2.2.2.2.2.2.2.2.1, v.2.2.2.2.2.2.2.2.2.2.2.2.2.2.2.2.2.2.2.2.1, v.2.2.2.2.2.2.2.2.2.2.2.2.2.2.2.2.2.2.2.2.2.1, v.2.2.2.2.2.2.2.2.2.2.2.2.2.2.2.2.2.2.2.2.2.2.1, z)
noncomputable def arU (v : Val abr) (x : Val ach) : Val (.pair tI (.pair tI (.pair abo (.pair f6 (.pair abq (.pair wi (.pair f6 (.pair tI (.pair tI (.pair abo (.pair f6 (.pair abq (.pair wi (.pair f6 (.pair tI (.pair tI (.pair abo (.pair f6 (.pair abq (.pair wi (.pair f6 (.pair abv (.pair abv (.pair abo abA)))))))))))))))))))))))) := (v.1, v.2.1, v.2.2.1, v.2.2.2.1, v.2.2.2.2.1, v.2.2.2.2.2.1, v.2.2.2.2.2.2.1, v.2.2.2.2.2.2.2.1, v.2.2.2.2.2.2.2.2.1, v.2.2.2.2.2.2.2.2.2.1, v.2.2.2.2.2.2.2.2.2.2.1, v.2.2.2.2.2.2.2.2.2.2.2.1, v.2.2.2.2.2.2.2.2.2.2.2.2.1, v.2.2.2.2.2.2.2.2.2.2.2.2.2.1, v.2.2.2.2.2.2.2.2.2.2.2.2.2.2.1, v.2.2.2.2.2.2.2.2.2.2.2.2.2.2.2.1, v.2.2.2.2.2.2.2.2.2.2.2.2.2.2.2.2.1, v.2.2.2.2.2.2.2.2.2.2.2.2.2.2.2.2.2.1, v.2.2.2.2.2.2.2.2.2.2.2.2.2.2.2.2.2.2.1, v.2.2.2.2.2.2.2.2.2.2.2.2.2.2.2.2.2.2.2.1, v.2.2.2.2.2.2.2.2.2.2.2.2.2.2.2.2.2.2.2.2.1, v.2.2.2.2.2.2.2.2.2.2.2.2.2.2.2.2.2.2.2.2.2.1, v.2.2.2.2.2.2.2.2.2.2.2.2.2.2.2.2.2.2.2.2.2.2.1, v.2.2.2.2.2.2.2.2.2.2.2.2.2.2.2.2.2.2.2.2.2.2.2, x.1, x.2.1, x.2.2.1, x.2.2.2.1.1, x.2.2.2.1.2, x.2.2.2.2.1.1, x.2.2.2.2.1.2, x.2.2.2.2.2)
end Go.Proofs.ZzM
end

noncomputable section
set_option maxRecDepth 100000
namespace Go.Proofs.ZzM
open Go Go.Am
def avj : acC := ⟨[acd], [.bool], fun (x : Val acd) => aml x⟩
def aFo : List (Nat × acC) := []
def aqL (ρ : Type) : List (acJ ρ) := []
def awW (ρ : Type) : Env ρ := acE aFo (aqL ρ)
def aMn : acC := ⟨[ab9], [.bool], fun (x : Val ab9) => ayQ x⟩
def aFm : acf := { pin := 0, cs := [tI, tI, abo, f6, abq, wi, f6], vs := [tI], head := ⟨50, [.any, .box 0 0, .any, .var tI], [.cells [.con tI, .con tI, .con abo, .con f6, .con abq, .con wi, .con f6]]⟩, exits := [(.ret, ⟨50, [.any, .box 0 0, .var .bool], [.cells [.con tI, .con tI, .con abo, .con f6, .con abq, .con wi, .con f6]]⟩, [.bool]), (.exit 0, ⟨50, [.any, .box 0 0], [.cells [.con tI, .con tI, .con abo, .con f6, .con abq, .con wi, .con f6]]⟩, [])] }
def as6 (ρ : Type) : acJ ρ := ⟨[], 13, 0, aFm, fun (p : Val abu) (v : Val tI) kn kx => amH p.2.2.2.2.2.1 v (fun u0 => kn u0) (kx 0) (kx 1)⟩
def aKQ : List (Nat × acC) := [(29, avj)]
def awV (ρ : Type) : List (acJ ρ) := [as6 ρ]
def avp (ρ : Type) : Env ρ := acE aKQ (awV ρ)
def aMr : acC := ⟨[ab9, ach, tI, tI], [tI], fun (x : Val (.pair ab9 (.pair ach ab6))) => aqd x.1 x.2.1 x.2.2.1 x.2.2.2⟩
def aGk : acf := { pin := 0, cs := [tI, tI, abq, tI, tI, tI, abo, f6, abq, wi, f6, tI, tI, tI, tI, tI, tI, tI, tI], vs := [tI, tI], head := ⟨88, .any :: .any :: .con tI :: .con tI :: .box 0 0 :: .box 1 0 :: .any :: .any :: .any :: .var tI :: aN 7 [.con abq, .con tI, .var tI], [.cells [.con tI, .con tI, .con abo, .con f6, .con abq, .con wi, .con f6], .cells [.con tI, .con tI, .con tI, .con tI, .con tI, .con tI, .con tI, .con tI]]⟩, exits := [(.exit 0, ⟨88, .any :: .any :: .con tI :: .con tI :: .box 0 0 :: .box 1 0 :: .any :: .any :: .any :: .var tI :: aN 7 [.con abq, .con tI], [.cells [.con tI, .con tI, .con abo, .con f6, .con abq, .con wi, .con f6], .cells [.con tI, .con tI, .con tI, .con tI, .con tI, .con tI, .con tI, .con tI]]⟩, [tI])] }
def auk (ρ : Type) : acJ ρ := ⟨[], 54, 0, aGk, fun (p : Val (.pair tI (.pair tI (.pair abq abO)))) (v : Val ab6) kn kx => ane p.1 p.2.1 p.2.2.1 p.2.2.2.1 p.2.2.2.2.2.2.2.2.2.2.2.1 v.1 v.2 (fun u0 u1 => kn (u0, u1)) (kx 0)⟩
def aGj : acf := { pin := 0, cs := [tI, tI, tI, f6, tI, tI, tI, tI, tI, tI, tI, tI, tI], vs := [tI, abp], head := ⟨88, .any :: .any :: .con tI :: .con tI :: .any :: .box 0 0 :: .any :: .any :: .any :: .con tI :: .any :: .any :: .any :: .own 1 :: aN 39 [.con f6, .con tI, .var tI], [.cells [.con tI, .con tI, .con tI, .con tI, .con tI, .con tI, .con tI, .con tI], .rowv tI]⟩, exits := [(.exit 2, ⟨88, .any :: .any :: .con tI :: .con tI :: .any :: .box 0 0 :: .any :: .any :: .any :: .con tI :: .any :: .any :: .any :: .own 1 :: aN 39 [.con f6, .con tI], [.cells [.con tI, .con tI, .con tI, .con tI, .con tI, .con tI, .con tI, .con tI], .rowv tI]⟩, [abp])] }
def auj (ρ : Type) : acJ ρ := ⟨[], 54, 2, aGj, fun (p : Val (.pair tI (.pair tI (.pair tI (.pair f6 (.pair tI abA)))))) (v : Val abD) kn kx => anc p.1 p.2.1 p.2.2.2.1 p.2.2.2.2.1 p.2.2.2.2.2.1 v.1 v.2 (fun u0 u1 => kn (u0, u1)) (kx 0)⟩
def aLf : List (Nat × acC) := [(126, agY)]
def axm (ρ : Type) : List (acJ ρ) := [auk ρ, auj ρ]
def ap4 (ρ : Type) : Env ρ := acE aLf (axm ρ)
def aeC : acC := ⟨[f6, ab6], [tI], fun (x : Val abY) => acR x.1 x.2⟩
def ahJ : acf := { pin := 0, cs := [f6, tI, tI, tI], vs := [tI], head := ⟨19, [.con f6, .any, .any, .box 0 0, .any, .any, .any, .con tI, .var tI], [.cells [.con tI, .con tI]]⟩, exits := [(.ret, ⟨19, [.con f6, .any, .any, .box 0 0, .var tI, .any, .any, .con tI], [.cells [.con tI, .con tI]]⟩, [tI]), (.exit 0, ⟨19, [.con f6, .any, .any, .box 0 0, .any, .any, .any, .con tI], [.cells [.con tI, .con tI]]⟩, [])] }
def afe (ρ : Type) : acJ ρ := ⟨[], 130, 0, ahJ, fun (p : Val (.pair f6 ac8)) (v : Val tI) kn kx => adv p.1 p.2.1 p.2.2.1 p.2.2.2 v (fun u0 => kn u0) (kx 0) (kx 1)⟩
def aiD : List (Nat × acC) := []
def afo (ρ : Type) : List (acJ ρ) := [afe ρ]
def aeg (ρ : Type) : Env ρ := acE aiD (afo ρ)
def aoy : acC := ⟨[abX, abp, tI], [tI], fun (x : Val (.pair abX abJ)) => afD x.1 x.2.1 x.2.2⟩
def aAP : List (Nat × acC) := [(130, aeC)]
def an7 (ρ : Type) : List (acJ ρ) := []
def ara (ρ : Type) : Env ρ := acE aAP (an7 ρ)
def anM : acC := ⟨[aby, abp], [ab6], fun (x : Val (.pair aby abp)) => afS x.1 x.2⟩
def ar8 : List (Nat × acC) := []
def aje (ρ : Type) : List (acJ ρ) := []
def akV (ρ : Type) : Env ρ := acE ar8 (aje ρ)
def alM : acC := ⟨[f6], [tI], fun (x : Val f6) => agF x⟩
def aCU : acf := { pin := 0, cs := [f6, tI], vs := [tI], head := ⟨15, aN 5 [.con f6, .con tI, .var tI], []⟩, exits := [(.ret, ⟨15, [.any, .any, .var tI, .any, .any, .con f6, .con tI], []⟩, [tI]), (.exit 0, ⟨15, aN 5 [.con f6, .con tI], []⟩, [])] }
def aq6 (ρ : Type) : acJ ρ := ⟨[], 227, 0, aCU, fun (p : Val (.pair f6 tI)) (v : Val tI) kn kx => akT p.1 p.2 v (fun u0 => kn u0) (kx 0) (kx 1)⟩
def aIN : List (Nat × acC) := [(219, asQ)]
def atY (ρ : Type) : List (acJ ρ) := [aq6 ρ]
def ar4 (ρ : Type) : Env ρ := acE aIN (atY ρ)
def arA : acC := ⟨[tI, tI], [ab6, tI], fun (x : Val ab6) => aki x.1 x.2⟩
def aCV : List (Nat × acC) := [(259, aE6), (260, aKH)]
def ao6 (ρ : Type) : List (acJ ρ) := []
def atZ (ρ : Type) : Env ρ := acE aCV (ao6 ρ)
def aPa : acC := ⟨[ab6, ab6], [ab6, tI], fun (x : Val acZ) => aGU x.1 x.2⟩
def aNU : List (Nat × acC) := [(227, alM), (277, arA)]
def aAB (ρ : Type) : List (acJ ρ) := []
def aIT (ρ : Type) : Env ρ := acE aNU (aAB ρ)
def asS : acC := ⟨[ab6, ab6], [ab6], fun (x : Val acZ) => anw x.1 x.2⟩
def ayi : List (Nat × acC) := [(262, aPa)]
def amb (ρ : Type) : List (acJ ρ) := []
def ao9 (ρ : Type) : Env ρ := acE ayi (amb ρ)
def aKI : acC := ⟨[ab6, ab6], [tI], fun (x : Val acZ) => aBr x.1 x.2⟩
def aNT : List (Nat × acC) := []
def aAy (ρ : Type) : List (acJ ρ) := []
def aIR (ρ : Type) : Env ρ := acE aNT (aAy ρ)
def aqI : acC := ⟨[acZ], [.bool], fun (x : Val acZ) => alB x⟩
def avZ : List (Nat × acC) := [(227, alM), (287, aKI)]
def akU (ρ : Type) : List (acJ ρ) := []
def an4 (ρ : Type) : Env ρ := acE avZ (akU ρ)
def aPb : acC := ⟨[ab6, ab6], [ab6, tI], fun (x : Val acZ) => aBt x.1 x.2⟩
def aNV : List (Nat × acC) := [(227, alM), (277, arA)]
def aAD (ρ : Type) : List (acJ ρ) := []
def aIV (ρ : Type) : Env ρ := acE aNV (aAD ρ)
def aH3 : acC := ⟨[acZ, ab6], [acZ, tI], fun (x : Val (.pair acZ ab6)) => aBs x.1 x.2⟩
def axh : List (Nat × acC) := [(219, asQ), (278, aqI), (281, aPb), (287, aKI)]
def am4 (ρ : Type) : List (acJ ρ) := []
def axg : List aQ9 := [⟨[3, 2], 279, 0, 4⟩]
def aIU (ρ : Type) : Env ρ := acE axh (am4 ρ)
def ar6 (ρ : Type) : Env ρ := aSJ axh (am4 ρ) axg
def asR : acC := ⟨[ab6, ab6], [acZ], fun (x : Val acZ) => ajx x.1 x.2⟩
def ayh : List (Nat × acC) := [(263, aH3)]
def ama (ρ : Type) : List (acJ ρ) := []
def ao8 (ρ : Type) : Env ρ := acE ayh (ama ρ)
def avm : acC := ⟨[ab9, acd], [acZ], fun (x : Val abK) => ajM x.1 x.2⟩
def aGs : List (Nat × acC) := [(53, arB), (88, apX), (224, anM), (225, asS), (226, asR)]
def ard (ρ : Type) : List (acJ ρ) := []
def axp (ρ : Type) : Env ρ := acE aGs (ard ρ)
def azv : acC := ⟨[ab9, acd], [ab6], fun (x : Val abK) => ams x.1 x.2⟩
def aI6 : List (Nat × acC) := []
def aup (ρ : Type) : List (acJ ρ) := []
def aAU (ρ : Type) : Env ρ := acE aI6 (aup ρ)
def azs : acC := ⟨[tI, tI], [tI], fun (x : Val ab6) => apB x.1 x.2⟩
def aIQ : List (Nat × acC) := []
def at0 (ρ : Type) : List (acJ ρ) := []
def aAw (ρ : Type) : Env ρ := acE aIQ (at0 ρ)
def aE7 : acC := ⟨[ab6], [tI, tI], fun (x : Val ab6) => auU x⟩
def aLc : List (Nat × acC) := [(227, alM), (228, azs)]
def axi (ρ : Type) : List (acJ ρ) := []
def aD8 (ρ : Type) : Env ρ := acE aLc (axi ρ)
def azt : acC := ⟨[ab6], [tI, tI], fun (x : Val ab6) => apC x⟩
def aIW : List (Nat × acC) := [(227, alM), (228, azs)]
def aua (ρ : Type) : List (acJ ρ) := []
def aAE (ρ : Type) : Env ρ := acE aIW (aua ρ)
def aE8 : acC := ⟨[ab9, acd], [ab6], fun (x : Val abK) => anv x.1 x.2⟩
def aLd : List (Nat × acC) := [(171, avm), (172, azv), (173, aE7), (174, azt)]
def axk (ρ : Type) : List (acJ ρ) := []
def aD9 (ρ : Type) : Env ρ := acE aLd (axk ρ)
def aE9 : acC := ⟨[ab9], [abX], fun (x : Val ab9) => auW x⟩
def aGg : acf := { pin := 2, cs := [tI, abp, tI, abo, tI, tI, tI, tI, abo, f6, abq, wi, f6, tI, tI, abo, f6, abq, wi, f6, f6, tI, tI, tI, tI, tI, tI, tI, tI, tI], vs := [tI, abt, f6], head := ⟨144, .box 1 0 :: .any :: .con tI :: .box 2 0 :: .con abp :: .con tI :: .var tI :: aN 24 [.con abo, .con tI, .con tI], [.cells [.con tI, .con tI, .con abo, .con f6, .con abq, .con wi, .con f6], .cells [.con tI, .con tI, .con abo, .con f6, .con abq, .con wi, .con f6, .con f6, .con tI, .own 3, .own 4], .cells [.con tI, .con tI, .con tI, .con tI, .con tI, .con tI, .con tI, .con tI], .rowv ac8, .rowv ab6]⟩, exits := [(.exit 2, ⟨144, .box 1 0 :: .any :: .con tI :: .box 2 0 :: .con abp :: .con tI :: aN 25 [.con abo, .con tI, .con tI], [.cells [.con tI, .con tI, .con abo, .con f6, .con abq, .con wi, .con f6], .cells [.con tI, .con tI, .con abo, .con f6, .con abq, .con wi, .con f6, .con f6, .con tI, .own 3, .own 4], .cells [.con tI, .con tI, .con tI, .con tI, .con tI, .con tI, .con tI, .con tI], .rowv ac8, .rowv ab6]⟩, [abt, f6])] }
def auh (ρ : Type) : acJ ρ := ⟨[2, 1], 132, 2, aGg, fun (p : Val (.pair tI (.pair abp (.pair tI (.pair abo (.pair tI (.pair tI (.pair tI (.pair tI (.pair abo (.pair f6 (.pair abq (.pair wi (.pair f6 (.pair tI (.pair tI (.pair abo (.pair f6 (.pair abq (.pair wi (.pair f6 (.pair f6 (.pair tI abA))))))))))))))))))))))) (v : Val (.pair tI asz)) kn kx => ana p.1 p.2.1 p.2.2.1 p.2.2.2.2.2.2.2.2.2.2.2.2.2.1 p.2.2.2.2.2.2.2.2.2.2.2.2.2.2.1 p.2.2.2.2.2.2.2.2.2.2.2.2.2.2.2.1 p.2.2.2.2.2.2.2.2.2.2.2.2.2.2.2.2.1 p.2.2.2.2.2.2.2.2.2.2.2.2.2.2.2.2.2.1 p.2.2.2.2.2.2.2.2.2.2.2.2.2.2.2.2.2.2.1 p.2.2.2.2.2.2.2.2.2.2.2.2.2.2.2.2.2.2.2.1 p.2.2.2.2.2.2.2.2.2.2.2.2.2.2.2.2.2.2.2.2.2.2.1 p.2.2.2.2.2.2.2.2.2.2.2.2.2.2.2.2.2.2.2.2.2.2.2.1 p.2.2.2.2.2.2.2.2.2.2.2.2.2.2.2.2.2.2.2.2.2.2.2.2.1 p.2.2.2.2.2.2.2.2.2.2.2.2.2.2.2.2.2.2.2.2.2.2.2.2.2.1 p.2.2.2.2.2.2.2.2.2.2.2.2.2.2.2.2.2.2.2.2.2.2.2.2.2.2.1 p.2.2.2.2.2.2.2.2.2.2.2.2.2.2.2.2.2.2.2.2.2.2.2.2.2.2.2.1 p.2.2.2.2.2.2.2.2.2.2.2.2.2.2.2.2.2.2.2.2.2.2.2.2.2.2.2.2.1 p.2.2.2.2.2.2.2.2.2.2.2.2.2.2.2.2.2.2.2.2.2.2.2.2.2.2.2.2.2 v.1 v.2.1 v.2.2 (fun u0 u1 u2 => kn (u0, u1, u2)) (kx 0)⟩
def aGh : acf := { pin := 2, cs := [abo, tI, tI, tI, abo, f6, abq, wi, f6, tI, tI, abo, f6, abq, wi, f6, f6, tI], vs := [tI, abt, f6], head := ⟨144, .box 1 0 :: aN 30 [.con abo, .con tI, .var tI], [.cells [.con tI, .con tI, .con abo, .con f6, .con abq, .con wi, .con f6], .cells [.con tI, .con tI, .con abo, .con f6, .con abq, .con wi, .con f6, .con f6, .con tI, .own 2, .own 3], .rowv ac8, .rowv ab6]⟩, exits := [(.exit 0, ⟨144, .box 1 0 :: aN 30 [.con abo, .con tI], [.cells [.con tI, .con tI, .con abo, .con f6, .con abq, .con wi, .con f6], .cells [.con tI, .con tI, .con abo, .con f6, .con abq, .con wi, .con f6, .con f6, .con tI, .own 2, .own 3], .rowv ac8, .rowv ab6]⟩, [abt, f6])] }
def aui (ρ : Type) : acJ ρ := ⟨[2, 1], 132, 0, aGh, fun (p : Val (.pair abo (.pair tI (.pair tI (.pair tI (.pair abo (.pair f6 (.pair abq (.pair wi (.pair f6 (.pair tI (.pair tI (.pair abo (.pair f6 (.pair abq (.pair wi (.pair f6 (.pair f6 tI)))))))))))))))))) (v : Val (.pair tI asz)) kn kx => anb p.1 p.2.1 p.2.2.2.2.2.2.2.2.2.1 p.2.2.2.2.2.2.2.2.2.2.1 p.2.2.2.2.2.2.2.2.2.2.2.1 p.2.2.2.2.2.2.2.2.2.2.2.2.1 p.2.2.2.2.2.2.2.2.2.2.2.2.2.1 p.2.2.2.2.2.2.2.2.2.2.2.2.2.2.1 p.2.2.2.2.2.2.2.2.2.2.2.2.2.2.2.1 p.2.2.2.2.2.2.2.2.2.2.2.2.2.2.2.2.1 p.2.2.2.2.2.2.2.2.2.2.2.2.2.2.2.2.2 v.1 v.2.1 v.2.2 (fun u0 u1 u2 => kn (u0, u1, u2)) (kx 0)⟩
def aGf : acf := { pin := 2, cs := [wi, tI, tI, tI, abo, f6, abq, wi, f6, tI, tI, abo, f6, abq, wi, f6, f6, tI], vs := [tI, abt, f6], head := ⟨144, .box 1 0 :: aN 107 [.con wi, .con tI, .var tI], [.cells [.con tI, .con tI, .con abo, .con f6, .con abq, .con wi, .con f6], .cells [.con tI, .con tI, .con abo, .con f6, .con abq, .con wi, .con f6, .con f6, .con tI, .own 2, .own 3], .rowv ac8, .rowv ab6]⟩, exits := [(.exit 4, ⟨144, .box 1 0 :: aN 107 [.con wi, .con tI], [.cells [.con tI, .con tI, .con abo, .con f6, .con abq, .con wi, .con f6], .cells [.con tI, .con tI, .con abo, .con f6, .con abq, .con wi, .con f6, .con f6, .con tI, .own 2, .own 3], .rowv ac8, .rowv ab6]⟩, [abt, f6])] }
def aug (ρ : Type) : acJ ρ := ⟨[2, 1], 132, 4, aGf, fun (p : Val (.pair wi (.pair tI (.pair tI (.pair tI (.pair abo (.pair f6 (.pair abq (.pair wi (.pair f6 (.pair tI (.pair tI (.pair abo (.pair f6 (.pair abq (.pair wi (.pair f6 (.pair f6 tI)))))))))))))))))) (v : Val (.pair tI asz)) kn kx => am9 p.1 p.2.1 p.2.2.2.2.2.2.2.2.2.1 p.2.2.2.2.2.2.2.2.2.2.1 p.2.2.2.2.2.2.2.2.2.2.2.1 p.2.2.2.2.2.2.2.2.2.2.2.2.1 p.2.2.2.2.2.2.2.2.2.2.2.2.2.1 p.2.2.2.2.2.2.2.2.2.2.2.2.2.2.1 p.2.2.2.2.2.2.2.2.2.2.2.2.2.2.2.1 p.2.2.2.2.2.2.2.2.2.2.2.2.2.2.2.2.1 p.2.2.2.2.2.2.2.2.2.2.2.2.2.2.2.2.2 v.1 v.2.1 v.2.2 (fun u0 u1 u2 => kn (u0, u1, u2)) (kx 0)⟩
def aLe : List (Nat × acC) := [(54, aMr), (85, asT), (87, aoy), (88, apX), (168, aFa), (200, aE8)]
def axl (ρ : Type) : List (acJ ρ) := [auh ρ, aui ρ, aug ρ]
def amc (ρ : Type) : Env ρ := acE aLe (axl ρ)
def aeu : acC := ⟨[ab9], [aci, f6, tI], fun (x : Val ab9) => adw x⟩
def aGB : List (Nat × acC) := [(38, ael), (62, aE9)]
def arf (ρ : Type) : List (acJ ρ) := []
def axt (ρ : Type) : Env ρ := acE aGB (arf ρ)
def af9 : acC := ⟨[ab9, ab6], [tI, tI], fun (x : Val abU) => ady x.1 x.2⟩
def aJc : List (Nat × acC) := [(38, ael), (85, asT), (130, aeC)]
def auA (ρ : Type) : List (acJ ρ) := []
def aAX (ρ : Type) : Env ρ := acE aJc (auA ρ)
def agM : acC := ⟨[abB, ab6], [tI], fun (x : Val abR) => afa x.1 x.2⟩
def aCj : List (Nat × acC) := [(60, af9)]
def aoL (ρ : Type) : List (acJ ρ) := []
def ate (ρ : Type) : Env ρ := acE aCj (aoL ρ)
def ayC : acC := ⟨[aci, tI], [.bool], fun (x : Val (.pair aci tI)) => ak3 x.1 x.2⟩
def aKY : List (Nat × acC) := []
def aw7 (ρ : Type) : List (acJ ρ) := []
def aD2 (ρ : Type) : Env ρ := acE aKY (aw7 ρ)
def alL : acC := ⟨[aci], [tI, tI], fun (x : Val aci) => aiT x⟩
def aCQ : acf := { pin := 0, cs := [abt, tI, tI, abt], vs := [tI], head := ⟨57, .any :: .box 0 0 :: aN 17 [.con abt, .con tI, .var tI], [.cells [.con tI, .con abt]]⟩, exits := [(.ret, ⟨57, .any :: .box 0 0 :: .var tI :: .var tI :: aN 15 [.con abt, .con tI], [.cells [.con tI, .con abt]]⟩, [tI, tI]), (.exit 0, ⟨57, .any :: .box 0 0 :: aN 17 [.con abt, .con tI], [.cells [.con tI, .con abt]]⟩, [])] }
def aq2 (ρ : Type) : acJ ρ := ⟨[], 133, 0, aCQ, fun (p : Val (.pair abt abM)) (v : Val tI) kn kx => akO p.1 p.2.1 p.2.2.1 p.2.2.2 v (fun u0 => kn u0) (kx 0) (kx 1)⟩
def aIK : List (Nat × acC) := [(134, ayC)]
def atT (ρ : Type) : List (acJ ρ) := [aq2 ρ]
def ar2 (ρ : Type) : Env ρ := acE aIK (atT ρ)
def akv : acC := ⟨[aci, abv], [abp, .bool], fun (x : Val (.pair aci abv)) => ag8 x.1 x.2⟩
def avS : acf := { pin := 2, cs := [abv, abt, tI, tI, abt, abp, tI, abt, abC, abp], vs := [tI, tI], head := ⟨140, .any :: .con abv :: .own 1 :: .box 2 0 :: .any :: .any :: .any :: .box 3 0 :: .own 4 :: .own 5 :: .var tI :: aN 14 [.con abt, .con tI, .var tI], [.cells [.con tI, .con abt], .rowc tI, .cells [.con tI, .con abt], .cells [.nils], .rowc .bool, .rowc tI]⟩, exits := [(.exit 0, ⟨140, .any :: .con abv :: .own 1 :: .box 2 0 :: .any :: .any :: .any :: .box 3 0 :: .own 4 :: .own 5 :: .var tI :: aN 14 [.con abt, .con tI], [.cells [.con tI, .con abt], .rowc tI, .cells [.con tI, .con abt], .cells [.nils], .rowc .bool, .rowc tI]⟩, [tI])] }
def al9 (ρ : Type) : acJ ρ := ⟨[2, 3], 136, 0, avS, fun (p : Val (.pair abv (.pair abt (.pair tI (.pair tI (.pair abt (.pair abp (.pair tI (.pair abt abL))))))))) (v : Val ab6) kn kx => afr p.2.1 p.2.2.1 v.1 v.2 (fun u0 u1 => kn (u0, u1)) (kx 0)⟩
def avR : acf := { pin := 2, cs := [abv, tI, tI, tI, abt, abp, tI, abt, abp], vs := [tI, abC, abp], head := ⟨140, .any :: .con abv :: .own 1 :: .box 2 0 :: .any :: .any :: .any :: .box 3 0 :: .own 4 :: .own 5 :: .con tI :: aN 27 [.con tI, .var tI], [.cells [.con tI, .con abt], .rowc tI, .cells [.con tI, .con abt], .cells [.own 6], .rowv .bool, .rowc tI, .rowv tI]⟩, exits := [(.exit 2, ⟨140, .any :: .con abv :: .own 1 :: .box 2 0 :: .any :: .any :: .any :: .box 3 0 :: .own 4 :: .own 5 :: .con tI :: aN 27 [.con tI], [.cells [.con tI, .con abt], .rowc tI, .cells [.con tI, .con abt], .cells [.own 6], .rowv .bool, .rowc tI, .rowv tI]⟩, [abC, abp])] }
def al8 (ρ : Type) : acJ ρ := ⟨[2, 3], 136, 2, avR, fun (p : Val (.pair abv (.pair tI (.pair tI (.pair tI (.pair abt (.pair abp (.pair tI (.pair abt abp))))))))) (v : Val (.pair tI abL)) kn kx => ad7 p.2.2.1 p.2.2.2.2.2.1 v.1 v.2.1 v.2.2 (fun u0 u1 u2 => kn (u0, u1, u2)) (kx 0)⟩
def avP : acf := { pin := 2, cs := [abv, tI, tI, abt, tI, tI, abt, tI, abt, abp], vs := [tI, abp, abC, abp], head := ⟨140, .any :: .con abv :: .own 1 :: .box 2 0 :: .any :: .any :: .any :: .box 3 0 :: .own 4 :: .own 5 :: .con tI :: .any :: .any :: .any :: .con tI :: aN 62 [.con abt, .con tI, .var tI], [.cells [.con tI, .con abt], .rowv tI, .cells [.con tI, .con abt], .cells [.own 6], .rowv .bool, .rowc tI, .rowv tI]⟩, exits := [(.ret, ⟨140, .any :: .con abv :: .own 1 :: .box 2 0 :: .any :: .any :: .var .bool :: .box 3 0 :: .own 4 :: .own 5 :: .con tI :: .any :: .any :: .any :: .con tI :: aN 62 [.con abt, .con tI], [.cells [.con tI, .con abt], .rowv tI, .cells [.con tI, .con abt], .cells [.own 6], .rowv .bool, .rowc tI, .rowv tI]⟩, [.bool, abp, abC, abp]), (.exit 6, ⟨140, .any :: .con abv :: .own 1 :: .box 2 0 :: .any :: .any :: .any :: .box 3 0 :: .own 4 :: .own 5 :: .con tI :: .any :: .any :: .any :: .con tI :: aN 62 [.con abt, .con tI], [.cells [.con tI, .con abt], .rowv tI, .cells [.con tI, .con abt], .cells [.own 6], .rowv .bool, .rowc tI, .rowv tI]⟩, [abp, abC, abp])] }
def al6 (ρ : Type) : acJ ρ := ⟨[2, 3], 136, 6, avP, fun (p : Val (.pair abv (.pair tI (.pair tI (.pair abt (.pair tI (.pair tI (.pair abt (.pair tI (.pair abt abp)))))))))) (v : Val (.pair tI ab0)) kn kx => agb p.1 p.2.1 p.2.2.1 p.2.2.2.1 p.2.2.2.2.1 v.1 v.2.1 v.2.2.1 v.2.2.2 (fun u0 u1 u2 u3 => kn (u0, u1, u2, u3)) (kx 0) (kx 1)⟩
def avQ : acf := { pin := 2, cs := [abv, tI, tI, abt, tI, abt], vs := [abp, abC, abp, abp], head := ⟨140, [.any, .con abv, .own 1, .box 2 0, .any, .any, .any, .box 3 0, .own 4, .own 5, .con tI], [.cells [.con tI, .con abt], .rowv tI, .cells [.con tI, .con abt], .cells [.own 6], .rowv .bool, .rowv tI, .rowv tI]⟩, exits := [(.ret, ⟨140, [.any, .con abv, .own 1, .box 2 0, .any, .any, .var .bool, .box 3 0, .own 4, .own 5, .con tI], [.cells [.con tI, .con abt], .rowv tI, .cells [.con tI, .con abt], .cells [.own 6], .rowv .bool, .rowv tI, .rowv tI]⟩, [.bool, abp, abC, abp, abp])] }
def al7 (ρ : Type) : acJ ρ := ⟨[2, 3], 136, 4, avQ, fun (p : Val (.pair abv (.pair tI (.pair tI (.pair abt aci))))) (v : Val abN) kn kx => adx p.1 p.2.1 p.2.2.2.2.1 p.2.2.2.2.2 v.1 v.2.1 v.2.2.1 v.2.2.2 (fun u0 u1 u2 u3 => kn (u0, u1, u2, u3)) (kx 0)⟩
def avO : acf := { pin := 0, cs := [tI, tI], vs := [tI, abp], head := ⟨34, aN 6 (.own 0 :: .con tI :: aN 13 [.con tI, .var tI]), [.rowv tI]⟩, exits := [(.exit 0, ⟨34, aN 6 (.own 0 :: .con tI :: aN 13 [.con tI]), [.rowv tI]⟩, [abp])] }
def al5 (ρ : Type) : acJ ρ := ⟨[], 135, 0, avO, fun (p : Val ab6) (v : Val abD) kn kx => aga p.1 p.2 v.1 v.2 (fun u0 u1 => kn (u0, u1)) (kx 0)⟩
def az3 : List (Nat × acC) := []
def anZ (ρ : Type) : List (acJ ρ) := [al9 ρ, al8 ρ, al6 ρ, al7 ρ, al5 ρ]
def ae6 (ρ : Type) : Env ρ := acE az3 (anZ ρ)
def aH0 : acC := ⟨[aci, abp], [tI], fun (x : Val ab1) => auT x.1 x.2⟩
def aCK : acf := { pin := 0, cs := [abp, tI, tI, abt], vs := [tI], head := ⟨37, .any :: .any :: .box 0 0 :: aN 16 [.con abp, .con tI, .var tI], [.cells [.con tI, .con abt]]⟩, exits := [(.ret, ⟨37, .any :: .any :: .box 0 0 :: .any :: .var tI :: aN 14 [.con abp, .con tI], [.cells [.con tI, .con abt]]⟩, [tI]), (.exit 0, ⟨37, .any :: .any :: .box 0 0 :: aN 16 [.con abp, .con tI], [.cells [.con tI, .con abt]]⟩, [])] }
def aqW (ρ : Type) : acJ ρ := ⟨[], 63, 0, aCK, fun (p : Val (.pair abp abM)) (v : Val tI) kn kx => akM p.1 p.2.1 p.2.2.1 p.2.2.2 v (fun u0 => kn u0) (kx 0) (kx 1)⟩
def aII : List (Nat × acC) := [(133, alL), (134, ayC), (135, akv)]
def atO (ρ : Type) : List (acJ ρ) := [aqW ρ]
def ar1 (ρ : Type) : Env ρ := acE aII (atO ρ)
def aDO : acC := ⟨[aci, abv, tI], [abp], fun (x : Val (.pair aci (.pair abv tI))) => aqc x.1 x.2.1 x.2.2⟩
def aAa : acf := { pin := 0, cs := [abv, tI, tI, tI, abt], vs := [tI, abp], head := ⟨29, .any :: .con abv :: .con tI :: .box 0 0 :: .any :: .any :: .any :: .own 1 :: aN 5 [.con tI, .var tI], [.cells [.con tI, .con abt], .rowv tI]⟩, exits := [(.exit 0, ⟨29, .any :: .con abv :: .con tI :: .box 0 0 :: .any :: .any :: .any :: .own 1 :: aN 5 [.con tI], [.cells [.con tI, .con abt], .rowv tI]⟩, [abp])] }
def ao5 (ρ : Type) : acJ ρ := ⟨[], 64, 0, aAa, fun (p : Val (.pair abv (.pair tI abM))) (v : Val abD) kn kx => ajr p.2.2.1 v.1 v.2 (fun u0 u1 => kn (u0, u1)) (kx 0)⟩
def az9 : acf := { pin := 2, cs := [abv, abt, tI, tI, abt, abp, tI, abt, abC, abp], vs := [tI, tI], head := ⟨140, .any :: .con abv :: .own 1 :: .box 2 0 :: .any :: .any :: .any :: .box 3 0 :: .own 4 :: .own 5 :: .var tI :: aN 14 [.con abt, .con tI, .var tI], [.cells [.con tI, .con abt], .rowc tI, .cells [.con tI, .con abt], .cells [.nils], .rowc .bool, .rowc tI]⟩, exits := [(.exit 0, ⟨140, .any :: .con abv :: .own 1 :: .box 2 0 :: .any :: .any :: .any :: .box 3 0 :: .own 4 :: .own 5 :: .var tI :: aN 14 [.con abt, .con tI], [.cells [.con tI, .con abt], .rowc tI, .cells [.con tI, .con abt], .cells [.nils], .rowc .bool, .rowc tI]⟩, [tI])] }
def ao4 (ρ : Type) : acJ ρ := ⟨[8, 3], 136, 0, az9, fun (p : Val (.pair abv (.pair abt (.pair tI (.pair tI (.pair abt (.pair abp (.pair tI (.pair abt abL))))))))) (v : Val ab6) kn kx => am3 p.2.1 p.2.2.1 v.1 v.2 (fun u0 u1 => kn (u0, u1)) (kx 0)⟩
def az8 : acf := { pin := 2, cs := [abv, tI, tI, tI, abt, abp, tI, abt, abp], vs := [tI, abC, abp], head := ⟨140, .any :: .con abv :: .own 1 :: .box 2 0 :: .any :: .any :: .any :: .box 3 0 :: .own 4 :: .own 5 :: .con tI :: aN 27 [.con tI, .var tI], [.cells [.con tI, .con abt], .rowc tI, .cells [.con tI, .con abt], .cells [.own 6], .rowv .bool, .rowc tI, .rowv tI]⟩, exits := [(.exit 2, ⟨140, .any :: .con abv :: .own 1 :: .box 2 0 :: .any :: .any :: .any :: .box 3 0 :: .own 4 :: .own 5 :: .con tI :: aN 27 [.con tI], [.cells [.con tI, .con abt], .rowc tI, .cells [.con tI, .con abt], .cells [.own 6], .rowv .bool, .rowc tI, .rowv tI]⟩, [abC, abp])] }
def ao3 (ρ : Type) : acJ ρ := ⟨[8, 3], 136, 2, az8, fun (p : Val (.pair abv (.pair tI (.pair tI (.pair tI (.pair abt (.pair abp (.pair tI (.pair abt abp))))))))) (v : Val (.pair tI abL)) kn kx => am2 p.2.2.1 p.2.2.2.2.2.1 v.1 v.2.1 v.2.2 (fun u0 u1 u2 => kn (u0, u1, u2)) (kx 0)⟩
def az6 : acf := { pin := 2, cs := [abv, tI, tI, abt, tI, tI, abt, tI, abt, abp], vs := [tI, abp, abC, abp], head := ⟨140, .any :: .con abv :: .own 1 :: .box 2 0 :: .any :: .any :: .any :: .box 3 0 :: .own 4 :: .own 5 :: .con tI :: .any :: .any :: .any :: .con tI :: aN 62 [.con abt, .con tI, .var tI], [.cells [.con tI, .con abt], .rowv tI, .cells [.con tI, .con abt], .cells [.own 6], .rowv .bool, .rowc tI, .rowv tI]⟩, exits := [(.ret, ⟨140, .any :: .con abv :: .own 1 :: .box 2 0 :: .any :: .any :: .var .bool :: .box 3 0 :: .own 4 :: .own 5 :: .con tI :: .any :: .any :: .any :: .con tI :: aN 62 [.con abt, .con tI], [.cells [.con tI, .con abt], .rowv tI, .cells [.con tI, .con abt], .cells [.own 6], .rowv .bool, .rowc tI, .rowv tI]⟩, [.bool, abp, abC, abp]), (.exit 6, ⟨140, .any :: .con abv :: .own 1 :: .box 2 0 :: .any :: .any :: .any :: .box 3 0 :: .own 4 :: .own 5 :: .con tI :: .any :: .any :: .any :: .con tI :: aN 62 [.con abt, .con tI], [.cells [.con tI, .con abt], .rowv tI, .cells [.con tI, .con abt], .cells [.own 6], .rowv .bool, .rowc tI, .rowv tI]⟩, [abp, abC, abp])] }
def ao1 (ρ : Type) : acJ ρ := ⟨[8, 3], 136, 6, az6, fun (p : Val (.pair abv (.pair tI (.pair tI (.pair abt (.pair tI (.pair tI (.pair abt (.pair tI (.pair abt abp)))))))))) (v : Val (.pair tI ab0)) kn kx => atN p.1 p.2.1 p.2.2.1 p.2.2.2.1 p.2.2.2.2.1 v.1 v.2.1 v.2.2.1 v.2.2.2 (fun u0 u1 u2 u3 => kn (u0, u1, u2, u3)) (kx 0) (kx 1)⟩
def az7 : acf := { pin := 2, cs := [abv, tI, tI, abt, tI, abt], vs := [abp, abC, abp, abp], head := ⟨140, [.any, .con abv, .own 1, .box 2 0, .any, .any, .any, .box 3 0, .own 4, .own 5, .con tI], [.cells [.con tI, .con abt], .rowv tI, .cells [.con tI, .con abt], .cells [.own 6], .rowv .bool, .rowv tI, .rowv tI]⟩, exits := [(.ret, ⟨140, [.any, .con abv, .own 1, .box 2 0, .any, .any, .var .bool, .box 3 0, .own 4, .own 5, .con tI], [.cells [.con tI, .con abt], .rowv tI, .cells [.con tI, .con abt], .cells [.own 6], .rowv .bool, .rowv tI, .rowv tI]⟩, [.bool, abp, abC, abp, abp])] }
def ao2 (ρ : Type) : acJ ρ := ⟨[8, 3], 136, 4, az7, fun (p : Val (.pair abv (.pair tI (.pair tI (.pair abt aci))))) (v : Val abN) kn kx => am1 p.1 p.2.1 p.2.2.2.2.1 p.2.2.2.2.2 v.1 v.2.1 v.2.2.1 v.2.2.2 (fun u0 u1 u2 u3 => kn (u0, u1, u2, u3)) (kx 0)⟩
def aFW : List (Nat × acC) := []
def aqV (ρ : Type) : List (acJ ρ) := [ao5 ρ, ao4 ρ, ao3 ρ, ao1 ρ, ao2 ρ]
def agc (ρ : Type) : Env ρ := acE aFW (aqV ρ)
def asP : acC := ⟨[aci, tI, tI], [tI, tI], fun (x : Val abZ) => akh x.1 x.2.1 x.2.2⟩
def aIM : List (Nat × acC) := [(63, aH0), (64, aDO)]
def atX (ρ : Type) : List (acJ ρ) := []
def aAp (ρ : Type) : Env ρ := acE aIM (atX ρ)
def agz : acC := ⟨[abB, tI, tI], [tI], fun (x : Val abR) => ac2 x.1 x.2.1 x.2.2⟩
def avw : List (Nat × acC) := [(89, asP)]
def akD (ρ : Type) : List (acJ ρ) := []
def anR (ρ : Type) : Env ρ := acE avw (akD ρ)
def alb : acC := ⟨[abB, ab6], [tI], fun (x : Val abR) => ae9 x.1 x.2⟩
def avv : List (Nat × acC) := [(55, agM), (56, agz)]
def akC (ρ : Type) : List (acJ ρ) := []
def anQ (ρ : Type) : Env ρ := acE avv (akC ρ)
def ahV : acC := ⟨[abB, ab6], [tI], fun (x : Val abR) => aft x.1 x.2⟩
def aqv : List (Nat × acC) := [(55, agM), (56, agz)]
def aiG (ρ : Type) : List (acJ ρ) := []
def aj0 (ρ : Type) : Env ρ := acE aqv (aiG ρ)
def agl : acC := ⟨[abB, ab6], [ab6], fun (x : Val abR) => aew x.1 x.2⟩
def aqu : List (Nat × acC) := [(121, alb), (122, ahV)]
def aiF (ρ : Type) : List (acJ ρ) := []
def agR (ρ : Type) : Env ρ := { acE aqu (aiF ρ) with hint := awo [(12, 121), (16, 122)] }
def ajo : acC := ⟨[ab9, ab6], [ab9, tI], fun (x : Val abU) => ae2 x.1 x.2⟩
def aGD : acf := { pin := 6, cs := [tI, tI, tI, abo, f6, abq, wi, f6, tI, tI, tI, tI, tI, tI, abo, f6, abq, wi, f6, tI, tI, tI, tI, wi, tI, tI, abo, f6, abq, f6], vs := [tI, wi], head := ⟨50, .any :: .box 6 0 :: .box 7 0 :: .own 8 :: aN 21 [.own 8, .con tI, .var tI], [.cells [.con tI, .con tI, .con abo, .con f6, .con abq, .con wi, .con f6], .cells [.con tI, .con tI], .cells [.con tI, .con tI, .nils, .nils, .nils, .nils, .nils], .cells [.con tI, .con tI, .con abo, .con f6, .con abq, .con wi, .con f6], .cells [.con tI, .con tI, .nils, .nils, .nils, .nils, .nils], .dead, .cells [.con tI, .con tI, .own 9, .own 10, .own 11, .con wi, .own 12], .cells [.con tI, .con tI, .nils, .nils, .nils, .nils, .nils], .rowv acd, .rowc ach, .rowc ab6, .rowc adJ, .rowc ab6]⟩, exits := [(.exit 0, ⟨50, .any :: .box 6 0 :: .box 7 0 :: .own 8 :: aN 21 [.own 8, .con tI], [.cells [.con tI, .con tI, .con abo, .con f6, .con abq, .con wi, .con f6], .cells [.con tI, .con tI], .cells [.con tI, .con tI, .nils, .nils, .nils, .nils, .nils], .cells [.con tI, .con tI, .con abo, .con f6, .con abq, .con wi, .con f6], .cells [.con tI, .con tI, .nils, .nils, .nils, .nils, .nils], .dead, .cells [.con tI, .con tI, .own 9, .own 10, .own 11, .con wi, .own 12], .cells [.con tI, .con tI, .nils, .nils, .nils, .nils, .nils], .rowv acd, .rowc ach, .rowc ab6, .rowc adJ, .rowc ab6]⟩, [wi])] }
def auz (ρ : Type) : acJ ρ := ⟨[1, 2, 4, 1], 175, 0, aGD, fun (p : Val (.pair tI (.pair tI (.pair tI (.pair abo (.pair f6 (.pair abq (.pair wi (.pair f6 (.pair tI (.pair tI (.pair tI (.pair tI (.pair tI (.pair tI (.pair abo (.pair f6 (.pair abq (.pair wi (.pair f6 (.pair tI (.pair tI (.pair tI (.pair tI (.pair wi (.pair tI (.pair tI (.pair abo (.pair f6 (.pair abq f6)))))))))))))))))))))))))))))) (v : Val (.pair tI wi)) kn kx => anl p.1 v.1 v.2 (fun u0 u1 => kn (u0, u1)) (kx 0)⟩
def aLl : List (Nat × acC) := [(38, ael)]
def axv (ρ : Type) : List (acJ ρ) := [auz ρ]
def awc (ρ : Type) : Env ρ := acE aLl (axv ρ)
def aer : acC := ⟨[aci], [.bool, tI], fun (x : Val aci) => adt x⟩
def avW : List (Nat × acC) := [(133, alL), (135, akv)]
def akN (ρ : Type) : List (acJ ρ) := []
def an1 (ρ : Type) : Env ρ := acE avW (akN ρ)
def aox : acC := ⟨[ab9, ab6], [ab6, tI], fun (x : Val abU) => ag7 x.1 x.2⟩
def avG : acf := { pin := 4, cs := [tI, tI, tI, abo, f6, abq, wi, f6, tI, tI, tI, tI, f6], vs := [tI, tI, tI, abo, f6, abq, wi, f6], head := ⟨68, .any :: .any :: .box 4 0 :: aN 20 [.own 3, .con tI, .var tI], [.cells [.con tI, .con tI, .con abo, .con f6, .con abq, .con wi, .con f6], .cells [.con tI, .con tI], .cells [.con tI, .con tI], .rowc ab6, .cells [.var tI, .var tI, .var abo, .var f6, .var abq, .var wi, .var f6]]⟩, exits := [(.ret, ⟨68, .any :: .any :: .box 4 0 :: .any :: .nilp :: .var tI :: aN 17 [.own 3, .con tI], [.cells [.con tI, .con tI, .con abo, .con f6, .con abq, .con wi, .con f6], .cells [.con tI, .con tI], .cells [.con tI, .con tI], .rowc ab6, .cells [.var tI, .var tI, .var abo, .var f6, .var abq, .var wi, .var f6]]⟩, [tI, tI, tI, abo, f6, abq, wi, f6]), (.exit 0, ⟨68, .any :: .any :: .box 4 0 :: aN 20 [.own 3, .con tI], [.cells [.con tI, .con tI, .con abo, .con f6, .con abq, .con wi, .con f6], .cells [.con tI, .con tI], .cells [.con tI, .con tI], .rowc ab6, .cells [.var tI, .var tI, .var abo, .var f6, .var abq, .var wi, .var f6]]⟩, [tI, tI, abo, f6, abq, wi, f6])] }
def al2 (ρ : Type) : acJ ρ := ⟨[1, 3], 50, 0, avG, fun (p : Val (.pair tI (.pair tI (.pair tI (.pair abo (.pair f6 (.pair abq (.pair wi (.pair f6 (.pair tI (.pair tI abV))))))))))) (v : Val abG) kn kx => ac9 p.1 p.2.2.2.2.2.2.2.2.2.2.2.2 v.1 v.2.1 v.2.2.1 v.2.2.2.1 v.2.2.2.2.1 v.2.2.2.2.2.1 v.2.2.2.2.2.2.1 v.2.2.2.2.2.2.2 (fun u0 u1 u2 u3 u4 u5 u6 u7 => kn (u0, u1, u2, u3, u4, u5, u6, u7)) (kx 0) (kx 1)⟩
def azY : List (Nat × acC) := [(20, aeu), (38, ael), (51, agl), (60, af9), (61, ajo), (123, aer)]
def anU (ρ : Type) : List (acJ ρ) := [al2 ρ]
def alm (ρ : Type) : Env ρ := acE azY (anU ρ)
def azq : acC := ⟨[ab9, ab6, ab6], [ab6, tI], fun (x : Val (.pair ab9 acZ)) => anu x.1 x.2.1 x.2.2⟩
def ax8 : acf := { pin := 5, cs := [tI, tI, tI, abo, f6, abq, wi, f6, tI, tI, tI, tI, tI, tI, f6], vs := [tI, tI, tI, abo, f6, abq, wi, f6], head := ⟨68, .any :: .any :: .box 5 0 :: aN 20 [.own 4, .con tI, .var tI], [.cells [.con tI, .con tI, .con abo, .con f6, .con abq, .con wi, .con f6], .cells [.con tI, .con tI], .cells [.con tI, .con tI], .cells [.con tI, .con tI], .rowc ab6, .cells [.var tI, .var tI, .var abo, .var f6, .var abq, .var wi, .var f6]]⟩, exits := [(.ret, ⟨68, .any :: .any :: .box 5 0 :: .any :: .nilp :: .var tI :: aN 17 [.own 4, .con tI], [.cells [.con tI, .con tI, .con abo, .con f6, .con abq, .con wi, .con f6], .cells [.con tI, .con tI], .cells [.con tI, .con tI], .cells [.con tI, .con tI], .rowc ab6, .cells [.var tI, .var tI, .var abo, .var f6, .var abq, .var wi, .var f6]]⟩, [tI, tI, tI, abo, f6, abq, wi, f6]), (.exit 0, ⟨68, .any :: .any :: .box 5 0 :: aN 20 [.own 4, .con tI], [.cells [.con tI, .con tI, .con abo, .con f6, .con abq, .con wi, .con f6], .cells [.con tI, .con tI], .cells [.con tI, .con tI], .cells [.con tI, .con tI], .rowc ab6, .cells [.var tI, .var tI, .var abo, .var f6, .var abq, .var wi, .var f6]]⟩, [tI, tI, abo, f6, abq, wi, f6])] }
def anY (ρ : Type) : acJ ρ := ⟨[1, 4], 50, 0, ax8, fun (p : Val (.pair tI (.pair tI (.pair tI (.pair abo (.pair f6 (.pair abq (.pair wi (.pair f6 (.pair tI (.pair tI (.pair tI (.pair tI abV))))))))))))) (v : Val abG) kn kx => alq p.1 p.2.2.2.2.2.2.2.2.2.2.2.2.2.2 v.1 v.2.1 v.2.2.1 v.2.2.2.1 v.2.2.2.2.1 v.2.2.2.2.2.1 v.2.2.2.2.2.2.1 v.2.2.2.2.2.2.2 (fun u0 u1 u2 u3 u4 u5 u6 u7 => kn (u0, u1, u2, u3, u4, u5, u6, u7)) (kx 0) (kx 1)⟩
def aCG : List (Nat × acC) := [(20, aeu), (38, ael), (55, agM), (56, agz), (60, af9), (61, ajo), (123, aer)]
def aoY (ρ : Type) : List (acJ ρ) := [anY ρ]
def amY (ρ : Type) : Env ρ := acE aCG (aoY ρ)
def avn : acC := ⟨[abp, abp], [abp, abp, tI], fun (x : Val (.pair abp abp)) => amt x.1 x.2⟩
def aGG : List (Nat × acC) := [(88, apX), (198, avl)]
def arh (ρ : Type) : List (acJ ρ) := []
def axw (ρ : Type) : Env ρ := acE aGG (arh ρ)
def aMo : acC := ⟨[abp, tI], [.bool], fun (x : Val abJ) => ayR x.1 x.2⟩
def aKR : List (Nat × acC) := [(129, avn)]
def awX (ρ : Type) : List (acJ ρ) := []
def aD1 (ρ : Type) : Env ρ := acE aKR (awX ρ)
def aHY : acC := ⟨[tI], [.bool], fun (x : Val tI) => auQ x⟩
def aIt : List (Nat × acC) := []
def atq (ρ : Type) : List (acJ ρ) := []
def azP (ρ : Type) : Env ρ := acE aIt (atq ρ)
def aHX : acC := ⟨[tI, abx], [f6], fun (x : Val (.pair tI abx)) => auP x.1 x.2⟩
def aCu : acf := { pin := 0, cs := [tI, abp, tI], vs := [tI, f6], head := ⟨23, .con tI :: aN 4 [.own 0, .any, .any, .any, .con abp, .con tI, .var tI], [.rowv ab6]⟩, exits := [(.exit 0, ⟨23, .con tI :: aN 4 [.own 0, .any, .any, .any, .con abp, .con tI], [.rowv ab6]⟩, [f6])] }
def aqM (ρ : Type) : acJ ρ := ⟨[], 59, 0, aCu, fun (p : Val (.pair tI abJ)) (v : Val abH) kn kx => akE p.1 p.2.1 p.2.2 v.1 v.2 (fun u0 u1 => kn (u0, u1)) (kx 0)⟩
def aIs : List (Nat × acC) := [(94, aeb)]
def atp (ρ : Type) : List (acJ ρ) := [aqM ρ]
def arS (ρ : Type) : Env ρ := acE aIs (atp ρ)
def aMq : acC := ⟨[ab9, tI, abp], [ab6, tI], fun (x : Val (.pair ab9 abD)) => ayS x.1 x.2.1 x.2.2⟩
def aFO : acf := { pin := 3, cs := [f6, tI, tI, tI, abo, f6, abq, wi, f6, tI, tI, abx], vs := [tI, tI, tI, abo, f6, abq, wi, f6], head := ⟨68, .any :: .any :: .box 3 0 :: aN 20 [.con f6, .con tI, .var tI], [.cells [.con tI, .con tI, .con abo, .con f6, .con abq, .con wi, .con f6], .cells [.con tI, .con tI], .rowf abp 0, .cells [.var tI, .var tI, .var abo, .var f6, .var abq, .var wi, .var f6]]⟩, exits := [(.ret, ⟨68, .any :: .any :: .box 3 0 :: .any :: .nilp :: .var tI :: aN 17 [.con f6, .con tI], [.cells [.con tI, .con tI, .con abo, .con f6, .con abq, .con wi, .con f6], .cells [.con tI, .con tI], .rowf abp 0, .cells [.var tI, .var tI, .var abo, .var f6, .var abq, .var wi, .var f6]]⟩, [tI, tI, tI, abo, f6, abq, wi, f6]), (.exit 0, ⟨68, .any :: .any :: .box 3 0 :: aN 20 [.con f6, .con tI], [.cells [.con tI, .con tI, .con abo, .con f6, .con abq, .con wi, .con f6], .cells [.con tI, .con tI], .rowf abp 0, .cells [.var tI, .var tI, .var abo, .var f6, .var abq, .var wi, .var f6]]⟩, [tI, tI, abo, f6, abq, wi, f6])] }
def atA (ρ : Type) : acJ ρ := ⟨[7, 2], 50, 0, aFO, fun (p : Val (.pair f6 (.pair tI (.pair tI (.pair tI (.pair abo (.pair f6 (.pair abq (.pair wi (.pair f6 (.pair tI (.pair tI abx)))))))))))) (v : Val abG) kn kx => amV p.1 p.2.1 v.1 v.2.1 v.2.2.1 v.2.2.2.1 v.2.2.2.2.1 v.2.2.2.2.2.1 v.2.2.2.2.2.2.1 v.2.2.2.2.2.2.2 (fun u0 u1 u2 u3 u4 u5 u6 u7 => kn (u0, u1, u2, u3, u4, u5, u6, u7)) (kx 0) (kx 1)⟩
def aFN : acf := { pin := 0, cs := [abB, f6, tI, tI, tI], vs := [tI, tI, tI], head := ⟨87, aN 6 (.box 0 0 :: .any :: .any :: .any :: .con abB :: .any :: .any :: .box 1 0 :: aN 51 [.con f6, .con tI, .var tI]), [.cells [.con tI, .con tI], .cells [.var tI, .var tI]]⟩, exits := [(.exit 0, ⟨87, aN 6 (.box 0 0 :: .any :: .any :: .any :: .con abB :: .any :: .any :: .box 1 0 :: aN 51 [.con f6, .con tI]), [.cells [.con tI, .con tI], .cells [.var tI, .var tI]]⟩, [tI, tI])] }
def atz (ρ : Type) : acJ ρ := ⟨[], 18, 0, aFN, fun (p : Val (.pair abB (.pair f6 ac8))) (v : Val ac8) kn kx => amU p.1 p.2.1 p.2.2.1 v.1 v.2.1 v.2.2 (fun u0 u1 u2 => kn (u0, u1, u2)) (kx 0)⟩
def aKW : List (Nat × acC) := [(20, aeu), (38, ael), (51, agl), (57, aMo), (58, aHY), (59, aHX), (60, af9), (61, ajo), (123, aer)]
def aw5 (ρ : Type) : List (acJ ρ) := [atA ρ, atz ρ]
def ap1 (ρ : Type) : Env ρ := acE aKW (aw5 ρ)
def arw : acC := ⟨[ab6, ab6], [tI], fun (x : Val acZ) => ake x.1 x.2⟩
def aCh : List (Nat × acC) := []
def aoH (ρ : Type) : List (acJ ρ) := []
def atb (ρ : Type) : Env ρ := acE aCh (aoH ρ)
def azo : acC := ⟨[ab9, ab6, ab6], [tI, tI], fun (x : Val (.pair ab9 acZ)) => apx x.1 x.2.1 x.2.2⟩
def aCE : acf := { pin := 4, cs := [tI, tI, tI, abo, f6, abq, wi, f6, tI, tI, tI, tI, f6], vs := [tI, tI, tI, abo, f6, abq, wi, f6], head := ⟨68, .any :: .any :: .box 4 0 :: aN 20 [.own 3, .con tI, .var tI], [.cells [.con tI, .con tI, .con abo, .con f6, .con abq, .con wi, .con f6], .cells [.con tI, .con tI], .cells [.con tI, .con tI], .rowc ab6, .cells [.var tI, .var tI, .var abo, .var f6, .var abq, .var wi, .var f6]]⟩, exits := [(.ret, ⟨68, .any :: .any :: .box 4 0 :: .any :: .nilp :: .var tI :: aN 17 [.own 3, .con tI], [.cells [.con tI, .con tI, .con abo, .con f6, .con abq, .con wi, .con f6], .cells [.con tI, .con tI], .cells [.con tI, .con tI], .rowc ab6, .cells [.var tI, .var tI, .var abo, .var f6, .var abq, .var wi, .var f6]]⟩, [tI, tI, tI, abo, f6, abq, wi, f6]), (.exit 0, ⟨68, .any :: .any :: .box 4 0 :: aN 20 [.own 3, .con tI], [.cells [.con tI, .con tI, .con abo, .con f6, .con abq, .con wi, .con f6], .cells [.con tI, .con tI], .cells [.con tI, .con tI], .rowc ab6, .cells [.var tI, .var tI, .var abo, .var f6, .var abq, .var wi, .var f6]]⟩, [tI, tI, abo, f6, abq, wi, f6])] }
def aqU (ρ : Type) : acJ ρ := ⟨[1, 3], 50, 0, aCE, fun (p : Val (.pair tI (.pair tI (.pair tI (.pair abo (.pair f6 (.pair abq (.pair wi (.pair f6 (.pair tI (.pair tI abV))))))))))) (v : Val abG) kn kx => aoT p.1 p.2.2.2.2.2.2.2.2.2.2.2.2 v.1 v.2.1 v.2.2.1 v.2.2.2.1 v.2.2.2.2.1 v.2.2.2.2.2.1 v.2.2.2.2.2.2.1 v.2.2.2.2.2.2.2 (fun u0 u1 u2 u3 u4 u5 u6 u7 => kn (u0, u1, u2, u3, u4, u5, u6, u7)) (kx 0) (kx 1)⟩
def aID : List (Nat × acC) := [(20, aeu), (38, ael), (51, agl), (60, af9), (61, ajo), (69, arw), (123, aer)]
def atB (ρ : Type) : List (acJ ρ) := [aqU ρ]
def arX (ρ : Type) : Env ρ := acE aID (atB ρ)
def ayD : acC := ⟨[ab9, acd], [ab9, tI], fun (x : Val abK) => ahD x.1 x.2⟩
def aGz : acf := { pin := 8, cs := [tI, tI, tI, abo, f6, abq, wi, f6, tI, tI, abp, abp, tI, tI, tI, tI, tI, tI, tI, tI, abo, f6, abq, wi, f6, tI, tI, tI, tI, wi, tI, tI, abo, f6, abq, f6], vs := [tI, wi], head := ⟨50, .any :: .box 8 0 :: .box 9 0 :: .own 10 :: aN 21 [.own 10, .con tI, .var tI], [.cells [.con tI, .con tI, .con abo, .con f6, .con abq, .con wi, .con f6], .cells [.con tI, .con tI, .con abp, .con abp, .con tI, .con tI, .con tI, .con tI], .cells [.con tI, .con tI, .nils, .nils, .nils, .nils, .nils], .dead, .dead, .cells [.con tI, .con tI, .con abo, .con f6, .con abq, .con wi, .con f6], .cells [.con tI, .con tI, .nils, .nils, .nils, .nils, .nils], .dead, .cells [.con tI, .con tI, .own 11, .own 12, .own 13, .con wi, .own 14], .cells [.con tI, .con tI, .nils, .nils, .nils, .nils, .nils], .rowv acd, .rowc ach, .rowc ab6, .rowc adJ, .rowc ab6]⟩, exits := [(.exit 0, ⟨50, .any :: .box 8 0 :: .box 9 0 :: .own 10 :: aN 21 [.own 10, .con tI], [.cells [.con tI, .con tI, .con abo, .con f6, .con abq, .con wi, .con f6], .cells [.con tI, .con tI, .con abp, .con abp, .con tI, .con tI, .con tI, .con tI], .cells [.con tI, .con tI, .nils, .nils, .nils, .nils, .nils], .dead, .dead, .cells [.con tI, .con tI, .con abo, .con f6, .con abq, .con wi, .con f6], .cells [.con tI, .con tI, .nils, .nils, .nils, .nils, .nils], .dead, .cells [.con tI, .con tI, .own 11, .own 12, .own 13, .con wi, .own 14], .cells [.con tI, .con tI, .nils, .nils, .nils, .nils, .nils], .rowv acd, .rowc ach, .rowc ab6, .rowc adJ, .rowc ab6]⟩, [wi])] }
def auw (ρ : Type) : acJ ρ := ⟨[2, 2, 4, 1], 175, 0, aGz, fun (p : Val (.pair tI (.pair tI (.pair tI (.pair abo (.pair f6 (.pair abq (.pair wi (.pair f6 (.pair tI (.pair tI (.pair abp (.pair abp (.pair tI (.pair tI (.pair tI (.pair tI (.pair tI (.pair tI (.pair tI (.pair tI (.pair abo (.pair f6 (.pair abq (.pair wi (.pair f6 (.pair tI (.pair tI (.pair tI (.pair tI (.pair wi (.pair tI (.pair tI (.pair abo (.pair f6 (.pair abq f6)))))))))))))))))))))))))))))))))))) (v : Val (.pair tI wi)) kn kx => ank p.1 v.1 v.2 (fun u0 u1 => kn (u0, u1)) (kx 0)⟩
def aLj : List (Nat × acC) := [(38, ael)]
def axs (ρ : Type) : List (acJ ρ) := [auw ρ]
def awa (ρ : Type) : Env ρ := acE aLj (axs ρ)
def aH5 : acC := ⟨[ab9, acd, ab6], [ab6, tI], fun (x : Val (.pair ab9 (.pair acd ab6))) => amr x.1 x.2.1 x.2.2⟩
def aIZ : List (Nat × acC) := [(171, avm), (172, azv), (173, aE7), (174, azt)]
def auc (ρ : Type) : List (acJ ρ) := []
def aAI (ρ : Type) : Env ρ := acE aIZ (auc ρ)
def arC : acC := ⟨[ab9, acd], [ab6, tI], fun (x : Val abK) => akk x.1 x.2⟩
def aDh : List (Nat × acC) := [(41, ayD), (62, aE9), (87, aoy), (88, apX), (89, asP), (90, aH5)]
def apl (ρ : Type) : List (acJ ρ) := []
def auy (ρ : Type) : Env ρ := acE aDh (apl ρ)
def aH4 : acC := ⟨[ab9, tI], [acd, tI], fun (x : Val abT) => auV x.1 x.2⟩
def aIY : List (Nat × acC) := [(38, ael)]
def aub (ρ : Type) : List (acJ ρ) := []
def aAG (ρ : Type) : Env ρ := acE aIY (aub ρ)
def aMt : acC := ⟨[ab9, tI], [ab6, tI], fun (x : Val abT) => ayT x.1 x.2⟩
def aLk : List (Nat × acC) := [(200, aE8), (205, aH4)]
def axu (ρ : Type) : List (acJ ρ) := []
def aEa (ρ : Type) : Env ρ := acE aLk (axu ρ)
def awU : acC := ⟨[abp, abB, (.ptr acd)], [tI], fun (x : Val (.pair abp (.pair abB (.ptr acd)))) => aiS x.1 x.2.1 x.2.2⟩
def azO : List (Nat × acC) := [(55, agM)]
def anT (ρ : Type) : List (acJ ρ) := []
def aqP (ρ : Type) : Env ρ := acE azO (anT ρ)
def awT : acC := ⟨[tI, tI, abB, (.ptr tI), abW, (.ptr tI)], [ac8], fun (x : Val (.pair tI (.pair tI (.pair abB (.pair (.ptr tI) (.pair abW (.ptr tI))))))) => aiR x.1 x.2.1 x.2.2.1 x.2.2.2.1 x.2.2.2.2.1 x.2.2.2.2.2⟩
def azN : List (Nat × acC) := [(56, agz)]
def anS (ρ : Type) : List (acJ ρ) := []
def aqO (ρ : Type) : Env ρ := acE azN (anS ρ)
def avk : acC := ⟨[abB, ab6, acd], [aez, tI], fun (x : Val (.pair abB (.pair ab6 acd))) => amm x.1 x.2.1 x.2.2⟩
def azM : acf := { pin := 0, cs := [tI, abp, abp, f6, abt, tI, tI, tI, tI, tI, abp, abp, tI, tI, tI, tI, tI, tI, tI, tI, tI, tI, tI, tI, tI, tI, tI, tI, tI, tI, abo, f6, abq, wi, f6, tI], vs := [tI, abt], head := ⟨127, aN 4 (.box 0 0 :: .box 1 0 :: .box 2 0 :: .any :: .box 3 0 :: .any :: .any :: .con tI :: .box 4 0 :: .any :: .con abp :: .con abp :: .any :: .any :: .con f6 :: .any :: .box 5 0 :: aN 65 [.con abt, .con tI, .var tI]), [.cells [.con tI, .con tI], .cells [.con tI, .con tI, .con abp, .con abp, .con tI, .con tI, .con tI, .con tI], .cells [.con tI, .con tI, .con tI, .con tI, .con tI, .con tI, .con tI, .con tI], .cells [.con tI, .con tI], .cells [.con tI, .con tI], .cells [.con tI, .con tI, .con abo, .con f6, .con abq, .con wi, .con f6, .con tI, .own 6], .rowv ac8]⟩, exits := [(.exit 0, ⟨127, aN 4 (.box 0 0 :: .box 1 0 :: .box 2 0 :: .any :: .box 3 0 :: .any :: .any :: .con tI :: .box 4 0 :: .any :: .con abp :: .con abp :: .any :: .any :: .con f6 :: .any :: .box 5 0 :: aN 65 [.con abt, .con tI]), [.cells [.con tI, .con tI], .cells [.con tI, .con tI, .con abp, .con abp, .con tI, .con tI, .con tI, .con tI], .cells [.con tI, .con tI, .con tI, .con tI, .con tI, .con tI, .con tI, .con tI], .cells [.con tI, .con tI], .cells [.con tI, .con tI], .cells [.con tI, .con tI, .con abo, .con f6, .con abq, .con wi, .con f6, .con tI, .own 6], .rowv ac8]⟩, [abt])] }
def aoM (ρ : Type) : acJ ρ := ⟨[], 71, 0, azM, fun (p : Val (.pair tI (.pair abp (.pair abp (.pair f6 (.pair abt (.pair tI (.pair tI (.pair tI (.pair tI (.pair tI (.pair abp (.pair abp (.pair tI (.pair tI (.pair tI (.pair tI (.pair tI (.pair tI (.pair tI (.pair tI (.pair tI (.pair tI (.pair tI (.pair tI (.pair tI (.pair tI (.pair tI (.pair tI (.pair tI (.pair tI (.pair abo (.pair f6 (.pair abq (.pair wi (.pair f6 tI)))))))))))))))))))))))))))))))))))) (v : Val aci) kn kx => ahr p.1 p.2.2.2.1 p.2.2.2.2.1 p.2.2.2.2.2.1 v.1 v.2 (fun u0 u1 => kn (u0, u1)) (kx 0)⟩
def aFC : List (Nat × acC) := [(20, aeu), (40, arC), (41, ayD), (55, agM), (129, avn), (142, aMt), (143, awU), (144, awT)]
def aqN (ρ : Type) : List (acJ ρ) := [aoM ρ]
def akF (ρ : Type) : Env ρ := { acE aFC (aqN ρ) with hint := awo [(110, 143), (113, 143), (120, 144), (123, 144)] }
def amB : acC := ⟨[ac8], [abp], fun (x : Val ac8) => afL x⟩
def ax0 : List (Nat × acC) := []
def alT (ρ : Type) : List (acJ ρ) := []
def aoP (ρ : Type) : Env ρ := acE ax0 (alT ρ)
def aDM : acC := ⟨[ac8, tI], [tI], fun (x : Val (.pair ac8 tI)) => amn x.1 x.2⟩
def aFE : List (Nat × acC) := []
def aqQ (ρ : Type) : List (acJ ρ) := []
def awZ (ρ : Type) : Env ρ := acE aFE (aqQ ρ)
def ak9 : acC := ⟨[aez, tI], [ab6], fun (x : Val (.pair aez tI)) => ad4 x.1 x.2⟩
def avs : List (Nat × acC) := [(177, aDM)]
def akA (ρ : Type) : List (acJ ρ) := []
def anO (ρ : Type) : Env ρ := acE avs (akA ρ)
def ala : acC := ⟨[aez, abp], [abp], fun (x : Val (.pair aez abp)) => agD x.1 x.2⟩
def arN : acf := { pin := 0, cs := [tI, abp, tI, tI, tI, tI, tI, tI, tI, tI, tI, tI], vs := [tI, abp], head := ⟨48, .any :: .any :: .box 0 0 :: .any :: .any :: .own 1 :: .any :: .con tI :: .var tI :: aN 7 [.con abp, .con tI, .con tI], [.cells [.con tI, .con tI, .con tI, .con tI, .con tI, .con tI, .con tI, .con tI], .rowv tI]⟩, exits := [(.exit 2, ⟨48, .any :: .any :: .box 0 0 :: .any :: .any :: .own 1 :: .any :: .con tI :: aN 8 [.con abp, .con tI, .con tI], [.cells [.con tI, .con tI, .con tI, .con tI, .con tI, .con tI, .con tI, .con tI], .rowv tI]⟩, [abp])] }
def ajY (ρ : Type) : acJ ρ := ⟨[], 101, 2, arN, fun (p : Val (.pair tI (.pair abp (.pair tI (.pair tI abA))))) (v : Val abD) kn kx => afq p.1 p.2.2.2.2.1 p.2.2.2.2.2.1 v.1 v.2 (fun u0 u1 => kn (u0, u1)) (kx 0)⟩
def arO : acf := { pin := 0, cs := [abp, tI, tI, tI, tI, tI, tI, tI, tI, tI], vs := [tI, abp], head := ⟨48, .any :: .any :: .box 0 0 :: .any :: .any :: .own 1 :: aN 10 [.con abp, .con tI, .var tI], [.cells [.con tI, .con tI, .con tI, .con tI, .con tI, .con tI, .con tI, .con tI], .rowv tI]⟩, exits := [(.exit 0, ⟨48, .any :: .any :: .box 0 0 :: .any :: .any :: .own 1 :: aN 10 [.con abp, .con tI], [.cells [.con tI, .con tI, .con tI, .con tI, .con tI, .con tI, .con tI, .con tI], .rowv tI]⟩, [abp])] }
def ajZ (ρ : Type) : acJ ρ := ⟨[], 101, 0, arO, fun (p : Val (.pair abp (.pair tI abA))) (v : Val abD) kn kx => agn p.1 p.2.1 p.2.2.1 p.2.2.2.1 v.1 v.2 (fun u0 u1 => kn (u0, u1)) (kx 0)⟩
def avt : List (Nat × acC) := []
def akB (ρ : Type) : List (acJ ρ) := [ajY ρ, ajZ ρ]
def agH (ρ : Type) : Env ρ := acE avt (akB ρ)
def aow : acC := ⟨[aez], [tI], fun (x : Val aez) => ahz x⟩
def aqr : acf := { pin := 0, cs := [abp, tI, tI, tI, tI, tI, tI, tI, tI, tI], vs := [tI, tI], head := ⟨34, .any :: .box 0 0 :: .any :: .var tI :: aN 12 [.con abp, .con tI, .var tI], [.cells [.con tI, .con tI, .con tI, .con tI, .con tI, .con tI, .con tI, .con tI]]⟩, exits := [(.exit 0, ⟨34, .any :: .box 0 0 :: .any :: .var tI :: aN 12 [.con abp, .con tI], [.cells [.con tI, .con tI, .con tI, .con tI, .con tI, .con tI, .con tI, .con tI]]⟩, [tI])] }
def ajd (ρ : Type) : acJ ρ := ⟨[], 72, 0, aqr, fun (p : Val (.pair abp (.pair tI abA))) (v : Val ab6) kn kx => af2 p.1 p.2.1 p.2.2.1 p.2.2.2.1 p.2.2.2.2.1 p.2.2.2.2.2.1 p.2.2.2.2.2.2.1 p.2.2.2.2.2.2.2.1 p.2.2.2.2.2.2.2.2.1 p.2.2.2.2.2.2.2.2.2 v.1 v.2 (fun u0 u1 => kn (u0, u1)) (kx 0)⟩
def as8 : List (Nat × acC) := [(94, aeb), (95, amB), (99, ak9), (101, ala)]
def ajW (ρ : Type) : List (acJ ρ) := [ajd ρ]
def ah2 (ρ : Type) : Env ρ := acE as8 (ajW ρ)
def azn : acC := ⟨[ab9, ab6, acd], [tI, tI], fun (x : Val (.pair ab9 (.pair ab6 acd))) => amo x.1 x.2.1 x.2.2⟩
def aCA : acf := { pin := 4, cs := [tI, tI, tI, abo, f6, abq, wi, f6, tI, tI, tI, tI, abp, abp, tI, tI, tI, tI, f6], vs := [tI, tI, tI, abo, f6, abq, wi, f6], head := ⟨68, .any :: .any :: .box 4 0 :: aN 20 [.own 3, .con tI, .var tI], [.cells [.con tI, .con tI, .con abo, .con f6, .con abq, .con wi, .con f6], .cells [.con tI, .con tI], .cells [.con tI, .con tI, .con abp, .con abp, .con tI, .con tI, .con tI, .con tI], .rowc ab6, .cells [.var tI, .var tI, .var abo, .var f6, .var abq, .var wi, .var f6]]⟩, exits := [(.ret, ⟨68, .any :: .any :: .box 4 0 :: .any :: .nilp :: .var tI :: aN 17 [.own 3, .con tI], [.cells [.con tI, .con tI, .con abo, .con f6, .con abq, .con wi, .con f6], .cells [.con tI, .con tI], .cells [.con tI, .con tI, .con abp, .con abp, .con tI, .con tI, .con tI, .con tI], .rowc ab6, .cells [.var tI, .var tI, .var abo, .var f6, .var abq, .var wi, .var f6]]⟩, [tI, tI, tI, abo, f6, abq, wi, f6]), (.exit 0, ⟨68, .any :: .any :: .box 4 0 :: aN 20 [.own 3, .con tI], [.cells [.con tI, .con tI, .con abo, .con f6, .con abq, .con wi, .con f6], .cells [.con tI, .con tI], .cells [.con tI, .con tI, .con abp, .con abp, .con tI, .con tI, .con tI, .con tI], .rowc ab6, .cells [.var tI, .var tI, .var abo, .var f6, .var abq, .var wi, .var f6]]⟩, [tI, tI, abo, f6, abq, wi, f6])] }
def aqR (ρ : Type) : acJ ρ := ⟨[1, 3], 50, 0, aCA, fun (p : Val (.pair tI (.pair tI (.pair tI (.pair abo (.pair f6 (.pair abq (.pair wi (.pair f6 (.pair tI (.pair tI (.pair tI (.pair tI (.pair abp (.pair abp (.pair tI (.pair tI abV))))))))))))))))) (v : Val abG) kn kx => aoR p.1 p.2.2.2.2.2.2.2.2.2.2.2.2.2.2.2.2.2.2 v.1 v.2.1 v.2.2.1 v.2.2.2.1 v.2.2.2.2.1 v.2.2.2.2.2.1 v.2.2.2.2.2.2.1 v.2.2.2.2.2.2.2 (fun u0 u1 u2 u3 u4 u5 u6 u7 => kn (u0, u1, u2, u3, u4, u5, u6, u7)) (kx 0) (kx 1)⟩
def aIB : List (Nat × acC) := [(20, aeu), (38, ael), (60, af9), (61, ajo), (71, avk), (72, aow), (123, aer)]
def atu (ρ : Type) : List (acJ ρ) := [aqR ρ]
def arV (ρ : Type) : Env ρ := acE aIB (atu ρ)
def arz : acC := ⟨[aci, abp], [tI], fun (x : Val ab1) => akg x.1 x.2⟩
def aya : acf := { pin := 1, cs := [abp, tI, tI, abt], vs := [tI], head := ⟨19, .con abp :: .fn 206 [(0, 0)] :: aN 5 [.con tI, .var tI], [.cells [.con tI, .con abt]]⟩, exits := [(.ret, ⟨19, [.con abp, .fn 206 [(0, 0)], .any, .any, .var tI, .any, .any, .con tI], [.cells [.con tI, .con abt]]⟩, [tI]), (.exit 0, ⟨19, .con abp :: .fn 206 [(0, 0)] :: aN 5 [.con tI], [.cells [.con tI, .con abt]]⟩, [])] }
def an0 (ρ : Type) : acJ ρ := ⟨[3, 2, 1, 2], 178, 0, aya, fun (p : Val (.pair abp abM)) (v : Val tI) kn kx => air p.1 p.2.1 p.2.2.2 v (fun u0 => kn u0) (kx 0) (kx 1)⟩
def aCI : List (Nat × acC) := []
def ao0 (ρ : Type) : List (acJ ρ) := [an0 ρ]
def am0 (ρ : Type) : Env ρ := acE aCI (ao0 ρ)
def aE5 : acC := ⟨[aci, tI, abp], [tI, tI, .bool], fun (x : Val (.pair aci abD)) => auS x.1 x.2.1 x.2.2⟩
def aFS : acf := { pin := 0, cs := [abp, tI, tI, abt], vs := [tI, tI, tI], head := ⟨37, .any :: .var tI :: .any :: .box 0 0 :: aN 5 [.var tI, .any, .any, .any, .con abp, .con tI, .var tI], [.cells [.con tI, .con abt]]⟩, exits := [(.ret, ⟨37, .any :: .any :: .any :: .box 0 0 :: .any :: .any :: .var tI :: .var tI :: .var .bool :: aN 4 [.con abp, .con tI], [.cells [.con tI, .con abt]]⟩, [tI, tI, .bool]), (.exit 0, ⟨37, .any :: .var tI :: .any :: .box 0 0 :: aN 5 [.var tI, .any, .any, .any, .con abp, .con tI], [.cells [.con tI, .con abt]]⟩, [tI, tI])] }
def atG (ρ : Type) : acJ ρ := ⟨[], 146, 0, aFS, fun (p : Val (.pair abp abM)) (v : Val ac8) kn kx => amZ p.1 p.2.1 p.2.2.2 v.1 v.2.1 v.2.2 (fun u0 u1 u2 => kn (u0, u1, u2)) (kx 0) (kx 1)⟩
def aKX : List (Nat × acC) := []
def aw6 (ρ : Type) : List (acJ ρ) := [atG ρ]
def avN (ρ : Type) : Env ρ := acE aKX (aw6 ρ)
def aqH : acC := ⟨[aci, tI, tI, abp], [tI, tI], fun (x : Val (.pair aci (.pair tI abD))) => agE x.1 x.2.1 x.2.2.1 x.2.2.2⟩
def avY : List (Nat × acC) := [(133, alL), (134, ayC), (145, arz), (146, aE5)]
def akQ (ρ : Type) : List (acJ ρ) := []
def an3 (ρ : Type) : Env ρ := acE avY (akQ ρ)
def amC : acC := ⟨[afc], [tI], fun (x : Val afc) => ahB x⟩
def ax4 : List (Nat × acC) := [(20, aeu), (38, ael), (60, af9), (76, aqH)]
def al3 (ρ : Type) : List (acJ ρ) := []
def aoV (ρ : Type) : Env ρ := acE ax4 (al3 ρ)
def aqG : acC := ⟨[aci, abp], [tI], fun (x : Val ab1) => aiu x.1 x.2⟩
def avX : List (Nat × acC) := [(133, alL), (145, arz), (146, aE5)]
def akP (ρ : Type) : List (acJ ρ) := []
def an2 (ρ : Type) : Env ρ := acE avX (akP ρ)
def aqF : acC := ⟨[afc], [tI], fun (x : Val afc) => ait x⟩
def avH : List (Nat × acC) := [(20, aeu), (38, ael), (86, aqG)]
def akL (ρ : Type) : List (acJ ρ) := []
def anV (ρ : Type) : Env ρ := acE avH (akL ρ)
def afP : acC := ⟨[abo, ach], [tI], fun (x : Val (.pair abo ach)) => aek x.1 x.2⟩
def ahb : acf := { pin := 0, cs := [abo, tI, tI, tI, tI, tI, tI, tI, tI, tI], vs := [tI], head := ⟨19, [.con abo, .any, .any, .box 0 0, .any, .any, .any, .con tI, .var tI], [.cells [.con tI, .con tI, .con tI, .con tI, .con tI, .con tI, .con tI, .con tI]]⟩, exits := [(.ret, ⟨19, [.con abo, .any, .any, .box 0 0, .var tI, .any, .any, .con tI], [.cells [.con tI, .con tI, .con tI, .con tI, .con tI, .con tI, .con tI, .con tI]]⟩, [tI]), (.exit 0, ⟨19, [.con abo, .any, .any, .box 0 0, .any, .any, .any, .con tI], [.cells [.con tI, .con tI, .con tI, .con tI, .con tI, .con tI, .con tI, .con tI]]⟩, [])] }
def aeP (ρ : Type) : acJ ρ := ⟨[], 254, 0, ahb, fun (p : Val (.pair abo (.pair tI abA))) (v : Val tI) kn kx => ac1 p.1 p.2.1 p.2.2.1 p.2.2.2.1 p.2.2.2.2.1 p.2.2.2.2.2.1 p.2.2.2.2.2.2.1 p.2.2.2.2.2.2.2.1 p.2.2.2.2.2.2.2.2.1 p.2.2.2.2.2.2.2.2.2 v (fun u0 => kn u0) (kx 0) (kx 1)⟩
def ahL : List (Nat × acC) := []
def ae0 (ρ : Type) : List (acJ ρ) := [aeP ρ]
def adZ (ρ : Type) : Env ρ := acE ahL (ae0 ρ)
def afd : acC := ⟨[abo, ach], [.bool], fun (x : Val (.pair abo ach)) => adp x.1 x.2⟩
def agQ : List (Nat × acC) := [(254, afP)]
def aes (ρ : Type) : List (acJ ρ) := []
def aeR (ρ : Type) : Env ρ := acE agQ (aes ρ)
def agy : acC := ⟨[f6, ab6], [tI], fun (x : Val abY) => ae8 x.1 x.2⟩
def aiC : acf := { pin := 0, cs := [f6, tI, tI, tI], vs := [tI], head := ⟨19, [.con f6, .any, .any, .box 0 0, .any, .any, .any, .con tI, .var tI], [.cells [.con tI, .con tI]]⟩, exits := [(.ret, ⟨19, [.con f6, .any, .any, .box 0 0, .var tI, .any, .any, .con tI], [.cells [.con tI, .con tI]]⟩, [tI]), (.exit 0, ⟨19, [.con f6, .any, .any, .box 0 0, .any, .any, .any, .con tI], [.cells [.con tI, .con tI]]⟩, [])] }
def afA (ρ : Type) : acJ ρ := ⟨[], 256, 0, aiC, fun (p : Val (.pair f6 ac8)) (v : Val tI) kn kx => adf p.1 p.2.1 p.2.2.1 p.2.2.2 v (fun u0 => kn u0) (kx 0) (kx 1)⟩
def ajq : List (Nat × acC) := []
def afQ (ρ : Type) : List (acJ ρ) := [afA ρ]
def aeF (ρ : Type) : Env ρ := acE ajq (afQ ρ)
def af0 : acC := ⟨[f6, ab6], [.bool], fun (x : Val abY) => adj x.1 x.2⟩
def ah1 : List (Nat × acC) := [(256, agy)]
def afg (ρ : Type) : List (acJ ρ) := []
def afB (ρ : Type) : Env ρ := acE ah1 (afg ρ)
def af8 : acC := ⟨[abq, adJ], [tI], fun (x : Val (.pair abq adJ)) => aeJ x.1 x.2⟩
def ahK : acf := { pin := 0, cs := [abq, tI, tI, tI, tI, tI], vs := [tI], head := ⟨19, [.con abq, .any, .any, .box 0 0, .any, .any, .any, .con tI, .var tI], [.cells [.con tI, .con tI, .con tI, .con tI]]⟩, exits := [(.ret, ⟨19, [.con abq, .any, .any, .box 0 0, .var tI, .any, .any, .con tI], [.cells [.con tI, .con tI, .con tI, .con tI]]⟩, [tI]), (.exit 0, ⟨19, [.con abq, .any, .any, .box 0 0, .any, .any, .any, .con tI], [.cells [.con tI, .con tI, .con tI, .con tI]]⟩, [])] }
def aff (ρ : Type) : acJ ρ := ⟨[], 258, 0, ahK, fun (p : Val (.pair abq (.pair tI (.pair tI ac8)))) (v : Val tI) kn kx => ac4 p.1 p.2.1 p.2.2.1 p.2.2.2.1 p.2.2.2.2.1 p.2.2.2.2.2 v (fun u0 => kn u0) (kx 0) (kx 1)⟩
def aiE : List (Nat × acC) := []
def afp (ρ : Type) : List (acJ ρ) := [aff ρ]
def aeh (ρ : Type) : Env ρ := acE aiE (afp ρ)
def afy : acC := ⟨[abq, adJ], [.bool], fun (x : Val (.pair abq adJ)) => ac5 x.1 x.2⟩
def aho : List (Nat × acC) := [(258, af8)]
def aeQ (ρ : Type) : List (acJ ρ) := []
def afh (ρ : Type) : Env ρ := acE aho (aeQ ρ)
def aMp : acC := ⟨[ab9, ab9], [.bool], fun (x : Val (.pair ab9 ab9)) => auO x.1 x.2⟩
def aFz : acf := { pin := 0, cs := [abo, tI, tI, tI, abo, f6, abq, wi, f6, tI, tI, abo, f6, abq, wi, f6], vs := [tI, abv], head := ⟨87, .any :: .any :: .box 0 0 :: .box 1 0 :: .any :: .box 2 0 :: aN 10 [.con abo, .con tI, .var tI], [.cells [.con tI, .con tI, .con abo, .con f6, .con abq, .con wi, .con f6], .cells [.con tI, .con tI, .con abo, .con f6, .con abq, .con wi, .con f6], .cells [.omp 3], .mapv tI .bool]⟩, exits := [(.exit 0, ⟨87, .any :: .any :: .box 0 0 :: .box 1 0 :: .any :: .box 2 0 :: aN 10 [.con abo, .con tI], [.cells [.con tI, .con tI, .con abo, .con f6, .con abq, .con wi, .con f6], .cells [.con tI, .con tI, .con abo, .con f6, .con abq, .con wi, .con f6], .cells [.omp 3], .mapv tI .bool]⟩, [abv])] }
def ato (ρ : Type) : acJ ρ := ⟨[], 77, 0, aFz, fun (p : Val (.pair abo (.pair tI abE))) (v : Val (.pair tI abv)) kn kx => amO p.1 p.2.1 v.1 v.2 (fun u0 u1 => kn (u0, u1)) (kx 0)⟩
def aFw : acf := { pin := 6, cs := [abp, abp, tI, tI, tI, abo, f6, abq, wi, f6, tI, tI, abo, f6, abq, wi, f6, abv, tI, tI, abp, abp, tI, tI, tI, tI, tI, tI, abp, abp, tI, tI, tI, tI], vs := [tI], head := ⟨26, .con abp :: .con abp :: aN 10 [.con tI, .var tI], [.cells [.con tI, .con tI, .con abo, .con f6, .con abq, .con wi, .con f6], .cells [.con tI, .con tI, .con abo, .con f6, .con abq, .con wi, .con f6], .cells [.omp 3], .mapc tI .bool, .cells [.con tI, .con tI, .con abp, .con abp, .con tI, .con tI, .con tI, .con tI], .cells [.con tI, .con tI, .con abp, .con abp, .con tI, .con tI, .con tI, .con tI]]⟩, exits := [(.ret, ⟨26, .con abp :: .con abp :: .any :: .any :: .var .bool :: aN 7 [.con tI], [.cells [.con tI, .con tI, .con abo, .con f6, .con abq, .con wi, .con f6], .cells [.con tI, .con tI, .con abo, .con f6, .con abq, .con wi, .con f6], .cells [.omp 3], .mapc tI .bool, .cells [.con tI, .con tI, .con abp, .con abp, .con tI, .con tI, .con tI, .con tI], .cells [.con tI, .con tI, .con abp, .con abp, .con tI, .con tI, .con tI, .con tI]]⟩, [.bool]), (.exit 0, ⟨26, .con abp :: .con abp :: aN 10 [.con tI], [.cells [.con tI, .con tI, .con abo, .con f6, .con abq, .con wi, .con f6], .cells [.con tI, .con tI, .con abo, .con f6, .con abq, .con wi, .con f6], .cells [.omp 3], .mapc tI .bool, .cells [.con tI, .con tI, .con abp, .con abp, .con tI, .con tI, .con tI, .con tI], .cells [.con tI, .con tI, .con abp, .con abp, .con tI, .con tI, .con tI, .con tI]]⟩, [])] }
def atl (ρ : Type) : acJ ρ := ⟨[14, 3, 1, 2, 4, 5, 1, 38], 151, 0, aFw, fun (p : Val (.pair abp (.pair abp (.pair tI (.pair tI (.pair tI (.pair abo (.pair f6 (.pair abq (.pair wi (.pair f6 (.pair tI (.pair tI (.pair abo (.pair f6 (.pair abq (.pair wi (.pair f6 (.pair abv (.pair tI (.pair tI (.pair abp (.pair abp (.pair tI (.pair tI (.pair tI (.pair tI acd))))))))))))))))))))))))))) (v : Val tI) kn kx => ah6 p.1 p.2.1 p.2.2.1 v (fun u0 => kn u0) (kx 0) (kx 1)⟩
def aFv : acf := { pin := 6, cs := [abp, abp, tI, tI, tI, abo, f6, abq, wi, f6, tI, tI, abo, f6, abq, wi, f6, abv, tI, tI, abp, abp, tI, tI, tI, tI, tI, tI, abp, abp, tI, tI, tI, tI], vs := [tI], head := ⟨26, .con abp :: .con abp :: aN 10 [.con tI, .var tI], [.cells [.con tI, .con tI, .con abo, .con f6, .con abq, .con wi, .con f6], .cells [.con tI, .con tI, .con abo, .con f6, .con abq, .con wi, .con f6], .cells [.omp 3], .mapc tI .bool, .cells [.con tI, .con tI, .con abp, .con abp, .con tI, .con tI, .con tI, .con tI], .cells [.con tI, .con tI, .con abp, .con abp, .con tI, .con tI, .con tI, .con tI]]⟩, exits := [(.ret, ⟨26, .con abp :: .con abp :: .any :: .any :: .var .bool :: aN 7 [.con tI], [.cells [.con tI, .con tI, .con abo, .con f6, .con abq, .con wi, .con f6], .cells [.con tI, .con tI, .con abo, .con f6, .con abq, .con wi, .con f6], .cells [.omp 3], .mapc tI .bool, .cells [.con tI, .con tI, .con abp, .con abp, .con tI, .con tI, .con tI, .con tI], .cells [.con tI, .con tI, .con abp, .con abp, .con tI, .con tI, .con tI, .con tI]]⟩, [.bool]), (.exit 0, ⟨26, .con abp :: .con abp :: aN 10 [.con tI], [.cells [.con tI, .con tI, .con abo, .con f6, .con abq, .con wi, .con f6], .cells [.con tI, .con tI, .con abo, .con f6, .con abq, .con wi, .con f6], .cells [.omp 3], .mapc tI .bool, .cells [.con tI, .con tI, .con abp, .con abp, .con tI, .con tI, .con tI, .con tI], .cells [.con tI, .con tI, .con abp, .con abp, .con tI, .con tI, .con tI, .con tI]]⟩, [])] }
def atk (ρ : Type) : acJ ρ := ⟨[14, 3, 1, 2, 4, 5, 1, 45], 151, 0, aFv, fun (p : Val (.pair abp (.pair abp (.pair tI (.pair tI (.pair tI (.pair abo (.pair f6 (.pair abq (.pair wi (.pair f6 (.pair tI (.pair tI (.pair abo (.pair f6 (.pair abq (.pair wi (.pair f6 (.pair abv (.pair tI (.pair tI (.pair abp (.pair abp (.pair tI (.pair tI (.pair tI (.pair tI acd))))))))))))))))))))))))))) (v : Val tI) kn kx => amN p.1 p.2.1 p.2.2.1 v (fun u0 => kn u0) (kx 0) (kx 1)⟩
def aFx : acf := { pin := 5, cs := [wi, tI, tI, tI, abo, f6, abq, wi, f6, tI, tI, abo, f6, abq, wi, f6, abv, tI, tI, abp, abp, tI, tI, tI, tI], vs := [tI], head := ⟨19, .con wi :: .fn 150 [(4, 0)] :: aN 5 [.con tI, .var tI], [.cells [.con tI, .con tI, .con abo, .con f6, .con abq, .con wi, .con f6], .cells [.con tI, .con tI, .con abo, .con f6, .con abq, .con wi, .con f6], .cells [.omp 3], .mapc tI .bool, .cells [.con tI, .con tI, .con abp, .con abp, .con tI, .con tI, .con tI, .con tI]]⟩, exits := [(.ret, ⟨19, [.con wi, .fn 150 [(4, 0)], .any, .any, .var tI, .any, .any, .con tI], [.cells [.con tI, .con tI, .con abo, .con f6, .con abq, .con wi, .con f6], .cells [.con tI, .con tI, .con abo, .con f6, .con abq, .con wi, .con f6], .cells [.omp 3], .mapc tI .bool, .cells [.con tI, .con tI, .con abp, .con abp, .con tI, .con tI, .con tI, .con tI]]⟩, [tI]), (.exit 0, ⟨19, .con wi :: .fn 150 [(4, 0)] :: aN 5 [.con tI], [.cells [.con tI, .con tI, .con abo, .con f6, .con abq, .con wi, .con f6], .cells [.con tI, .con tI, .con abo, .con f6, .con abq, .con wi, .con f6], .cells [.omp 3], .mapc tI .bool, .cells [.con tI, .con tI, .con abp, .con abp, .con tI, .con tI, .con tI, .con tI]]⟩, [])] }
def atm (ρ : Type) : acJ ρ := ⟨[14, 3, 1, 2], 207, 0, aFx, fun (p : Val (.pair wi (.pair tI (.pair tI (.pair tI (.pair abo (.pair f6 (.pair abq (.pair wi (.pair f6 (.pair tI (.pair tI (.pair abo (.pair f6 (.pair abq (.pair wi (.pair f6 (.pair abv acd)))))))))))))))))) (v : Val tI) kn kx => aj2 p.1 p.2.1 p.2.2.2.2.2.2.2.2.2.2.2.2.2.2.2.2.2.1 p.2.2.2.2.2.2.2.2.2.2.2.2.2.2.2.2.2.2.1 p.2.2.2.2.2.2.2.2.2.2.2.2.2.2.2.2.2.2.2.1 p.2.2.2.2.2.2.2.2.2.2.2.2.2.2.2.2.2.2.2.2.1 p.2.2.2.2.2.2.2.2.2.2.2.2.2.2.2.2.2.2.2.2.2.1 p.2.2.2.2.2.2.2.2.2.2.2.2.2.2.2.2.2.2.2.2.2.2.1 p.2.2.2.2.2.2.2.2.2.2.2.2.2.2.2.2.2.2.2.2.2.2.2.1 p.2.2.2.2.2.2.2.2.2.2.2.2.2.2.2.2.2.2.2.2.2.2.2.2 v (fun u0 => kn u0) (kx 0) (kx 1)⟩
def aFy : acf := { pin := 0, cs := [wi, tI, tI, tI, abo, f6, abq, wi, f6, tI, tI, abo, f6, abq, wi, f6, abv], vs := [tI], head := ⟨87, .any :: .any :: .box 0 0 :: .box 1 0 :: aN 4 (.fn 147 [] :: .fn 148 [(2, 0)] :: .fn 149 [(2, 0)] :: aN 18 [.con wi, .con tI, .var tI]), [.cells [.con tI, .con tI, .con abo, .con f6, .con abq, .con wi, .con f6], .cells [.con tI, .con tI, .con abo, .con f6, .con abq, .con wi, .con f6], .cells [.omp 3], .mapc tI .bool]⟩, exits := [(.ret, ⟨87, .any :: .any :: .box 0 0 :: .box 1 0 :: .var .bool :: .any :: .any :: .any :: .fn 147 [] :: .fn 148 [(2, 0)] :: .fn 149 [(2, 0)] :: aN 18 [.con wi, .con tI], [.cells [.con tI, .con tI, .con abo, .con f6, .con abq, .con wi, .con f6], .cells [.con tI, .con tI, .con abo, .con f6, .con abq, .con wi, .con f6], .cells [.omp 3], .mapc tI .bool]⟩, [.bool]), (.exit 2, ⟨87, .any :: .any :: .box 0 0 :: .box 1 0 :: aN 4 (.fn 147 [] :: .fn 148 [(2, 0)] :: .fn 149 [(2, 0)] :: aN 18 [.con wi, .con tI]), [.cells [.con tI, .con tI, .con abo, .con f6, .con abq, .con wi, .con f6], .cells [.con tI, .con tI, .con abo, .con f6, .con abq, .con wi, .con f6], .cells [.omp 3], .mapc tI .bool]⟩, [])] }
def atn (ρ : Type) : acJ ρ := ⟨[], 77, 2, aFy, fun (p : Val (.pair wi (.pair tI (.pair tI (.pair tI (.pair abo (.pair f6 (.pair abq (.pair wi (.pair f6 (.pair tI (.pair tI (.pair abo (.pair f6 (.pair abq (.pair wi (.pair f6 abv))))))))))))))))) (v : Val tI) kn kx => aj3 p.1 p.2.1 p.2.2.2.2.2.2.2.2.2.2.2.2.2.2.1 v (fun u0 => kn u0) (kx 0) (kx 1)⟩
def aFu : acf := { pin := 6, cs := [abo, tI, tI, tI, abo, f6, abq, wi, f6, tI, tI, abo, f6, abq, wi, f6, abv, abo], vs := [tI], head := ⟨19, .con abo :: .fn 209 [(5, 0), (4, 0)] :: aN 5 [.con tI, .var tI], [.cells [.con tI, .con tI, .con abo, .con f6, .con abq, .con wi, .con f6], .cells [.con tI, .con tI, .con abo, .con f6, .con abq, .con wi, .con f6], .cells [.omp 3], .mapc tI .bool, .cells [.con abo], .cells [.fn 147 []]]⟩, exits := [(.ret, ⟨19, [.con abo, .fn 209 [(5, 0), (4, 0)], .any, .any, .var tI, .any, .any, .con tI], [.cells [.con tI, .con tI, .con abo, .con f6, .con abq, .con wi, .con f6], .cells [.con tI, .con tI, .con abo, .con f6, .con abq, .con wi, .con f6], .cells [.omp 3], .mapc tI .bool, .cells [.con abo], .cells [.fn 147 []]]⟩, [tI]), (.exit 0, ⟨19, .con abo :: .fn 209 [(5, 0), (4, 0)] :: aN 5 [.con tI], [.cells [.con tI, .con tI, .con abo, .con f6, .con abq, .con wi, .con f6], .cells [.con tI, .con tI, .con abo, .con f6, .con abq, .con wi, .con f6], .cells [.omp 3], .mapc tI .bool, .cells [.con abo], .cells [.fn 147 []]]⟩, [])] }
def atj (ρ : Type) : acJ ρ := ⟨[17, 11, 1, 2, 1, 2], 253, 0, aFu, fun (p : Val (.pair abo (.pair tI (.pair tI (.pair tI (.pair abo (.pair f6 (.pair abq (.pair wi (.pair f6 (.pair tI (.pair tI (.pair abo (.pair f6 (.pair abq (.pair wi (.pair f6 (.pair abv abo)))))))))))))))))) (v : Val tI) kn kx => aj1 p.1 p.2.1 p.2.2.2.2.2.2.2.2.2.2.2.2.2.2.2.2.2 v (fun u0 => kn u0) (kx 0) (kx 1)⟩
def aFt : acf := { pin := 8, cs := [f6, tI, tI, tI, abo, f6, abq, wi, f6, tI, tI, abo, f6, abq, wi, f6, abv, abo, f6], vs := [tI], head := ⟨19, .con f6 :: .fn 212 [(7, 0), (6, 0)] :: aN 5 [.con tI, .var tI], [.cells [.con tI, .con tI, .con abo, .con f6, .con abq, .con wi, .con f6], .cells [.con tI, .con tI, .con abo, .con f6, .con abq, .con wi, .con f6], .cells [.omp 3], .mapc tI .bool, .cells [.con abo], .cells [.fn 147 []], .cells [.con f6], .cells [.fn 148 [(2, 0)]]]⟩, exits := [(.ret, ⟨19, [.con f6, .fn 212 [(7, 0), (6, 0)], .any, .any, .var tI, .any, .any, .con tI], [.cells [.con tI, .con tI, .con abo, .con f6, .con abq, .con wi, .con f6], .cells [.con tI, .con tI, .con abo, .con f6, .con abq, .con wi, .con f6], .cells [.omp 3], .mapc tI .bool, .cells [.con abo], .cells [.fn 147 []], .cells [.con f6], .cells [.fn 148 [(2, 0)]]]⟩, [tI]), (.exit 0, ⟨19, .con f6 :: .fn 212 [(7, 0), (6, 0)] :: aN 5 [.con tI], [.cells [.con tI, .con tI, .con abo, .con f6, .con abq, .con wi, .con f6], .cells [.con tI, .con tI, .con abo, .con f6, .con abq, .con wi, .con f6], .cells [.omp 3], .mapc tI .bool, .cells [.con abo], .cells [.fn 147 []], .cells [.con f6], .cells [.fn 148 [(2, 0)]]]⟩, [])] }
def ati (ρ : Type) : acJ ρ := ⟨[17, 19, 1, 2, 1, 2], 255, 0, aFt, fun (p : Val (.pair f6 (.pair tI (.pair tI (.pair tI (.pair abo (.pair f6 (.pair abq (.pair wi (.pair f6 (.pair tI (.pair tI (.pair abo (.pair f6 (.pair abq (.pair wi (.pair f6 (.pair abv (.pair abo f6))))))))))))))))))) (v : Val tI) kn kx => agS p.1 p.2.1 p.2.2.2.2.2.2.2.2.2.2.2.2.2.2.2.2.1 p.2.2.2.2.2.2.2.2.2.2.2.2.2.2.2.2.2.2 v (fun u0 => kn u0) (kx 0) (kx 1)⟩
def aFs : acf := { pin := 10, cs := [f6, tI, tI, tI, abo, f6, abq, wi, f6, tI, tI, abo, f6, abq, wi, f6, abv, abo, f6, f6], vs := [tI], head := ⟨19, .con f6 :: .fn 212 [(9, 0), (8, 0)] :: aN 5 [.con tI, .var tI], [.cells [.con tI, .con tI, .con abo, .con f6, .con abq, .con wi, .con f6], .cells [.con tI, .con tI, .con abo, .con f6, .con abq, .con wi, .con f6], .cells [.omp 3], .mapc tI .bool, .cells [.con abo], .cells [.fn 147 []], .cells [.con f6], .cells [.fn 148 [(2, 0)]], .cells [.con f6], .cells [.fn 148 [(2, 0)]]]⟩, exits := [(.ret, ⟨19, [.con f6, .fn 212 [(9, 0), (8, 0)], .any, .any, .var tI, .any, .any, .con tI], [.cells [.con tI, .con tI, .con abo, .con f6, .con abq, .con wi, .con f6], .cells [.con tI, .con tI, .con abo, .con f6, .con abq, .con wi, .con f6], .cells [.omp 3], .mapc tI .bool, .cells [.con abo], .cells [.fn 147 []], .cells [.con f6], .cells [.fn 148 [(2, 0)]], .cells [.con f6], .cells [.fn 148 [(2, 0)]]]⟩, [tI]), (.exit 0, ⟨19, .con f6 :: .fn 212 [(9, 0), (8, 0)] :: aN 5 [.con tI], [.cells [.con tI, .con tI, .con abo, .con f6, .con abq, .con wi, .con f6], .cells [.con tI, .con tI, .con abo, .con f6, .con abq, .con wi, .con f6], .cells [.omp 3], .mapc tI .bool, .cells [.con abo], .cells [.fn 147 []], .cells [.con f6], .cells [.fn 148 [(2, 0)]], .cells [.con f6], .cells [.fn 148 [(2, 0)]]]⟩, [])] }
def ath (ρ : Type) : acJ ρ := ⟨[17, 27, 1, 2, 1, 2], 255, 0, aFs, fun (p : Val (.pair f6 (.pair tI (.pair tI (.pair tI (.pair abo (.pair f6 (.pair abq (.pair wi (.pair f6 (.pair tI (.pair tI (.pair abo (.pair f6 (.pair abq (.pair wi (.pair f6 (.pair abv (.pair abo (.pair f6 f6)))))))))))))))))))) (v : Val tI) kn kx => ah5 p.1 p.2.1 p.2.2.2.2.2.2.2.2.2.2.2.2.2.2.2.2.1 p.2.2.2.2.2.2.2.2.2.2.2.2.2.2.2.2.2.2.2 v (fun u0 => kn u0) (kx 0) (kx 1)⟩
def aFr : acf := { pin := 12, cs := [abq, tI, tI, tI, abo, f6, abq, wi, f6, tI, tI, abo, f6, abq, wi, f6, abv, abo, f6, f6, abq], vs := [tI], head := ⟨19, .con abq :: .fn 215 [(11, 0), (10, 0)] :: aN 5 [.con tI, .var tI], [.cells [.con tI, .con tI, .con abo, .con f6, .con abq, .con wi, .con f6], .cells [.con tI, .con tI, .con abo, .con f6, .con abq, .con wi, .con f6], .cells [.omp 3], .mapc tI .bool, .cells [.con abo], .cells [.fn 147 []], .cells [.con f6], .cells [.fn 148 [(2, 0)]], .cells [.con f6], .cells [.fn 148 [(2, 0)]], .cells [.con abq], .cells [.fn 149 [(2, 0)]]]⟩, exits := [(.ret, ⟨19, [.con abq, .fn 215 [(11, 0), (10, 0)], .any, .any, .var tI, .any, .any, .con tI], [.cells [.con tI, .con tI, .con abo, .con f6, .con abq, .con wi, .con f6], .cells [.con tI, .con tI, .con abo, .con f6, .con abq, .con wi, .con f6], .cells [.omp 3], .mapc tI .bool, .cells [.con abo], .cells [.fn 147 []], .cells [.con f6], .cells [.fn 148 [(2, 0)]], .cells [.con f6], .cells [.fn 148 [(2, 0)]], .cells [.con abq], .cells [.fn 149 [(2, 0)]]]⟩, [tI]), (.exit 0, ⟨19, .con abq :: .fn 215 [(11, 0), (10, 0)] :: aN 5 [.con tI], [.cells [.con tI, .con tI, .con abo, .con f6, .con abq, .con wi, .con f6], .cells [.con tI, .con tI, .con abo, .con f6, .con abq, .con wi, .con f6], .cells [.omp 3], .mapc tI .bool, .cells [.con abo], .cells [.fn 147 []], .cells [.con f6], .cells [.fn 148 [(2, 0)]], .cells [.con f6], .cells [.fn 148 [(2, 0)]], .cells [.con abq], .cells [.fn 149 [(2, 0)]]]⟩, [])] }
def atg (ρ : Type) : acJ ρ := ⟨[17, 35, 1, 2, 1, 2], 257, 0, aFr, fun (p : Val (.pair abq (.pair tI (.pair tI (.pair tI (.pair abo (.pair f6 (.pair abq (.pair wi (.pair f6 (.pair tI (.pair tI (.pair abo (.pair f6 (.pair abq (.pair wi (.pair f6 (.pair abv (.pair abo (.pair f6 (.pair f6 abq))))))))))))))))))))) (v : Val tI) kn kx => adL p.1 p.2.1 p.2.2.2.2.2.2.2.2.2.2.2.2.2.2.2.2.1 p.2.2.2.2.2.2.2.2.2.2.2.2.2.2.2.2.2.2.2.2 v (fun u0 => kn u0) (kx 0) (kx 1)⟩
def aFq : acf := { pin := 14, cs := [abq, tI, tI, tI, abo, f6, abq, wi, f6, tI, tI, abo, f6, abq, wi, f6, abv, abo, f6, f6, abq, abq], vs := [tI], head := ⟨19, .con abq :: .fn 215 [(13, 0), (12, 0)] :: aN 5 [.con tI, .var tI], [.cells [.con tI, .con tI, .con abo, .con f6, .con abq, .con wi, .con f6], .cells [.con tI, .con tI, .con abo, .con f6, .con abq, .con wi, .con f6], .cells [.omp 3], .mapc tI .bool, .cells [.con abo], .cells [.fn 147 []], .cells [.con f6], .cells [.fn 148 [(2, 0)]], .cells [.con f6], .cells [.fn 148 [(2, 0)]], .cells [.con abq], .cells [.fn 149 [(2, 0)]], .cells [.con abq], .cells [.fn 149 [(2, 0)]]]⟩, exits := [(.ret, ⟨19, [.con abq, .fn 215 [(13, 0), (12, 0)], .any, .any, .var tI, .any, .any, .con tI], [.cells [.con tI, .con tI, .con abo, .con f6, .con abq, .con wi, .con f6], .cells [.con tI, .con tI, .con abo, .con f6, .con abq, .con wi, .con f6], .cells [.omp 3], .mapc tI .bool, .cells [.con abo], .cells [.fn 147 []], .cells [.con f6], .cells [.fn 148 [(2, 0)]], .cells [.con f6], .cells [.fn 148 [(2, 0)]], .cells [.con abq], .cells [.fn 149 [(2, 0)]], .cells [.con abq], .cells [.fn 149 [(2, 0)]]]⟩, [tI]), (.exit 0, ⟨19, .con abq :: .fn 215 [(13, 0), (12, 0)] :: aN 5 [.con tI], [.cells [.con tI, .con tI, .con abo, .con f6, .con abq, .con wi, .con f6], .cells [.con tI, .con tI, .con abo, .con f6, .con abq, .con wi, .con f6], .cells [.omp 3], .mapc tI .bool, .cells [.con abo], .cells [.fn 147 []], .cells [.con f6], .cells [.fn 148 [(2, 0)]], .cells [.con f6], .cells [.fn 148 [(2, 0)]], .cells [.con abq], .cells [.fn 149 [(2, 0)]], .cells [.con abq], .cells [.fn 149 [(2, 0)]]]⟩, [])] }
def atf (ρ : Type) : acJ ρ := ⟨[17, 43, 1, 2, 1, 2], 257, 0, aFq, fun (p : Val (.pair abq (.pair tI (.pair tI (.pair tI (.pair abo (.pair f6 (.pair abq (.pair wi (.pair f6 (.pair tI (.pair tI (.pair abo (.pair f6 (.pair abq (.pair wi (.pair f6 (.pair abv (.pair abo (.pair f6 (.pair f6 (.pair abq abq)))))))))))))))))))))) (v : Val tI) kn kx => adc p.1 p.2.1 p.2.2.2.2.2.2.2.2.2.2.2.2.2.2.2.2.1 p.2.2.2.2.2.2.2.2.2.2.2.2.2.2.2.2.2.2.2.2.2 v (fun u0 => kn u0) (kx 0) (kx 1)⟩
def aKS : List (Nat × acC) := [(210, afd), (213, af0), (216, afy)]
def awY (ρ : Type) : List (acJ ρ) := [ato ρ, atl ρ, atk ρ, atm ρ, atn ρ, atj ρ, ati ρ, ath ρ, atg ρ, atf ρ]
def aeU (ρ : Type) : Env ρ := acE aKS (awY ρ)
def aDN : acC := ⟨[ab9, afc], [.bool, tI], fun (x : Val (.pair ab9 afc)) => aqb x.1 x.2⟩
def aFM : List (Nat × acC) := [(33, amC), (38, ael), (39, aqF), (77, aMp)]
def aqS (ρ : Type) : List (acJ ρ) := []
def aw4 (ρ : Type) : Env ρ := acE aFM (aqS ρ)
def azr : acC := ⟨[aci, tI, tI], [abx], fun (x : Val abZ) => apy x.1 x.2.1 x.2.2⟩
def aNR : acf := { pin := 0, cs := [tI, tI, tI, tI, abt], vs := [tI, abp], head := ⟨45, .any :: .con tI :: .con tI :: .box 0 0 :: .any :: .any :: .any :: .own 1 :: aN 7 [.con tI, .var tI], [.cells [.con tI, .con abt], .rowv tI]⟩, exits := [(.exit 0, ⟨45, .any :: .con tI :: .con tI :: .box 0 0 :: .any :: .any :: .any :: .own 1 :: aN 7 [.con tI], [.cells [.con tI, .con abt], .rowv tI]⟩, [abp])] }
def aD6 (ρ : Type) : acJ ρ := ⟨[], 156, 0, aNR, fun (p : Val (.pair tI (.pair tI abM))) (v : Val abD) kn kx => ap2 p.2.2.1 v.1 v.2 (fun u0 u1 => kn (u0, u1)) (kx 0)⟩
def aNP : acf := { pin := 4, cs := [abp, tI, abx, tI, abt], vs := [tI, abp], head := ⟨53, .con abp :: .box 1 0 :: .any :: .any :: .own 4 :: aN 7 [.con tI, .var tI], [.rowc abp, .cells [.con tI, .con abt], .dead, .dead, .rowv tI]⟩, exits := [(.exit 0, ⟨53, .con abp :: .box 1 0 :: .any :: .any :: .own 4 :: aN 7 [.con tI], [.rowc abp, .cells [.con tI, .con abt], .dead, .dead, .rowv tI]⟩, [abp])] }
def aD4 (ρ : Type) : acJ ρ := ⟨[12, 8], 217, 0, aNP, fun (p : Val (.pair abp (.pair tI (.pair abx aci)))) (v : Val abD) kn kx => aFV p.2.1 v.1 v.2 (fun u0 u1 => kn (u0, u1)) (kx 0)⟩
def aNO : acf := { pin := 4, cs := [abp, abt, tI, abx, tI, abt], vs := [tI, abp], head := ⟨53, .con abp :: .any :: .any :: .any :: .own 4 :: aN 16 [.con abt, .con tI, .var tI], [.rowc abp, .cells [.con tI, .con abt], .dead, .dead, .rowv tI]⟩, exits := [(.exit 2, ⟨53, .con abp :: .any :: .any :: .any :: .own 4 :: aN 16 [.con abt, .con tI], [.rowc abp, .cells [.con tI, .con abt], .dead, .dead, .rowv tI]⟩, [abp])] }
def aD3 (ρ : Type) : acJ ρ := ⟨[12, 8], 217, 2, aNO, fun (p : Val (.pair abp (.pair abt (.pair tI (.pair abx aci))))) (v : Val abD) kn kx => atM p.1 p.2.1 p.2.2.1 v.1 v.2 (fun u0 u1 => kn (u0, u1)) (kx 0)⟩
def aNQ : acf := { pin := 0, cs := [tI, tI, abt], vs := [tI, abx], head := ⟨45, aN 9 (.own 0 :: .fn 217 [(1, 0)] :: aN 18 [.con tI, .var tI]), [.rowv abp, .cells [.con tI, .con abt]]⟩, exits := [(.exit 2, ⟨45, aN 9 (.own 0 :: .fn 217 [(1, 0)] :: aN 18 [.con tI]), [.rowv abp, .cells [.con tI, .con abt]]⟩, [abx])] }
def aD5 (ρ : Type) : acJ ρ := ⟨[], 156, 2, aNQ, fun (p : Val abM) (v : Val (.pair tI abx)) kn kx => ayJ p.1 p.2.1 p.2.2 v.1 v.2 (fun u0 u1 => kn (u0, u1)) (kx 0)⟩
def aRL : List (Nat × acC) := []
def aIH (ρ : Type) : List (acJ ρ) := [aD6 ρ, aD4 ρ, aD3 ρ, aD5 ρ]
def avU (ρ : Type) : Env ρ := acE aRL (aIH ρ)
def aH1 : acC := ⟨[aci], [abp, tI], fun (x : Val aci) => apz x⟩
def aCP : acf := { pin := 0, cs := [tI, tI, abt], vs := [tI, abP], head := ⟨93, .any :: .box 0 0 :: aN 6 (.own 1 :: aN 24 [.con tI, .var tI]), [.cells [.con tI, .con abt], .rowv abx]⟩, exits := [(.exit 0, ⟨93, .any :: .box 0 0 :: aN 6 (.own 1 :: aN 24 [.con tI]), [.cells [.con tI, .con abt], .rowv abx]⟩, [abP])] }
def aq1 (ρ : Type) : acJ ρ := ⟨[], 78, 0, aCP, fun (p : Val abM) (v : Val (.pair tI abP)) kn kx => axc p.1 p.2.1 p.2.2 v.1 v.2 (fun u0 u1 => kn (u0, u1)) (kx 0)⟩
def aCL : acf := { pin := 3, cs := [tI, abx, abt, tI, tI, abt, abP, tI, tI, tI, tI, abt], vs := [tI, tI, tI, abp], head := ⟨73, .any :: .var tI :: .con tI :: .con abx :: .fn 157 [] :: .box 3 0 :: aN 5 (.own 4 :: .var tI :: aN 7 [.con abt, .con tI, .var tI]), [.cells [.con tI, .con abt], .rowc abx, .cells [.con tI, .con tI, .con tI], .cells [.con tI, .con abt], .rowv tI]⟩, exits := [(.exit 2, ⟨73, .any :: .var tI :: .con tI :: .con abx :: .fn 157 [] :: .box 3 0 :: aN 5 (.own 4 :: .var tI :: aN 7 [.con abt, .con tI]), [.cells [.con tI, .con abt], .rowc abx, .cells [.con tI, .con tI, .con tI], .cells [.con tI, .con abt], .rowv tI]⟩, [tI, tI, abp])] }
def aqX (ρ : Type) : acJ ρ := ⟨[22, 10], 158, 2, aCL, fun (p : Val (.pair tI (.pair abx (.pair abt (.pair tI (.pair tI (.pair abt (.pair abP (.pair tI (.pair tI abM)))))))))) (v : Val abI) kn kx => aw8 p.1 p.2.1 p.2.2.1 p.2.2.2.1 v.1 v.2.1 v.2.2.1 v.2.2.2 (fun u0 u1 u2 u3 => kn (u0, u1, u2, u3)) (kx 0)⟩
def aCM : acf := { pin := 3, cs := [abx, tI, abt, abP, tI, tI, tI, tI, abt], vs := [tI, tI, tI, abp], head := ⟨73, .any :: .var tI :: .var tI :: .con abx :: .fn 157 [] :: .box 3 0 :: aN 5 [.own 4, .var tI], [.cells [.con tI, .con abt], .rowc abx, .cells [.con tI, .con tI, .con tI], .cells [.con tI, .con abt], .rowv tI]⟩, exits := [(.exit 0, ⟨73, .any :: .any :: .any :: .con abx :: .fn 157 [] :: .box 3 0 :: aN 5 [.own 4], [.cells [.con tI, .con abt], .rowc abx, .cells [.con tI, .con tI, .con tI], .cells [.con tI, .con abt], .rowv tI]⟩, [abp])] }
def aqY (ρ : Type) : acJ ρ := ⟨[22, 10], 158, 0, aCM, fun (p : Val (.pair abx (.pair tI (.pair abt (.pair abP (.pair tI (.pair tI abM))))))) (v : Val abI) kn kx => aw9 p.1 p.2.2.2.2.2.2.2.2 v.1 v.2.1 v.2.2.1 v.2.2.2 (fun u0 u1 u2 u3 => kn (u0, u1, u2, u3)) (kx 0)⟩
def aCN : acf := { pin := 0, cs := [tI, abt, tI, tI, abt, abP], vs := [tI], head := ⟨93, .any :: .box 0 0 :: aN 6 (.own 1 :: .any :: .fn 157 [] :: .con tI :: aN 37 [.con abt, .con tI, .var tI]), [.cells [.con tI, .con abt], .rowc abx]⟩, exits := [(.exit 2, ⟨93, .any :: .box 0 0 :: aN 6 (.own 1 :: .any :: .fn 157 [] :: .con tI :: aN 37 [.con abt, .con tI]), [.cells [.con tI, .con abt], .rowc abx]⟩, []), (.ret, ⟨93, .any :: .box 0 0 :: .own 2 :: .var tI :: aN 4 (.own 1 :: .any :: .fn 157 [] :: .con tI :: aN 37 [.con abt, .con tI]), [.cells [.con tI, .con abt], .rowc abx, .rowv tI]⟩, [tI, abp]), (.exit 4, ⟨93, .any :: .box 0 0 :: aN 6 (.own 1 :: .any :: .fn 157 [] :: .con tI :: aN 37 [.con abt, .con tI]), [.cells [.con tI, .con abt], .rowc abx]⟩, [])] }
def aqZ (ρ : Type) : acJ ρ := ⟨[], 78, 4, aCN, fun (p : Val (.pair tI (.pair abt (.pair tI (.pair tI (.pair abt abP)))))) (v : Val tI) kn kx => axa p.1 p.2.1 p.2.2.1 p.2.2.2.1 p.2.2.2.2.1 p.2.2.2.2.2 v (fun u0 => kn u0) (kx 0) (kx 1) (kx 2)⟩
def aCO : acf := { pin := 0, cs := [tI, abt, abP], vs := [tI], head := ⟨93, .any :: .box 0 0 :: aN 6 [.own 1, .any, .fn 157 [], .var tI], [.cells [.con tI, .con abt], .rowc abx]⟩, exits := [(.exit 2, ⟨93, .any :: .box 0 0 :: aN 6 [.own 1, .any, .fn 157 []], [.cells [.con tI, .con abt], .rowc abx]⟩, []), (.ret, ⟨93, .any :: .box 0 0 :: .own 2 :: .var tI :: aN 4 [.own 1, .any, .fn 157 []], [.cells [.con tI, .con abt], .rowc abx, .rowv tI]⟩, [tI, abp])] }
def aq0 (ρ : Type) : acJ ρ := ⟨[], 78, 2, aCO, fun (p : Val (.pair tI (.pair abt abP))) (v : Val tI) kn kx => axb p.1 p.2.1 p.2.2 v (fun u0 => kn u0) (kx 0) (kx 1)⟩
def aIJ : List (Nat × acC) := [(133, alL), (135, akv), (156, azr)]
def atS (ρ : Type) : List (acJ ρ) := [aq1 ρ, aqX ρ, aqY ρ, aqZ ρ, aq0 ρ]
def agT (ρ : Type) : Env ρ := acE aIJ (atS ρ)
def arx : acC := ⟨[ab9, abp], [f6], fun (x : Val (.pair ab9 abp)) => akf x.1 x.2⟩
def axW : acf := { pin := 0, cs := [f6, abp, tI], vs := [tI, f6], head := ⟨32, aN 6 (.con f6 :: .any :: .own 0 :: aN 8 [.con abp, .con tI, .var tI]), [.rowv ab6]⟩, exits := [(.exit 0, ⟨32, aN 6 (.con f6 :: .any :: .own 0 :: aN 8 [.con abp, .con tI]), [.rowv ab6]⟩, [f6])] }
def anP (ρ : Type) : acJ ρ := ⟨[], 80, 0, axW, fun (p : Val (.pair f6 abJ)) (v : Val abH) kn kx => aip p.1 p.2.1 p.2.2 v.1 v.2 (fun u0 u1 => kn (u0, u1)) (kx 0)⟩
def aCi : List (Nat × acC) := [(20, aeu)]
def aoI (ρ : Type) : List (acJ ρ) := [anP ρ]
def amM (ρ : Type) : Env ρ := acE aCi (aoI ρ)
def aHZ : acC := ⟨[ab9], [afc, tI], fun (x : Val ab9) => auR x⟩
def aIE : List (Nat × acC) := [(20, aeu), (78, aH1), (79, ajT), (80, arx)]
def atD (ρ : Type) : List (acJ ρ) := []
def azZ (ρ : Type) : Env ρ := acE aIE (atD ρ)
def asN : acC := ⟨[tI], [tI], fun (x : Val tI) => ahA x⟩
def ax2 : List (Nat × acC) := []
def al1 (ρ : Type) : List (acJ ρ) := []
def aoS (ρ : Type) : Env ρ := acE ax2 (al1 ρ)
def asM : acC := ⟨[ac8, tI], [abp], fun (x : Val (.pair ac8 tI)) => afM x.1 x.2⟩
def ax1 : List (Nat × acC) := []
def alU (ρ : Type) : List (acJ ρ) := []
def aoQ (ρ : Type) : Env ρ := acE ax1 (alU ρ)
def ary : acC := ⟨[ab9, ab6, ab6, acd], [.bool, tI], fun (x : Val abQ) => aig x.1 x.2.1 x.2.2.1 x.2.2.2⟩
def aeW : acf := { pin := 5, cs := [tI, tI, tI, abo, f6, abq, wi, f6, tI, tI, tI, tI, tI, tI, abp, abp, tI, tI, tI, tI, f6], vs := [tI, tI, tI, abo, f6, abq, wi, f6], head := ⟨68, .any :: .any :: .box 5 0 :: aN 20 [.own 4, .con tI, .var tI], [.cells [.con tI, .con tI, .con abo, .con f6, .con abq, .con wi, .con f6], .cells [.con tI, .con tI], .cells [.con tI, .con tI], .cells [.con tI, .con tI, .con abp, .con abp, .con tI, .con tI, .con tI, .con tI], .rowc ab6, .cells [.var tI, .var tI, .var abo, .var f6, .var abq, .var wi, .var f6]]⟩, exits := [(.ret, ⟨68, .any :: .any :: .box 5 0 :: .any :: .nilp :: .var tI :: aN 17 [.own 4, .con tI], [.cells [.con tI, .con tI, .con abo, .con f6, .con abq, .con wi, .con f6], .cells [.con tI, .con tI], .cells [.con tI, .con tI], .cells [.con tI, .con tI, .con abp, .con abp, .con tI, .con tI, .con tI, .con tI], .rowc ab6, .cells [.var tI, .var tI, .var abo, .var f6, .var abq, .var wi, .var f6]]⟩, [tI, tI, tI, abo, f6, abq, wi, f6]), (.exit 0, ⟨68, .any :: .any :: .box 5 0 :: aN 20 [.own 4, .con tI], [.cells [.con tI, .con tI, .con abo, .con f6, .con abq, .con wi, .con f6], .cells [.con tI, .con tI], .cells [.con tI, .con tI], .cells [.con tI, .con tI, .con abp, .con abp, .con tI, .con tI, .con tI, .con tI], .rowc ab6, .cells [.var tI, .var tI, .var abo, .var f6, .var abq, .var wi, .var f6]]⟩, [tI, tI, abo, f6, abq, wi, f6])] }
def ai7 (ρ : Type) : acJ ρ := ⟨[1, 3], 50, 0, aeW, fun (p : Val abz) (v : Val abG) kn kx => alk p.1 p.2.2.2.2.2.2.2.2.2.2.2.2.2.2.2.2.2.2.2.2 v.1 v.2.1 v.2.2.1 v.2.2.2.1 v.2.2.2.2.1 v.2.2.2.2.2.1 v.2.2.2.2.2.2.1 v.2.2.2.2.2.2.2 (fun u0 u1 u2 u3 u4 u5 u6 u7 => kn (u0, u1, u2, u3, u4, u5, u6, u7)) (kx 0) (kx 1)⟩
def aeV : acf := { pin := 12, cs := [abp, tI, tI, tI, abo, f6, abq, wi, f6, tI, tI, tI, tI, tI, tI, abp, abp, tI, tI, tI, tI, f6, tI, tI, abo, f6, abq, wi, f6, tI, abt, tI, tI, tI, tI, tI, tI, tI, tI, abx, abx, abx], vs := [tI], head := ⟨19, .con abp :: .fn 98 [(8, 0), (2, 0)] :: aN 5 [.con tI, .var tI], [.cells [.con tI, .con tI, .con abo, .con f6, .con abq, .con wi, .con f6], .cells [.con tI, .con tI], .cells [.con tI, .con tI], .cells [.con tI, .con tI, .con abp, .con abp, .con tI, .con tI, .con tI, .con tI], .rowc ab6, .cells [.con tI, .con tI, .con abo, .con f6, .con abq, .con wi, .con f6], .cells [.con tI, .con abt], .dead, .cells [.con tI, .con tI, .con tI, .con tI, .con tI, .con tI, .con tI, .con tI], .rowf abp 0, .rowf abp 0, .rowf abp 0]⟩, exits := [(.ret, ⟨19, [.con abp, .fn 98 [(8, 0), (2, 0)], .any, .any, .var tI, .any, .any, .con tI], [.cells [.con tI, .con tI, .con abo, .con f6, .con abq, .con wi, .con f6], .cells [.con tI, .con tI], .cells [.con tI, .con tI], .cells [.con tI, .con tI, .con abp, .con abp, .con tI, .con tI, .con tI, .con tI], .rowc ab6, .cells [.con tI, .con tI, .con abo, .con f6, .con abq, .con wi, .con f6], .cells [.con tI, .con abt], .dead, .cells [.con tI, .con tI, .con tI, .con tI, .con tI, .con tI, .con tI, .con tI], .rowf abp 0, .rowf abp 0, .rowf abp 0]⟩, [tI]), (.exit 0, ⟨19, .con abp :: .fn 98 [(8, 0), (2, 0)] :: aN 5 [.con tI], [.cells [.con tI, .con tI, .con abo, .con f6, .con abq, .con wi, .con f6], .cells [.con tI, .con tI], .cells [.con tI, .con tI], .cells [.con tI, .con tI, .con abp, .con abp, .con tI, .con tI, .con tI, .con tI], .rowc ab6, .cells [.con tI, .con tI, .con abo, .con f6, .con abq, .con wi, .con f6], .cells [.con tI, .con abt], .dead, .cells [.con tI, .con tI, .con tI, .con tI, .con tI, .con tI, .con tI, .con tI], .rowf abp 0, .rowf abp 0, .rowf abp 0]⟩, [])] }
def ai6 (ρ : Type) : acJ ρ := ⟨[18, 4, 1, 2], 178, 0, aeV, fun (p : Val abw) (v : Val tI) kn kx => aiq p.1 p.2.1 p.2.2.2.2.2.2.2.2.2.2.2.1 p.2.2.2.2.2.2.2.2.2.2.2.2.1 p.2.2.2.2.2.2.2.2.2.2.2.2.2.2.2.2.2.2.2.2.2.2.2.2.2.2.2.2.2.2.2.1 p.2.2.2.2.2.2.2.2.2.2.2.2.2.2.2.2.2.2.2.2.2.2.2.2.2.2.2.2.2.2.2.2.1 p.2.2.2.2.2.2.2.2.2.2.2.2.2.2.2.2.2.2.2.2.2.2.2.2.2.2.2.2.2.2.2.2.2.1 p.2.2.2.2.2.2.2.2.2.2.2.2.2.2.2.2.2.2.2.2.2.2.2.2.2.2.2.2.2.2.2.2.2.2.1 p.2.2.2.2.2.2.2.2.2.2.2.2.2.2.2.2.2.2.2.2.2.2.2.2.2.2.2.2.2.2.2.2.2.2.2.1 p.2.2.2.2.2.2.2.2.2.2.2.2.2.2.2.2.2.2.2.2.2.2.2.2.2.2.2.2.2.2.2.2.2.2.2.2.1 p.2.2.2.2.2.2.2.2.2.2.2.2.2.2.2.2.2.2.2.2.2.2.2.2.2.2.2.2.2.2.2.2.2.2.2.2.2.1 p.2.2.2.2.2.2.2.2.2.2.2.2.2.2.2.2.2.2.2.2.2.2.2.2.2.2.2.2.2.2.2.2.2.2.2.2.2.2.1 v (fun u0 => kn u0) (kx 0) (kx 1)⟩
def aqT : List (Nat × acC) := [(20, aeu), (38, ael), (60, af9), (61, ajo), (69, arw), (71, avk), (94, aeb), (95, amB), (96, asN), (97, asM), (99, ak9), (101, ala), (123, aer)]
def aj7 (ρ : Type) : List (acJ ρ) := [ai7 ρ, ai6 ρ]
def alj : List aQ9 := [⟨[], 42, 0, 4⟩]
def ada (ρ : Type) : Env ρ := { acE aqT (aj7 ρ) with hint := awo [(51, 96), (55, 96)] }
def amS (ρ : Type) : Env ρ := { { aSJ aqT (aj7 ρ) alj with loops := aJf (ada ρ) alj } with hint := awo [(51, 96), (55, 96)] }
def awS : acC := ⟨[], [ab9], fun (_ : Unit) => apw⟩
def azG : List (Nat × acC) := []
def anN (ρ : Type) : List (acJ ρ) := []
def aqK (ρ : Type) : Env ρ := acE azG (anN ρ)
def aH2 : acC := ⟨[aci, tI, tI], [abp, tI], fun (x : Val abZ) => apA x.1 x.2.1 x.2.2⟩
def aCT : acf := { pin := 3, cs := [abx, tI, tI, abt, tI, tI], vs := [tI], head := ⟨19, .con abx :: .fn 194 [(1, 0), (2, 0)] :: aN 5 [.con tI, .var tI], [.cells [.con tI, .con abt], .cells [.con tI], .cells [.con tI]]⟩, exits := [(.ret, ⟨19, [.con abx, .fn 194 [(1, 0), (2, 0)], .any, .any, .var tI, .any, .any, .con tI], [.cells [.con tI, .con abt], .cells [.con tI], .cells [.con tI]]⟩, [tI]), (.exit 0, ⟨19, .con abx :: .fn 194 [(1, 0), (2, 0)] :: aN 5 [.con tI], [.cells [.con tI, .con abt], .cells [.con tI], .cells [.con tI]]⟩, [])] }
def aq5 (ρ : Type) : acJ ρ := ⟨[5, 2], 193, 0, aCT, fun (p : Val (.pair abx (.pair tI (.pair tI (.pair abt ab6))))) (v : Val tI) kn kx => akS p.1 p.2.1 p.2.2.2.2.1 p.2.2.2.2.2 v (fun u0 => kn u0) (kx 0) (kx 1)⟩
def aCR : acf := { pin := 3, cs := [tI, abx, abt, tI, tI, abt, tI, tI, tI, abt], vs := [tI, tI, tI, abp], head := ⟨73, .any :: .var tI :: .con tI :: .con abx :: .fn 195 [(2, 0)] :: .box 3 0 :: aN 5 (.own 4 :: .var tI :: aN 7 [.con abt, .con tI, .var tI]), [.cells [.con tI, .con abt], .cells [.con tI], .cells [.con tI], .cells [.con tI, .con abt], .rowv tI]⟩, exits := [(.exit 2, ⟨73, .any :: .var tI :: .con tI :: .con abx :: .fn 195 [(2, 0)] :: .box 3 0 :: aN 5 (.own 4 :: .var tI :: aN 7 [.con abt, .con tI]), [.cells [.con tI, .con abt], .cells [.con tI], .cells [.con tI], .cells [.con tI, .con abt], .rowv tI]⟩, [tI, tI, abp])] }
def aq3 (ρ : Type) : acJ ρ := ⟨[6, 5], 158, 2, aCR, fun (p : Val (.pair tI (.pair abx (.pair abt (.pair tI (.pair tI (.pair abt (.pair tI abM)))))))) (v : Val abI) kn kx => axd p.1 p.2.1 p.2.2.1 p.2.2.2.1 p.2.2.2.2.2.2.2.1 v.1 v.2.1 v.2.2.1 v.2.2.2 (fun u0 u1 u2 u3 => kn (u0, u1, u2, u3)) (kx 0)⟩
def aCS : acf := { pin := 3, cs := [abx, tI, abt, tI, tI, tI, abt], vs := [tI, tI, tI, abp], head := ⟨73, .any :: .var tI :: .var tI :: .con abx :: .fn 195 [(2, 0)] :: .box 3 0 :: aN 5 [.own 4, .var tI], [.cells [.con tI, .con abt], .cells [.con tI], .cells [.con tI], .cells [.con tI, .con abt], .rowv tI]⟩, exits := [(.exit 0, ⟨73, .any :: .any :: .any :: .con abx :: .fn 195 [(2, 0)] :: .box 3 0 :: aN 5 [.own 4], [.cells [.con tI, .con abt], .cells [.con tI], .cells [.con tI], .cells [.con tI, .con abt], .rowv tI]⟩, [abp])] }
def aq4 (ρ : Type) : acJ ρ := ⟨[6, 5], 158, 0, aCS, fun (p : Val (.pair abx (.pair tI (.pair abt (.pair tI abM))))) (v : Val abI) kn kx => akR p.1 p.2.2.2.2.1 p.2.2.2.2.2.2 v.1 v.2.1 v.2.2.1 v.2.2.2 (fun u0 u1 u2 u3 => kn (u0, u1, u2, u3)) (kx 0)⟩
def aIL : List (Nat × acC) := [(89, asP), (156, azr)]
def atW (ρ : Type) : List (acJ ρ) := [aq5 ρ, aq3 ρ, aq4 ρ]
def aj8 (ρ : Type) : Env ρ := acE aIL (atW ρ)
def asO : acC := ⟨[abB, abW, (.ptr .bool)], [abp], fun (x : Val (.pair abB (.pair abW (.ptr .bool)))) => ahC x.1 x.2.1 x.2.2⟩
def ax7 : List (Nat × acC) := [(55, agM), (120, aH2)]
def al4 (ρ : Type) : List (acJ ρ) := []
def aoX (ρ : Type) : Env ρ := acE ax7 (al4 ρ)
def azp : acC := ⟨[ab9, ab6, .bool], [afc, tI], fun (x : Val (.pair ab9 (.pair ab6 .bool))) => ant x.1 x.2.1 x.2.2⟩
def ax6 : acf := { pin := 5, cs := [tI, tI, tI, abo, f6, abq, wi, f6, tI, tI, tI, tI, .bool, tI, f6], vs := [tI, tI, tI, abo, f6, abq, wi, f6], head := ⟨68, .any :: .any :: .box 5 0 :: aN 20 [.own 4, .con tI, .var tI], [.cells [.con tI, .con tI, .con abo, .con f6, .con abq, .con wi, .con f6], .dead, .dead, .cells [.con tI, .con tI, .nils, .nils, .nils, .nils, .nils, .con tI, .con tI, .con .bool, .con tI, .nils], .rowc ab6, .cells [.var tI, .var tI, .var abo, .var f6, .var abq, .var wi, .var f6]]⟩, exits := [(.ret, ⟨68, .any :: .any :: .box 5 0 :: .any :: .nilp :: .var tI :: aN 17 [.own 4, .con tI], [.cells [.con tI, .con tI, .con abo, .con f6, .con abq, .con wi, .con f6], .dead, .dead, .cells [.con tI, .con tI, .nils, .nils, .nils, .nils, .nils, .con tI, .con tI, .con .bool, .con tI, .nils], .rowc ab6, .cells [.var tI, .var tI, .var abo, .var f6, .var abq, .var wi, .var f6]]⟩, [tI, tI, tI, abo, f6, abq, wi, f6]), (.exit 0, ⟨68, .any :: .any :: .box 5 0 :: aN 20 [.own 4, .con tI], [.cells [.con tI, .con tI, .con abo, .con f6, .con abq, .con wi, .con f6], .dead, .dead, .cells [.con tI, .con tI, .nils, .nils, .nils, .nils, .nils, .con tI, .con tI, .con .bool, .con tI, .nils], .rowc ab6, .cells [.var tI, .var tI, .var abo, .var f6, .var abq, .var wi, .var f6]]⟩, [tI, tI, abo, f6, abq, wi, f6])] }
def anX (ρ : Type) : acJ ρ := ⟨[1, 3], 50, 0, ax6, fun (p : Val (.pair tI (.pair tI (.pair tI (.pair abo (.pair f6 (.pair abq (.pair wi (.pair f6 (.pair tI (.pair tI (.pair tI (.pair tI (.pair .bool abH)))))))))))))) (v : Val abG) kn kx => alp p.1 p.2.2.2.2.2.2.2.2.2.2.2.2.2.2 v.1 v.2.1 v.2.2.1 v.2.2.2.1 v.2.2.2.2.1 v.2.2.2.2.2.1 v.2.2.2.2.2.2.1 v.2.2.2.2.2.2.2 (fun u0 u1 u2 u3 u4 u5 u6 u7 => kn (u0, u1, u2, u3, u4, u5, u6, u7)) (kx 0) (kx 1)⟩
def ax5 : acf := { pin := 10, cs := [tI, tI, tI, abo, f6, abq, wi, f6, tI, tI, tI, tI, .bool, tI, f6, tI, tI, abo, f6, abq, wi, f6, tI, abt, f6, tI, tI, abo, f6, abq, wi, f6, tI, tI, abo, f6, abq, wi, f6], vs := [tI], head := ⟨68, .any :: .any :: .box 10 0 :: aN 20 [.nils, .con tI, .var tI], [.cells [.con tI, .con tI, .con abo, .con f6, .con abq, .con wi, .con f6], .dead, .dead, .cells [.con tI, .con tI, .nils, .nils, .nils, .nils, .nils, .con tI, .con tI, .con .bool, .con tI, .nils], .rowc ab6, .cells [.con tI, .con tI, .con abo, .con f6, .con abq, .con wi, .con f6], .cells [.con tI, .con abt], .dead, .rowf ab6 0, .cells [.con tI, .con tI, .con abo, .con f6, .con abq, .con wi, .con f6], .cells [.con tI, .con tI, .con abo, .con f6, .con abq, .con wi, .con f6]]⟩, exits := [(.exit 0, ⟨68, .any :: .any :: .box 10 0 :: aN 20 [.nils, .con tI], [.cells [.con tI, .con tI, .con abo, .con f6, .con abq, .con wi, .con f6], .dead, .dead, .cells [.con tI, .con tI, .nils, .nils, .nils, .nils, .nils, .con tI, .con tI, .con .bool, .con tI, .nils], .rowc ab6, .cells [.con tI, .con tI, .con abo, .con f6, .con abq, .con wi, .con f6], .cells [.con tI, .con abt], .dead, .rowf ab6 0, .cells [.con tI, .con tI, .con abo, .con f6, .con abq, .con wi, .con f6], .cells [.con tI, .con tI, .con abo, .con f6, .con abq, .con wi, .con f6]]⟩, [])] }
def anW (ρ : Type) : acJ ρ := ⟨[6, 1], 50, 0, ax5, fun (p : Val (.pair tI (.pair tI (.pair tI (.pair abo (.pair f6 (.pair abq (.pair wi (.pair f6 (.pair tI (.pair tI (.pair tI (.pair tI (.pair .bool (.pair tI (.pair f6 (.pair tI (.pair tI (.pair abo (.pair f6 (.pair abq (.pair wi (.pair f6 (.pair tI (.pair abt (.pair f6 abE)))))))))))))))))))))))))) (v : Val tI) kn kx => alo p.1 v (fun u0 => kn u0) (kx 0)⟩
def aCF : List (Nat × acC) := [(20, aeu), (38, ael), (60, af9), (61, ajo), (79, ajT), (80, arx), (119, asO), (121, alb), (122, ahV), (123, aer)]
def aoW (ρ : Type) : List (acJ ρ) := [anX ρ, anW ρ]
def ahs (ρ : Type) : Env ρ := { acE aCF (aoW ρ) with hint := awo [(34, 119), (56, 119)] }
def azm : acC := ⟨[], [.bool], fun (_ : Unit) => aej⟩
def aCe : List (Nat × acC) := [(15, aox), (17, azq), (18, aMq), (25, azo), (31, azn), (33, amC), (35, aDN), (36, aHZ), (42, ary), (48, awS), (49, azp)]
def aoC (ρ : Type) : List (acJ ρ) := []
def as5 (ρ : Type) : Env ρ := acE aCe (aoC ρ)
def aHW : acC := ⟨[ab9, f6], [ab9, .bool], fun (x : Val (.pair ab9 f6)) => aiQ x.1 x.2⟩
def aCd : acf := { pin := 0, cs := [f6], vs := [tI, tI, tI, abo, f6, abq, wi, f6, tI, tI, abo, f6, abq, wi, f6], head := ⟨42, [.any, .con f6, .box 0 0, .any, .box 1 0, .any, .var tI], [.cells [.var tI, .var tI, .var abo, .var f6, .var abq, .var wi, .var f6], .cells [.var tI, .var tI, .var abo, .var f6, .var abq, .var wi, .var f6]]⟩, exits := [(.ret, ⟨42, [.any, .con f6, .box 0 0, .any, .box 1 0, .var .bool], [.cells [.var tI, .var tI, .var abo, .var f6, .var abq, .var wi, .var f6], .cells [.var tI, .var tI, .var abo, .var f6, .var abq, .var wi, .var f6]]⟩, [.bool, tI, tI, abo, f6, abq, wi, f6, tI, tI, abo, f6, abq, wi, f6]), (.exit 0, ⟨42, [.any, .con f6, .box 0 0, .any, .box 1 0], [.cells [.var tI, .var tI, .var abo, .var f6, .var abq, .var wi, .var f6], .cells [.var tI, .var tI, .var abo, .var f6, .var abq, .var wi, .var f6]]⟩, [tI, tI, abo, f6, abq, wi, f6, tI, tI, abo, f6, abq, wi, f6])] }
def aqJ (ρ : Type) : acJ ρ := ⟨[], 19, 0, aCd, fun (p : Val f6) (v : Val (.pair tI abE)) kn kx => aiA p v.1 v.2.1 v.2.2.1 v.2.2.2.1 v.2.2.2.2.1 v.2.2.2.2.2.1 v.2.2.2.2.2.2.1 v.2.2.2.2.2.2.2.1 v.2.2.2.2.2.2.2.2.1 v.2.2.2.2.2.2.2.2.2.1 v.2.2.2.2.2.2.2.2.2.2.1 v.2.2.2.2.2.2.2.2.2.2.2.1 v.2.2.2.2.2.2.2.2.2.2.2.2.1 v.2.2.2.2.2.2.2.2.2.2.2.2.2.1 v.2.2.2.2.2.2.2.2.2.2.2.2.2.2 (fun u0 u1 u2 u3 u4 u5 u6 u7 u8 u9 u10 u11 u12 u13 u14 => kn (u0, u1, u2, u3, u4, u5, u6, u7, u8, u9, u10, u11, u12, u13, u14)) (kx 0) (kx 1)⟩
def aIo : List (Nat × acC) := [(60, af9), (61, ajo)]
def as3 (ρ : Type) : List (acJ ρ) := [aqJ ρ]
def arH (ρ : Type) : Env ρ := acE aIo (as3 ρ)
def aim : acC := ⟨[ab9, ab6, ab6, acd], [.bool], fun (x : Val abQ) => alA x.1 x.2.1 x.2.2.1 x.2.2.2⟩
def arL : acf := { pin := 0, cs := [tI, .bool, tI, tI, tI, tI, tI, tI, abp, abp, tI, tI, tI, tI, tI, abo, f6, abq, wi, f6, tI, tI], vs := [tI, .bool, tI, tI], head := ⟨151, aN 5 [.box 0 0, .box 1 0, .box 2 0, .any, .box 3 0, .any, .box 4 0, .any, .con tI, .any, .con .bool, .any, .var tI, .var .bool, .var tI], [.cells [.con tI, .con tI], .cells [.con tI, .con tI], .cells [.con tI, .con tI, .con abp, .con abp, .var tI, .con tI, .con tI, .con tI], .cells [.con tI, .con tI, .con abo, .con f6, .con abq, .con wi, .con f6], .cells [.con tI, .con tI]]⟩, exits := [(.ret, ⟨151, aN 5 [.box 0 0, .box 1 0, .box 2 0, .var .bool, .box 3 0, .any, .box 4 0, .any, .con tI, .any, .con .bool], [.cells [.con tI, .con tI], .cells [.con tI, .con tI], .cells [.con tI, .con tI, .con abp, .con abp, .var tI, .con tI, .con tI, .con tI], .cells [.con tI, .con tI, .con abo, .con f6, .con abq, .con wi, .con f6], .cells [.con tI, .con tI]]⟩, [.bool, tI]), (.exit 0, ⟨151, aN 5 [.box 0 0, .box 1 0, .box 2 0, .any, .box 3 0, .any, .box 4 0, .any, .con tI, .any, .con .bool, .any, .var tI, .var .bool], [.cells [.con tI, .con tI], .cells [.con tI, .con tI], .cells [.con tI, .con tI, .con abp, .con abp, .var tI, .con tI, .con tI, .con tI], .cells [.con tI, .con tI, .con abo, .con f6, .con abq, .con wi, .con f6], .cells [.con tI, .con tI]]⟩, [tI, .bool, tI])] }
def ajV (ρ : Type) : acJ ρ := ⟨[], 11, 0, arL, fun (p : Val (.pair tI (.pair .bool (.pair tI (.pair tI (.pair tI (.pair tI (.pair tI (.pair tI (.pair abp (.pair abp (.pair tI (.pair tI (.pair tI (.pair tI (.pair tI (.pair abo (.pair f6 (.pair abq (.pair wi abY)))))))))))))))))))) (v : Val (.pair tI (.pair .bool ab6))) kn kx => afn p.2.2.1 p.2.2.2.1 p.2.2.2.2.1 p.2.2.2.2.2.1 p.2.2.2.2.2.2.1 p.2.2.2.2.2.2.2.1 p.2.2.2.2.2.2.2.2.1 p.2.2.2.2.2.2.2.2.2.1 p.2.2.2.2.2.2.2.2.2.2.1 p.2.2.2.2.2.2.2.2.2.2.2.1 p.2.2.2.2.2.2.2.2.2.2.2.2.1 p.2.2.2.2.2.2.2.2.2.2.2.2.2.1 p.2.2.2.2.2.2.2.2.2.2.2.2.2.2.1 p.2.2.2.2.2.2.2.2.2.2.2.2.2.2.2.1 p.2.2.2.2.2.2.2.2.2.2.2.2.2.2.2.2.1 p.2.2.2.2.2.2.2.2.2.2.2.2.2.2.2.2.2.1 p.2.2.2.2.2.2.2.2.2.2.2.2.2.2.2.2.2.2.1 p.2.2.2.2.2.2.2.2.2.2.2.2.2.2.2.2.2.2.2.1 p.2.2.2.2.2.2.2.2.2.2.2.2.2.2.2.2.2.2.2.2.2 v.1 v.2.1 v.2.2.1 v.2.2.2 (fun u0 u1 u2 u3 => kn (u0, u1, u2, u3)) (kx 0) (kx 1)⟩
def avr : List (Nat × acC) := [(13, aMn), (14, azm), (15, aox), (19, aHW), (25, azo), (29, avj), (31, azn), (40, arC), (41, ayD), (42, ary)]
def akz (ρ : Type) : List (acJ ρ) := [ajV ρ]
def ai4 (ρ : Type) : Env ρ := acE avr (akz ρ)
end Go.Proofs.ZzM
end
