/- lemmas -/
import Derived.Test.YthhhehllmdfhiaaGreatAmE
import Derived.KernelRfl
import Derived.Test.YthhhehllmdfhiaaGreatMdTA
import Derived.Test.YthhhehllmdfhiaaGreatProg
set_option linter.all false
set_option linter.unusedSectionVars false
set_option linter.unusedVariables false
set_option linter.unusedSimpArgs false
noncomputable section
set_option maxRecDepth 100000
namespace Go.Proofs.ZzM
open Go Go.Am
def aAZ : Nat → Bool
  | 91 => true
  | 140 => true
  | 229 => true
  | 230 => true
  | 231 => true
  | 232 => true
  | 233 => true
  | _ => false
def aJk : Nat → Bool
  | 127 => true
  | _ => false
def aph : Nat → Bool
  | 128 => true
  | _ => false
def isInl : Nat → Bool
  | 2 => true
  | 50 => true
  | 66 => true
  | 74 => true
  | 84 => true
  | 92 => true
  | 93 => true
  | 98 => true
  | 100 => true
  | 124 => true
  | 131 => true
  | 132 => true
  | 136 => true
  | 137 => true
  | 139 => true
  | 141 => true
  | 147 => true
  | 148 => true
  | 149 => true
  | 150 => true
  | 151 => true
  | 152 => true
  | 153 => true
  | 154 => true
  | 155 => true
  | 157 => true
  | 158 => true
  | 159 => true
  | 160 => true
  | 161 => true
  | 165 => true
  | 169 => true
  | 170 => true
  | 175 => true
  | 176 => true
  | 178 => true
  | 193 => true
  | 194 => true
  | 195 => true
  | 196 => true
  | 199 => true
  | 201 => true
  | 202 => true
  | 203 => true
  | 204 => true
  | 206 => true
  | 207 => true
  | 208 => true
  | 209 => true
  | 211 => true
  | 212 => true
  | 214 => true
  | 215 => true
  | 217 => true
  | 218 => true
  | 220 => true
  | 221 => true
  | 222 => true
  | 242 => true
  | 243 => true
  | 244 => true
  | 245 => true
  | 246 => true
  | 247 => true
  | 249 => true
  | 250 => true
  | 253 => true
  | 255 => true
  | 257 => true
  | 261 => true
  | 269 => true
  | 270 => true
  | 272 => true
  | 273 => true
  | 275 => true
  | 276 => true
  | 279 => true
  | 280 => true
  | 286 => true
  | 288 => true
  | 289 => true
  | _ => false
def isFz : Nat → Bool
  | 59 => true
  | 79 => true
  | 94 => true
  | _ => false
def isEat : Nat → Nat → Bool
  | 41, 8 => true
  | 41, 11 => true
  | 49, 4 => true
  | 49, 5 => true
  | 50, 67 => true
  | 176, 25 => true
  | 202, 0 => true
  | _, _ => false
def acA {ρ : Type} (pt : List (Nat × acw)) (tab : List (acF ρ)) : Env ρ :=
  { P := Tryz.prog, eat := isEat, clone := aAZ, sort := aJk, compact := aph, inl := isInl, fz := isFz, pure := aNZ pt, loops := ajj tab }
def aSA {ρ : Type} (pt : List (Nat × acw)) (tab : List (acF ρ)) (us : List aQ2) : Env ρ :=
  { P := Tryz.prog, eat := isEat, clone := aAZ, sort := aJk, compact := aph, inl := isInl, fz := isFz, pure := aNZ pt, loops := aJb (acA pt tab) us }
end Go.Proofs.ZzM
end

noncomputable section
set_option maxRecDepth 100000
namespace Go.Proofs.ZzM
open Go Go.Am
def arw : acw := ⟨[ab6], [abv], fun (x : Val ab6) => ae7 x⟩
def ax8 : acb := { pin := 0, cs := [m5, tI], vs := [tI, abv], head := ⟨20, .any :: .any :: .any :: .omp 0 :: aN 4 [.con m5, .con tI, .var tI], [.mapv tI ace]⟩, exits := [(.exit 0, ⟨20, .any :: .any :: .any :: .omp 0 :: aN 4 [.con m5, .con tI], [.mapv tI ace]⟩, [abv])] }
def an0 (ρ : Type) : acF ρ := ⟨[], 53, 0, ax8, fun (p : Val (.pair m5 tI)) (v : Val (.pair tI abv)) kn kx => ail p.1 p.2 v.1 v.2 (fun u0 u1 => kn (u0, u1)) (kx 0)⟩
def aCU : List (Nat × acw) := []
def ao0 (ρ : Type) : List (acF ρ) := [an0 ρ]
def amZ (ρ : Type) : Env ρ := acA aCU (ao0 ρ)
def alF : acw := ⟨[ab3, tI, tI], [.bool], fun (x : Val acT) => aeU x.1 x.2.1 x.2.2⟩
def aGp : List (Nat × acw) := []
def aq7 (ρ : Type) : List (acF ρ) := []
def axi (ρ : Type) : Env ρ := acA aGp (aq7 ρ)
def agV : acw := ⟨[tI, tI, tI], [.bool], fun (x : Val acY) => adj x.1 x.2.1 x.2.2⟩
def aF8 : List (Nat × acw) := []
def aq2 (ρ : Type) : List (acF ρ) := []
def axd (ρ : Type) : Env ρ := acA aF8 (aq2 ρ)
def asN : acw := ⟨[tI], [.bool], fun (x : Val tI) => aiQ x⟩
def aI1 : List (Nat × acw) := [(126, agV)]
def auh (ρ : Type) : List (acF ρ) := []
def aAM (ρ : Type) : Env ρ := acA aI1 (auh ρ)
def aE4 : acw := ⟨[tI], [(.int .u64)], fun (x : Val tI) => akZ x⟩
def aKX : List (Nat × acw) := []
def aw8 (ρ : Type) : List (acF ρ) := []
def aD3 (ρ : Type) : Env ρ := acA aKX (aw8 ρ)
def aKA : acw := ⟨[(.int .u64), (.int .u64)], [(.int .u64)], fun (x : Val abX) => aBk x.1 x.2⟩
def aIL : acb := { pin := 0, cs := [], vs := [(.int .u64), (.int .u64)], head := ⟨12, [.var (.int .u64), .var (.int .u64)], []⟩, exits := [(.exit 0, ⟨12, [.var (.int .u64)], []⟩, [(.int .u64)])] }
def aw9 (ρ : Type) : acF ρ := ⟨[], 260, 0, aIL, fun (p : Unit) (v : Val abX) kn kx => apX v.1 v.2 (fun u0 u1 => kn (u0, u1)) (kx 0)⟩
def aNM : List (Nat × acw) := []
def aAo (ρ : Type) : List (acF ρ) := [aw9 ρ]
def aAp (ρ : Type) : Env ρ := acA aNM (aAo ρ)
def asJ : acw := ⟨[ab3], [.bool], fun (x : Val ab3) => ami x⟩
def aIO : List (Nat × acw) := [(259, aE4), (260, aKA)]
def atU (ρ : Type) : List (acF ρ) := []
def aAt (ρ : Type) : Env ρ := acA aIO (atU ρ)
def azn : acw := ⟨[ace], [.bool], fun (x : Val ace) => anr x⟩
def aC6 : List (Nat × acw) := [(82, alF), (125, asN), (126, agV), (219, asJ)]
def ao7 (ρ : Type) : List (acF ρ) := []
def aug (ρ : Type) : Env ρ := acA aC6 (ao7 ρ)
def aoq : acw := ⟨[ab6], [tI], fun (x : Val ab6) => aeE x⟩
def aqt : acb := { pin := 0, cs := [m5, tI, tI, tI, m5, f6, wi, l5, f6], vs := [tI], head := ⟨31, .any :: .box 0 0 :: aN 4 [.con m5, .con tI, .var tI], [.cells [.con tI, .con tI, .con m5, .con f6, .con wi, .con l5, .con f6]]⟩, exits := [(.ret, ⟨31, [.any, .box 0 0, .var tI, .any, .any, .any, .con m5, .con tI], [.cells [.con tI, .con tI, .con m5, .con f6, .con wi, .con l5, .con f6]]⟩, [tI]), (.exit 0, ⟨31, .any :: .box 0 0 :: aN 4 [.con m5, .con tI], [.cells [.con tI, .con tI, .con m5, .con f6, .con wi, .con l5, .con f6]]⟩, [])] }
def ai7 (ρ : Type) : acF ρ := ⟨[], 83, 0, aqt, fun (p : Val (.pair m5 abC)) (v : Val tI) kn kx => afX p.1 p.2.1 p.2.2.2.2.1 v (fun u0 => kn u0) (kx 0) (kx 1)⟩
def aun : List (Nat × acw) := [(162, azn)]
def ajZ (ρ : Type) : List (acF ρ) := [ai7 ρ]
def ah2 (ρ : Type) : Env ρ := acA aun (ajZ ρ)
def alC : acw := ⟨[nn, tI], [tI], fun (x : Val abG) => agn x.1 x.2⟩
def an5 : acb := { pin := 0, cs := [nn, tI, tI], vs := [tI], head := ⟨19, .con nn :: .con tI :: aN 5 [.con tI, .var tI], []⟩, exits := [(.ret, ⟨19, [.con nn, .con tI, .any, .any, .var tI, .any, .any, .con tI], []⟩, [tI]), (.exit 0, ⟨19, .con nn :: .con tI :: aN 5 [.con tI], []⟩, [])] }
def ahH (ρ : Type) : acF ρ := ⟨[], 73, 0, an5, fun (p : Val (.pair nn ab3)) (v : Val tI) kn kx => afe p.1 p.2.1 p.2.2 v (fun u0 => kn u0) (kx 0) (kx 1)⟩
def aqm : List (Nat × acw) := []
def aiw (ρ : Type) : List (acF ρ) := [ahH ρ]
def agL (ρ : Type) : Env ρ := acA aqm (aiw ρ)
def agr : acw := ⟨[nn, tI], [.bool], fun (x : Val abG) => adp x.1 x.2⟩
def amD : List (Nat × acw) := [(73, alC)]
def agZ (ρ : Type) : List (acF ρ) := []
def ahI (ρ : Type) : Env ρ := acA amD (agZ ρ)
def aE8 : acw := ⟨[ab6, ace], [nn], fun (x : Val (.pair ab6 ace)) => ajp x.1 x.2⟩
def aGt : acb := { pin := 0, cs := [l5, tI, tI, tI, m5, f6, wi, l5, f6, tI, tI, tI, tI, tI, tI, tI, tI], vs := [tI, nn], head := ⟨59, .any :: .any :: .box 0 0 :: .box 1 0 :: .any :: .own 2 :: aN 8 [.con l5, .con tI, .var tI], [.cells [.con tI, .con tI, .con m5, .con f6, .con wi, .con l5, .con f6], .cells [.con tI, .con tI, .con tI, .con tI, .con tI, .con tI, .con tI, .con tI], .rowv tI]⟩, exits := [(.exit 0, ⟨59, .any :: .any :: .box 0 0 :: .box 1 0 :: .any :: .own 2 :: aN 8 [.con l5, .con tI], [.cells [.con tI, .con tI, .con m5, .con f6, .con wi, .con l5, .con f6], .cells [.con tI, .con tI, .con tI, .con tI, .con tI, .con tI, .con tI, .con tI], .rowv tI]⟩, [nn])] }
def auk (ρ : Type) : acF ρ := ⟨[], 168, 0, aGt, fun (p : Val (.pair l5 abK)) (v : Val abA) kn kx => ana p.1 p.2.1 p.2.2.2.2.2.2.2.2.2.1 v.1 v.2 (fun u0 u1 => kn (u0, u1)) (kx 0)⟩
def aGs : acb := { pin := 0, cs := [f6, tI, tI, tI, tI, tI, tI, tI, tI, tI], vs := [tI, nn], head := ⟨59, .any :: .any :: .any :: .box 0 0 :: .any :: .own 1 :: aN 32 [.con f6, .con tI, .var tI], [.cells [.con tI, .con tI, .con tI, .con tI, .con tI, .con tI, .con tI, .con tI], .rowv tI]⟩, exits := [(.exit 2, ⟨59, .any :: .any :: .any :: .box 0 0 :: .any :: .own 1 :: aN 32 [.con f6, .con tI], [.cells [.con tI, .con tI, .con tI, .con tI, .con tI, .con tI, .con tI, .con tI], .rowv tI]⟩, [nn])] }
def auj (ρ : Type) : acF ρ := ⟨[], 168, 2, aGs, fun (p : Val (.pair f6 (.pair tI abx))) (v : Val abA) kn kx => am9 p.1 p.2.1 p.2.2.1 v.1 v.2 (fun u0 u1 => kn (u0, u1)) (kx 0)⟩
def aLb : List (Nat × acw) := [(65, agr)]
def axk (ρ : Type) : List (acF ρ) := [auk ρ, auj ρ]
def ap0 (ρ : Type) : Env ρ := acA aLb (axk ρ)
def asM : acw := ⟨[ab6], [f6], fun (x : Val ab6) => akb x⟩
def aCW : acb := { pin := 0, cs := [m5, tI, tI, nn, tI, tI, tI, m5, f6, wi, l5, f6, tI, tI, tI, tI, tI, tI, tI, tI], vs := [tI, f6], head := ⟨33, .any :: .box 0 0 :: .any :: .own 1 :: .any :: .box 2 0 :: .any :: .any :: .any :: .con m5 :: .con tI :: .con tI :: aN 5 [.con nn, .con tI, .var tI], [.cells [.con tI, .con tI, .con m5, .con f6, .con wi, .con l5, .con f6], .rowv ab3, .cells [.con tI, .con tI, .con tI, .con tI, .con tI, .con tI, .con tI, .con tI]]⟩, exits := [(.exit 2, ⟨33, .any :: .box 0 0 :: .any :: .own 1 :: .any :: .box 2 0 :: .any :: .any :: .any :: .con m5 :: .con tI :: .con tI :: aN 5 [.con nn, .con tI], [.cells [.con tI, .con tI, .con m5, .con f6, .con wi, .con l5, .con f6], .rowv ab3, .cells [.con tI, .con tI, .con tI, .con tI, .con tI, .con tI, .con tI, .con tI]]⟩, [f6])] }
def aq3 (ρ : Type) : acF ρ := ⟨[], 85, 2, aCW, fun (p : Val (.pair m5 (.pair tI (.pair tI (.pair nn abK))))) (v : Val abD) kn kx => akS p.2.2.2.1 p.2.2.2.2.1 p.2.2.2.2.2.2.2.2.2.2.2.2.1 v.1 v.2 (fun u0 u1 => kn (u0, u1)) (kx 0)⟩
def aCX : acb := { pin := 0, cs := [m5, tI, tI, tI, m5, f6, wi, l5, f6], vs := [tI, f6], head := ⟨33, .any :: .box 0 0 :: .any :: .own 1 :: aN 5 [.con m5, .con tI, .var tI], [.cells [.con tI, .con tI, .con m5, .con f6, .con wi, .con l5, .con f6], .rowv ab3]⟩, exits := [(.exit 0, ⟨33, .any :: .box 0 0 :: .any :: .own 1 :: aN 5 [.con m5, .con tI], [.cells [.con tI, .con tI, .con m5, .con f6, .con wi, .con l5, .con f6], .rowv ab3]⟩, [f6])] }
def aq4 (ρ : Type) : acF ρ := ⟨[], 85, 0, aCX, fun (p : Val (.pair m5 abC)) (v : Val abD) kn kx => akT p.1 p.2.1 p.2.2.1 p.2.2.2.1 p.2.2.2.2.1 p.2.2.2.2.2.1 p.2.2.2.2.2.2.1 p.2.2.2.2.2.2.2.1 p.2.2.2.2.2.2.2.2 v.1 v.2 (fun u0 u1 => kn (u0, u1)) (kx 0)⟩
def aIX : List (Nat × acw) := [(168, aE8)]
def at6 (ρ : Type) : List (acF ρ) := [aq3 ρ, aq4 ρ]
def am2 (ρ : Type) : Env ρ := acA aIX (at6 ρ)
def aig : acw := ⟨[abv, tI, tI], [tI], fun (x : Val (.pair abv ab3)) => afO x.1 x.2.1 x.2.2⟩
def avU : List (Nat × acw) := []
def akR (ρ : Type) : List (acF ρ) := []
def an1 (ρ : Type) : Env ρ := acA avU (akR ρ)
def aKC : acw := ⟨[tI, tI, (.ptr abv)], [tI], fun (x : Val (.pair tI (.pair tI (.ptr abv)))) => adG x.1 x.2.1 x.2.2⟩
def aCV : List (Nat × acw) := [(125, asN), (164, aig)]
def ao3 (ρ : Type) : List (acF ρ) := []
def at0 (ρ : Type) : Env ρ := acA aCV (ao3 ρ)
def aE9 : acw := ⟨[ab6, abv, tI], [tI], fun (x : Val ab0) => aeX x.1 x.2.1 x.2.2⟩
def aum : acb := { pin := 2, cs := [wi, tI, tI, tI, m5, f6, wi, l5, f6, tI, tI, tI, tI], vs := [tI], head := ⟨19, .con wi :: .fn 220 [(1, 0)] :: aN 5 [.con tI, .var tI], [.cells [.con tI, .con tI, .con m5, .con f6, .con wi, .con l5, .con f6], .cells [.con tI, .con tI, .con tI, .con tI]]⟩, exits := [(.ret, ⟨19, [.con wi, .fn 220 [(1, 0)], .any, .any, .var tI, .any, .any, .con tI], [.cells [.con tI, .con tI, .con m5, .con f6, .con wi, .con l5, .con f6], .cells [.con tI, .con tI, .con tI, .con tI]]⟩, [tI]), (.exit 0, ⟨19, .con wi :: .fn 220 [(1, 0)] :: aN 5 [.con tI], [.cells [.con tI, .con tI, .con m5, .con f6, .con wi, .con l5, .con f6], .cells [.con tI, .con tI, .con tI, .con tI]]⟩, [])] }
def akV (ρ : Type) : acF ρ := ⟨[9, 5, 1, 2], 257, 0, aum, fun (p : Val (.pair wi (.pair tI (.pair tI (.pair tI (.pair m5 (.pair f6 (.pair wi (.pair l5 (.pair f6 (.pair tI acY))))))))))) (v : Val tI) kn kx => agF p.1 p.2.1 p.2.2.2.2.2.2.2.2.2.1 p.2.2.2.2.2.2.2.2.2.2.1 p.2.2.2.2.2.2.2.2.2.2.2.1 v (fun u0 => kn u0) (kx 0) (kx 1)⟩
def aul : acb := { pin := 2, cs := [f6, tI, tI, tI, m5, f6, wi, l5, f6, tI, tI, tI, tI], vs := [tI], head := ⟨19, .con f6 :: .fn 221 [(1, 0)] :: aN 5 [.con tI, .var tI], [.cells [.con tI, .con tI, .con m5, .con f6, .con wi, .con l5, .con f6], .cells [.con tI, .con tI, .con tI, .con tI]]⟩, exits := [(.ret, ⟨19, [.con f6, .fn 221 [(1, 0)], .any, .any, .var tI, .any, .any, .con tI], [.cells [.con tI, .con tI, .con m5, .con f6, .con wi, .con l5, .con f6], .cells [.con tI, .con tI, .con tI, .con tI]]⟩, [tI]), (.exit 0, ⟨19, .con f6 :: .fn 221 [(1, 0)] :: aN 5 [.con tI], [.cells [.con tI, .con tI, .con m5, .con f6, .con wi, .con l5, .con f6], .cells [.con tI, .con tI, .con tI, .con tI]]⟩, [])] }
def akU (ρ : Type) : acF ρ := ⟨[9, 10, 1, 2], 255, 0, aul, fun (p : Val (.pair f6 (.pair tI (.pair tI (.pair tI (.pair m5 (.pair f6 (.pair wi (.pair l5 (.pair f6 (.pair tI acY))))))))))) (v : Val tI) kn kx => aeT p.1 p.2.1 p.2.2.2.2.2.2.2.2.2.1 p.2.2.2.2.2.2.2.2.2.2.1 p.2.2.2.2.2.2.2.2.2.2.2.1 v (fun u0 => kn u0) (kx 0) (kx 1)⟩
def ayd : List (Nat × acw) := [(82, alF), (126, agV), (164, aig)]
def al5 (ρ : Type) : List (acF ρ) := [akV ρ, akU ρ]
def ahn (ρ : Type) : Env ρ := acA ayd (al5 ρ)
def apR : acw := ⟨[nn, nn], [nn], fun (x : Val (.pair nn nn)) => aej x.1 x.2⟩
def aGl : acb := { pin := 2, cs := [tI, nn, nn], vs := [tI], head := ⟨19, .own 1 :: .fn 170 [(0, 0)] :: aN 5 [.con tI, .var tI], [.cells [.con nn], .rowc tI]⟩, exits := [(.ret, ⟨19, [.own 1, .fn 170 [(0, 0)], .any, .any, .var tI, .any, .any, .con tI], [.cells [.con nn], .rowc tI]⟩, [tI]), (.exit 0, ⟨19, .own 1 :: .fn 170 [(0, 0)] :: aN 5 [.con tI], [.cells [.con nn], .rowc tI]⟩, [])] }
def auf (ρ : Type) : acF ρ := ⟨[1, 3, 1, 2], 178, 0, aGl, fun (p : Val (.pair tI (.pair nn nn))) (v : Val tI) kn kx => am8 p.1 p.2.1 p.2.2 v (fun u0 => kn u0) (kx 0) (kx 1)⟩
def aGk : acb := { pin := 2, cs := [nn], vs := [tI, tI, nn], head := ⟨42, [.own 1, .fn 170 [(0, 0)], .any, .any, .any, .var tI, .var tI], [.cells [.con nn], .rowv tI]⟩, exits := [(.exit 0, ⟨42, [.own 1, .fn 170 [(0, 0)], .any, .any, .any, .var tI], [.cells [.con nn], .rowv tI]⟩, [tI, nn])] }
def aue (ρ : Type) : acF ρ := ⟨[1, 3], 169, 0, aGk, fun (p : Val nn) (v : Val (.pair tI abA)) kn kx => agR p v.1 v.2.1 v.2.2 (fun u0 u1 u2 => kn (u0, u1, u2)) (kx 0)⟩
def aLa : List (Nat × acw) := [(65, agr)]
def axh (ρ : Type) : List (acF ρ) := [auf ρ, aue ρ]
def apZ (ρ : Type) : Env ρ := acA aLa (axh ρ)
def ad5 : acw := ⟨[abu], [nn], fun (x : Val abu) => acB x⟩
def amF : acb := { pin := 0, cs := [abu, abu, tI], vs := [tI, tI], head := ⟨36, .con abu :: .any :: .any :: .var tI :: aN 5 [.con abu, .con tI, .var tI], []⟩, exits := [(.exit 0, ⟨36, .con abu :: .any :: .any :: .var tI :: aN 5 [.con abu, .con tI], []⟩, [tI])] }
def ahk (ρ : Type) : acF ρ := ⟨[], 94, 0, amF, fun (p : Val (.pair abu (.pair abu tI))) (v : Val ab3) kn kx => adv p.2.1 p.2.2 v.1 v.2 (fun u0 u1 => kn (u0, u1)) (kx 0)⟩
def amE : acb := { pin := 0, cs := [abu, tI], vs := [tI, nn], head := ⟨36, aN 6 (.own 0 :: aN 18 [.con abu, .con tI, .var tI]), [.rowv tI]⟩, exits := [(.exit 2, ⟨36, aN 6 (.own 0 :: aN 18 [.con abu, .con tI]), [.rowv tI]⟩, [nn])] }
def ahj (ρ : Type) : acF ρ := ⟨[], 94, 2, amE, fun (p : Val (.pair abu tI)) (v : Val abA) kn kx => acG p.1 p.2 v.1 v.2 (fun u0 u1 => kn (u0, u1)) (kx 0)⟩
def aoy : List (Nat × acw) := []
def ahJ (ρ : Type) : List (acF ρ) := [ahk ρ, ahj ρ]
def aff (ρ : Type) : Env ρ := acA aoy (ahJ ρ)
def ave : acw := ⟨[nn], [.bool], fun (x : Val nn) => aia x⟩
def aAK : acb := { pin := 0, cs := [nn, nn, tI], vs := [tI], head := ⟨32, .con nn :: aN 4 [.con nn, .con tI, .var tI], []⟩, exits := [(.ret, ⟨32, [.con nn, .any, .var .bool, .any, .any, .con nn, .con tI], []⟩, [.bool]), (.exit 0, ⟨32, .con nn :: aN 4 [.con nn, .con tI], []⟩, [])] }
def ao5 (ρ : Type) : acF ρ := ⟨[], 198, 0, aAK, fun (p : Val (.pair nn abG)) (v : Val tI) kn kx => aji p.1 p.2.1 p.2.2 v (fun u0 => kn u0) (kx 0) (kx 1)⟩
def aGn : List (Nat × acw) := [(126, agV)]
def aq6 (ρ : Type) : List (acF ρ) := [ao5 ρ]
def ao6 (ρ : Type) : Env ρ := acA aGn (aq6 ρ)
def aMo : acw := ⟨[ab6, tI, tI], [adB, .bool], fun (x : Val abQ) => ap8 x.1 x.2.1 x.2.2⟩
def aGv : acb := { pin := 4, cs := [wi, tI, tI, tI, m5, f6, wi, l5, f6, tI, tI, tI, tI, tI, tI], vs := [tI], head := ⟨19, .con wi :: .fn 261 [(1, 0), (2, 0)] :: aN 5 [.con tI, .var tI], [.cells [.con tI, .con tI, .con m5, .con f6, .con wi, .con l5, .con f6], .cells [.con tI], .cells [.con tI], .cells [.con tI, .con tI, .con tI, .con tI]]⟩, exits := [(.ret, ⟨19, [.con wi, .fn 261 [(1, 0), (2, 0)], .any, .any, .var tI, .any, .any, .con tI], [.cells [.con tI, .con tI, .con m5, .con f6, .con wi, .con l5, .con f6], .cells [.con tI], .cells [.con tI], .cells [.con tI, .con tI, .con tI, .con tI]]⟩, [tI]), (.exit 0, ⟨19, .con wi :: .fn 261 [(1, 0), (2, 0)] :: aN 5 [.con tI], [.cells [.con tI, .con tI, .con m5, .con f6, .con wi, .con l5, .con f6], .cells [.con tI], .cells [.con tI], .cells [.con tI, .con tI, .con tI, .con tI]]⟩, [])] }
def auo (ρ : Type) : acF ρ := ⟨[1, 3], 257, 0, aGv, fun (p : Val (.pair wi (.pair tI (.pair tI (.pair tI (.pair m5 (.pair f6 (.pair wi (.pair l5 (.pair f6 (.pair tI (.pair tI (.pair tI acY))))))))))))) (v : Val tI) kn kx => anc p.1 p.2.1 p.2.2.2.2.2.2.2.2.2.1 p.2.2.2.2.2.2.2.2.2.2.1 v (fun u0 => kn u0) (kx 0) (kx 1)⟩
def aLc : List (Nat × acw) := [(126, agV)]
def axl (ρ : Type) : List (acF ρ) := [auo ρ]
def av1 (ρ : Type) : Env ρ := acA aLc (axl ρ)
def axL : acw := ⟨[ab6, abv, tI], [tI], fun (x : Val ab0) => adK x.1 x.2.1 x.2.2⟩
def apc : acb := { pin := 2, cs := [l5, tI, tI, tI, m5, f6, wi, l5, f6, tI, tI, nn, nn, tI, tI, tI, tI], vs := [tI], head := ⟨19, .con l5 :: .fn 222 [(1, 0)] :: aN 5 [.con tI, .var tI], [.cells [.con tI, .con tI, .con m5, .con f6, .con wi, .con l5, .con f6], .cells [.con tI, .con tI, .con nn, .con nn, .con tI, .con tI, .con tI, .con tI]]⟩, exits := [(.ret, ⟨19, [.con l5, .fn 222 [(1, 0)], .any, .any, .var tI, .any, .any, .con tI], [.cells [.con tI, .con tI, .con m5, .con f6, .con wi, .con l5, .con f6], .cells [.con tI, .con tI, .con nn, .con nn, .con tI, .con tI, .con tI, .con tI]]⟩, [tI]), (.exit 0, ⟨19, .con l5 :: .fn 222 [(1, 0)] :: aN 5 [.con tI], [.cells [.con tI, .con tI, .con m5, .con f6, .con wi, .con l5, .con f6], .cells [.con tI, .con tI, .con nn, .con nn, .con tI, .con tI, .con tI, .con tI]]⟩, [])] }
def aiG (ρ : Type) : acF ρ := ⟨[4, 5, 1, 2], 207, 0, apc, fun (p : Val (.pair l5 (.pair tI (.pair tI (.pair tI (.pair m5 (.pair f6 (.pair wi (.pair l5 (.pair f6 ab9)))))))))) (v : Val tI) kn kx => afC p.1 p.2.1 p.2.2.2.2.2.2.2.2.2.1 v (fun u0 => kn u0) (kx 0) (kx 1)⟩
def apa : acb := { pin := 0, cs := [abv, nn, tI, tI, tI, nn, tI, tI, tI, m5, f6, wi, l5, f6, tI, tI, nn, nn, tI, tI, tI, tI, nn], vs := [tI], head := ⟨140, .any :: .con abv :: .any :: .box 0 0 :: .any :: .any :: .any :: .box 1 0 :: .con nn :: .any :: .con tI :: aN 65 [.own 2, .con tI, .con tI, .any, .any, .any, .con nn, .con tI, .var tI], [.cells [.con tI, .con tI, .con m5, .con f6, .con wi, .con l5, .con f6], .cells [.con tI, .con tI, .con nn, .con nn, .con tI, .con tI, .con tI, .con tI], .rowc tI]⟩, exits := [(.ret, ⟨140, .any :: .con abv :: .any :: .box 0 0 :: .any :: .any :: .var tI :: .box 1 0 :: .con nn :: .any :: .con tI :: aN 65 [.own 2, .con tI, .con tI, .any, .any, .any, .con nn, .con tI], [.cells [.con tI, .con tI, .con m5, .con f6, .con wi, .con l5, .con f6], .cells [.con tI, .con tI, .con nn, .con nn, .con tI, .con tI, .con tI, .con tI], .rowc tI]⟩, [tI]), (.exit 2, ⟨140, .any :: .con abv :: .any :: .box 0 0 :: .any :: .any :: .any :: .box 1 0 :: .con nn :: .any :: .con tI :: aN 65 [.own 2, .con tI, .con tI, .any, .any, .any, .con nn, .con tI], [.cells [.con tI, .con tI, .con m5, .con f6, .con wi, .con l5, .con f6], .cells [.con tI, .con tI, .con nn, .con nn, .con tI, .con tI, .con tI, .con tI], .rowc tI]⟩, [])] }
def aiE (ρ : Type) : acF ρ := ⟨[], 167, 2, apa, fun (p : Val (.pair abv (.pair nn (.pair tI (.pair tI (.pair tI (.pair nn (.pair tI (.pair tI (.pair tI (.pair m5 (.pair f6 (.pair wi (.pair l5 (.pair f6 (.pair tI (.pair tI (.pair nn (.pair nn (.pair tI abE)))))))))))))))))))) (v : Val tI) kn kx => afB p.1 p.2.2.1 p.2.2.2.2.2.1 p.2.2.2.2.2.2.1 p.2.2.2.2.2.2.2.2.2.2.2.2.2.2.2.1 v (fun u0 => kn u0) (kx 0) (kx 1)⟩
def apb : acb := { pin := 0, cs := [abv, nn, tI, tI, tI, m5, f6, wi, l5, f6, tI, tI, nn, nn, tI, tI, tI, tI, nn], vs := [tI], head := ⟨140, .any :: .con abv :: .any :: .box 0 0 :: .any :: .any :: .any :: .box 1 0 :: .con nn :: aN 67 [.own 2, .con tI, .var tI], [.cells [.con tI, .con tI, .con m5, .con f6, .con wi, .con l5, .con f6], .cells [.con tI, .con tI, .con nn, .con nn, .con tI, .con tI, .con tI, .con tI], .rowc tI]⟩, exits := [(.ret, ⟨140, .any :: .con abv :: .any :: .box 0 0 :: .any :: .any :: .var tI :: .box 1 0 :: .con nn :: aN 67 [.own 2, .con tI], [.cells [.con tI, .con tI, .con m5, .con f6, .con wi, .con l5, .con f6], .cells [.con tI, .con tI, .con nn, .con nn, .con tI, .con tI, .con tI, .con tI], .rowc tI]⟩, [tI]), (.exit 0, ⟨140, .any :: .con abv :: .any :: .box 0 0 :: .any :: .any :: .any :: .box 1 0 :: .con nn :: aN 67 [.own 2, .con tI], [.cells [.con tI, .con tI, .con m5, .con f6, .con wi, .con l5, .con f6], .cells [.con tI, .con tI, .con nn, .con nn, .con tI, .con tI, .con tI, .con tI], .rowc tI]⟩, [])] }
def aiF (ρ : Type) : acF ρ := ⟨[], 167, 0, apb, fun (p : Val (.pair abv (.pair nn (.pair tI (.pair tI (.pair tI (.pair m5 (.pair f6 (.pair wi (.pair l5 (.pair f6 (.pair tI (.pair tI (.pair nn (.pair nn (.pair tI abE)))))))))))))))) (v : Val tI) kn kx => adW p.1 p.2.1 p.2.2.1 p.2.2.2.2.2.2.2.2.2.2.2.1 p.2.2.2.2.2.2.2.2.2.2.2.2.2.2.2.2.2.2 v (fun u0 => kn u0) (kx 0) (kx 1)⟩
def ao9 : acb := { pin := 0, cs := [nn, tI, tI, tI, m5, f6, wi, l5, f6, tI, tI, nn, nn, tI, tI, tI, tI], vs := [tI], head := ⟨140, .any :: .any :: .any :: .box 0 0 :: .any :: .any :: .any :: .box 1 0 :: aN 90 [.con nn, .con tI, .var tI], [.cells [.con tI, .con tI, .con m5, .con f6, .con wi, .con l5, .con f6], .cells [.con tI, .con tI, .con nn, .con nn, .con tI, .con tI, .con tI, .con tI]]⟩, exits := [(.ret, ⟨140, .any :: .any :: .any :: .box 0 0 :: .any :: .any :: .var tI :: .box 1 0 :: aN 90 [.con nn, .con tI], [.cells [.con tI, .con tI, .con m5, .con f6, .con wi, .con l5, .con f6], .cells [.con tI, .con tI, .con nn, .con nn, .con tI, .con tI, .con tI, .con tI]]⟩, [tI]), (.exit 4, ⟨140, .any :: .any :: .any :: .box 0 0 :: .any :: .any :: .any :: .box 1 0 :: aN 90 [.con nn, .con tI], [.cells [.con tI, .con tI, .con m5, .con f6, .con wi, .con l5, .con f6], .cells [.con tI, .con tI, .con nn, .con nn, .con tI, .con tI, .con tI, .con tI]]⟩, [])] }
def aiD (ρ : Type) : acF ρ := ⟨[], 167, 4, ao9, fun (p : Val (.pair nn (.pair tI (.pair tI (.pair tI (.pair m5 (.pair f6 (.pair wi (.pair l5 (.pair f6 ab9)))))))))) (v : Val tI) kn kx => adV p.1 p.2.1 p.2.2.1 p.2.2.2.1 p.2.2.2.2.1 p.2.2.2.2.2.1 p.2.2.2.2.2.2.1 p.2.2.2.2.2.2.2.1 p.2.2.2.2.2.2.2.2.1 p.2.2.2.2.2.2.2.2.2.2.1 v (fun u0 => kn u0) (kx 0) (kx 1)⟩
def ar9 : List (Nat × acw) := [(82, alF), (88, apR), (94, ad5), (125, asN), (126, agV), (164, aig), (198, ave), (223, aMo)]
def ai8 (ρ : Type) : List (acF ρ) := [aiG ρ, aiE ρ, aiF ρ, aiD ρ]
def ad7 (ρ : Type) : Env ρ := acA ar9 (ai8 ρ)
def aee : acw := ⟨[ab6], [tI], fun (x : Val ab6) => acR x⟩
def ajL : acw := ⟨[ab6, f6, f6], [ab6], fun (x : Val (.pair ab6 (.pair f6 f6))) => aBj x.1 x.2.1 x.2.2⟩
noncomputable def aIv : acb := { pin := 8, cs := [nn, tI, tI, tI, m5, f6, wi, l5, f6, tI, tI, abr, tI, tI], vs := [tI, abr], head := ⟨34, .any :: .any :: .any :: .box 2 0 :: aN 21 [.con nn, .con tI, .var tI], [.cells [.con tI, .con tI, .con m5, .con f6, .con wi, .con l5, .con f6], .cells [.con tI, .con tI, .nils, .nils, .nils, .nils, .nils], .cells [.omp 5], .cells [.omp 6], .cells [.nilfn, .fn 159 [(2, 0), (0, 0)], .fn 159 [(2, 0), (0, 0)], .fn 160 [(3, 0), (0, 0), (2, 0)]], .mapv tI .bool, .mapc tI .bool, .cells [.con tI, .con tI]]⟩, exits := [(.exit 0, ⟨34, .any :: .any :: .any :: .box 2 0 :: aN 21 [.con nn, .con tI], [.cells [.con tI, .con tI, .con m5, .con f6, .con wi, .con l5, .con f6], .cells [.con tI, .con tI, .nils, .nils, .nils, .nils, .nils], .cells [.omp 5], .cells [.omp 6], .cells [.nilfn, .fn 159 [(2, 0), (0, 0)], .fn 159 [(2, 0), (0, 0)], .fn 160 [(3, 0), (0, 0), (2, 0)]], .mapv tI .bool, .mapc tI .bool, .cells [.con tI, .con tI]]⟩, [abr])] }
noncomputable def awW (ρ : Type) : acF ρ := ⟨[7, 5], 160, 0, aIv, fun (p : Val (.pair nn (.pair tI (.pair tI (.pair tI (.pair m5 (.pair f6 (.pair wi (.pair l5 (.pair f6 (.pair tI (.pair tI (.pair abr ab3))))))))))))) (v : Val (.pair tI abr)) kn kx => alS p.1 p.2.1 v.1 v.2 (fun u0 u1 => kn (u0, u1)) (kx 0)⟩
noncomputable def aIw : acb := { pin := 0, cs := [f6, f6, tI, tI, tI, m5, f6, wi, l5, f6, tI, tI], vs := [tI, abr, abr], head := ⟨130, .any :: .any :: .con f6 :: .box 0 0 :: .any :: .any :: .box 1 0 :: .box 2 0 :: .box 3 0 :: .any :: .box 4 0 :: aN 19 [.con f6, .con tI, .var tI], [.cells [.con tI, .con tI, .con m5, .con f6, .con wi, .con l5, .con f6], .cells [.con tI, .con tI, .nils, .nils, .nils, .nils, .nils], .cells [.omp 5], .cells [.omp 6], .cells [.nilfn, .fn 159 [(2, 0), (0, 0)], .fn 159 [(2, 0), (0, 0)], .fn 160 [(3, 0), (0, 0), (2, 0)]], .mapv tI .bool, .mapv tI .bool]⟩, exits := [(.exit 0, ⟨130, .any :: .any :: .con f6 :: .box 0 0 :: .any :: .any :: .box 1 0 :: .box 2 0 :: .box 3 0 :: .any :: .box 4 0 :: aN 19 [.con f6, .con tI], [.cells [.con tI, .con tI, .con m5, .con f6, .con wi, .con l5, .con f6], .cells [.con tI, .con tI, .nils, .nils, .nils, .nils, .nils], .cells [.omp 5], .cells [.omp 6], .cells [.nilfn, .fn 159 [(2, 0), (0, 0)], .fn 159 [(2, 0), (0, 0)], .fn 160 [(3, 0), (0, 0), (2, 0)]], .mapv tI .bool, .mapv tI .bool]⟩, [abr, abr])] }
noncomputable def awX (ρ : Type) : acF ρ := ⟨[], 79, 0, aIw, fun (p : Val (.pair f6 (.pair f6 (.pair tI (.pair tI (.pair tI (.pair m5 (.pair f6 (.pair wi (.pair l5 abW)))))))))) (v : Val (.pair tI (.pair abr abr))) kn kx => apU p.2.1 p.2.2.1 p.2.2.2.2.2.1 p.2.2.2.2.2.2.2.2.1 v.1 v.2.1 v.2.2 (fun u0 u1 u2 => kn (u0, u1, u2)) (kx 0)⟩
noncomputable def aIu : acb := { pin := 0, cs := [f6, f6, tI, tI, tI, m5, f6, wi, l5, f6, tI, tI, abr], vs := [tI, abr], head := ⟨130, .any :: .any :: .con f6 :: .box 0 0 :: .any :: .any :: .box 1 0 :: .box 2 0 :: .box 3 0 :: aN 34 [.con f6, .con tI, .var tI], [.cells [.con tI, .con tI, .con m5, .con f6, .con wi, .con l5, .con f6], .cells [.con tI, .con tI, .nils, .nils, .nils, .nils, .nils], .cells [.omp 4], .cells [.omp 5], .mapv tI .bool, .mapc tI .bool]⟩, exits := [(.exit 2, ⟨130, .any :: .any :: .con f6 :: .box 0 0 :: .any :: .any :: .box 1 0 :: .box 2 0 :: .box 3 0 :: aN 34 [.con f6, .con tI], [.cells [.con tI, .con tI, .con m5, .con f6, .con wi, .con l5, .con f6], .cells [.con tI, .con tI, .nils, .nils, .nils, .nils, .nils], .cells [.omp 4], .cells [.omp 5], .mapv tI .bool, .mapc tI .bool]⟩, [abr])] }
noncomputable def awV (ρ : Type) : acF ρ := ⟨[], 79, 2, aIu, fun (p : Val (.pair f6 (.pair f6 (.pair tI (.pair tI (.pair tI (.pair m5 (.pair f6 (.pair wi (.pair l5 (.pair f6 (.pair tI (.pair tI abr))))))))))))) (v : Val (.pair tI abr)) kn kx => alR p.2.1 p.2.2.1 v.1 v.2 (fun u0 u1 => kn (u0, u1)) (kx 0)⟩
noncomputable def aIt : acb := { pin := 0, cs := [f6, tI, tI, tI, m5, f6, wi, l5, f6, tI, tI, m5, f6, wi, l5, f6, tI, tI, f6, abr, abr, m5], vs := [tI, f6], head := ⟨130, .any :: .any :: .any :: .box 0 0 :: .any :: .any :: .box 1 0 :: .box 2 0 :: .box 3 0 :: aN 6 (.box 4 0 :: aN 52 [.con f6, .con tI, .var tI]), [.cells [.con tI, .con tI, .con m5, .con f6, .con wi, .con l5, .con f6], .cells [.con tI, .con tI, .con m5, .con f6, .con wi, .con l5, .con f6], .cells [.omp 5], .cells [.omp 6], .cells [.con tI, .con tI, .own 7, .own 8, .nils, .nils, .con f6], .mapc tI .bool, .mapc tI .bool, .rowc ace, .rowv ab3]⟩, exits := [(.exit 6, ⟨130, .any :: .any :: .any :: .box 0 0 :: .any :: .any :: .box 1 0 :: .box 2 0 :: .box 3 0 :: aN 6 (.box 4 0 :: aN 52 [.con f6, .con tI]), [.cells [.con tI, .con tI, .con m5, .con f6, .con wi, .con l5, .con f6], .cells [.con tI, .con tI, .con m5, .con f6, .con wi, .con l5, .con f6], .cells [.omp 5], .cells [.omp 6], .cells [.con tI, .con tI, .own 7, .own 8, .nils, .nils, .con f6], .mapc tI .bool, .mapc tI .bool, .rowc ace, .rowv ab3]⟩, [f6])] }
noncomputable def akF (ρ : Type) : acF ρ := ⟨[], 79, 6, aIt, fun (p : Val (.pair f6 (.pair tI (.pair tI (.pair tI (.pair m5 (.pair f6 (.pair wi (.pair l5 (.pair f6 (.pair tI (.pair tI (.pair m5 (.pair f6 (.pair wi (.pair l5 (.pair f6 (.pair tI (.pair tI (.pair f6 (.pair abr (.pair abr m5)))))))))))))))))))))) (v : Val abD) kn kx => alQ p.1 p.2.1 p.2.2.2.2.2.2.2.2.2.2.2.2.2.2.2.2.2.2.2.1 v.1 v.2 (fun u0 u1 => kn (u0, u1)) (kx 0)⟩
noncomputable def aIs : acb := { pin := 0, cs := [wi, tI, tI, tI, m5, f6, wi, l5, f6, tI, tI, m5, f6, wi, l5, f6, tI, tI, f6, abr, abr, m5, f6], vs := [tI, wi], head := ⟨130, .any :: .any :: .any :: .box 0 0 :: .any :: .any :: .box 1 0 :: .box 2 0 :: .box 3 0 :: aN 6 (.box 4 0 :: aN 70 [.con wi, .con tI, .var tI]), [.cells [.con tI, .con tI, .con m5, .con f6, .con wi, .con l5, .con f6], .cells [.con tI, .con tI, .con m5, .con f6, .con wi, .con l5, .con f6], .cells [.omp 5], .cells [.omp 6], .cells [.con tI, .con tI, .own 7, .own 8, .own 9, .nils, .con f6], .mapc tI .bool, .mapc tI .bool, .rowc ace, .rowc ab3, .rowv adB]⟩, exits := [(.exit 8, ⟨130, .any :: .any :: .any :: .box 0 0 :: .any :: .any :: .box 1 0 :: .box 2 0 :: .box 3 0 :: aN 6 (.box 4 0 :: aN 70 [.con wi, .con tI]), [.cells [.con tI, .con tI, .con m5, .con f6, .con wi, .con l5, .con f6], .cells [.con tI, .con tI, .con m5, .con f6, .con wi, .con l5, .con f6], .cells [.omp 5], .cells [.omp 6], .cells [.con tI, .con tI, .own 7, .own 8, .own 9, .nils, .con f6], .mapc tI .bool, .mapc tI .bool, .rowc ace, .rowc ab3, .rowv adB]⟩, [wi])] }
noncomputable def akE (ρ : Type) : acF ρ := ⟨[], 79, 8, aIs, fun (p : Val (.pair wi (.pair tI (.pair tI (.pair tI (.pair m5 (.pair f6 (.pair wi (.pair l5 (.pair f6 (.pair tI (.pair tI (.pair m5 (.pair f6 (.pair wi (.pair l5 (.pair f6 (.pair tI (.pair tI (.pair f6 (.pair abr (.pair abr (.pair m5 f6))))))))))))))))))))))) (v : Val (.pair tI wi)) kn kx => alP p.1 p.2.1 p.2.2.2.2.2.2.2.2.2.2.2.2.2.2.2.2.2.2.2.1 v.1 v.2 (fun u0 u1 => kn (u0, u1)) (kx 0)⟩
noncomputable def aIr : acb := { pin := 0, cs := [l5, tI, tI, tI, m5, f6, wi, l5, f6, tI, tI, f6, abr, m5, f6, wi], vs := [tI, l5], head := ⟨130, aN 6 (.box 0 0 :: .any :: .box 1 0 :: aN 6 (.box 2 0 :: aN 88 [.con l5, .con tI, .var tI])), [.cells [.con tI, .con tI, .con m5, .con f6, .con wi, .con l5, .con f6], .cells [.omp 3], .cells [.con tI, .con tI, .own 4, .own 5, .own 6, .own 7, .con f6], .mapc tI .bool, .rowc ace, .rowc ab3, .rowc adB, .rowv ab9]⟩, exits := [(.exit 10, ⟨130, aN 6 (.box 0 0 :: .any :: .box 1 0 :: aN 6 (.box 2 0 :: aN 88 [.con l5, .con tI])), [.cells [.con tI, .con tI, .con m5, .con f6, .con wi, .con l5, .con f6], .cells [.omp 3], .cells [.con tI, .con tI, .own 4, .own 5, .own 6, .own 7, .con f6], .mapc tI .bool, .rowc ace, .rowc ab3, .rowc adB, .rowv ab9]⟩, [l5])] }
noncomputable def akD (ρ : Type) : acF ρ := ⟨[], 79, 10, aIr, fun (p : Val (.pair l5 (.pair tI (.pair tI (.pair tI (.pair m5 (.pair f6 (.pair wi (.pair l5 (.pair f6 (.pair tI (.pair tI (.pair f6 (.pair abr (.pair m5 (.pair f6 wi)))))))))))))))) (v : Val (.pair tI l5)) kn kx => alO p.1 p.2.1 p.2.2.2.2.2.2.2.2.2.2.2.2.1 v.1 v.2 (fun u0 u1 => kn (u0, u1)) (kx 0)⟩
noncomputable def avt : List (Nat × acw) := [(94, ad5)]
noncomputable def arO (ρ : Type) : List (acF ρ) := [awW ρ, awX ρ, awV ρ, akF ρ, akE ρ, akD ρ]
noncomputable def aeC (ρ : Type) : Env ρ := acA avt (arO ρ)
noncomputable def alN : Tpl := ⟨130, .any :: .any :: .any :: .box 0 0 :: .any :: .any :: .box 1 0 :: .box 2 0 :: .box 3 0 :: aN 6 (.box 4 0 :: aN 43 [.fn 218 [(5, 0), (6, 0)]]), [.cells [.var tI, .var tI, .var m5, .var f6, .var wi, .var l5, .var f6], .cells [.var tI, .var tI, .var m5, .var f6, .var wi, .var l5, .var f6], .cells [.omp 7], .cells [.omp 8], .cells [.con tI, .con tI, .own 9, .nils, .nils, .nils, .con f6], .cells [.var tI, .var tI, .var m5, .var f6, .var wi, .var l5, .var f6], .cells [.omp 7], .mapv tI .bool, .mapv tI .bool, .rowv ace]⟩
noncomputable def azM : Tpl := ⟨130, .any :: .any :: .any :: .box 0 0 :: .any :: .any :: .box 1 0 :: .box 2 0 :: .box 3 0 :: aN 6 (.box 4 0 :: .box 10 0 :: aN 42 [.fn 218 [(5, 0), (6, 0)]]), [.cells [.var tI, .var tI, .var m5, .var f6, .var wi, .var l5, .var f6], .cells [.var tI, .var tI, .var m5, .var f6, .var wi, .var l5, .var f6], .cells [.omp 7], .cells [.omp 8], .cells [.con tI, .con tI, .own 9, .nils, .nils, .nils, .con f6], .cells [.var tI, .var tI, .var m5, .var f6, .var wi, .var l5, .var f6], .cells [.omp 7], .mapv tI .bool, .mapv tI .bool, .rowv ace, .cells [.var tI, .var tI, .var tI, .var tI, .var tI, .var tI, .var tI, .var tI]]⟩
noncomputable def akB (ρ : Type) : List (acF ρ) := [akF ρ, akE ρ, akD ρ]
noncomputable def adi (ρ : Type) : Env ρ := { acA avt (akB ρ) with inl := fun _ => false }
noncomputable def ajW : Tpl := ⟨130, aN 6 [.box 0 0], [.cells [.var tI, .var tI, .var m5, .var f6, .var wi, .var l5, .var f6]]⟩
abbrev agl : List Ty := [tI, tI, m5, f6, wi, l5, f6]
noncomputable def ag0 (y : Val ab6) : Val abq := (y.1.1, y.1.2, y.2.1, y.2.2.1, y.2.2.2.1, y.2.2.2.2.1, y.2.2.2.2.2)
noncomputable def adn : Code := (ak0 Tryz.prog 79).getD .skip
abbrev afN : List Ty := [tI, tI, f6]
abbrev ah1 : List Ty := [tI, tI, m5, f6, wi, l5, f6, tI, tI, m5, f6, wi, l5, f6, tI, tI, m5, f6, wi, l5, f6, abr, abr, m5]
abbrev apT : List Ty := [tI, tI, m5, f6, wi, l5, f6, tI, tI, m5, f6, wi, l5, f6, tI, tI, m5, f6, wi, l5, f6, abr, abr, m5, tI, tI, tI, tI, tI, tI, tI, tI]
abbrev acH (v : Val abo) : List (Val ace) := v.2.2.2.2.2.2.2.2.2.2.2.2.2.2.2.2.1
abbrev ad6 (v : Val abo) : List (Int × Bool) := v.2.2.2.2.2.2.2.2.2.2.2.2.2.2.2.2.2.2.2.2.2.1
abbrev amL (v : Val abo) : List (Val ace) := v.2.2.2.2.2.2.2.2.2.2.2.2.2.2.2.2.2.2.2.2.2.2.2
noncomputable def adm (v : Val abo) (z : List (Val ace)) : Val abo := (v.1, v.2.1, v.2.2.1, v.2.2.2.1, v.2.2.2.2.1, v.2.2.2.2.2.1, v.2.2.2.2.2.2.1, v.2.2.2.2.2.2.2.1, v.2.2.2.2.2.2.2.2.1, v.2.2.2.2.2.2.2.2.2.1, v.2.2.2.2.2.2.2.2.2.2.1, v.2.2.2.2.2.2.2.2.2.2.2.1, v.2.2.2.2.2.2.2.2.2.2.2.2.1, v.2.2.2.2.2.2.2.2.2.2.2.2.2.1, v.2.2.2.2.2.2.2.2.2.2.2.2.2.2.1, v.2.2.2.2.2.2.2.2.2.2.2.2.2.2.2.1, v.2.2.2.2.2.2.2.2.2.2.2.2.2.2.2.2.1, v.2.2.2.2.2.2.2.2.2.2.2.2.2.2.2.2.2.1, v.2.2.2.2.2.2.2.2.2.2.2.2.2.2.2.2.2.2.1, v.2.2.2.2.2.2.2.2.2.2.2.2.2.2.2.2.2.2.2.1, v.2.2.2.2.2.2.2.2.2.2.2.2.2.2.2.2.2.2.2.2.1, v.2.2.2.2.2.2.2.2.2.2.2.2.2.2.2.2.2.2.2.2.2.1, v.2.2.2.2.2.2.2.2.2.2.2.2.2.2.2.2.2.2.2.2.2.2.1, z)
noncomputable def arP (v : Val abo) (x : Val ace) : Val (.pair tI (.pair tI (.pair m5 (.pair f6 (.pair wi (.pair l5 (.pair f6 (.pair tI (.pair tI (.pair m5 (.pair f6 (.pair wi (.pair l5 (.pair f6 (.pair tI (.pair tI (.pair m5 (.pair f6 (.pair wi (.pair l5 (.pair f6 (.pair abr (.pair abr (.pair m5 abx)))))))))))))))))))))))) := (v.1, v.2.1, v.2.2.1, v.2.2.2.1, v.2.2.2.2.1, v.2.2.2.2.2.1, v.2.2.2.2.2.2.1, v.2.2.2.2.2.2.2.1, v.2.2.2.2.2.2.2.2.1, v.2.2.2.2.2.2.2.2.2.1, v.2.2.2.2.2.2.2.2.2.2.1, v.2.2.2.2.2.2.2.2.2.2.2.1, v.2.2.2.2.2.2.2.2.2.2.2.2.1, v.2.2.2.2.2.2.2.2.2.2.2.2.2.1, v.2.2.2.2.2.2.2.2.2.2.2.2.2.2.1, v.2.2.2.2.2.2.2.2.2.2.2.2.2.2.2.1, v.2.2.2.2.2.2.2.2.2.2.2.2.2.2.2.2.1, v.2.2.2.2.2.2.2.2.2.2.2.2.2.2.2.2.2.1, v.2.2.2.2.2.2.2.2.2.2.2.2.2.2.2.2.2.2.1, v.2.2.2.2.2.2.2.2.2.2.2.2.2.2.2.2.2.2.2.1, v.2.2.2.2.2.2.2.2.2.2.2.2.2.2.2.2.2.2.2.2.1, v.2.2.2.2.2.2.2.2.2.2.2.2.2.2.2.2.2.2.2.2.2.1, v.2.2.2.2.2.2.2.2.2.2.2.2.2.2.2.2.2.2.2.2.2.2.1, v.2.2.2.2.2.2.2.2.2.2.2.2.2.2.2.2.2.2.2.2.2.2.2, x.1, x.2.1, x.2.2.1, x.2.2.2.1.1, x.2.2.2.1.2, x.2.2.2.2.1.1, x.2.2.2.2.1.2, x.2.2.2.2.2)
end Go.Proofs.ZzM
end

noncomputable section
set_option maxRecDepth 100000
namespace Go.Proofs.ZzM
open Go Go.Am
def avc : acw := ⟨[ab9], [.bool], fun (x : Val ab9) => amd x⟩
def aFm : List (Nat × acw) := []
def aqG (ρ : Type) : List (acF ρ) := []
def awQ (ρ : Type) : Env ρ := acA aFm (aqG ρ)
def aMj : acw := ⟨[ab6], [.bool], fun (x : Val ab6) => ayJ x⟩
def aFk : acb := { pin := 0, cs := [tI, tI, m5, f6, wi, l5, f6], vs := [tI], head := ⟨50, [.any, .box 0 0, .any, .var tI], [.cells [.con tI, .con tI, .con m5, .con f6, .con wi, .con l5, .con f6]]⟩, exits := [(.ret, ⟨50, [.any, .box 0 0, .var .bool], [.cells [.con tI, .con tI, .con m5, .con f6, .con wi, .con l5, .con f6]]⟩, [.bool]), (.exit 0, ⟨50, [.any, .box 0 0], [.cells [.con tI, .con tI, .con m5, .con f6, .con wi, .con l5, .con f6]]⟩, [])] }
def as0 (ρ : Type) : acF ρ := ⟨[], 13, 0, aFk, fun (p : Val abq) (v : Val tI) kn kx => amB p.2.2.2.2.2.1 v (fun u0 => kn u0) (kx 0) (kx 1)⟩
def aKK : List (Nat × acw) := [(29, avc)]
def awP (ρ : Type) : List (acF ρ) := [as0 ρ]
def avi (ρ : Type) : Env ρ := acA aKK (awP ρ)
def aMn : acw := ⟨[ab6, ace, tI, tI], [tI], fun (x : Val (.pair ab6 (.pair ace ab3))) => ap7 x.1 x.2.1 x.2.2.1 x.2.2.2⟩
def aGi : acb := { pin := 0, cs := [tI, tI, wi, tI, tI, tI, m5, f6, wi, l5, f6, tI, tI, tI, tI, tI, tI, tI, tI], vs := [tI, tI], head := ⟨88, .any :: .any :: .con tI :: .con tI :: .box 0 0 :: .box 1 0 :: .any :: .any :: .any :: .var tI :: aN 7 [.con wi, .con tI, .var tI], [.cells [.con tI, .con tI, .con m5, .con f6, .con wi, .con l5, .con f6], .cells [.con tI, .con tI, .con tI, .con tI, .con tI, .con tI, .con tI, .con tI]]⟩, exits := [(.exit 0, ⟨88, .any :: .any :: .con tI :: .con tI :: .box 0 0 :: .box 1 0 :: .any :: .any :: .any :: .var tI :: aN 7 [.con wi, .con tI], [.cells [.con tI, .con tI, .con m5, .con f6, .con wi, .con l5, .con f6], .cells [.con tI, .con tI, .con tI, .con tI, .con tI, .con tI, .con tI, .con tI]]⟩, [tI])] }
def aud (ρ : Type) : acF ρ := ⟨[], 54, 0, aGi, fun (p : Val (.pair tI (.pair tI (.pair wi abK)))) (v : Val ab3) kn kx => am7 p.1 p.2.1 p.2.2.1 p.2.2.2.1 p.2.2.2.2.2.2.2.2.2.2.2.1 v.1 v.2 (fun u0 u1 => kn (u0, u1)) (kx 0)⟩
def aGh : acb := { pin := 0, cs := [tI, tI, tI, f6, tI, tI, tI, tI, tI, tI, tI, tI, tI], vs := [tI, nn], head := ⟨88, .any :: .any :: .con tI :: .con tI :: .any :: .box 0 0 :: .any :: .any :: .any :: .con tI :: .any :: .any :: .any :: .own 1 :: aN 39 [.con f6, .con tI, .var tI], [.cells [.con tI, .con tI, .con tI, .con tI, .con tI, .con tI, .con tI, .con tI], .rowv tI]⟩, exits := [(.exit 2, ⟨88, .any :: .any :: .con tI :: .con tI :: .any :: .box 0 0 :: .any :: .any :: .any :: .con tI :: .any :: .any :: .any :: .own 1 :: aN 39 [.con f6, .con tI], [.cells [.con tI, .con tI, .con tI, .con tI, .con tI, .con tI, .con tI, .con tI], .rowv tI]⟩, [nn])] }
def auc (ρ : Type) : acF ρ := ⟨[], 54, 2, aGh, fun (p : Val (.pair tI (.pair tI (.pair tI (.pair f6 (.pair tI abx)))))) (v : Val abA) kn kx => am6 p.1 p.2.1 p.2.2.2.1 p.2.2.2.2.1 p.2.2.2.2.2.1 v.1 v.2 (fun u0 u1 => kn (u0, u1)) (kx 0)⟩
def aK9 : List (Nat × acw) := [(126, agV)]
def axg (ρ : Type) : List (acF ρ) := [aud ρ, auc ρ]
def apY (ρ : Type) : Env ρ := acA aK9 (axg ρ)
def aew : acw := ⟨[f6, ab3], [tI], fun (x : Val abW) => acN x.1 x.2⟩
def ahB : acb := { pin := 0, cs := [f6, tI, tI, tI], vs := [tI], head := ⟨19, [.con f6, .any, .any, .box 0 0, .any, .any, .any, .con tI, .var tI], [.cells [.con tI, .con tI]]⟩, exits := [(.ret, ⟨19, [.con f6, .any, .any, .box 0 0, .var tI, .any, .any, .con tI], [.cells [.con tI, .con tI]]⟩, [tI]), (.exit 0, ⟨19, [.con f6, .any, .any, .box 0 0, .any, .any, .any, .con tI], [.cells [.con tI, .con tI]]⟩, [])] }
def afa (ρ : Type) : acF ρ := ⟨[], 130, 0, ahB, fun (p : Val (.pair f6 acY)) (v : Val tI) kn kx => adq p.1 p.2.1 p.2.2.1 p.2.2.2 v (fun u0 => kn u0) (kx 0) (kx 1)⟩
def aiy : List (Nat × acw) := []
def afi (ρ : Type) : List (acF ρ) := [afa ρ]
def ad9 (ρ : Type) : Env ρ := acA aiy (afi ρ)
def aop : acw := ⟨[abT, nn, tI], [tI], fun (x : Val (.pair abT abG)) => afx x.1 x.2.1 x.2.2⟩
def aAJ : List (Nat × acw) := [(130, aew)]
def an2 (ρ : Type) : List (acF ρ) := []
def aq5 (ρ : Type) : Env ρ := acA aAJ (an2 ρ)
def anH : acw := ⟨[abv, nn], [ab3], fun (x : Val (.pair abv nn)) => afM x.1 x.2⟩
def ar2 : List (Nat × acw) := []
def ai6 (ρ : Type) : List (acF ρ) := []
def akQ (ρ : Type) : Env ρ := acA ar2 (ai6 ρ)
def alE : acw := ⟨[f6], [tI], fun (x : Val f6) => agB x⟩
def aCR : acb := { pin := 0, cs := [f6, tI], vs := [tI], head := ⟨15, aN 5 [.con f6, .con tI, .var tI], []⟩, exits := [(.ret, ⟨15, [.any, .any, .var tI, .any, .any, .con f6, .con tI], []⟩, [tI]), (.exit 0, ⟨15, aN 5 [.con f6, .con tI], []⟩, [])] }
def aq1 (ρ : Type) : acF ρ := ⟨[], 227, 0, aCR, fun (p : Val (.pair f6 tI)) (v : Val tI) kn kx => akO p.1 p.2 v (fun u0 => kn u0) (kx 0) (kx 1)⟩
def aIJ : List (Nat × acw) := [(219, asJ)]
def atQ (ρ : Type) : List (acF ρ) := [aq1 ρ]
def arY (ρ : Type) : Env ρ := acA aIJ (atQ ρ)
def arv : acw := ⟨[tI, tI], [ab3, tI], fun (x : Val ab3) => aka x.1 x.2⟩
def aCS : List (Nat × acw) := [(259, aE4), (260, aKA)]
def aoZ (ρ : Type) : List (acF ρ) := []
def atS (ρ : Type) : Env ρ := acA aCS (aoZ ρ)
def aO2 : acw := ⟨[ab3, ab3], [ab3, tI], fun (x : Val acT) => aGQ x.1 x.2⟩
def aNO : List (Nat × acw) := [(227, alE), (277, arv)]
def aAv (ρ : Type) : List (acF ρ) := []
def aIP (ρ : Type) : Env ρ := acA aNO (aAv ρ)
def asL : acw := ⟨[ab3, ab3], [ab3], fun (x : Val acT) => anq x.1 x.2⟩
def aya : List (Nat × acw) := [(262, aO2)]
def al3 (ρ : Type) : List (acF ρ) := []
def ao2 (ρ : Type) : Env ρ := acA aya (al3 ρ)
def aKB : acw := ⟨[ab3, ab3], [tI], fun (x : Val acT) => aBl x.1 x.2⟩
def aNN : List (Nat × acw) := []
def aAs (ρ : Type) : List (acF ρ) := []
def aIN (ρ : Type) : Env ρ := acA aNN (aAs ρ)
def aqD : acw := ⟨[acT], [.bool], fun (x : Val acT) => alr x⟩
def avR : List (Nat × acw) := [(227, alE), (287, aKB)]
def akP (ρ : Type) : List (acF ρ) := []
def anZ (ρ : Type) : Env ρ := acA avR (akP ρ)
def aO3 : acw := ⟨[ab3, ab3], [ab3, tI], fun (x : Val acT) => aBn x.1 x.2⟩
def aNP : List (Nat × acw) := [(227, alE), (277, arv)]
def aAx (ρ : Type) : List (acF ρ) := []
def aIR (ρ : Type) : Env ρ := acA aNP (aAx ρ)
def aH0 : acw := ⟨[acT, ab3], [acT, tI], fun (x : Val (.pair acT ab3)) => aBm x.1 x.2⟩
def axb : List (Nat × acw) := [(219, asJ), (278, aqD), (281, aO3), (287, aKB)]
def amY (ρ : Type) : List (acF ρ) := []
def axa : List aQ2 := [⟨[3, 2], 279, 0, 4⟩]
def aIQ (ρ : Type) : Env ρ := acA axb (amY ρ)
def ar0 (ρ : Type) : Env ρ := aSA axb (amY ρ) axa
def asK : acw := ⟨[ab3, ab3], [acT], fun (x : Val acT) => ajo x.1 x.2⟩
def ax9 : List (Nat × acw) := [(263, aH0)]
def al2 (ρ : Type) : List (acF ρ) := []
def ao1 (ρ : Type) : Env ρ := acA ax9 (al2 ρ)
def avf : acw := ⟨[ab6, ab9], [acT], fun (x : Val abH) => ajD x.1 x.2⟩
def aGq : List (Nat × acw) := [(53, arw), (88, apR), (224, anH), (225, asL), (226, asK)]
def aq8 (ρ : Type) : List (acF ρ) := []
def axj (ρ : Type) : Env ρ := acA aGq (aq8 ρ)
def azo : acw := ⟨[ab6, ab9], [ab3], fun (x : Val abH) => amk x.1 x.2⟩
def aI2 : List (Nat × acw) := []
def aui (ρ : Type) : List (acF ρ) := []
def aAO (ρ : Type) : Env ρ := acA aI2 (aui ρ)
def azl : acw := ⟨[tI, tI], [tI], fun (x : Val ab3) => apt x.1 x.2⟩
def aIM : List (Nat × acw) := []
def atT (ρ : Type) : List (acF ρ) := []
def aAq (ρ : Type) : Env ρ := acA aIM (atT ρ)
def aE5 : acw := ⟨[ab3], [tI, tI], fun (x : Val ab3) => auN x⟩
def aK6 : List (Nat × acw) := [(227, alE), (228, azl)]
def axc (ρ : Type) : List (acF ρ) := []
def aD4 (ρ : Type) : Env ρ := acA aK6 (axc ρ)
def azm : acw := ⟨[ab3], [tI, tI], fun (x : Val ab3) => apu x⟩
def aIS : List (Nat × acw) := [(227, alE), (228, azl)]
def atW (ρ : Type) : List (acF ρ) := []
def aAy (ρ : Type) : Env ρ := acA aIS (atW ρ)
def aE6 : acw := ⟨[ab6, ab9], [ab3], fun (x : Val abH) => anp x.1 x.2⟩
def aK7 : List (Nat × acw) := [(171, avf), (172, azo), (173, aE5), (174, azm)]
def axe (ρ : Type) : List (acF ρ) := []
def aD5 (ρ : Type) : Env ρ := acA aK7 (axe ρ)
def aE7 : acw := ⟨[ab6], [abT], fun (x : Val ab6) => auP x⟩
def aGe : acb := { pin := 2, cs := [tI, nn, tI, m5, tI, tI, tI, tI, m5, f6, wi, l5, f6, tI, tI, m5, f6, wi, l5, f6, f6, tI, tI, tI, tI, tI, tI, tI, tI, tI], vs := [tI, abp, f6], head := ⟨144, .box 1 0 :: .any :: .con tI :: .box 2 0 :: .con nn :: .con tI :: .var tI :: aN 24 [.con m5, .con tI, .con tI], [.cells [.con tI, .con tI, .con m5, .con f6, .con wi, .con l5, .con f6], .cells [.con tI, .con tI, .con m5, .con f6, .con wi, .con l5, .con f6, .con f6, .con tI, .own 3, .own 4], .cells [.con tI, .con tI, .con tI, .con tI, .con tI, .con tI, .con tI, .con tI], .rowv acY, .rowv ab3]⟩, exits := [(.exit 2, ⟨144, .box 1 0 :: .any :: .con tI :: .box 2 0 :: .con nn :: .con tI :: aN 25 [.con m5, .con tI, .con tI], [.cells [.con tI, .con tI, .con m5, .con f6, .con wi, .con l5, .con f6], .cells [.con tI, .con tI, .con m5, .con f6, .con wi, .con l5, .con f6, .con f6, .con tI, .own 3, .own 4], .cells [.con tI, .con tI, .con tI, .con tI, .con tI, .con tI, .con tI, .con tI], .rowv acY, .rowv ab3]⟩, [abp, f6])] }
def aua (ρ : Type) : acF ρ := ⟨[2, 1], 132, 2, aGe, fun (p : Val (.pair tI (.pair nn (.pair tI (.pair m5 (.pair tI (.pair tI (.pair tI (.pair tI (.pair m5 (.pair f6 (.pair wi (.pair l5 (.pair f6 (.pair tI (.pair tI (.pair m5 (.pair f6 (.pair wi (.pair l5 (.pair f6 (.pair f6 (.pair tI abx))))))))))))))))))))))) (v : Val (.pair tI ass)) kn kx => am4 p.1 p.2.1 p.2.2.1 p.2.2.2.2.2.2.2.2.2.2.2.2.2.1 p.2.2.2.2.2.2.2.2.2.2.2.2.2.2.1 p.2.2.2.2.2.2.2.2.2.2.2.2.2.2.2.1 p.2.2.2.2.2.2.2.2.2.2.2.2.2.2.2.2.1 p.2.2.2.2.2.2.2.2.2.2.2.2.2.2.2.2.2.1 p.2.2.2.2.2.2.2.2.2.2.2.2.2.2.2.2.2.2.1 p.2.2.2.2.2.2.2.2.2.2.2.2.2.2.2.2.2.2.2.1 p.2.2.2.2.2.2.2.2.2.2.2.2.2.2.2.2.2.2.2.2.2.2.1 p.2.2.2.2.2.2.2.2.2.2.2.2.2.2.2.2.2.2.2.2.2.2.2.1 p.2.2.2.2.2.2.2.2.2.2.2.2.2.2.2.2.2.2.2.2.2.2.2.2.1 p.2.2.2.2.2.2.2.2.2.2.2.2.2.2.2.2.2.2.2.2.2.2.2.2.2.1 p.2.2.2.2.2.2.2.2.2.2.2.2.2.2.2.2.2.2.2.2.2.2.2.2.2.2.1 p.2.2.2.2.2.2.2.2.2.2.2.2.2.2.2.2.2.2.2.2.2.2.2.2.2.2.2.1 p.2.2.2.2.2.2.2.2.2.2.2.2.2.2.2.2.2.2.2.2.2.2.2.2.2.2.2.2.1 p.2.2.2.2.2.2.2.2.2.2.2.2.2.2.2.2.2.2.2.2.2.2.2.2.2.2.2.2.2 v.1 v.2.1 v.2.2 (fun u0 u1 u2 => kn (u0, u1, u2)) (kx 0)⟩
def aGf : acb := { pin := 2, cs := [m5, tI, tI, tI, m5, f6, wi, l5, f6, tI, tI, m5, f6, wi, l5, f6, f6, tI], vs := [tI, abp, f6], head := ⟨144, .box 1 0 :: aN 30 [.con m5, .con tI, .var tI], [.cells [.con tI, .con tI, .con m5, .con f6, .con wi, .con l5, .con f6], .cells [.con tI, .con tI, .con m5, .con f6, .con wi, .con l5, .con f6, .con f6, .con tI, .own 2, .own 3], .rowv acY, .rowv ab3]⟩, exits := [(.exit 0, ⟨144, .box 1 0 :: aN 30 [.con m5, .con tI], [.cells [.con tI, .con tI, .con m5, .con f6, .con wi, .con l5, .con f6], .cells [.con tI, .con tI, .con m5, .con f6, .con wi, .con l5, .con f6, .con f6, .con tI, .own 2, .own 3], .rowv acY, .rowv ab3]⟩, [abp, f6])] }
def aub (ρ : Type) : acF ρ := ⟨[2, 1], 132, 0, aGf, fun (p : Val (.pair m5 (.pair tI (.pair tI (.pair tI (.pair m5 (.pair f6 (.pair wi (.pair l5 (.pair f6 (.pair tI (.pair tI (.pair m5 (.pair f6 (.pair wi (.pair l5 (.pair f6 (.pair f6 tI)))))))))))))))))) (v : Val (.pair tI ass)) kn kx => am5 p.1 p.2.1 p.2.2.2.2.2.2.2.2.2.1 p.2.2.2.2.2.2.2.2.2.2.1 p.2.2.2.2.2.2.2.2.2.2.2.1 p.2.2.2.2.2.2.2.2.2.2.2.2.1 p.2.2.2.2.2.2.2.2.2.2.2.2.2.1 p.2.2.2.2.2.2.2.2.2.2.2.2.2.2.1 p.2.2.2.2.2.2.2.2.2.2.2.2.2.2.2.1 p.2.2.2.2.2.2.2.2.2.2.2.2.2.2.2.2.1 p.2.2.2.2.2.2.2.2.2.2.2.2.2.2.2.2.2 v.1 v.2.1 v.2.2 (fun u0 u1 u2 => kn (u0, u1, u2)) (kx 0)⟩
def aGd : acb := { pin := 2, cs := [l5, tI, tI, tI, m5, f6, wi, l5, f6, tI, tI, m5, f6, wi, l5, f6, f6, tI], vs := [tI, abp, f6], head := ⟨144, .box 1 0 :: aN 107 [.con l5, .con tI, .var tI], [.cells [.con tI, .con tI, .con m5, .con f6, .con wi, .con l5, .con f6], .cells [.con tI, .con tI, .con m5, .con f6, .con wi, .con l5, .con f6, .con f6, .con tI, .own 2, .own 3], .rowv acY, .rowv ab3]⟩, exits := [(.exit 4, ⟨144, .box 1 0 :: aN 107 [.con l5, .con tI], [.cells [.con tI, .con tI, .con m5, .con f6, .con wi, .con l5, .con f6], .cells [.con tI, .con tI, .con m5, .con f6, .con wi, .con l5, .con f6, .con f6, .con tI, .own 2, .own 3], .rowv acY, .rowv ab3]⟩, [abp, f6])] }
def at7 (ρ : Type) : acF ρ := ⟨[2, 1], 132, 4, aGd, fun (p : Val (.pair l5 (.pair tI (.pair tI (.pair tI (.pair m5 (.pair f6 (.pair wi (.pair l5 (.pair f6 (.pair tI (.pair tI (.pair m5 (.pair f6 (.pair wi (.pair l5 (.pair f6 (.pair f6 tI)))))))))))))))))) (v : Val (.pair tI ass)) kn kx => am3 p.1 p.2.1 p.2.2.2.2.2.2.2.2.2.1 p.2.2.2.2.2.2.2.2.2.2.1 p.2.2.2.2.2.2.2.2.2.2.2.1 p.2.2.2.2.2.2.2.2.2.2.2.2.1 p.2.2.2.2.2.2.2.2.2.2.2.2.2.1 p.2.2.2.2.2.2.2.2.2.2.2.2.2.2.1 p.2.2.2.2.2.2.2.2.2.2.2.2.2.2.2.1 p.2.2.2.2.2.2.2.2.2.2.2.2.2.2.2.2.1 p.2.2.2.2.2.2.2.2.2.2.2.2.2.2.2.2.2 v.1 v.2.1 v.2.2 (fun u0 u1 u2 => kn (u0, u1, u2)) (kx 0)⟩
def aK8 : List (Nat × acw) := [(54, aMn), (85, asM), (87, aop), (88, apR), (168, aE8), (200, aE6)]
def axf (ρ : Type) : List (acF ρ) := [aua ρ, aub ρ, at7 ρ]
def al4 (ρ : Type) : Env ρ := acA aK8 (axf ρ)
def aeo : acw := ⟨[ab6], [acf, f6, tI], fun (x : Val ab6) => adr x⟩
def aGz : List (Nat × acw) := [(38, aee), (62, aE7)]
def aq9 (ρ : Type) : List (acF ρ) := []
def axn (ρ : Type) : Env ρ := acA aGz (aq9 ρ)
def af2 : acw := ⟨[ab6, ab3], [tI, tI], fun (x : Val abQ) => adt x.1 x.2⟩
def aI8 : List (Nat × acw) := [(38, aee), (85, asM), (130, aew)]
def aus (ρ : Type) : List (acF ρ) := []
def aAR (ρ : Type) : Env ρ := acA aI8 (aus ρ)
def agJ : acw := ⟨[aby, ab3], [tI], fun (x : Val abO) => ae6 x.1 x.2⟩
def aCg : List (Nat × acw) := [(60, af2)]
def aoE (ρ : Type) : List (acF ρ) := []
def as7 (ρ : Type) : Env ρ := acA aCg (aoE ρ)
def ayu : acw := ⟨[acf, tI], [.bool], fun (x : Val (.pair acf tI)) => akY x.1 x.2⟩
def aKS : List (Nat × acw) := []
def aw1 (ρ : Type) : List (acF ρ) := []
def aDY (ρ : Type) : Env ρ := acA aKS (aw1 ρ)
def alD : acw := ⟨[acf], [tI, tI], fun (x : Val acf) => aiP x⟩
def aCN : acb := { pin := 0, cs := [abp, tI, tI, abp], vs := [tI], head := ⟨57, .any :: .box 0 0 :: aN 17 [.con abp, .con tI, .var tI], [.cells [.con tI, .con abp]]⟩, exits := [(.ret, ⟨57, .any :: .box 0 0 :: .var tI :: .var tI :: aN 15 [.con abp, .con tI], [.cells [.con tI, .con abp]]⟩, [tI, tI]), (.exit 0, ⟨57, .any :: .box 0 0 :: aN 17 [.con abp, .con tI], [.cells [.con tI, .con abp]]⟩, [])] }
def aqX (ρ : Type) : acF ρ := ⟨[], 133, 0, aCN, fun (p : Val (.pair abp abI)) (v : Val tI) kn kx => akJ p.1 p.2.1 p.2.2.1 p.2.2.2 v (fun u0 => kn u0) (kx 0) (kx 1)⟩
def aIG : List (Nat × acw) := [(134, ayu)]
def atK (ρ : Type) : List (acF ρ) := [aqX ρ]
def arX (ρ : Type) : Env ρ := acA aIG (atK ρ)
def akp : acw := ⟨[acf, abr], [nn, .bool], fun (x : Val (.pair acf abr)) => ag3 x.1 x.2⟩
def avK : acb := { pin := 2, cs := [abr, abp, tI, tI, abp, nn, tI, abp, abz, nn], vs := [tI, tI], head := ⟨140, .any :: .con abr :: .own 1 :: .box 2 0 :: .any :: .any :: .any :: .box 3 0 :: .own 4 :: .own 5 :: .var tI :: aN 14 [.con abp, .con tI, .var tI], [.cells [.con tI, .con abp], .rowc tI, .cells [.con tI, .con abp], .cells [.nils], .rowc .bool, .rowc tI]⟩, exits := [(.exit 0, ⟨140, .any :: .con abr :: .own 1 :: .box 2 0 :: .any :: .any :: .any :: .box 3 0 :: .own 4 :: .own 5 :: .var tI :: aN 14 [.con abp, .con tI], [.cells [.con tI, .con abp], .rowc tI, .cells [.con tI, .con abp], .cells [.nils], .rowc .bool, .rowc tI]⟩, [tI])] }
def al1 (ρ : Type) : acF ρ := ⟨[2, 3], 136, 0, avK, fun (p : Val (.pair abr (.pair abp (.pair tI (.pair tI (.pair abp (.pair nn (.pair tI (.pair abp abJ))))))))) (v : Val ab3) kn kx => afl p.2.1 p.2.2.1 v.1 v.2 (fun u0 u1 => kn (u0, u1)) (kx 0)⟩
def avJ : acb := { pin := 2, cs := [abr, tI, tI, tI, abp, nn, tI, abp, nn], vs := [tI, abz, nn], head := ⟨140, .any :: .con abr :: .own 1 :: .box 2 0 :: .any :: .any :: .any :: .box 3 0 :: .own 4 :: .own 5 :: .con tI :: aN 27 [.con tI, .var tI], [.cells [.con tI, .con abp], .rowc tI, .cells [.con tI, .con abp], .cells [.own 6], .rowv .bool, .rowc tI, .rowv tI]⟩, exits := [(.exit 2, ⟨140, .any :: .con abr :: .own 1 :: .box 2 0 :: .any :: .any :: .any :: .box 3 0 :: .own 4 :: .own 5 :: .con tI :: aN 27 [.con tI], [.cells [.con tI, .con abp], .rowc tI, .cells [.con tI, .con abp], .cells [.own 6], .rowv .bool, .rowc tI, .rowv tI]⟩, [abz, nn])] }
def al0 (ρ : Type) : acF ρ := ⟨[2, 3], 136, 2, avJ, fun (p : Val (.pair abr (.pair tI (.pair tI (.pair tI (.pair abp (.pair nn (.pair tI (.pair abp nn))))))))) (v : Val (.pair tI abJ)) kn kx => ad2 p.2.2.1 p.2.2.2.2.2.1 v.1 v.2.1 v.2.2 (fun u0 u1 u2 => kn (u0, u1, u2)) (kx 0)⟩
def avH : acb := { pin := 2, cs := [abr, tI, tI, abp, tI, tI, abp, tI, abp, nn], vs := [tI, nn, abz, nn], head := ⟨140, .any :: .con abr :: .own 1 :: .box 2 0 :: .any :: .any :: .any :: .box 3 0 :: .own 4 :: .own 5 :: .con tI :: .any :: .any :: .any :: .con tI :: aN 62 [.con abp, .con tI, .var tI], [.cells [.con tI, .con abp], .rowv tI, .cells [.con tI, .con abp], .cells [.own 6], .rowv .bool, .rowc tI, .rowv tI]⟩, exits := [(.ret, ⟨140, .any :: .con abr :: .own 1 :: .box 2 0 :: .any :: .any :: .var .bool :: .box 3 0 :: .own 4 :: .own 5 :: .con tI :: .any :: .any :: .any :: .con tI :: aN 62 [.con abp, .con tI], [.cells [.con tI, .con abp], .rowv tI, .cells [.con tI, .con abp], .cells [.own 6], .rowv .bool, .rowc tI, .rowv tI]⟩, [.bool, nn, abz, nn]), (.exit 6, ⟨140, .any :: .con abr :: .own 1 :: .box 2 0 :: .any :: .any :: .any :: .box 3 0 :: .own 4 :: .own 5 :: .con tI :: .any :: .any :: .any :: .con tI :: aN 62 [.con abp, .con tI], [.cells [.con tI, .con abp], .rowv tI, .cells [.con tI, .con abp], .cells [.own 6], .rowv .bool, .rowc tI, .rowv tI]⟩, [nn, abz, nn])] }
def alY (ρ : Type) : acF ρ := ⟨[2, 3], 136, 6, avH, fun (p : Val (.pair abr (.pair tI (.pair tI (.pair abp (.pair tI (.pair tI (.pair abp (.pair tI (.pair abp nn)))))))))) (v : Val (.pair tI abZ)) kn kx => af5 p.1 p.2.1 p.2.2.1 p.2.2.2.1 p.2.2.2.2.1 v.1 v.2.1 v.2.2.1 v.2.2.2 (fun u0 u1 u2 u3 => kn (u0, u1, u2, u3)) (kx 0) (kx 1)⟩
def avI : acb := { pin := 2, cs := [abr, tI, tI, abp, tI, abp], vs := [nn, abz, nn, nn], head := ⟨140, [.any, .con abr, .own 1, .box 2 0, .any, .any, .any, .box 3 0, .own 4, .own 5, .con tI], [.cells [.con tI, .con abp], .rowv tI, .cells [.con tI, .con abp], .cells [.own 6], .rowv .bool, .rowv tI, .rowv tI]⟩, exits := [(.ret, ⟨140, [.any, .con abr, .own 1, .box 2 0, .any, .any, .var .bool, .box 3 0, .own 4, .own 5, .con tI], [.cells [.con tI, .con abp], .rowv tI, .cells [.con tI, .con abp], .cells [.own 6], .rowv .bool, .rowv tI, .rowv tI]⟩, [.bool, nn, abz, nn, nn])] }
def alZ (ρ : Type) : acF ρ := ⟨[2, 3], 136, 4, avI, fun (p : Val (.pair abr (.pair tI (.pair tI (.pair abp acf))))) (v : Val abL) kn kx => ads p.1 p.2.1 p.2.2.2.2.1 p.2.2.2.2.2 v.1 v.2.1 v.2.2.1 v.2.2.2 (fun u0 u1 u2 u3 => kn (u0, u1, u2, u3)) (kx 0)⟩
def avG : acb := { pin := 0, cs := [tI, tI], vs := [tI, nn], head := ⟨34, aN 6 (.own 0 :: .con tI :: aN 13 [.con tI, .var tI]), [.rowv tI]⟩, exits := [(.exit 0, ⟨34, aN 6 (.own 0 :: .con tI :: aN 13 [.con tI]), [.rowv tI]⟩, [nn])] }
def alX (ρ : Type) : acF ρ := ⟨[], 135, 0, avG, fun (p : Val ab3) (v : Val abA) kn kx => af4 p.1 p.2 v.1 v.2 (fun u0 u1 => kn (u0, u1)) (kx 0)⟩
def azX : List (Nat × acw) := []
def anU (ρ : Type) : List (acF ρ) := [al1 ρ, al0 ρ, alY ρ, alZ ρ, alX ρ]
def ae2 (ρ : Type) : Env ρ := acA azX (anU ρ)
def aHX : acw := ⟨[acf, nn], [tI], fun (x : Val abY) => auM x.1 x.2⟩
def aCH : acb := { pin := 0, cs := [nn, tI, tI, abp], vs := [tI], head := ⟨37, .any :: .any :: .box 0 0 :: aN 16 [.con nn, .con tI, .var tI], [.cells [.con tI, .con abp]]⟩, exits := [(.ret, ⟨37, .any :: .any :: .box 0 0 :: .any :: .var tI :: aN 14 [.con nn, .con tI], [.cells [.con tI, .con abp]]⟩, [tI]), (.exit 0, ⟨37, .any :: .any :: .box 0 0 :: aN 16 [.con nn, .con tI], [.cells [.con tI, .con abp]]⟩, [])] }
def aqR (ρ : Type) : acF ρ := ⟨[], 63, 0, aCH, fun (p : Val (.pair nn abI)) (v : Val tI) kn kx => akH p.1 p.2.1 p.2.2.1 p.2.2.2 v (fun u0 => kn u0) (kx 0) (kx 1)⟩
def aIE : List (Nat × acw) := [(133, alD), (134, ayu), (135, akp)]
def atH (ρ : Type) : List (acF ρ) := [aqR ρ]
def arW (ρ : Type) : Env ρ := acA aIE (atH ρ)
def aDK : acw := ⟨[acf, abr, tI], [nn], fun (x : Val (.pair acf (.pair abr tI))) => ap6 x.1 x.2.1 x.2.2⟩
def az4 : acb := { pin := 0, cs := [abr, tI, tI, tI, abp], vs := [tI, nn], head := ⟨29, .any :: .con abr :: .con tI :: .box 0 0 :: .any :: .any :: .any :: .own 1 :: aN 5 [.con tI, .var tI], [.cells [.con tI, .con abp], .rowv tI]⟩, exits := [(.exit 0, ⟨29, .any :: .con abr :: .con tI :: .box 0 0 :: .any :: .any :: .any :: .own 1 :: aN 5 [.con tI], [.cells [.con tI, .con abp], .rowv tI]⟩, [nn])] }
def aoY (ρ : Type) : acF ρ := ⟨[], 64, 0, az4, fun (p : Val (.pair abr (.pair tI abI))) (v : Val abA) kn kx => ajh p.2.2.1 v.1 v.2 (fun u0 u1 => kn (u0, u1)) (kx 0)⟩
def az3 : acb := { pin := 2, cs := [abr, abp, tI, tI, abp, nn, tI, abp, abz, nn], vs := [tI, tI], head := ⟨140, .any :: .con abr :: .own 1 :: .box 2 0 :: .any :: .any :: .any :: .box 3 0 :: .own 4 :: .own 5 :: .var tI :: aN 14 [.con abp, .con tI, .var tI], [.cells [.con tI, .con abp], .rowc tI, .cells [.con tI, .con abp], .cells [.nils], .rowc .bool, .rowc tI]⟩, exits := [(.exit 0, ⟨140, .any :: .con abr :: .own 1 :: .box 2 0 :: .any :: .any :: .any :: .box 3 0 :: .own 4 :: .own 5 :: .var tI :: aN 14 [.con abp, .con tI], [.cells [.con tI, .con abp], .rowc tI, .cells [.con tI, .con abp], .cells [.nils], .rowc .bool, .rowc tI]⟩, [tI])] }
def aoX (ρ : Type) : acF ρ := ⟨[8, 3], 136, 0, az3, fun (p : Val (.pair abr (.pair abp (.pair tI (.pair tI (.pair abp (.pair nn (.pair tI (.pair abp abJ))))))))) (v : Val ab3) kn kx => amX p.2.1 p.2.2.1 v.1 v.2 (fun u0 u1 => kn (u0, u1)) (kx 0)⟩
def az2 : acb := { pin := 2, cs := [abr, tI, tI, tI, abp, nn, tI, abp, nn], vs := [tI, abz, nn], head := ⟨140, .any :: .con abr :: .own 1 :: .box 2 0 :: .any :: .any :: .any :: .box 3 0 :: .own 4 :: .own 5 :: .con tI :: aN 27 [.con tI, .var tI], [.cells [.con tI, .con abp], .rowc tI, .cells [.con tI, .con abp], .cells [.own 6], .rowv .bool, .rowc tI, .rowv tI]⟩, exits := [(.exit 2, ⟨140, .any :: .con abr :: .own 1 :: .box 2 0 :: .any :: .any :: .any :: .box 3 0 :: .own 4 :: .own 5 :: .con tI :: aN 27 [.con tI], [.cells [.con tI, .con abp], .rowc tI, .cells [.con tI, .con abp], .cells [.own 6], .rowv .bool, .rowc tI, .rowv tI]⟩, [abz, nn])] }
def aoW (ρ : Type) : acF ρ := ⟨[8, 3], 136, 2, az2, fun (p : Val (.pair abr (.pair tI (.pair tI (.pair tI (.pair abp (.pair nn (.pair tI (.pair abp nn))))))))) (v : Val (.pair tI abJ)) kn kx => amW p.2.2.1 p.2.2.2.2.2.1 v.1 v.2.1 v.2.2 (fun u0 u1 u2 => kn (u0, u1, u2)) (kx 0)⟩
def az0 : acb := { pin := 2, cs := [abr, tI, tI, abp, tI, tI, abp, tI, abp, nn], vs := [tI, nn, abz, nn], head := ⟨140, .any :: .con abr :: .own 1 :: .box 2 0 :: .any :: .any :: .any :: .box 3 0 :: .own 4 :: .own 5 :: .con tI :: .any :: .any :: .any :: .con tI :: aN 62 [.con abp, .con tI, .var tI], [.cells [.con tI, .con abp], .rowv tI, .cells [.con tI, .con abp], .cells [.own 6], .rowv .bool, .rowc tI, .rowv tI]⟩, exits := [(.ret, ⟨140, .any :: .con abr :: .own 1 :: .box 2 0 :: .any :: .any :: .var .bool :: .box 3 0 :: .own 4 :: .own 5 :: .con tI :: .any :: .any :: .any :: .con tI :: aN 62 [.con abp, .con tI], [.cells [.con tI, .con abp], .rowv tI, .cells [.con tI, .con abp], .cells [.own 6], .rowv .bool, .rowc tI, .rowv tI]⟩, [.bool, nn, abz, nn]), (.exit 6, ⟨140, .any :: .con abr :: .own 1 :: .box 2 0 :: .any :: .any :: .any :: .box 3 0 :: .own 4 :: .own 5 :: .con tI :: .any :: .any :: .any :: .con tI :: aN 62 [.con abp, .con tI], [.cells [.con tI, .con abp], .rowv tI, .cells [.con tI, .con abp], .cells [.own 6], .rowv .bool, .rowc tI, .rowv tI]⟩, [nn, abz, nn])] }
def aoU (ρ : Type) : acF ρ := ⟨[8, 3], 136, 6, az0, fun (p : Val (.pair abr (.pair tI (.pair tI (.pair abp (.pair tI (.pair tI (.pair abp (.pair tI (.pair abp nn)))))))))) (v : Val (.pair tI abZ)) kn kx => atG p.1 p.2.1 p.2.2.1 p.2.2.2.1 p.2.2.2.2.1 v.1 v.2.1 v.2.2.1 v.2.2.2 (fun u0 u1 u2 u3 => kn (u0, u1, u2, u3)) (kx 0) (kx 1)⟩
def az1 : acb := { pin := 2, cs := [abr, tI, tI, abp, tI, abp], vs := [nn, abz, nn, nn], head := ⟨140, [.any, .con abr, .own 1, .box 2 0, .any, .any, .any, .box 3 0, .own 4, .own 5, .con tI], [.cells [.con tI, .con abp], .rowv tI, .cells [.con tI, .con abp], .cells [.own 6], .rowv .bool, .rowv tI, .rowv tI]⟩, exits := [(.ret, ⟨140, [.any, .con abr, .own 1, .box 2 0, .any, .any, .var .bool, .box 3 0, .own 4, .own 5, .con tI], [.cells [.con tI, .con abp], .rowv tI, .cells [.con tI, .con abp], .cells [.own 6], .rowv .bool, .rowv tI, .rowv tI]⟩, [.bool, nn, abz, nn, nn])] }
def aoV (ρ : Type) : acF ρ := ⟨[8, 3], 136, 4, az1, fun (p : Val (.pair abr (.pair tI (.pair tI (.pair abp acf))))) (v : Val abL) kn kx => amV p.1 p.2.1 p.2.2.2.2.1 p.2.2.2.2.2 v.1 v.2.1 v.2.2.1 v.2.2.2 (fun u0 u1 u2 u3 => kn (u0, u1, u2, u3)) (kx 0)⟩
def aFU : List (Nat × acw) := []
def aqQ (ρ : Type) : List (acF ρ) := [aoY ρ, aoX ρ, aoW ρ, aoU ρ, aoV ρ]
def af6 (ρ : Type) : Env ρ := acA aFU (aqQ ρ)
def asI : acw := ⟨[acf, tI, tI], [tI, tI], fun (x : Val abV) => aj9 x.1 x.2.1 x.2.2⟩
def aII : List (Nat × acw) := [(63, aHX), (64, aDK)]
def atO (ρ : Type) : List (acF ρ) := []
def aAj (ρ : Type) : Env ρ := acA aII (atO ρ)
def agv : acw := ⟨[aby, tI, tI], [tI], fun (x : Val abO) => acX x.1 x.2.1 x.2.2⟩
def avo : List (Nat × acw) := [(89, asI)]
def aky (ρ : Type) : List (acF ρ) := []
def anM (ρ : Type) : Env ρ := acA avo (aky ρ)
def ak4 : acw := ⟨[aby, ab3], [tI], fun (x : Val abO) => ae5 x.1 x.2⟩
def avn : List (Nat × acw) := [(55, agJ), (56, agv)]
def akx (ρ : Type) : List (acF ρ) := []
def anL (ρ : Type) : Env ρ := acA avn (akx ρ)
def ahN : acw := ⟨[aby, ab3], [tI], fun (x : Val abO) => afn x.1 x.2⟩
def aqr : List (Nat × acw) := [(55, agJ), (56, agv)]
def aiB (ρ : Type) : List (acF ρ) := []
def ajS (ρ : Type) : Env ρ := acA aqr (aiB ρ)
def agi : acw := ⟨[aby, ab3], [ab3], fun (x : Val abO) => aeq x.1 x.2⟩
def aqq : List (Nat × acw) := [(121, ak4), (122, ahN)]
def aiA (ρ : Type) : List (acF ρ) := []
def agO (ρ : Type) : Env ρ := { acA aqq (aiA ρ) with hint := awf [(12, 121), (16, 122)] }
def ajf : acw := ⟨[ab6, ab3], [ab6, tI], fun (x : Val abQ) => aeY x.1 x.2⟩
def aGB : acb := { pin := 6, cs := [tI, tI, tI, m5, f6, wi, l5, f6, tI, tI, tI, tI, tI, tI, m5, f6, wi, l5, f6, tI, tI, tI, tI, l5, tI, tI, m5, f6, wi, f6], vs := [tI, l5], head := ⟨50, .any :: .box 6 0 :: .box 7 0 :: .own 8 :: aN 21 [.own 8, .con tI, .var tI], [.cells [.con tI, .con tI, .con m5, .con f6, .con wi, .con l5, .con f6], .cells [.con tI, .con tI], .cells [.con tI, .con tI, .nils, .nils, .nils, .nils, .nils], .cells [.con tI, .con tI, .con m5, .con f6, .con wi, .con l5, .con f6], .cells [.con tI, .con tI, .nils, .nils, .nils, .nils, .nils], .dead, .cells [.con tI, .con tI, .own 9, .own 10, .own 11, .con l5, .own 12], .cells [.con tI, .con tI, .nils, .nils, .nils, .nils, .nils], .rowv ab9, .rowc ace, .rowc ab3, .rowc adB, .rowc ab3]⟩, exits := [(.exit 0, ⟨50, .any :: .box 6 0 :: .box 7 0 :: .own 8 :: aN 21 [.own 8, .con tI], [.cells [.con tI, .con tI, .con m5, .con f6, .con wi, .con l5, .con f6], .cells [.con tI, .con tI], .cells [.con tI, .con tI, .nils, .nils, .nils, .nils, .nils], .cells [.con tI, .con tI, .con m5, .con f6, .con wi, .con l5, .con f6], .cells [.con tI, .con tI, .nils, .nils, .nils, .nils, .nils], .dead, .cells [.con tI, .con tI, .own 9, .own 10, .own 11, .con l5, .own 12], .cells [.con tI, .con tI, .nils, .nils, .nils, .nils, .nils], .rowv ab9, .rowc ace, .rowc ab3, .rowc adB, .rowc ab3]⟩, [l5])] }
def aur (ρ : Type) : acF ρ := ⟨[1, 2, 4, 1], 175, 0, aGB, fun (p : Val (.pair tI (.pair tI (.pair tI (.pair m5 (.pair f6 (.pair wi (.pair l5 (.pair f6 (.pair tI (.pair tI (.pair tI (.pair tI (.pair tI (.pair tI (.pair m5 (.pair f6 (.pair wi (.pair l5 (.pair f6 (.pair tI (.pair tI (.pair tI (.pair tI (.pair l5 (.pair tI (.pair tI (.pair m5 (.pair f6 (.pair wi f6)))))))))))))))))))))))))))))) (v : Val (.pair tI l5)) kn kx => anf p.1 v.1 v.2 (fun u0 u1 => kn (u0, u1)) (kx 0)⟩
def aLf : List (Nat × acw) := [(38, aee)]
def axp (ρ : Type) : List (acF ρ) := [aur ρ]
def av4 (ρ : Type) : Env ρ := acA aLf (axp ρ)
def ael : acw := ⟨[acf], [.bool, tI], fun (x : Val acf) => ado x⟩
def avO : List (Nat × acw) := [(133, alD), (135, akp)]
def akI (ρ : Type) : List (acF ρ) := []
def anW (ρ : Type) : Env ρ := acA avO (akI ρ)
def aoo : acw := ⟨[ab6, ab3], [ab3, tI], fun (x : Val abQ) => aga x.1 x.2⟩
def avy : acb := { pin := 4, cs := [tI, tI, tI, m5, f6, wi, l5, f6, tI, tI, tI, tI, f6], vs := [tI, tI, tI, m5, f6, wi, l5, f6], head := ⟨68, .any :: .any :: .box 4 0 :: aN 20 [.own 3, .con tI, .var tI], [.cells [.con tI, .con tI, .con m5, .con f6, .con wi, .con l5, .con f6], .cells [.con tI, .con tI], .cells [.con tI, .con tI], .rowc ab3, .cells [.var tI, .var tI, .var m5, .var f6, .var wi, .var l5, .var f6]]⟩, exits := [(.ret, ⟨68, .any :: .any :: .box 4 0 :: .any :: .nilp :: .var tI :: aN 17 [.own 3, .con tI], [.cells [.con tI, .con tI, .con m5, .con f6, .con wi, .con l5, .con f6], .cells [.con tI, .con tI], .cells [.con tI, .con tI], .rowc ab3, .cells [.var tI, .var tI, .var m5, .var f6, .var wi, .var l5, .var f6]]⟩, [tI, tI, tI, m5, f6, wi, l5, f6]), (.exit 0, ⟨68, .any :: .any :: .box 4 0 :: aN 20 [.own 3, .con tI], [.cells [.con tI, .con tI, .con m5, .con f6, .con wi, .con l5, .con f6], .cells [.con tI, .con tI], .cells [.con tI, .con tI], .rowc ab3, .cells [.var tI, .var tI, .var m5, .var f6, .var wi, .var l5, .var f6]]⟩, [tI, tI, m5, f6, wi, l5, f6])] }
def alU (ρ : Type) : acF ρ := ⟨[1, 3], 50, 0, avy, fun (p : Val (.pair tI (.pair tI (.pair tI (.pair m5 (.pair f6 (.pair wi (.pair l5 (.pair f6 (.pair tI (.pair tI abR))))))))))) (v : Val abC) kn kx => ac4 p.1 p.2.2.2.2.2.2.2.2.2.2.2.2 v.1 v.2.1 v.2.2.1 v.2.2.2.1 v.2.2.2.2.1 v.2.2.2.2.2.1 v.2.2.2.2.2.2.1 v.2.2.2.2.2.2.2 (fun u0 u1 u2 u3 u4 u5 u6 u7 => kn (u0, u1, u2, u3, u4, u5, u6, u7)) (kx 0) (kx 1)⟩
def azS : List (Nat × acw) := [(20, aeo), (38, aee), (51, agi), (60, af2), (61, ajf), (123, ael)]
def anP (ρ : Type) : List (acF ρ) := [alU ρ]
def alc (ρ : Type) : Env ρ := acA azS (anP ρ)
def azj : acw := ⟨[ab6, ab3, ab3], [ab3, tI], fun (x : Val (.pair ab6 acT)) => ano x.1 x.2.1 x.2.2⟩
def ax0 : acb := { pin := 5, cs := [tI, tI, tI, m5, f6, wi, l5, f6, tI, tI, tI, tI, tI, tI, f6], vs := [tI, tI, tI, m5, f6, wi, l5, f6], head := ⟨68, .any :: .any :: .box 5 0 :: aN 20 [.own 4, .con tI, .var tI], [.cells [.con tI, .con tI, .con m5, .con f6, .con wi, .con l5, .con f6], .cells [.con tI, .con tI], .cells [.con tI, .con tI], .cells [.con tI, .con tI], .rowc ab3, .cells [.var tI, .var tI, .var m5, .var f6, .var wi, .var l5, .var f6]]⟩, exits := [(.ret, ⟨68, .any :: .any :: .box 5 0 :: .any :: .nilp :: .var tI :: aN 17 [.own 4, .con tI], [.cells [.con tI, .con tI, .con m5, .con f6, .con wi, .con l5, .con f6], .cells [.con tI, .con tI], .cells [.con tI, .con tI], .cells [.con tI, .con tI], .rowc ab3, .cells [.var tI, .var tI, .var m5, .var f6, .var wi, .var l5, .var f6]]⟩, [tI, tI, tI, m5, f6, wi, l5, f6]), (.exit 0, ⟨68, .any :: .any :: .box 5 0 :: aN 20 [.own 4, .con tI], [.cells [.con tI, .con tI, .con m5, .con f6, .con wi, .con l5, .con f6], .cells [.con tI, .con tI], .cells [.con tI, .con tI], .cells [.con tI, .con tI], .rowc ab3, .cells [.var tI, .var tI, .var m5, .var f6, .var wi, .var l5, .var f6]]⟩, [tI, tI, m5, f6, wi, l5, f6])] }
def anT (ρ : Type) : acF ρ := ⟨[1, 4], 50, 0, ax0, fun (p : Val (.pair tI (.pair tI (.pair tI (.pair m5 (.pair f6 (.pair wi (.pair l5 (.pair f6 (.pair tI (.pair tI (.pair tI (.pair tI abR))))))))))))) (v : Val abC) kn kx => alg p.1 p.2.2.2.2.2.2.2.2.2.2.2.2.2.2 v.1 v.2.1 v.2.2.1 v.2.2.2.1 v.2.2.2.2.1 v.2.2.2.2.2.1 v.2.2.2.2.2.2.1 v.2.2.2.2.2.2.2 (fun u0 u1 u2 u3 u4 u5 u6 u7 => kn (u0, u1, u2, u3, u4, u5, u6, u7)) (kx 0) (kx 1)⟩
def aCD : List (Nat × acw) := [(20, aeo), (38, aee), (55, agJ), (56, agv), (60, af2), (61, ajf), (123, ael)]
def aoR (ρ : Type) : List (acF ρ) := [anT ρ]
def amS (ρ : Type) : Env ρ := acA aCD (aoR ρ)
def avg : acw := ⟨[nn, nn], [nn, nn, tI], fun (x : Val (.pair nn nn)) => aml x.1 x.2⟩
def aGE : List (Nat × acw) := [(88, apR), (198, ave)]
def ara (ρ : Type) : List (acF ρ) := []
def axq (ρ : Type) : Env ρ := acA aGE (ara ρ)
def aMk : acw := ⟨[nn, tI], [.bool], fun (x : Val abG) => ayK x.1 x.2⟩
def aKL : List (Nat × acw) := [(129, avg)]
def awR (ρ : Type) : List (acF ρ) := []
def aDX (ρ : Type) : Env ρ := acA aKL (awR ρ)
def aHV : acw := ⟨[tI], [.bool], fun (x : Val tI) => auJ x⟩
def aIp : List (Nat × acw) := []
def atj (ρ : Type) : List (acF ρ) := []
def azJ (ρ : Type) : Env ρ := acA aIp (atj ρ)
def aHU : acw := ⟨[tI, abu], [f6], fun (x : Val (.pair tI abu)) => auI x.1 x.2⟩
def aCr : acb := { pin := 0, cs := [tI, nn, tI], vs := [tI, f6], head := ⟨23, .con tI :: aN 4 [.own 0, .any, .any, .any, .con nn, .con tI, .var tI], [.rowv ab3]⟩, exits := [(.exit 0, ⟨23, .con tI :: aN 4 [.own 0, .any, .any, .any, .con nn, .con tI], [.rowv ab3]⟩, [f6])] }
def aqH (ρ : Type) : acF ρ := ⟨[], 59, 0, aCr, fun (p : Val (.pair tI abG)) (v : Val abD) kn kx => akz p.1 p.2.1 p.2.2 v.1 v.2 (fun u0 u1 => kn (u0, u1)) (kx 0)⟩
def aIo : List (Nat × acw) := [(94, ad5)]
def ati (ρ : Type) : List (acF ρ) := [aqH ρ]
def arN (ρ : Type) : Env ρ := acA aIo (ati ρ)
def aMm : acw := ⟨[ab6, tI, nn], [ab3, tI], fun (x : Val (.pair ab6 abA)) => ayL x.1 x.2.1 x.2.2⟩
def aFM : acb := { pin := 3, cs := [f6, tI, tI, tI, m5, f6, wi, l5, f6, tI, tI, abu], vs := [tI, tI, tI, m5, f6, wi, l5, f6], head := ⟨68, .any :: .any :: .box 3 0 :: aN 20 [.con f6, .con tI, .var tI], [.cells [.con tI, .con tI, .con m5, .con f6, .con wi, .con l5, .con f6], .cells [.con tI, .con tI], .rowf nn 0, .cells [.var tI, .var tI, .var m5, .var f6, .var wi, .var l5, .var f6]]⟩, exits := [(.ret, ⟨68, .any :: .any :: .box 3 0 :: .any :: .nilp :: .var tI :: aN 17 [.con f6, .con tI], [.cells [.con tI, .con tI, .con m5, .con f6, .con wi, .con l5, .con f6], .cells [.con tI, .con tI], .rowf nn 0, .cells [.var tI, .var tI, .var m5, .var f6, .var wi, .var l5, .var f6]]⟩, [tI, tI, tI, m5, f6, wi, l5, f6]), (.exit 0, ⟨68, .any :: .any :: .box 3 0 :: aN 20 [.con f6, .con tI], [.cells [.con tI, .con tI, .con m5, .con f6, .con wi, .con l5, .con f6], .cells [.con tI, .con tI], .rowf nn 0, .cells [.var tI, .var tI, .var m5, .var f6, .var wi, .var l5, .var f6]]⟩, [tI, tI, m5, f6, wi, l5, f6])] }
def ats (ρ : Type) : acF ρ := ⟨[7, 2], 50, 0, aFM, fun (p : Val (.pair f6 (.pair tI (.pair tI (.pair tI (.pair m5 (.pair f6 (.pair wi (.pair l5 (.pair f6 (.pair tI (.pair tI abu)))))))))))) (v : Val abC) kn kx => amP p.1 p.2.1 v.1 v.2.1 v.2.2.1 v.2.2.2.1 v.2.2.2.2.1 v.2.2.2.2.2.1 v.2.2.2.2.2.2.1 v.2.2.2.2.2.2.2 (fun u0 u1 u2 u3 u4 u5 u6 u7 => kn (u0, u1, u2, u3, u4, u5, u6, u7)) (kx 0) (kx 1)⟩
def aFL : acb := { pin := 0, cs := [aby, f6, tI, tI, tI], vs := [tI, tI, tI], head := ⟨87, aN 6 (.box 0 0 :: .any :: .any :: .any :: .con aby :: .any :: .any :: .box 1 0 :: aN 51 [.con f6, .con tI, .var tI]), [.cells [.con tI, .con tI], .cells [.var tI, .var tI]]⟩, exits := [(.exit 0, ⟨87, aN 6 (.box 0 0 :: .any :: .any :: .any :: .con aby :: .any :: .any :: .box 1 0 :: aN 51 [.con f6, .con tI]), [.cells [.con tI, .con tI], .cells [.var tI, .var tI]]⟩, [tI, tI])] }
def atr (ρ : Type) : acF ρ := ⟨[], 18, 0, aFL, fun (p : Val (.pair aby (.pair f6 acY))) (v : Val acY) kn kx => amO p.1 p.2.1 p.2.2.1 v.1 v.2.1 v.2.2 (fun u0 u1 u2 => kn (u0, u1, u2)) (kx 0)⟩
def aKQ : List (Nat × acw) := [(20, aeo), (38, aee), (51, agi), (57, aMk), (58, aHV), (59, aHU), (60, af2), (61, ajf), (123, ael)]
def awZ (ρ : Type) : List (acF ρ) := [ats ρ, atr ρ]
def apV (ρ : Type) : Env ρ := acA aKQ (awZ ρ)
def arq : acw := ⟨[ab3, ab3], [tI], fun (x : Val acT) => aj6 x.1 x.2⟩
def aCe : List (Nat × acw) := []
def aoA (ρ : Type) : List (acF ρ) := []
def as4 (ρ : Type) : Env ρ := acA aCe (aoA ρ)
def azh : acw := ⟨[ab6, ab3, ab3], [tI, tI], fun (x : Val (.pair ab6 acT)) => amh x.1 x.2.1 x.2.2⟩
def aCB : acb := { pin := 4, cs := [tI, tI, tI, m5, f6, wi, l5, f6, tI, tI, tI, tI, f6], vs := [tI, tI, tI, m5, f6, wi, l5, f6], head := ⟨68, .any :: .any :: .box 4 0 :: aN 20 [.own 3, .con tI, .var tI], [.cells [.con tI, .con tI, .con m5, .con f6, .con wi, .con l5, .con f6], .cells [.con tI, .con tI], .cells [.con tI, .con tI], .rowc ab3, .cells [.var tI, .var tI, .var m5, .var f6, .var wi, .var l5, .var f6]]⟩, exits := [(.ret, ⟨68, .any :: .any :: .box 4 0 :: .any :: .nilp :: .var tI :: aN 17 [.own 3, .con tI], [.cells [.con tI, .con tI, .con m5, .con f6, .con wi, .con l5, .con f6], .cells [.con tI, .con tI], .cells [.con tI, .con tI], .rowc ab3, .cells [.var tI, .var tI, .var m5, .var f6, .var wi, .var l5, .var f6]]⟩, [tI, tI, tI, m5, f6, wi, l5, f6]), (.exit 0, ⟨68, .any :: .any :: .box 4 0 :: aN 20 [.own 3, .con tI], [.cells [.con tI, .con tI, .con m5, .con f6, .con wi, .con l5, .con f6], .cells [.con tI, .con tI], .cells [.con tI, .con tI], .rowc ab3, .cells [.var tI, .var tI, .var m5, .var f6, .var wi, .var l5, .var f6]]⟩, [tI, tI, m5, f6, wi, l5, f6])] }
def aqP (ρ : Type) : acF ρ := ⟨[1, 3], 50, 0, aCB, fun (p : Val (.pair tI (.pair tI (.pair tI (.pair m5 (.pair f6 (.pair wi (.pair l5 (.pair f6 (.pair tI (.pair tI abR))))))))))) (v : Val abC) kn kx => aoM p.1 p.2.2.2.2.2.2.2.2.2.2.2.2 v.1 v.2.1 v.2.2.1 v.2.2.2.1 v.2.2.2.2.1 v.2.2.2.2.2.1 v.2.2.2.2.2.2.1 v.2.2.2.2.2.2.2 (fun u0 u1 u2 u3 u4 u5 u6 u7 => kn (u0, u1, u2, u3, u4, u5, u6, u7)) (kx 0) (kx 1)⟩
def aIz : List (Nat × acw) := [(20, aeo), (38, aee), (51, agi), (60, af2), (61, ajf), (69, arq), (123, ael)]
def atu (ρ : Type) : List (acF ρ) := [aqP ρ]
def arS (ρ : Type) : Env ρ := acA aIz (atu ρ)
def ayv : acw := ⟨[ab6, ab9], [ab6, tI], fun (x : Val abH) => aio x.1 x.2⟩
def aGx : acb := { pin := 8, cs := [tI, tI, tI, m5, f6, wi, l5, f6, tI, tI, nn, nn, tI, tI, tI, tI, tI, tI, tI, tI, m5, f6, wi, l5, f6, tI, tI, tI, tI, l5, tI, tI, m5, f6, wi, f6], vs := [tI, l5], head := ⟨50, .any :: .box 8 0 :: .box 9 0 :: .own 10 :: aN 21 [.own 10, .con tI, .var tI], [.cells [.con tI, .con tI, .con m5, .con f6, .con wi, .con l5, .con f6], .cells [.con tI, .con tI, .con nn, .con nn, .con tI, .con tI, .con tI, .con tI], .cells [.con tI, .con tI, .nils, .nils, .nils, .nils, .nils], .dead, .dead, .cells [.con tI, .con tI, .con m5, .con f6, .con wi, .con l5, .con f6], .cells [.con tI, .con tI, .nils, .nils, .nils, .nils, .nils], .dead, .cells [.con tI, .con tI, .own 11, .own 12, .own 13, .con l5, .own 14], .cells [.con tI, .con tI, .nils, .nils, .nils, .nils, .nils], .rowv ab9, .rowc ace, .rowc ab3, .rowc adB, .rowc ab3]⟩, exits := [(.exit 0, ⟨50, .any :: .box 8 0 :: .box 9 0 :: .own 10 :: aN 21 [.own 10, .con tI], [.cells [.con tI, .con tI, .con m5, .con f6, .con wi, .con l5, .con f6], .cells [.con tI, .con tI, .con nn, .con nn, .con tI, .con tI, .con tI, .con tI], .cells [.con tI, .con tI, .nils, .nils, .nils, .nils, .nils], .dead, .dead, .cells [.con tI, .con tI, .con m5, .con f6, .con wi, .con l5, .con f6], .cells [.con tI, .con tI, .nils, .nils, .nils, .nils, .nils], .dead, .cells [.con tI, .con tI, .own 11, .own 12, .own 13, .con l5, .own 14], .cells [.con tI, .con tI, .nils, .nils, .nils, .nils, .nils], .rowv ab9, .rowc ace, .rowc ab3, .rowc adB, .rowc ab3]⟩, [l5])] }
def aup (ρ : Type) : acF ρ := ⟨[2, 2, 4, 1], 175, 0, aGx, fun (p : Val (.pair tI (.pair tI (.pair tI (.pair m5 (.pair f6 (.pair wi (.pair l5 (.pair f6 (.pair tI (.pair tI (.pair nn (.pair nn (.pair tI (.pair tI (.pair tI (.pair tI (.pair tI (.pair tI (.pair tI (.pair tI (.pair m5 (.pair f6 (.pair wi (.pair l5 (.pair f6 (.pair tI (.pair tI (.pair tI (.pair tI (.pair l5 (.pair tI (.pair tI (.pair m5 (.pair f6 (.pair wi f6)))))))))))))))))))))))))))))))))))) (v : Val (.pair tI l5)) kn kx => ane p.1 v.1 v.2 (fun u0 u1 => kn (u0, u1)) (kx 0)⟩
def aLd : List (Nat × acw) := [(38, aee)]
def axm (ρ : Type) : List (acF ρ) := [aup ρ]
def av2 (ρ : Type) : Env ρ := acA aLd (axm ρ)
def aH2 : acw := ⟨[ab6, ab9, ab3], [ab3, tI], fun (x : Val (.pair ab6 (.pair ab9 ab3))) => amj x.1 x.2.1 x.2.2⟩
def aIV : List (Nat × acw) := [(171, avf), (172, azo), (173, aE5), (174, azm)]
def atY (ρ : Type) : List (acF ρ) := []
def aAC (ρ : Type) : Env ρ := acA aIV (atY ρ)
def arx : acw := ⟨[ab6, ab9], [ab3, tI], fun (x : Val abH) => akc x.1 x.2⟩
def aDe : List (Nat × acw) := [(41, ayv), (62, aE7), (87, aop), (88, apR), (89, asI), (90, aH2)]
def apd (ρ : Type) : List (acF ρ) := []
def auq (ρ : Type) : Env ρ := acA aDe (apd ρ)
def aH1 : acw := ⟨[ab6, tI], [ab9, tI], fun (x : Val abP) => auO x.1 x.2⟩
def aIU : List (Nat × acw) := [(38, aee)]
def atX (ρ : Type) : List (acF ρ) := []
def aAA (ρ : Type) : Env ρ := acA aIU (atX ρ)
def aMp : acw := ⟨[ab6, tI], [ab3, tI], fun (x : Val abP) => ayM x.1 x.2⟩
def aLe : List (Nat × acw) := [(200, aE6), (205, aH1)]
def axo (ρ : Type) : List (acF ρ) := []
def aD6 (ρ : Type) : Env ρ := acA aLe (axo ρ)
def awO : acw := ⟨[nn, aby, (.ptr ab9)], [tI], fun (x : Val (.pair nn (.pair aby (.ptr ab9)))) => aiO x.1 x.2.1 x.2.2⟩
def azI : List (Nat × acw) := [(55, agJ)]
def anO (ρ : Type) : List (acF ρ) := []
def aqK (ρ : Type) : Env ρ := acA azI (anO ρ)
def awN : acw := ⟨[tI, tI, aby, (.ptr tI), abS, (.ptr tI)], [acY], fun (x : Val (.pair tI (.pair tI (.pair aby (.pair (.ptr tI) (.pair abS (.ptr tI))))))) => aiN x.1 x.2.1 x.2.2.1 x.2.2.2.1 x.2.2.2.2.1 x.2.2.2.2.2⟩
def azH : List (Nat × acw) := [(56, agv)]
def anN (ρ : Type) : List (acF ρ) := []
def aqJ (ρ : Type) : Env ρ := acA azH (anN ρ)
def avd : acw := ⟨[aby, ab3, ab9], [aet, tI], fun (x : Val (.pair aby (.pair ab3 ab9))) => ame x.1 x.2.1 x.2.2⟩
def azG : acb := { pin := 0, cs := [tI, nn, nn, f6, abp, tI, tI, tI, tI, tI, nn, nn, tI, tI, tI, tI, tI, tI, tI, tI, tI, tI, tI, tI, tI, tI, tI, tI, tI, tI, m5, f6, wi, l5, f6, tI], vs := [tI, abp], head := ⟨127, aN 4 (.box 0 0 :: .box 1 0 :: .box 2 0 :: .any :: .box 3 0 :: .any :: .any :: .con tI :: .box 4 0 :: .any :: .con nn :: .con nn :: .any :: .any :: .con f6 :: .any :: .box 5 0 :: aN 65 [.con abp, .con tI, .var tI]), [.cells [.con tI, .con tI], .cells [.con tI, .con tI, .con nn, .con nn, .con tI, .con tI, .con tI, .con tI], .cells [.con tI, .con tI, .con tI, .con tI, .con tI, .con tI, .con tI, .con tI], .cells [.con tI, .con tI], .cells [.con tI, .con tI], .cells [.con tI, .con tI, .con m5, .con f6, .con wi, .con l5, .con f6, .con tI, .own 6], .rowv acY]⟩, exits := [(.exit 0, ⟨127, aN 4 (.box 0 0 :: .box 1 0 :: .box 2 0 :: .any :: .box 3 0 :: .any :: .any :: .con tI :: .box 4 0 :: .any :: .con nn :: .con nn :: .any :: .any :: .con f6 :: .any :: .box 5 0 :: aN 65 [.con abp, .con tI]), [.cells [.con tI, .con tI], .cells [.con tI, .con tI, .con nn, .con nn, .con tI, .con tI, .con tI, .con tI], .cells [.con tI, .con tI, .con tI, .con tI, .con tI, .con tI, .con tI, .con tI], .cells [.con tI, .con tI], .cells [.con tI, .con tI], .cells [.con tI, .con tI, .con m5, .con f6, .con wi, .con l5, .con f6, .con tI, .own 6], .rowv acY]⟩, [abp])] }
def aoF (ρ : Type) : acF ρ := ⟨[], 71, 0, azG, fun (p : Val (.pair tI (.pair nn (.pair nn (.pair f6 (.pair abp (.pair tI (.pair tI (.pair tI (.pair tI (.pair tI (.pair nn (.pair nn (.pair tI (.pair tI (.pair tI (.pair tI (.pair tI (.pair tI (.pair tI (.pair tI (.pair tI (.pair tI (.pair tI (.pair tI (.pair tI (.pair tI (.pair tI (.pair tI (.pair tI (.pair tI (.pair m5 (.pair f6 (.pair wi (.pair l5 (.pair f6 tI)))))))))))))))))))))))))))))))))))) (v : Val acf) kn kx => ahl p.1 p.2.2.2.1 p.2.2.2.2.1 p.2.2.2.2.2.1 v.1 v.2 (fun u0 u1 => kn (u0, u1)) (kx 0)⟩
def aFA : List (Nat × acw) := [(20, aeo), (40, arx), (41, ayv), (55, agJ), (129, avg), (142, aMp), (143, awO), (144, awN)]
def aqI (ρ : Type) : List (acF ρ) := [aoF ρ]
def akA (ρ : Type) : Env ρ := { acA aFA (aqI ρ) with hint := awf [(110, 143), (113, 143), (120, 144), (123, 144)] }
def amu : acw := ⟨[acY], [nn], fun (x : Val acY) => afF x⟩
def axS : List (Nat × acw) := []
def alL (ρ : Type) : List (acF ρ) := []
def aoI (ρ : Type) : Env ρ := acA axS (alL ρ)
def aDI : acw := ⟨[acY, tI], [tI], fun (x : Val (.pair acY tI)) => amf x.1 x.2⟩
def aFC : List (Nat × acw) := []
def aqL (ρ : Type) : List (acF ρ) := []
def awT (ρ : Type) : Env ρ := acA aFC (aqL ρ)
def ak2 : acw := ⟨[aet, tI], [ab3], fun (x : Val (.pair aet tI)) => adZ x.1 x.2⟩
def avk : List (Nat × acw) := [(177, aDI)]
def akv (ρ : Type) : List (acF ρ) := []
def anJ (ρ : Type) : Env ρ := acA avk (akv ρ)
def ak3 : acw := ⟨[aet, nn], [nn], fun (x : Val (.pair aet nn)) => agz x.1 x.2⟩
def arG : acb := { pin := 0, cs := [tI, nn, tI, tI, tI, tI, tI, tI, tI, tI, tI, tI], vs := [tI, nn], head := ⟨48, .any :: .any :: .box 0 0 :: .any :: .any :: .own 1 :: .any :: .con tI :: .var tI :: aN 7 [.con nn, .con tI, .con tI], [.cells [.con tI, .con tI, .con tI, .con tI, .con tI, .con tI, .con tI, .con tI], .rowv tI]⟩, exits := [(.exit 2, ⟨48, .any :: .any :: .box 0 0 :: .any :: .any :: .own 1 :: .any :: .con tI :: aN 8 [.con nn, .con tI, .con tI], [.cells [.con tI, .con tI, .con tI, .con tI, .con tI, .con tI, .con tI, .con tI], .rowv tI]⟩, [nn])] }
def ajQ (ρ : Type) : acF ρ := ⟨[], 101, 2, arG, fun (p : Val (.pair tI (.pair nn (.pair tI (.pair tI abx))))) (v : Val abA) kn kx => afk p.1 p.2.2.2.2.1 p.2.2.2.2.2.1 v.1 v.2 (fun u0 u1 => kn (u0, u1)) (kx 0)⟩
def arH : acb := { pin := 0, cs := [nn, tI, tI, tI, tI, tI, tI, tI, tI, tI], vs := [tI, nn], head := ⟨48, .any :: .any :: .box 0 0 :: .any :: .any :: .own 1 :: aN 10 [.con nn, .con tI, .var tI], [.cells [.con tI, .con tI, .con tI, .con tI, .con tI, .con tI, .con tI, .con tI], .rowv tI]⟩, exits := [(.exit 0, ⟨48, .any :: .any :: .box 0 0 :: .any :: .any :: .own 1 :: aN 10 [.con nn, .con tI], [.cells [.con tI, .con tI, .con tI, .con tI, .con tI, .con tI, .con tI, .con tI], .rowv tI]⟩, [nn])] }
def ajR (ρ : Type) : acF ρ := ⟨[], 101, 0, arH, fun (p : Val (.pair nn (.pair tI abx))) (v : Val abA) kn kx => agk p.1 p.2.1 p.2.2.1 p.2.2.2.1 v.1 v.2 (fun u0 u1 => kn (u0, u1)) (kx 0)⟩
def avl : List (Nat × acw) := []
def akw (ρ : Type) : List (acF ρ) := [ajQ ρ, ajR ρ]
def agE (ρ : Type) : Env ρ := acA avl (akw ρ)
def aon : acw := ⟨[aet], [tI], fun (x : Val aet) => ahs x⟩
def aqn : acb := { pin := 0, cs := [nn, tI, tI, tI, tI, tI, tI, tI, tI, tI], vs := [tI, tI], head := ⟨34, .any :: .box 0 0 :: .any :: .var tI :: aN 12 [.con nn, .con tI, .var tI], [.cells [.con tI, .con tI, .con tI, .con tI, .con tI, .con tI, .con tI, .con tI]]⟩, exits := [(.exit 0, ⟨34, .any :: .box 0 0 :: .any :: .var tI :: aN 12 [.con nn, .con tI], [.cells [.con tI, .con tI, .con tI, .con tI, .con tI, .con tI, .con tI, .con tI]]⟩, [tI])] }
def ai5 (ρ : Type) : acF ρ := ⟨[], 72, 0, aqn, fun (p : Val (.pair nn (.pair tI abx))) (v : Val ab3) kn kx => afW p.1 p.2.1 p.2.2.1 p.2.2.2.1 p.2.2.2.2.1 p.2.2.2.2.2.1 p.2.2.2.2.2.2.1 p.2.2.2.2.2.2.2.1 p.2.2.2.2.2.2.2.2.1 p.2.2.2.2.2.2.2.2.2 v.1 v.2 (fun u0 u1 => kn (u0, u1)) (kx 0)⟩
def as1 : List (Nat × acw) := [(94, ad5), (95, amu), (99, ak2), (101, ak3)]
def ajO (ρ : Type) : List (acF ρ) := [ai5 ρ]
def ahW (ρ : Type) : Env ρ := acA as1 (ajO ρ)
def azg : acw := ⟨[ab6, ab3, ab9], [tI, tI], fun (x : Val (.pair ab6 (.pair ab3 ab9))) => amg x.1 x.2.1 x.2.2⟩
def aCx : acb := { pin := 4, cs := [tI, tI, tI, m5, f6, wi, l5, f6, tI, tI, tI, tI, nn, nn, tI, tI, tI, tI, f6], vs := [tI, tI, tI, m5, f6, wi, l5, f6], head := ⟨68, .any :: .any :: .box 4 0 :: aN 20 [.own 3, .con tI, .var tI], [.cells [.con tI, .con tI, .con m5, .con f6, .con wi, .con l5, .con f6], .cells [.con tI, .con tI], .cells [.con tI, .con tI, .con nn, .con nn, .con tI, .con tI, .con tI, .con tI], .rowc ab3, .cells [.var tI, .var tI, .var m5, .var f6, .var wi, .var l5, .var f6]]⟩, exits := [(.ret, ⟨68, .any :: .any :: .box 4 0 :: .any :: .nilp :: .var tI :: aN 17 [.own 3, .con tI], [.cells [.con tI, .con tI, .con m5, .con f6, .con wi, .con l5, .con f6], .cells [.con tI, .con tI], .cells [.con tI, .con tI, .con nn, .con nn, .con tI, .con tI, .con tI, .con tI], .rowc ab3, .cells [.var tI, .var tI, .var m5, .var f6, .var wi, .var l5, .var f6]]⟩, [tI, tI, tI, m5, f6, wi, l5, f6]), (.exit 0, ⟨68, .any :: .any :: .box 4 0 :: aN 20 [.own 3, .con tI], [.cells [.con tI, .con tI, .con m5, .con f6, .con wi, .con l5, .con f6], .cells [.con tI, .con tI], .cells [.con tI, .con tI, .con nn, .con nn, .con tI, .con tI, .con tI, .con tI], .rowc ab3, .cells [.var tI, .var tI, .var m5, .var f6, .var wi, .var l5, .var f6]]⟩, [tI, tI, m5, f6, wi, l5, f6])] }
def aqM (ρ : Type) : acF ρ := ⟨[1, 3], 50, 0, aCx, fun (p : Val (.pair tI (.pair tI (.pair tI (.pair m5 (.pair f6 (.pair wi (.pair l5 (.pair f6 (.pair tI (.pair tI (.pair tI (.pair tI (.pair nn (.pair nn (.pair tI (.pair tI abR))))))))))))))))) (v : Val abC) kn kx => aoK p.1 p.2.2.2.2.2.2.2.2.2.2.2.2.2.2.2.2.2.2 v.1 v.2.1 v.2.2.1 v.2.2.2.1 v.2.2.2.2.1 v.2.2.2.2.2.1 v.2.2.2.2.2.2.1 v.2.2.2.2.2.2.2 (fun u0 u1 u2 u3 u4 u5 u6 u7 => kn (u0, u1, u2, u3, u4, u5, u6, u7)) (kx 0) (kx 1)⟩
def aIx : List (Nat × acw) := [(20, aeo), (38, aee), (60, af2), (61, ajf), (71, avd), (72, aon), (123, ael)]
def atm (ρ : Type) : List (acF ρ) := [aqM ρ]
def arQ (ρ : Type) : Env ρ := acA aIx (atm ρ)
def aru : acw := ⟨[acf, nn], [tI], fun (x : Val abY) => aj8 x.1 x.2⟩
def ax2 : acb := { pin := 1, cs := [nn, tI, tI, abp], vs := [tI], head := ⟨19, .con nn :: .fn 206 [(0, 0)] :: aN 5 [.con tI, .var tI], [.cells [.con tI, .con abp]]⟩, exits := [(.ret, ⟨19, [.con nn, .fn 206 [(0, 0)], .any, .any, .var tI, .any, .any, .con tI], [.cells [.con tI, .con abp]]⟩, [tI]), (.exit 0, ⟨19, .con nn :: .fn 206 [(0, 0)] :: aN 5 [.con tI], [.cells [.con tI, .con abp]]⟩, [])] }
def anV (ρ : Type) : acF ρ := ⟨[3, 2, 1, 2], 178, 0, ax2, fun (p : Val (.pair nn abI)) (v : Val tI) kn kx => aik p.1 p.2.1 p.2.2.2 v (fun u0 => kn u0) (kx 0) (kx 1)⟩
def aCF : List (Nat × acw) := []
def aoT (ρ : Type) : List (acF ρ) := [anV ρ]
def amU (ρ : Type) : Env ρ := acA aCF (aoT ρ)
def aE3 : acw := ⟨[acf, tI, nn], [tI, tI, .bool], fun (x : Val (.pair acf abA)) => auL x.1 x.2.1 x.2.2⟩
def aFQ : acb := { pin := 0, cs := [nn, tI, tI, abp], vs := [tI, tI, tI], head := ⟨37, .any :: .var tI :: .any :: .box 0 0 :: aN 5 [.var tI, .any, .any, .any, .con nn, .con tI, .var tI], [.cells [.con tI, .con abp]]⟩, exits := [(.ret, ⟨37, .any :: .any :: .any :: .box 0 0 :: .any :: .any :: .var tI :: .var tI :: .var .bool :: aN 4 [.con nn, .con tI], [.cells [.con tI, .con abp]]⟩, [tI, tI, .bool]), (.exit 0, ⟨37, .any :: .var tI :: .any :: .box 0 0 :: aN 5 [.var tI, .any, .any, .any, .con nn, .con tI], [.cells [.con tI, .con abp]]⟩, [tI, tI])] }
def aty (ρ : Type) : acF ρ := ⟨[], 146, 0, aFQ, fun (p : Val (.pair nn abI)) (v : Val acY) kn kx => amT p.1 p.2.1 p.2.2.2 v.1 v.2.1 v.2.2 (fun u0 u1 u2 => kn (u0, u1, u2)) (kx 0) (kx 1)⟩
def aKR : List (Nat × acw) := []
def aw0 (ρ : Type) : List (acF ρ) := [aty ρ]
def avF (ρ : Type) : Env ρ := acA aKR (aw0 ρ)
def aqC : acw := ⟨[acf, tI, tI, nn], [tI, tI], fun (x : Val (.pair acf (.pair tI abA))) => agA x.1 x.2.1 x.2.2.1 x.2.2.2⟩
def avQ : List (Nat × acw) := [(133, alD), (134, ayu), (145, aru), (146, aE3)]
def akL (ρ : Type) : List (acF ρ) := []
def anY (ρ : Type) : Env ρ := acA avQ (akL ρ)
def amv : acw := ⟨[ae8], [tI], fun (x : Val ae8) => ahu x⟩
def axW : List (Nat × acw) := [(20, aeo), (38, aee), (60, af2), (76, aqC)]
def alV (ρ : Type) : List (acF ρ) := []
def aoO (ρ : Type) : Env ρ := acA axW (alV ρ)
def aqB : acw := ⟨[acf, nn], [tI], fun (x : Val abY) => ain x.1 x.2⟩
def avP : List (Nat × acw) := [(133, alD), (145, aru), (146, aE3)]
def akK (ρ : Type) : List (acF ρ) := []
def anX (ρ : Type) : Env ρ := acA avP (akK ρ)
def aqA : acw := ⟨[ae8], [tI], fun (x : Val ae8) => aim x⟩
def avz : List (Nat × acw) := [(20, aeo), (38, aee), (86, aqB)]
def akG (ρ : Type) : List (acF ρ) := []
def anQ (ρ : Type) : Env ρ := acA avz (akG ρ)
def afK : acw := ⟨[m5, ace], [tI], fun (x : Val (.pair m5 ace)) => aed x.1 x.2⟩
def ag6 : acb := { pin := 0, cs := [m5, tI, tI, tI, tI, tI, tI, tI, tI, tI], vs := [tI], head := ⟨19, [.con m5, .any, .any, .box 0 0, .any, .any, .any, .con tI, .var tI], [.cells [.con tI, .con tI, .con tI, .con tI, .con tI, .con tI, .con tI, .con tI]]⟩, exits := [(.ret, ⟨19, [.con m5, .any, .any, .box 0 0, .var tI, .any, .any, .con tI], [.cells [.con tI, .con tI, .con tI, .con tI, .con tI, .con tI, .con tI, .con tI]]⟩, [tI]), (.exit 0, ⟨19, [.con m5, .any, .any, .box 0 0, .any, .any, .any, .con tI], [.cells [.con tI, .con tI, .con tI, .con tI, .con tI, .con tI, .con tI, .con tI]]⟩, [])] }
def aeK (ρ : Type) : acF ρ := ⟨[], 254, 0, ag6, fun (p : Val (.pair m5 (.pair tI abx))) (v : Val tI) kn kx => acV p.1 p.2.1 p.2.2.1 p.2.2.2.1 p.2.2.2.2.1 p.2.2.2.2.2.1 p.2.2.2.2.2.2.1 p.2.2.2.2.2.2.2.1 p.2.2.2.2.2.2.2.2.1 p.2.2.2.2.2.2.2.2.2 v (fun u0 => kn u0) (kx 0) (kx 1)⟩
def ahD : List (Nat × acw) := []
def aeW (ρ : Type) : List (acF ρ) := [aeK ρ]
def adU (ρ : Type) : Env ρ := acA ahD (aeW ρ)
def ae9 : acw := ⟨[m5, ace], [.bool], fun (x : Val (.pair m5 ace)) => adl x.1 x.2⟩
def agN : List (Nat × acw) := [(254, afK)]
def aem (ρ : Type) : List (acF ρ) := []
def aeM (ρ : Type) : Env ρ := acA agN (aem ρ)
def agu : acw := ⟨[f6, ab3], [tI], fun (x : Val abW) => ae4 x.1 x.2⟩
def aix : acb := { pin := 0, cs := [f6, tI, tI, tI], vs := [tI], head := ⟨19, [.con f6, .any, .any, .box 0 0, .any, .any, .any, .con tI, .var tI], [.cells [.con tI, .con tI]]⟩, exits := [(.ret, ⟨19, [.con f6, .any, .any, .box 0 0, .var tI, .any, .any, .con tI], [.cells [.con tI, .con tI]]⟩, [tI]), (.exit 0, ⟨19, [.con f6, .any, .any, .box 0 0, .any, .any, .any, .con tI], [.cells [.con tI, .con tI]]⟩, [])] }
def afu (ρ : Type) : acF ρ := ⟨[], 256, 0, aix, fun (p : Val (.pair f6 acY)) (v : Val tI) kn kx => ac9 p.1 p.2.1 p.2.2.1 p.2.2.2 v (fun u0 => kn u0) (kx 0) (kx 1)⟩
def ajg : List (Nat × acw) := []
def afL (ρ : Type) : List (acF ρ) := [afu ρ]
def aez (ρ : Type) : Env ρ := acA ajg (afL ρ)
def afU : acw := ⟨[f6, ab3], [.bool], fun (x : Val abW) => ade x.1 x.2⟩
def ahV : List (Nat × acw) := [(256, agu)]
def afc (ρ : Type) : List (acF ρ) := []
def afv (ρ : Type) : Env ρ := acA ahV (afc ρ)
def af1 : acw := ⟨[wi, adB], [tI], fun (x : Val (.pair wi adB)) => aeD x.1 x.2⟩
def ahC : acb := { pin := 0, cs := [wi, tI, tI, tI, tI, tI], vs := [tI], head := ⟨19, [.con wi, .any, .any, .box 0 0, .any, .any, .any, .con tI, .var tI], [.cells [.con tI, .con tI, .con tI, .con tI]]⟩, exits := [(.ret, ⟨19, [.con wi, .any, .any, .box 0 0, .var tI, .any, .any, .con tI], [.cells [.con tI, .con tI, .con tI, .con tI]]⟩, [tI]), (.exit 0, ⟨19, [.con wi, .any, .any, .box 0 0, .any, .any, .any, .con tI], [.cells [.con tI, .con tI, .con tI, .con tI]]⟩, [])] }
def afb (ρ : Type) : acF ρ := ⟨[], 258, 0, ahC, fun (p : Val (.pair wi (.pair tI (.pair tI acY)))) (v : Val tI) kn kx => ac0 p.1 p.2.1 p.2.2.1 p.2.2.2.1 p.2.2.2.2.1 p.2.2.2.2.2 v (fun u0 => kn u0) (kx 0) (kx 1)⟩
def aiz : List (Nat × acw) := []
def afj (ρ : Type) : List (acF ρ) := [afb ρ]
def aea (ρ : Type) : Env ρ := acA aiz (afj ρ)
def afs : acw := ⟨[wi, adB], [.bool], fun (x : Val (.pair wi adB)) => ac1 x.1 x.2⟩
def ahi : List (Nat × acw) := [(258, af1)]
def aeL (ρ : Type) : List (acF ρ) := []
def afd (ρ : Type) : Env ρ := acA ahi (aeL ρ)
def aMl : acw := ⟨[ab6, ab6], [.bool], fun (x : Val (.pair ab6 ab6)) => auH x.1 x.2⟩
def aFx : acb := { pin := 0, cs := [m5, tI, tI, tI, m5, f6, wi, l5, f6, tI, tI, m5, f6, wi, l5, f6], vs := [tI, abr], head := ⟨87, .any :: .any :: .box 0 0 :: .box 1 0 :: .any :: .box 2 0 :: aN 10 [.con m5, .con tI, .var tI], [.cells [.con tI, .con tI, .con m5, .con f6, .con wi, .con l5, .con f6], .cells [.con tI, .con tI, .con m5, .con f6, .con wi, .con l5, .con f6], .cells [.omp 3], .mapv tI .bool]⟩, exits := [(.exit 0, ⟨87, .any :: .any :: .box 0 0 :: .box 1 0 :: .any :: .box 2 0 :: aN 10 [.con m5, .con tI], [.cells [.con tI, .con tI, .con m5, .con f6, .con wi, .con l5, .con f6], .cells [.con tI, .con tI, .con m5, .con f6, .con wi, .con l5, .con f6], .cells [.omp 3], .mapv tI .bool]⟩, [abr])] }
def ath (ρ : Type) : acF ρ := ⟨[], 77, 0, aFx, fun (p : Val (.pair m5 (.pair tI abB))) (v : Val (.pair tI abr)) kn kx => amI p.1 p.2.1 v.1 v.2 (fun u0 u1 => kn (u0, u1)) (kx 0)⟩
def aFu : acb := { pin := 6, cs := [nn, nn, tI, tI, tI, m5, f6, wi, l5, f6, tI, tI, m5, f6, wi, l5, f6, abr, tI, tI, nn, nn, tI, tI, tI, tI, tI, tI, nn, nn, tI, tI, tI, tI], vs := [tI], head := ⟨26, .con nn :: .con nn :: aN 10 [.con tI, .var tI], [.cells [.con tI, .con tI, .con m5, .con f6, .con wi, .con l5, .con f6], .cells [.con tI, .con tI, .con m5, .con f6, .con wi, .con l5, .con f6], .cells [.omp 3], .mapc tI .bool, .cells [.con tI, .con tI, .con nn, .con nn, .con tI, .con tI, .con tI, .con tI], .cells [.con tI, .con tI, .con nn, .con nn, .con tI, .con tI, .con tI, .con tI]]⟩, exits := [(.ret, ⟨26, .con nn :: .con nn :: .any :: .any :: .var .bool :: aN 7 [.con tI], [.cells [.con tI, .con tI, .con m5, .con f6, .con wi, .con l5, .con f6], .cells [.con tI, .con tI, .con m5, .con f6, .con wi, .con l5, .con f6], .cells [.omp 3], .mapc tI .bool, .cells [.con tI, .con tI, .con nn, .con nn, .con tI, .con tI, .con tI, .con tI], .cells [.con tI, .con tI, .con nn, .con nn, .con tI, .con tI, .con tI, .con tI]]⟩, [.bool]), (.exit 0, ⟨26, .con nn :: .con nn :: aN 10 [.con tI], [.cells [.con tI, .con tI, .con m5, .con f6, .con wi, .con l5, .con f6], .cells [.con tI, .con tI, .con m5, .con f6, .con wi, .con l5, .con f6], .cells [.omp 3], .mapc tI .bool, .cells [.con tI, .con tI, .con nn, .con nn, .con tI, .con tI, .con tI, .con tI], .cells [.con tI, .con tI, .con nn, .con nn, .con tI, .con tI, .con tI, .con tI]]⟩, [])] }
def ate (ρ : Type) : acF ρ := ⟨[14, 3, 1, 2, 4, 5, 1, 38], 151, 0, aFu, fun (p : Val (.pair nn (.pair nn (.pair tI (.pair tI (.pair tI (.pair m5 (.pair f6 (.pair wi (.pair l5 (.pair f6 (.pair tI (.pair tI (.pair m5 (.pair f6 (.pair wi (.pair l5 (.pair f6 (.pair abr (.pair tI (.pair tI (.pair nn (.pair nn (.pair tI (.pair tI (.pair tI (.pair tI ab9))))))))))))))))))))))))))) (v : Val tI) kn kx => ah0 p.1 p.2.1 p.2.2.1 v (fun u0 => kn u0) (kx 0) (kx 1)⟩
def aFt : acb := { pin := 6, cs := [nn, nn, tI, tI, tI, m5, f6, wi, l5, f6, tI, tI, m5, f6, wi, l5, f6, abr, tI, tI, nn, nn, tI, tI, tI, tI, tI, tI, nn, nn, tI, tI, tI, tI], vs := [tI], head := ⟨26, .con nn :: .con nn :: aN 10 [.con tI, .var tI], [.cells [.con tI, .con tI, .con m5, .con f6, .con wi, .con l5, .con f6], .cells [.con tI, .con tI, .con m5, .con f6, .con wi, .con l5, .con f6], .cells [.omp 3], .mapc tI .bool, .cells [.con tI, .con tI, .con nn, .con nn, .con tI, .con tI, .con tI, .con tI], .cells [.con tI, .con tI, .con nn, .con nn, .con tI, .con tI, .con tI, .con tI]]⟩, exits := [(.ret, ⟨26, .con nn :: .con nn :: .any :: .any :: .var .bool :: aN 7 [.con tI], [.cells [.con tI, .con tI, .con m5, .con f6, .con wi, .con l5, .con f6], .cells [.con tI, .con tI, .con m5, .con f6, .con wi, .con l5, .con f6], .cells [.omp 3], .mapc tI .bool, .cells [.con tI, .con tI, .con nn, .con nn, .con tI, .con tI, .con tI, .con tI], .cells [.con tI, .con tI, .con nn, .con nn, .con tI, .con tI, .con tI, .con tI]]⟩, [.bool]), (.exit 0, ⟨26, .con nn :: .con nn :: aN 10 [.con tI], [.cells [.con tI, .con tI, .con m5, .con f6, .con wi, .con l5, .con f6], .cells [.con tI, .con tI, .con m5, .con f6, .con wi, .con l5, .con f6], .cells [.omp 3], .mapc tI .bool, .cells [.con tI, .con tI, .con nn, .con nn, .con tI, .con tI, .con tI, .con tI], .cells [.con tI, .con tI, .con nn, .con nn, .con tI, .con tI, .con tI, .con tI]]⟩, [])] }
def atd (ρ : Type) : acF ρ := ⟨[14, 3, 1, 2, 4, 5, 1, 45], 151, 0, aFt, fun (p : Val (.pair nn (.pair nn (.pair tI (.pair tI (.pair tI (.pair m5 (.pair f6 (.pair wi (.pair l5 (.pair f6 (.pair tI (.pair tI (.pair m5 (.pair f6 (.pair wi (.pair l5 (.pair f6 (.pair abr (.pair tI (.pair tI (.pair nn (.pair nn (.pair tI (.pair tI (.pair tI (.pair tI ab9))))))))))))))))))))))))))) (v : Val tI) kn kx => amH p.1 p.2.1 p.2.2.1 v (fun u0 => kn u0) (kx 0) (kx 1)⟩
def aFv : acb := { pin := 5, cs := [l5, tI, tI, tI, m5, f6, wi, l5, f6, tI, tI, m5, f6, wi, l5, f6, abr, tI, tI, nn, nn, tI, tI, tI, tI], vs := [tI], head := ⟨19, .con l5 :: .fn 150 [(4, 0)] :: aN 5 [.con tI, .var tI], [.cells [.con tI, .con tI, .con m5, .con f6, .con wi, .con l5, .con f6], .cells [.con tI, .con tI, .con m5, .con f6, .con wi, .con l5, .con f6], .cells [.omp 3], .mapc tI .bool, .cells [.con tI, .con tI, .con nn, .con nn, .con tI, .con tI, .con tI, .con tI]]⟩, exits := [(.ret, ⟨19, [.con l5, .fn 150 [(4, 0)], .any, .any, .var tI, .any, .any, .con tI], [.cells [.con tI, .con tI, .con m5, .con f6, .con wi, .con l5, .con f6], .cells [.con tI, .con tI, .con m5, .con f6, .con wi, .con l5, .con f6], .cells [.omp 3], .mapc tI .bool, .cells [.con tI, .con tI, .con nn, .con nn, .con tI, .con tI, .con tI, .con tI]]⟩, [tI]), (.exit 0, ⟨19, .con l5 :: .fn 150 [(4, 0)] :: aN 5 [.con tI], [.cells [.con tI, .con tI, .con m5, .con f6, .con wi, .con l5, .con f6], .cells [.con tI, .con tI, .con m5, .con f6, .con wi, .con l5, .con f6], .cells [.omp 3], .mapc tI .bool, .cells [.con tI, .con tI, .con nn, .con nn, .con tI, .con tI, .con tI, .con tI]]⟩, [])] }
def atf (ρ : Type) : acF ρ := ⟨[14, 3, 1, 2], 207, 0, aFv, fun (p : Val (.pair l5 (.pair tI (.pair tI (.pair tI (.pair m5 (.pair f6 (.pair wi (.pair l5 (.pair f6 (.pair tI (.pair tI (.pair m5 (.pair f6 (.pair wi (.pair l5 (.pair f6 (.pair abr ab9)))))))))))))))))) (v : Val tI) kn kx => ajU p.1 p.2.1 p.2.2.2.2.2.2.2.2.2.2.2.2.2.2.2.2.2.1 p.2.2.2.2.2.2.2.2.2.2.2.2.2.2.2.2.2.2.1 p.2.2.2.2.2.2.2.2.2.2.2.2.2.2.2.2.2.2.2.1 p.2.2.2.2.2.2.2.2.2.2.2.2.2.2.2.2.2.2.2.2.1 p.2.2.2.2.2.2.2.2.2.2.2.2.2.2.2.2.2.2.2.2.2.1 p.2.2.2.2.2.2.2.2.2.2.2.2.2.2.2.2.2.2.2.2.2.2.1 p.2.2.2.2.2.2.2.2.2.2.2.2.2.2.2.2.2.2.2.2.2.2.2.1 p.2.2.2.2.2.2.2.2.2.2.2.2.2.2.2.2.2.2.2.2.2.2.2.2 v (fun u0 => kn u0) (kx 0) (kx 1)⟩
def aFw : acb := { pin := 0, cs := [l5, tI, tI, tI, m5, f6, wi, l5, f6, tI, tI, m5, f6, wi, l5, f6, abr], vs := [tI], head := ⟨87, .any :: .any :: .box 0 0 :: .box 1 0 :: aN 4 (.fn 147 [] :: .fn 148 [(2, 0)] :: .fn 149 [(2, 0)] :: aN 18 [.con l5, .con tI, .var tI]), [.cells [.con tI, .con tI, .con m5, .con f6, .con wi, .con l5, .con f6], .cells [.con tI, .con tI, .con m5, .con f6, .con wi, .con l5, .con f6], .cells [.omp 3], .mapc tI .bool]⟩, exits := [(.ret, ⟨87, .any :: .any :: .box 0 0 :: .box 1 0 :: .var .bool :: .any :: .any :: .any :: .fn 147 [] :: .fn 148 [(2, 0)] :: .fn 149 [(2, 0)] :: aN 18 [.con l5, .con tI], [.cells [.con tI, .con tI, .con m5, .con f6, .con wi, .con l5, .con f6], .cells [.con tI, .con tI, .con m5, .con f6, .con wi, .con l5, .con f6], .cells [.omp 3], .mapc tI .bool]⟩, [.bool]), (.exit 2, ⟨87, .any :: .any :: .box 0 0 :: .box 1 0 :: aN 4 (.fn 147 [] :: .fn 148 [(2, 0)] :: .fn 149 [(2, 0)] :: aN 18 [.con l5, .con tI]), [.cells [.con tI, .con tI, .con m5, .con f6, .con wi, .con l5, .con f6], .cells [.con tI, .con tI, .con m5, .con f6, .con wi, .con l5, .con f6], .cells [.omp 3], .mapc tI .bool]⟩, [])] }
def atg (ρ : Type) : acF ρ := ⟨[], 77, 2, aFw, fun (p : Val (.pair l5 (.pair tI (.pair tI (.pair tI (.pair m5 (.pair f6 (.pair wi (.pair l5 (.pair f6 (.pair tI (.pair tI (.pair m5 (.pair f6 (.pair wi (.pair l5 (.pair f6 abr))))))))))))))))) (v : Val tI) kn kx => ajV p.1 p.2.1 p.2.2.2.2.2.2.2.2.2.2.2.2.2.2.1 v (fun u0 => kn u0) (kx 0) (kx 1)⟩
def aFs : acb := { pin := 6, cs := [m5, tI, tI, tI, m5, f6, wi, l5, f6, tI, tI, m5, f6, wi, l5, f6, abr, m5], vs := [tI], head := ⟨19, .con m5 :: .fn 209 [(5, 0), (4, 0)] :: aN 5 [.con tI, .var tI], [.cells [.con tI, .con tI, .con m5, .con f6, .con wi, .con l5, .con f6], .cells [.con tI, .con tI, .con m5, .con f6, .con wi, .con l5, .con f6], .cells [.omp 3], .mapc tI .bool, .cells [.con m5], .cells [.fn 147 []]]⟩, exits := [(.ret, ⟨19, [.con m5, .fn 209 [(5, 0), (4, 0)], .any, .any, .var tI, .any, .any, .con tI], [.cells [.con tI, .con tI, .con m5, .con f6, .con wi, .con l5, .con f6], .cells [.con tI, .con tI, .con m5, .con f6, .con wi, .con l5, .con f6], .cells [.omp 3], .mapc tI .bool, .cells [.con m5], .cells [.fn 147 []]]⟩, [tI]), (.exit 0, ⟨19, .con m5 :: .fn 209 [(5, 0), (4, 0)] :: aN 5 [.con tI], [.cells [.con tI, .con tI, .con m5, .con f6, .con wi, .con l5, .con f6], .cells [.con tI, .con tI, .con m5, .con f6, .con wi, .con l5, .con f6], .cells [.omp 3], .mapc tI .bool, .cells [.con m5], .cells [.fn 147 []]]⟩, [])] }
def atc (ρ : Type) : acF ρ := ⟨[17, 11, 1, 2, 1, 2], 253, 0, aFs, fun (p : Val (.pair m5 (.pair tI (.pair tI (.pair tI (.pair m5 (.pair f6 (.pair wi (.pair l5 (.pair f6 (.pair tI (.pair tI (.pair m5 (.pair f6 (.pair wi (.pair l5 (.pair f6 (.pair abr m5)))))))))))))))))) (v : Val tI) kn kx => ajT p.1 p.2.1 p.2.2.2.2.2.2.2.2.2.2.2.2.2.2.2.2.2 v (fun u0 => kn u0) (kx 0) (kx 1)⟩
def aFr : acb := { pin := 8, cs := [f6, tI, tI, tI, m5, f6, wi, l5, f6, tI, tI, m5, f6, wi, l5, f6, abr, m5, f6], vs := [tI], head := ⟨19, .con f6 :: .fn 212 [(7, 0), (6, 0)] :: aN 5 [.con tI, .var tI], [.cells [.con tI, .con tI, .con m5, .con f6, .con wi, .con l5, .con f6], .cells [.con tI, .con tI, .con m5, .con f6, .con wi, .con l5, .con f6], .cells [.omp 3], .mapc tI .bool, .cells [.con m5], .cells [.fn 147 []], .cells [.con f6], .cells [.fn 148 [(2, 0)]]]⟩, exits := [(.ret, ⟨19, [.con f6, .fn 212 [(7, 0), (6, 0)], .any, .any, .var tI, .any, .any, .con tI], [.cells [.con tI, .con tI, .con m5, .con f6, .con wi, .con l5, .con f6], .cells [.con tI, .con tI, .con m5, .con f6, .con wi, .con l5, .con f6], .cells [.omp 3], .mapc tI .bool, .cells [.con m5], .cells [.fn 147 []], .cells [.con f6], .cells [.fn 148 [(2, 0)]]]⟩, [tI]), (.exit 0, ⟨19, .con f6 :: .fn 212 [(7, 0), (6, 0)] :: aN 5 [.con tI], [.cells [.con tI, .con tI, .con m5, .con f6, .con wi, .con l5, .con f6], .cells [.con tI, .con tI, .con m5, .con f6, .con wi, .con l5, .con f6], .cells [.omp 3], .mapc tI .bool, .cells [.con m5], .cells [.fn 147 []], .cells [.con f6], .cells [.fn 148 [(2, 0)]]]⟩, [])] }
def atb (ρ : Type) : acF ρ := ⟨[17, 19, 1, 2, 1, 2], 255, 0, aFr, fun (p : Val (.pair f6 (.pair tI (.pair tI (.pair tI (.pair m5 (.pair f6 (.pair wi (.pair l5 (.pair f6 (.pair tI (.pair tI (.pair m5 (.pair f6 (.pair wi (.pair l5 (.pair f6 (.pair abr (.pair m5 f6))))))))))))))))))) (v : Val tI) kn kx => agP p.1 p.2.1 p.2.2.2.2.2.2.2.2.2.2.2.2.2.2.2.2.1 p.2.2.2.2.2.2.2.2.2.2.2.2.2.2.2.2.2.2 v (fun u0 => kn u0) (kx 0) (kx 1)⟩
def aFq : acb := { pin := 10, cs := [f6, tI, tI, tI, m5, f6, wi, l5, f6, tI, tI, m5, f6, wi, l5, f6, abr, m5, f6, f6], vs := [tI], head := ⟨19, .con f6 :: .fn 212 [(9, 0), (8, 0)] :: aN 5 [.con tI, .var tI], [.cells [.con tI, .con tI, .con m5, .con f6, .con wi, .con l5, .con f6], .cells [.con tI, .con tI, .con m5, .con f6, .con wi, .con l5, .con f6], .cells [.omp 3], .mapc tI .bool, .cells [.con m5], .cells [.fn 147 []], .cells [.con f6], .cells [.fn 148 [(2, 0)]], .cells [.con f6], .cells [.fn 148 [(2, 0)]]]⟩, exits := [(.ret, ⟨19, [.con f6, .fn 212 [(9, 0), (8, 0)], .any, .any, .var tI, .any, .any, .con tI], [.cells [.con tI, .con tI, .con m5, .con f6, .con wi, .con l5, .con f6], .cells [.con tI, .con tI, .con m5, .con f6, .con wi, .con l5, .con f6], .cells [.omp 3], .mapc tI .bool, .cells [.con m5], .cells [.fn 147 []], .cells [.con f6], .cells [.fn 148 [(2, 0)]], .cells [.con f6], .cells [.fn 148 [(2, 0)]]]⟩, [tI]), (.exit 0, ⟨19, .con f6 :: .fn 212 [(9, 0), (8, 0)] :: aN 5 [.con tI], [.cells [.con tI, .con tI, .con m5, .con f6, .con wi, .con l5, .con f6], .cells [.con tI, .con tI, .con m5, .con f6, .con wi, .con l5, .con f6], .cells [.omp 3], .mapc tI .bool, .cells [.con m5], .cells [.fn 147 []], .cells [.con f6], .cells [.fn 148 [(2, 0)]], .cells [.con f6], .cells [.fn 148 [(2, 0)]]]⟩, [])] }
def ata (ρ : Type) : acF ρ := ⟨[17, 27, 1, 2, 1, 2], 255, 0, aFq, fun (p : Val (.pair f6 (.pair tI (.pair tI (.pair tI (.pair m5 (.pair f6 (.pair wi (.pair l5 (.pair f6 (.pair tI (.pair tI (.pair m5 (.pair f6 (.pair wi (.pair l5 (.pair f6 (.pair abr (.pair m5 (.pair f6 f6)))))))))))))))))))) (v : Val tI) kn kx => ahZ p.1 p.2.1 p.2.2.2.2.2.2.2.2.2.2.2.2.2.2.2.2.1 p.2.2.2.2.2.2.2.2.2.2.2.2.2.2.2.2.2.2.2 v (fun u0 => kn u0) (kx 0) (kx 1)⟩
def aFp : acb := { pin := 12, cs := [wi, tI, tI, tI, m5, f6, wi, l5, f6, tI, tI, m5, f6, wi, l5, f6, abr, m5, f6, f6, wi], vs := [tI], head := ⟨19, .con wi :: .fn 215 [(11, 0), (10, 0)] :: aN 5 [.con tI, .var tI], [.cells [.con tI, .con tI, .con m5, .con f6, .con wi, .con l5, .con f6], .cells [.con tI, .con tI, .con m5, .con f6, .con wi, .con l5, .con f6], .cells [.omp 3], .mapc tI .bool, .cells [.con m5], .cells [.fn 147 []], .cells [.con f6], .cells [.fn 148 [(2, 0)]], .cells [.con f6], .cells [.fn 148 [(2, 0)]], .cells [.con wi], .cells [.fn 149 [(2, 0)]]]⟩, exits := [(.ret, ⟨19, [.con wi, .fn 215 [(11, 0), (10, 0)], .any, .any, .var tI, .any, .any, .con tI], [.cells [.con tI, .con tI, .con m5, .con f6, .con wi, .con l5, .con f6], .cells [.con tI, .con tI, .con m5, .con f6, .con wi, .con l5, .con f6], .cells [.omp 3], .mapc tI .bool, .cells [.con m5], .cells [.fn 147 []], .cells [.con f6], .cells [.fn 148 [(2, 0)]], .cells [.con f6], .cells [.fn 148 [(2, 0)]], .cells [.con wi], .cells [.fn 149 [(2, 0)]]]⟩, [tI]), (.exit 0, ⟨19, .con wi :: .fn 215 [(11, 0), (10, 0)] :: aN 5 [.con tI], [.cells [.con tI, .con tI, .con m5, .con f6, .con wi, .con l5, .con f6], .cells [.con tI, .con tI, .con m5, .con f6, .con wi, .con l5, .con f6], .cells [.omp 3], .mapc tI .bool, .cells [.con m5], .cells [.fn 147 []], .cells [.con f6], .cells [.fn 148 [(2, 0)]], .cells [.con f6], .cells [.fn 148 [(2, 0)]], .cells [.con wi], .cells [.fn 149 [(2, 0)]]]⟩, [])] }
def as9 (ρ : Type) : acF ρ := ⟨[17, 35, 1, 2, 1, 2], 257, 0, aFp, fun (p : Val (.pair wi (.pair tI (.pair tI (.pair tI (.pair m5 (.pair f6 (.pair wi (.pair l5 (.pair f6 (.pair tI (.pair tI (.pair m5 (.pair f6 (.pair wi (.pair l5 (.pair f6 (.pair abr (.pair m5 (.pair f6 (.pair f6 wi))))))))))))))))))))) (v : Val tI) kn kx => adE p.1 p.2.1 p.2.2.2.2.2.2.2.2.2.2.2.2.2.2.2.2.1 p.2.2.2.2.2.2.2.2.2.2.2.2.2.2.2.2.2.2.2.2 v (fun u0 => kn u0) (kx 0) (kx 1)⟩
def aFo : acb := { pin := 14, cs := [wi, tI, tI, tI, m5, f6, wi, l5, f6, tI, tI, m5, f6, wi, l5, f6, abr, m5, f6, f6, wi, wi], vs := [tI], head := ⟨19, .con wi :: .fn 215 [(13, 0), (12, 0)] :: aN 5 [.con tI, .var tI], [.cells [.con tI, .con tI, .con m5, .con f6, .con wi, .con l5, .con f6], .cells [.con tI, .con tI, .con m5, .con f6, .con wi, .con l5, .con f6], .cells [.omp 3], .mapc tI .bool, .cells [.con m5], .cells [.fn 147 []], .cells [.con f6], .cells [.fn 148 [(2, 0)]], .cells [.con f6], .cells [.fn 148 [(2, 0)]], .cells [.con wi], .cells [.fn 149 [(2, 0)]], .cells [.con wi], .cells [.fn 149 [(2, 0)]]]⟩, exits := [(.ret, ⟨19, [.con wi, .fn 215 [(13, 0), (12, 0)], .any, .any, .var tI, .any, .any, .con tI], [.cells [.con tI, .con tI, .con m5, .con f6, .con wi, .con l5, .con f6], .cells [.con tI, .con tI, .con m5, .con f6, .con wi, .con l5, .con f6], .cells [.omp 3], .mapc tI .bool, .cells [.con m5], .cells [.fn 147 []], .cells [.con f6], .cells [.fn 148 [(2, 0)]], .cells [.con f6], .cells [.fn 148 [(2, 0)]], .cells [.con wi], .cells [.fn 149 [(2, 0)]], .cells [.con wi], .cells [.fn 149 [(2, 0)]]]⟩, [tI]), (.exit 0, ⟨19, .con wi :: .fn 215 [(13, 0), (12, 0)] :: aN 5 [.con tI], [.cells [.con tI, .con tI, .con m5, .con f6, .con wi, .con l5, .con f6], .cells [.con tI, .con tI, .con m5, .con f6, .con wi, .con l5, .con f6], .cells [.omp 3], .mapc tI .bool, .cells [.con m5], .cells [.fn 147 []], .cells [.con f6], .cells [.fn 148 [(2, 0)]], .cells [.con f6], .cells [.fn 148 [(2, 0)]], .cells [.con wi], .cells [.fn 149 [(2, 0)]], .cells [.con wi], .cells [.fn 149 [(2, 0)]]]⟩, [])] }
def as8 (ρ : Type) : acF ρ := ⟨[17, 43, 1, 2, 1, 2], 257, 0, aFo, fun (p : Val (.pair wi (.pair tI (.pair tI (.pair tI (.pair m5 (.pair f6 (.pair wi (.pair l5 (.pair f6 (.pair tI (.pair tI (.pair m5 (.pair f6 (.pair wi (.pair l5 (.pair f6 (.pair abr (.pair m5 (.pair f6 (.pair f6 (.pair wi wi)))))))))))))))))))))) (v : Val tI) kn kx => ac7 p.1 p.2.1 p.2.2.2.2.2.2.2.2.2.2.2.2.2.2.2.2.1 p.2.2.2.2.2.2.2.2.2.2.2.2.2.2.2.2.2.2.2.2.2 v (fun u0 => kn u0) (kx 0) (kx 1)⟩
def aKM : List (Nat × acw) := [(210, ae9), (213, afU), (216, afs)]
def awS (ρ : Type) : List (acF ρ) := [ath ρ, ate ρ, atd ρ, atf ρ, atg ρ, atc ρ, atb ρ, ata ρ, as9 ρ, as8 ρ]
def aeQ (ρ : Type) : Env ρ := acA aKM (awS ρ)
def aDJ : acw := ⟨[ab6, ae8], [.bool, tI], fun (x : Val (.pair ab6 ae8)) => ap5 x.1 x.2⟩
def aFK : List (Nat × acw) := [(33, amv), (38, aee), (39, aqA), (77, aMl)]
def aqN (ρ : Type) : List (acF ρ) := []
def awY (ρ : Type) : Env ρ := acA aFK (aqN ρ)
def azk : acw := ⟨[acf, tI, tI], [abu], fun (x : Val abV) => apo x.1 x.2.1 x.2.2⟩
def aNL : acb := { pin := 0, cs := [tI, tI, tI, tI, abp], vs := [tI, nn], head := ⟨45, .any :: .con tI :: .con tI :: .box 0 0 :: .any :: .any :: .any :: .own 1 :: aN 7 [.con tI, .var tI], [.cells [.con tI, .con abp], .rowv tI]⟩, exits := [(.exit 0, ⟨45, .any :: .con tI :: .con tI :: .box 0 0 :: .any :: .any :: .any :: .own 1 :: aN 7 [.con tI], [.cells [.con tI, .con abp], .rowv tI]⟩, [nn])] }
def aD2 (ρ : Type) : acF ρ := ⟨[], 156, 0, aNL, fun (p : Val (.pair tI (.pair tI abI))) (v : Val abA) kn kx => apW p.2.2.1 v.1 v.2 (fun u0 u1 => kn (u0, u1)) (kx 0)⟩
def aNJ : acb := { pin := 4, cs := [nn, tI, abu, tI, abp], vs := [tI, nn], head := ⟨53, .con nn :: .box 1 0 :: .any :: .any :: .own 4 :: aN 7 [.con tI, .var tI], [.rowc nn, .cells [.con tI, .con abp], .dead, .dead, .rowv tI]⟩, exits := [(.exit 0, ⟨53, .con nn :: .box 1 0 :: .any :: .any :: .own 4 :: aN 7 [.con tI], [.rowc nn, .cells [.con tI, .con abp], .dead, .dead, .rowv tI]⟩, [nn])] }
def aD0 (ρ : Type) : acF ρ := ⟨[12, 8], 217, 0, aNJ, fun (p : Val (.pair nn (.pair tI (.pair abu acf)))) (v : Val abA) kn kx => aFT p.2.1 v.1 v.2 (fun u0 u1 => kn (u0, u1)) (kx 0)⟩
def aNI : acb := { pin := 4, cs := [nn, abp, tI, abu, tI, abp], vs := [tI, nn], head := ⟨53, .con nn :: .any :: .any :: .any :: .own 4 :: aN 16 [.con abp, .con tI, .var tI], [.rowc nn, .cells [.con tI, .con abp], .dead, .dead, .rowv tI]⟩, exits := [(.exit 2, ⟨53, .con nn :: .any :: .any :: .any :: .own 4 :: aN 16 [.con abp, .con tI], [.rowc nn, .cells [.con tI, .con abp], .dead, .dead, .rowv tI]⟩, [nn])] }
def aDZ (ρ : Type) : acF ρ := ⟨[12, 8], 217, 2, aNI, fun (p : Val (.pair nn (.pair abp (.pair tI (.pair abu acf))))) (v : Val abA) kn kx => atF p.1 p.2.1 p.2.2.1 v.1 v.2 (fun u0 u1 => kn (u0, u1)) (kx 0)⟩
def aNK : acb := { pin := 0, cs := [tI, tI, abp], vs := [tI, abu], head := ⟨45, aN 9 (.own 0 :: .fn 217 [(1, 0)] :: aN 18 [.con tI, .var tI]), [.rowv nn, .cells [.con tI, .con abp]]⟩, exits := [(.exit 2, ⟨45, aN 9 (.own 0 :: .fn 217 [(1, 0)] :: aN 18 [.con tI]), [.rowv nn, .cells [.con tI, .con abp]]⟩, [abu])] }
def aD1 (ρ : Type) : acF ρ := ⟨[], 156, 2, aNK, fun (p : Val abI) (v : Val (.pair tI abu)) kn kx => ayB p.1 p.2.1 p.2.2 v.1 v.2 (fun u0 u1 => kn (u0, u1)) (kx 0)⟩
def aRB : List (Nat × acw) := []
def aID (ρ : Type) : List (acF ρ) := [aD2 ρ, aD0 ρ, aDZ ρ, aD1 ρ]
def avM (ρ : Type) : Env ρ := acA aRB (aID ρ)
def aHY : acw := ⟨[acf], [nn, tI], fun (x : Val acf) => apq x⟩
def aCM : acb := { pin := 0, cs := [tI, tI, abp], vs := [tI, abM], head := ⟨93, .any :: .box 0 0 :: aN 6 (.own 1 :: aN 24 [.con tI, .var tI]), [.cells [.con tI, .con abp], .rowv abu]⟩, exits := [(.exit 0, ⟨93, .any :: .box 0 0 :: aN 6 (.own 1 :: aN 24 [.con tI]), [.cells [.con tI, .con abp], .rowv abu]⟩, [abM])] }
def aqW (ρ : Type) : acF ρ := ⟨[], 78, 0, aCM, fun (p : Val abI) (v : Val (.pair tI abM)) kn kx => aw6 p.1 p.2.1 p.2.2 v.1 v.2 (fun u0 u1 => kn (u0, u1)) (kx 0)⟩
def aCI : acb := { pin := 3, cs := [tI, abu, abp, tI, tI, abp, abM, tI, tI, tI, tI, abp], vs := [tI, tI, tI, nn], head := ⟨73, .any :: .var tI :: .con tI :: .con abu :: .fn 157 [] :: .box 3 0 :: aN 5 (.own 4 :: .var tI :: aN 7 [.con abp, .con tI, .var tI]), [.cells [.con tI, .con abp], .rowc abu, .cells [.con tI, .con tI, .con tI], .cells [.con tI, .con abp], .rowv tI]⟩, exits := [(.exit 2, ⟨73, .any :: .var tI :: .con tI :: .con abu :: .fn 157 [] :: .box 3 0 :: aN 5 (.own 4 :: .var tI :: aN 7 [.con abp, .con tI]), [.cells [.con tI, .con abp], .rowc abu, .cells [.con tI, .con tI, .con tI], .cells [.con tI, .con abp], .rowv tI]⟩, [tI, tI, nn])] }
def aqS (ρ : Type) : acF ρ := ⟨[22, 10], 158, 2, aCI, fun (p : Val (.pair tI (.pair abu (.pair abp (.pair tI (.pair tI (.pair abp (.pair abM (.pair tI (.pair tI abI)))))))))) (v : Val abE) kn kx => aw2 p.1 p.2.1 p.2.2.1 p.2.2.2.1 v.1 v.2.1 v.2.2.1 v.2.2.2 (fun u0 u1 u2 u3 => kn (u0, u1, u2, u3)) (kx 0)⟩
def aCJ : acb := { pin := 3, cs := [abu, tI, abp, abM, tI, tI, tI, tI, abp], vs := [tI, tI, tI, nn], head := ⟨73, .any :: .var tI :: .var tI :: .con abu :: .fn 157 [] :: .box 3 0 :: aN 5 [.own 4, .var tI], [.cells [.con tI, .con abp], .rowc abu, .cells [.con tI, .con tI, .con tI], .cells [.con tI, .con abp], .rowv tI]⟩, exits := [(.exit 0, ⟨73, .any :: .any :: .any :: .con abu :: .fn 157 [] :: .box 3 0 :: aN 5 [.own 4], [.cells [.con tI, .con abp], .rowc abu, .cells [.con tI, .con tI, .con tI], .cells [.con tI, .con abp], .rowv tI]⟩, [nn])] }
def aqT (ρ : Type) : acF ρ := ⟨[22, 10], 158, 0, aCJ, fun (p : Val (.pair abu (.pair tI (.pair abp (.pair abM (.pair tI (.pair tI abI))))))) (v : Val abE) kn kx => aw3 p.1 p.2.2.2.2.2.2.2.2 v.1 v.2.1 v.2.2.1 v.2.2.2 (fun u0 u1 u2 u3 => kn (u0, u1, u2, u3)) (kx 0)⟩
def aCK : acb := { pin := 0, cs := [tI, abp, tI, tI, abp, abM], vs := [tI], head := ⟨93, .any :: .box 0 0 :: aN 6 (.own 1 :: .any :: .fn 157 [] :: .con tI :: aN 37 [.con abp, .con tI, .var tI]), [.cells [.con tI, .con abp], .rowc abu]⟩, exits := [(.exit 2, ⟨93, .any :: .box 0 0 :: aN 6 (.own 1 :: .any :: .fn 157 [] :: .con tI :: aN 37 [.con abp, .con tI]), [.cells [.con tI, .con abp], .rowc abu]⟩, []), (.ret, ⟨93, .any :: .box 0 0 :: .own 2 :: .var tI :: aN 4 (.own 1 :: .any :: .fn 157 [] :: .con tI :: aN 37 [.con abp, .con tI]), [.cells [.con tI, .con abp], .rowc abu, .rowv tI]⟩, [tI, nn]), (.exit 4, ⟨93, .any :: .box 0 0 :: aN 6 (.own 1 :: .any :: .fn 157 [] :: .con tI :: aN 37 [.con abp, .con tI]), [.cells [.con tI, .con abp], .rowc abu]⟩, [])] }
def aqU (ρ : Type) : acF ρ := ⟨[], 78, 4, aCK, fun (p : Val (.pair tI (.pair abp (.pair tI (.pair tI (.pair abp abM)))))) (v : Val tI) kn kx => aw4 p.1 p.2.1 p.2.2.1 p.2.2.2.1 p.2.2.2.2.1 p.2.2.2.2.2 v (fun u0 => kn u0) (kx 0) (kx 1) (kx 2)⟩
def aCL : acb := { pin := 0, cs := [tI, abp, abM], vs := [tI], head := ⟨93, .any :: .box 0 0 :: aN 6 [.own 1, .any, .fn 157 [], .var tI], [.cells [.con tI, .con abp], .rowc abu]⟩, exits := [(.exit 2, ⟨93, .any :: .box 0 0 :: aN 6 [.own 1, .any, .fn 157 []], [.cells [.con tI, .con abp], .rowc abu]⟩, []), (.ret, ⟨93, .any :: .box 0 0 :: .own 2 :: .var tI :: aN 4 [.own 1, .any, .fn 157 []], [.cells [.con tI, .con abp], .rowc abu, .rowv tI]⟩, [tI, nn])] }
def aqV (ρ : Type) : acF ρ := ⟨[], 78, 2, aCL, fun (p : Val (.pair tI (.pair abp abM))) (v : Val tI) kn kx => aw5 p.1 p.2.1 p.2.2 v (fun u0 => kn u0) (kx 0) (kx 1)⟩
def aIF : List (Nat × acw) := [(133, alD), (135, akp), (156, azk)]
def atJ (ρ : Type) : List (acF ρ) := [aqW ρ, aqS ρ, aqT ρ, aqU ρ, aqV ρ]
def agQ (ρ : Type) : Env ρ := acA aIF (atJ ρ)
def ars : acw := ⟨[ab6, nn], [f6], fun (x : Val (.pair ab6 nn)) => aj7 x.1 x.2⟩
def axO : acb := { pin := 0, cs := [f6, nn, tI], vs := [tI, f6], head := ⟨32, aN 6 (.con f6 :: .any :: .own 0 :: aN 8 [.con nn, .con tI, .var tI]), [.rowv ab3]⟩, exits := [(.exit 0, ⟨32, aN 6 (.con f6 :: .any :: .own 0 :: aN 8 [.con nn, .con tI]), [.rowv ab3]⟩, [f6])] }
def anK (ρ : Type) : acF ρ := ⟨[], 80, 0, axO, fun (p : Val (.pair f6 abG)) (v : Val abD) kn kx => aii p.1 p.2.1 p.2.2 v.1 v.2 (fun u0 u1 => kn (u0, u1)) (kx 0)⟩
def aCf : List (Nat × acw) := [(20, aeo)]
def aoB (ρ : Type) : List (acF ρ) := [anK ρ]
def amG (ρ : Type) : Env ρ := acA aCf (aoB ρ)
def aHW : acw := ⟨[ab6], [ae8, tI], fun (x : Val ab6) => auK x⟩
def aIA : List (Nat × acw) := [(20, aeo), (78, aHY), (79, ajL), (80, ars)]
def atw (ρ : Type) : List (acF ρ) := []
def azT (ρ : Type) : Env ρ := acA aIA (atw ρ)
def asG : acw := ⟨[tI], [tI], fun (x : Val tI) => aht x⟩
def axU : List (Nat × acw) := []
def alT (ρ : Type) : List (acF ρ) := []
def aoL (ρ : Type) : Env ρ := acA axU (alT ρ)
def asF : acw := ⟨[acY, tI], [nn], fun (x : Val (.pair acY tI)) => afG x.1 x.2⟩
def axT : List (Nat × acw) := []
def alM (ρ : Type) : List (acF ρ) := []
def aoJ (ρ : Type) : Env ρ := acA axT (alM ρ)
def art : acw := ⟨[ab6, ab3, ab3, ab9], [.bool, tI], fun (x : Val abN) => ah9 x.1 x.2.1 x.2.2.1 x.2.2.2⟩
def aeS : acb := { pin := 5, cs := [tI, tI, tI, m5, f6, wi, l5, f6, tI, tI, tI, tI, tI, tI, nn, nn, tI, tI, tI, tI, f6], vs := [tI, tI, tI, m5, f6, wi, l5, f6], head := ⟨68, .any :: .any :: .box 5 0 :: aN 20 [.own 4, .con tI, .var tI], [.cells [.con tI, .con tI, .con m5, .con f6, .con wi, .con l5, .con f6], .cells [.con tI, .con tI], .cells [.con tI, .con tI], .cells [.con tI, .con tI, .con nn, .con nn, .con tI, .con tI, .con tI, .con tI], .rowc ab3, .cells [.var tI, .var tI, .var m5, .var f6, .var wi, .var l5, .var f6]]⟩, exits := [(.ret, ⟨68, .any :: .any :: .box 5 0 :: .any :: .nilp :: .var tI :: aN 17 [.own 4, .con tI], [.cells [.con tI, .con tI, .con m5, .con f6, .con wi, .con l5, .con f6], .cells [.con tI, .con tI], .cells [.con tI, .con tI], .cells [.con tI, .con tI, .con nn, .con nn, .con tI, .con tI, .con tI, .con tI], .rowc ab3, .cells [.var tI, .var tI, .var m5, .var f6, .var wi, .var l5, .var f6]]⟩, [tI, tI, tI, m5, f6, wi, l5, f6]), (.exit 0, ⟨68, .any :: .any :: .box 5 0 :: aN 20 [.own 4, .con tI], [.cells [.con tI, .con tI, .con m5, .con f6, .con wi, .con l5, .con f6], .cells [.con tI, .con tI], .cells [.con tI, .con tI], .cells [.con tI, .con tI, .con nn, .con nn, .con tI, .con tI, .con tI, .con tI], .rowc ab3, .cells [.var tI, .var tI, .var m5, .var f6, .var wi, .var l5, .var f6]]⟩, [tI, tI, m5, f6, wi, l5, f6])] }
def aiY (ρ : Type) : acF ρ := ⟨[1, 3], 50, 0, aeS, fun (p : Val abw) (v : Val abC) kn kx => alb p.1 p.2.2.2.2.2.2.2.2.2.2.2.2.2.2.2.2.2.2.2.2 v.1 v.2.1 v.2.2.1 v.2.2.2.1 v.2.2.2.2.1 v.2.2.2.2.2.1 v.2.2.2.2.2.2.1 v.2.2.2.2.2.2.2 (fun u0 u1 u2 u3 u4 u5 u6 u7 => kn (u0, u1, u2, u3, u4, u5, u6, u7)) (kx 0) (kx 1)⟩
def aeR : acb := { pin := 12, cs := [nn, tI, tI, tI, m5, f6, wi, l5, f6, tI, tI, tI, tI, tI, tI, nn, nn, tI, tI, tI, tI, f6, tI, tI, m5, f6, wi, l5, f6, tI, abp, tI, tI, tI, tI, tI, tI, tI, tI, abu, abu, abu], vs := [tI], head := ⟨19, .con nn :: .fn 98 [(8, 0), (2, 0)] :: aN 5 [.con tI, .var tI], [.cells [.con tI, .con tI, .con m5, .con f6, .con wi, .con l5, .con f6], .cells [.con tI, .con tI], .cells [.con tI, .con tI], .cells [.con tI, .con tI, .con nn, .con nn, .con tI, .con tI, .con tI, .con tI], .rowc ab3, .cells [.con tI, .con tI, .con m5, .con f6, .con wi, .con l5, .con f6], .cells [.con tI, .con abp], .dead, .cells [.con tI, .con tI, .con tI, .con tI, .con tI, .con tI, .con tI, .con tI], .rowf nn 0, .rowf nn 0, .rowf nn 0]⟩, exits := [(.ret, ⟨19, [.con nn, .fn 98 [(8, 0), (2, 0)], .any, .any, .var tI, .any, .any, .con tI], [.cells [.con tI, .con tI, .con m5, .con f6, .con wi, .con l5, .con f6], .cells [.con tI, .con tI], .cells [.con tI, .con tI], .cells [.con tI, .con tI, .con nn, .con nn, .con tI, .con tI, .con tI, .con tI], .rowc ab3, .cells [.con tI, .con tI, .con m5, .con f6, .con wi, .con l5, .con f6], .cells [.con tI, .con abp], .dead, .cells [.con tI, .con tI, .con tI, .con tI, .con tI, .con tI, .con tI, .con tI], .rowf nn 0, .rowf nn 0, .rowf nn 0]⟩, [tI]), (.exit 0, ⟨19, .con nn :: .fn 98 [(8, 0), (2, 0)] :: aN 5 [.con tI], [.cells [.con tI, .con tI, .con m5, .con f6, .con wi, .con l5, .con f6], .cells [.con tI, .con tI], .cells [.con tI, .con tI], .cells [.con tI, .con tI, .con nn, .con nn, .con tI, .con tI, .con tI, .con tI], .rowc ab3, .cells [.con tI, .con tI, .con m5, .con f6, .con wi, .con l5, .con f6], .cells [.con tI, .con abp], .dead, .cells [.con tI, .con tI, .con tI, .con tI, .con tI, .con tI, .con tI, .con tI], .rowf nn 0, .rowf nn 0, .rowf nn 0]⟩, [])] }
def aiX (ρ : Type) : acF ρ := ⟨[18, 4, 1, 2], 178, 0, aeR, fun (p : Val abt) (v : Val tI) kn kx => aij p.1 p.2.1 p.2.2.2.2.2.2.2.2.2.2.2.1 p.2.2.2.2.2.2.2.2.2.2.2.2.1 p.2.2.2.2.2.2.2.2.2.2.2.2.2.2.2.2.2.2.2.2.2.2.2.2.2.2.2.2.2.2.2.1 p.2.2.2.2.2.2.2.2.2.2.2.2.2.2.2.2.2.2.2.2.2.2.2.2.2.2.2.2.2.2.2.2.1 p.2.2.2.2.2.2.2.2.2.2.2.2.2.2.2.2.2.2.2.2.2.2.2.2.2.2.2.2.2.2.2.2.2.1 p.2.2.2.2.2.2.2.2.2.2.2.2.2.2.2.2.2.2.2.2.2.2.2.2.2.2.2.2.2.2.2.2.2.2.1 p.2.2.2.2.2.2.2.2.2.2.2.2.2.2.2.2.2.2.2.2.2.2.2.2.2.2.2.2.2.2.2.2.2.2.2.1 p.2.2.2.2.2.2.2.2.2.2.2.2.2.2.2.2.2.2.2.2.2.2.2.2.2.2.2.2.2.2.2.2.2.2.2.2.1 p.2.2.2.2.2.2.2.2.2.2.2.2.2.2.2.2.2.2.2.2.2.2.2.2.2.2.2.2.2.2.2.2.2.2.2.2.2.1 p.2.2.2.2.2.2.2.2.2.2.2.2.2.2.2.2.2.2.2.2.2.2.2.2.2.2.2.2.2.2.2.2.2.2.2.2.2.2.1 v (fun u0 => kn u0) (kx 0) (kx 1)⟩
def aqO : List (Nat × acw) := [(20, aeo), (38, aee), (60, af2), (61, ajf), (69, arq), (71, avd), (94, ad5), (95, amu), (96, asG), (97, asF), (99, ak2), (101, ak3), (123, ael)]
def ajX (ρ : Type) : List (acF ρ) := [aiY ρ, aiX ρ]
def ala : List aQ2 := [⟨[], 42, 0, 4⟩]
def ac5 (ρ : Type) : Env ρ := { acA aqO (ajX ρ) with hint := awf [(51, 96), (55, 96)] }
def amM (ρ : Type) : Env ρ := { { aSA aqO (ajX ρ) ala with loops := aJb (ac5 ρ) ala } with hint := awf [(51, 96), (55, 96)] }
def awM : acw := ⟨[], [ab6], fun (_ : Unit) => apn⟩
def azA : List (Nat × acw) := []
def anI (ρ : Type) : List (acF ρ) := []
def aqF (ρ : Type) : Env ρ := acA azA (anI ρ)
def aHZ : acw := ⟨[acf, tI, tI], [nn, tI], fun (x : Val abV) => apr x.1 x.2.1 x.2.2⟩
def aCQ : acb := { pin := 3, cs := [abu, tI, tI, abp, tI, tI], vs := [tI], head := ⟨19, .con abu :: .fn 194 [(1, 0), (2, 0)] :: aN 5 [.con tI, .var tI], [.cells [.con tI, .con abp], .cells [.con tI], .cells [.con tI]]⟩, exits := [(.ret, ⟨19, [.con abu, .fn 194 [(1, 0), (2, 0)], .any, .any, .var tI, .any, .any, .con tI], [.cells [.con tI, .con abp], .cells [.con tI], .cells [.con tI]]⟩, [tI]), (.exit 0, ⟨19, .con abu :: .fn 194 [(1, 0), (2, 0)] :: aN 5 [.con tI], [.cells [.con tI, .con abp], .cells [.con tI], .cells [.con tI]]⟩, [])] }
def aq0 (ρ : Type) : acF ρ := ⟨[5, 2], 193, 0, aCQ, fun (p : Val (.pair abu (.pair tI (.pair tI (.pair abp ab3))))) (v : Val tI) kn kx => akN p.1 p.2.1 p.2.2.2.2.1 p.2.2.2.2.2 v (fun u0 => kn u0) (kx 0) (kx 1)⟩
def aCO : acb := { pin := 3, cs := [tI, abu, abp, tI, tI, abp, tI, tI, tI, abp], vs := [tI, tI, tI, nn], head := ⟨73, .any :: .var tI :: .con tI :: .con abu :: .fn 195 [(2, 0)] :: .box 3 0 :: aN 5 (.own 4 :: .var tI :: aN 7 [.con abp, .con tI, .var tI]), [.cells [.con tI, .con abp], .cells [.con tI], .cells [.con tI], .cells [.con tI, .con abp], .rowv tI]⟩, exits := [(.exit 2, ⟨73, .any :: .var tI :: .con tI :: .con abu :: .fn 195 [(2, 0)] :: .box 3 0 :: aN 5 (.own 4 :: .var tI :: aN 7 [.con abp, .con tI]), [.cells [.con tI, .con abp], .cells [.con tI], .cells [.con tI], .cells [.con tI, .con abp], .rowv tI]⟩, [tI, tI, nn])] }
def aqY (ρ : Type) : acF ρ := ⟨[6, 5], 158, 2, aCO, fun (p : Val (.pair tI (.pair abu (.pair abp (.pair tI (.pair tI (.pair abp (.pair tI abI)))))))) (v : Val abE) kn kx => aw7 p.1 p.2.1 p.2.2.1 p.2.2.2.1 p.2.2.2.2.2.2.2.1 v.1 v.2.1 v.2.2.1 v.2.2.2 (fun u0 u1 u2 u3 => kn (u0, u1, u2, u3)) (kx 0)⟩
def aCP : acb := { pin := 3, cs := [abu, tI, abp, tI, tI, tI, abp], vs := [tI, tI, tI, nn], head := ⟨73, .any :: .var tI :: .var tI :: .con abu :: .fn 195 [(2, 0)] :: .box 3 0 :: aN 5 [.own 4, .var tI], [.cells [.con tI, .con abp], .cells [.con tI], .cells [.con tI], .cells [.con tI, .con abp], .rowv tI]⟩, exits := [(.exit 0, ⟨73, .any :: .any :: .any :: .con abu :: .fn 195 [(2, 0)] :: .box 3 0 :: aN 5 [.own 4], [.cells [.con tI, .con abp], .cells [.con tI], .cells [.con tI], .cells [.con tI, .con abp], .rowv tI]⟩, [nn])] }
def aqZ (ρ : Type) : acF ρ := ⟨[6, 5], 158, 0, aCP, fun (p : Val (.pair abu (.pair tI (.pair abp (.pair tI abI))))) (v : Val abE) kn kx => akM p.1 p.2.2.2.2.1 p.2.2.2.2.2.2 v.1 v.2.1 v.2.2.1 v.2.2.2 (fun u0 u1 u2 u3 => kn (u0, u1, u2, u3)) (kx 0)⟩
def aIH : List (Nat × acw) := [(89, asI), (156, azk)]
def atN (ρ : Type) : List (acF ρ) := [aq0 ρ, aqY ρ, aqZ ρ]
def ajY (ρ : Type) : Env ρ := acA aIH (atN ρ)
def asH : acw := ⟨[aby, abS, (.ptr .bool)], [nn], fun (x : Val (.pair aby (.pair abS (.ptr .bool)))) => ahv x.1 x.2.1 x.2.2⟩
def axZ : List (Nat × acw) := [(55, agJ), (120, aHZ)]
def alW (ρ : Type) : List (acF ρ) := []
def aoQ (ρ : Type) : Env ρ := acA axZ (alW ρ)
def azi : acw := ⟨[ab6, ab3, .bool], [ae8, tI], fun (x : Val (.pair ab6 (.pair ab3 .bool))) => ann x.1 x.2.1 x.2.2⟩
def axY : acb := { pin := 5, cs := [tI, tI, tI, m5, f6, wi, l5, f6, tI, tI, tI, tI, .bool, tI, f6], vs := [tI, tI, tI, m5, f6, wi, l5, f6], head := ⟨68, .any :: .any :: .box 5 0 :: aN 20 [.own 4, .con tI, .var tI], [.cells [.con tI, .con tI, .con m5, .con f6, .con wi, .con l5, .con f6], .dead, .dead, .cells [.con tI, .con tI, .nils, .nils, .nils, .nils, .nils, .con tI, .con tI, .con .bool, .con tI, .nils], .rowc ab3, .cells [.var tI, .var tI, .var m5, .var f6, .var wi, .var l5, .var f6]]⟩, exits := [(.ret, ⟨68, .any :: .any :: .box 5 0 :: .any :: .nilp :: .var tI :: aN 17 [.own 4, .con tI], [.cells [.con tI, .con tI, .con m5, .con f6, .con wi, .con l5, .con f6], .dead, .dead, .cells [.con tI, .con tI, .nils, .nils, .nils, .nils, .nils, .con tI, .con tI, .con .bool, .con tI, .nils], .rowc ab3, .cells [.var tI, .var tI, .var m5, .var f6, .var wi, .var l5, .var f6]]⟩, [tI, tI, tI, m5, f6, wi, l5, f6]), (.exit 0, ⟨68, .any :: .any :: .box 5 0 :: aN 20 [.own 4, .con tI], [.cells [.con tI, .con tI, .con m5, .con f6, .con wi, .con l5, .con f6], .dead, .dead, .cells [.con tI, .con tI, .nils, .nils, .nils, .nils, .nils, .con tI, .con tI, .con .bool, .con tI, .nils], .rowc ab3, .cells [.var tI, .var tI, .var m5, .var f6, .var wi, .var l5, .var f6]]⟩, [tI, tI, m5, f6, wi, l5, f6])] }
def anS (ρ : Type) : acF ρ := ⟨[1, 3], 50, 0, axY, fun (p : Val (.pair tI (.pair tI (.pair tI (.pair m5 (.pair f6 (.pair wi (.pair l5 (.pair f6 (.pair tI (.pair tI (.pair tI (.pair tI (.pair .bool abD)))))))))))))) (v : Val abC) kn kx => alf p.1 p.2.2.2.2.2.2.2.2.2.2.2.2.2.2 v.1 v.2.1 v.2.2.1 v.2.2.2.1 v.2.2.2.2.1 v.2.2.2.2.2.1 v.2.2.2.2.2.2.1 v.2.2.2.2.2.2.2 (fun u0 u1 u2 u3 u4 u5 u6 u7 => kn (u0, u1, u2, u3, u4, u5, u6, u7)) (kx 0) (kx 1)⟩
def axX : acb := { pin := 10, cs := [tI, tI, tI, m5, f6, wi, l5, f6, tI, tI, tI, tI, .bool, tI, f6, tI, tI, m5, f6, wi, l5, f6, tI, abp, f6, tI, tI, m5, f6, wi, l5, f6, tI, tI, m5, f6, wi, l5, f6], vs := [tI], head := ⟨68, .any :: .any :: .box 10 0 :: aN 20 [.nils, .con tI, .var tI], [.cells [.con tI, .con tI, .con m5, .con f6, .con wi, .con l5, .con f6], .dead, .dead, .cells [.con tI, .con tI, .nils, .nils, .nils, .nils, .nils, .con tI, .con tI, .con .bool, .con tI, .nils], .rowc ab3, .cells [.con tI, .con tI, .con m5, .con f6, .con wi, .con l5, .con f6], .cells [.con tI, .con abp], .dead, .rowf ab3 0, .cells [.con tI, .con tI, .con m5, .con f6, .con wi, .con l5, .con f6], .cells [.con tI, .con tI, .con m5, .con f6, .con wi, .con l5, .con f6]]⟩, exits := [(.exit 0, ⟨68, .any :: .any :: .box 10 0 :: aN 20 [.nils, .con tI], [.cells [.con tI, .con tI, .con m5, .con f6, .con wi, .con l5, .con f6], .dead, .dead, .cells [.con tI, .con tI, .nils, .nils, .nils, .nils, .nils, .con tI, .con tI, .con .bool, .con tI, .nils], .rowc ab3, .cells [.con tI, .con tI, .con m5, .con f6, .con wi, .con l5, .con f6], .cells [.con tI, .con abp], .dead, .rowf ab3 0, .cells [.con tI, .con tI, .con m5, .con f6, .con wi, .con l5, .con f6], .cells [.con tI, .con tI, .con m5, .con f6, .con wi, .con l5, .con f6]]⟩, [])] }
def anR (ρ : Type) : acF ρ := ⟨[6, 1], 50, 0, axX, fun (p : Val (.pair tI (.pair tI (.pair tI (.pair m5 (.pair f6 (.pair wi (.pair l5 (.pair f6 (.pair tI (.pair tI (.pair tI (.pair tI (.pair .bool (.pair tI (.pair f6 (.pair tI (.pair tI (.pair m5 (.pair f6 (.pair wi (.pair l5 (.pair f6 (.pair tI (.pair abp (.pair f6 abB)))))))))))))))))))))))))) (v : Val tI) kn kx => ale p.1 v (fun u0 => kn u0) (kx 0)⟩
def aCC : List (Nat × acw) := [(20, aeo), (38, aee), (60, af2), (61, ajf), (79, ajL), (80, ars), (119, asH), (121, ak4), (122, ahN), (123, ael)]
def aoP (ρ : Type) : List (acF ρ) := [anS ρ, anR ρ]
def ahm (ρ : Type) : Env ρ := { acA aCC (aoP ρ) with hint := awf [(34, 119), (56, 119)] }
def aze : acw := ⟨[], [.bool], fun (_ : Unit) => aec⟩
def aCa : List (Nat × acw) := [(15, aoo), (17, azj), (18, aMm), (25, azh), (31, azg), (33, amv), (35, aDJ), (36, aHW), (42, art), (48, awM), (49, azi)]
def aot (ρ : Type) : List (acF ρ) := []
def asY (ρ : Type) : Env ρ := acA aCa (aot ρ)
def aHT : acw := ⟨[ab6, f6], [ab6, .bool], fun (x : Val (.pair ab6 f6)) => aiM x.1 x.2⟩
def aB9 : acb := { pin := 0, cs := [f6], vs := [tI, tI, tI, m5, f6, wi, l5, f6, tI, tI, m5, f6, wi, l5, f6], head := ⟨42, [.any, .con f6, .box 0 0, .any, .box 1 0, .any, .var tI], [.cells [.var tI, .var tI, .var m5, .var f6, .var wi, .var l5, .var f6], .cells [.var tI, .var tI, .var m5, .var f6, .var wi, .var l5, .var f6]]⟩, exits := [(.ret, ⟨42, [.any, .con f6, .box 0 0, .any, .box 1 0, .var .bool], [.cells [.var tI, .var tI, .var m5, .var f6, .var wi, .var l5, .var f6], .cells [.var tI, .var tI, .var m5, .var f6, .var wi, .var l5, .var f6]]⟩, [.bool, tI, tI, m5, f6, wi, l5, f6, tI, tI, m5, f6, wi, l5, f6]), (.exit 0, ⟨42, [.any, .con f6, .box 0 0, .any, .box 1 0], [.cells [.var tI, .var tI, .var m5, .var f6, .var wi, .var l5, .var f6], .cells [.var tI, .var tI, .var m5, .var f6, .var wi, .var l5, .var f6]]⟩, [tI, tI, m5, f6, wi, l5, f6, tI, tI, m5, f6, wi, l5, f6])] }
def aqE (ρ : Type) : acF ρ := ⟨[], 19, 0, aB9, fun (p : Val f6) (v : Val (.pair tI abB)) kn kx => aiu p v.1 v.2.1 v.2.2.1 v.2.2.2.1 v.2.2.2.2.1 v.2.2.2.2.2.1 v.2.2.2.2.2.2.1 v.2.2.2.2.2.2.2.1 v.2.2.2.2.2.2.2.2.1 v.2.2.2.2.2.2.2.2.2.1 v.2.2.2.2.2.2.2.2.2.2.1 v.2.2.2.2.2.2.2.2.2.2.2.1 v.2.2.2.2.2.2.2.2.2.2.2.2.1 v.2.2.2.2.2.2.2.2.2.2.2.2.2.1 v.2.2.2.2.2.2.2.2.2.2.2.2.2.2 (fun u0 u1 u2 u3 u4 u5 u6 u7 u8 u9 u10 u11 u12 u13 u14 => kn (u0, u1, u2, u3, u4, u5, u6, u7, u8, u9, u10, u11, u12, u13, u14)) (kx 0) (kx 1)⟩
def aIk : List (Nat × acw) := [(60, af2), (61, ajf)]
def asW (ρ : Type) : List (acF ρ) := [aqE ρ]
def arC (ρ : Type) : Env ρ := acA aIk (asW ρ)
def azf : acw := ⟨[tI, ab3], [.bool], fun (x : Val acY) => anm x.1 x.2⟩
def aCb : List (Nat × acw) := []
def aou (ρ : Type) : List (acF ρ) := []
def asZ (ρ : Type) : Env ρ := acA aCb (aou ρ)
def agh : acw := ⟨[ab6, ab3, ab3, ab9], [.bool], fun (x : Val abN) => ah8 x.1 x.2.1 x.2.2.1 x.2.2.2⟩
def aql : List (Nat × acw) := [(13, aMj), (14, aze), (15, aoo), (19, aHT), (25, azh), (28, azf), (29, avc), (31, azg), (40, arx), (41, ayv), (42, art)]
def aiv (ρ : Type) : List (acF ρ) := []
def ajN (ρ : Type) : Env ρ := acA aql (aiv ρ)
end Go.Proofs.ZzM
end
