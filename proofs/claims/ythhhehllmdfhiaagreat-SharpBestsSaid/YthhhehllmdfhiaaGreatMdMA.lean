/- lemmas -/
import Derived.Test.YthhhehllmdfhiaaGreatAmE
import Derived.KernelRfl
import Derived.Test.YthhhehllmdfhiaaGreatMdTA
import Derived.Test.YthhhehllmdfhiaaGreatProg
set_option linter.all false
set_option linter.unusedSectionVars false
set_option linter.unusedVariables false
set_option linter.unusedSimpArgs false
noncomputable section
set_option maxRecDepth 100000
namespace Go.Proofs.ZzM
open Go Go.Am
def aAV : Nat → Bool
  | 91 => true
  | 140 => true
  | 229 => true
  | 230 => true
  | 231 => true
  | 232 => true
  | 233 => true
  | _ => false
def aJb : Nat → Bool
  | 127 => true
  | _ => false
def apg : Nat → Bool
  | 128 => true
  | _ => false
def isInl : Nat → Bool
  | 2 => true
  | 50 => true
  | 66 => true
  | 74 => true
  | 84 => true
  | 92 => true
  | 93 => true
  | 98 => true
  | 100 => true
  | 124 => true
  | 131 => true
  | 132 => true
  | 136 => true
  | 137 => true
  | 139 => true
  | 141 => true
  | 147 => true
  | 148 => true
  | 149 => true
  | 150 => true
  | 151 => true
  | 152 => true
  | 153 => true
  | 154 => true
  | 155 => true
  | 157 => true
  | 158 => true
  | 159 => true
  | 160 => true
  | 161 => true
  | 165 => true
  | 169 => true
  | 170 => true
  | 175 => true
  | 176 => true
  | 178 => true
  | 193 => true
  | 194 => true
  | 195 => true
  | 196 => true
  | 199 => true
  | 201 => true
  | 202 => true
  | 203 => true
  | 204 => true
  | 206 => true
  | 207 => true
  | 208 => true
  | 209 => true
  | 211 => true
  | 212 => true
  | 214 => true
  | 215 => true
  | 217 => true
  | 218 => true
  | 220 => true
  | 221 => true
  | 222 => true
  | 242 => true
  | 243 => true
  | 244 => true
  | 245 => true
  | 246 => true
  | 247 => true
  | 249 => true
  | 250 => true
  | 253 => true
  | 255 => true
  | 257 => true
  | 261 => true
  | 269 => true
  | 270 => true
  | 272 => true
  | 273 => true
  | 275 => true
  | 276 => true
  | 279 => true
  | 280 => true
  | 286 => true
  | 288 => true
  | 289 => true
  | _ => false
def isFz : Nat → Bool
  | 59 => true
  | 79 => true
  | 94 => true
  | _ => false
def isEat : Nat → Nat → Bool
  | 41, 8 => true
  | 41, 11 => true
  | 49, 4 => true
  | 49, 5 => true
  | 50, 67 => true
  | 176, 25 => true
  | 202, 0 => true
  | _, _ => false
def acE {ρ : Type} (pt : List (Nat × acA)) (tab : List (acI ρ)) : Env ρ :=
  { P := Tryz.prog, eat := isEat, clone := aAV, sort := aJb, compact := apg, inl := isInl, fz := isFz, pure := aNI pt, loops := ajk tab }
def aSp {ρ : Type} (pt : List (Nat × acA)) (tab : List (acI ρ)) (us : List aQP) : Env ρ :=
  { P := Tryz.prog, eat := isEat, clone := aAV, sort := aJb, compact := apg, inl := isInl, fz := isFz, pure := aNI pt, loops := aI3 (acE pt tab) us }
end Go.Proofs.ZzM
end

noncomputable section
set_option maxRecDepth 100000
namespace Go.Proofs.ZzM
open Go Go.Am
def arz : acA := ⟨[acd], [abA], fun (x : Val acd) => ae8 x⟩
def aye : aci := { pin := 0, cs := [abq, tI], vs := [tI, abA], head := ⟨20, .any :: .any :: .any :: .omp 0 :: aN 4 [.con abq, .con tI, .var tI], [.mapv tI acl]⟩, exits := [(.exit 0, ⟨20, .any :: .any :: .any :: .omp 0 :: aN 4 [.con abq, .con tI], [.mapv tI acl]⟩, [abA])] }
def an0 (ρ : Type) : acI ρ := ⟨[], 53, 0, aye, fun (p : Val (.pair abq tI)) (v : Val (.pair tI abA)) kn kx => aio p.1 p.2 v.1 v.2 (fun u0 u1 => kn (u0, u1)) (kx 0)⟩
def aCM : List (Nat × acA) := []
def aoZ (ρ : Type) : List (acI ρ) := [an0 ρ]
def am0 (ρ : Type) : Env ρ := acE aCM (aoZ ρ)
def alH : acA := ⟨[aca, tI, tI], [.bool], fun (x : Val acZ) => aeU x.1 x.2.1 x.2.2⟩
def aGe : List (Nat × acA) := []
def aq9 (ρ : Type) : List (acI ρ) := []
def axo (ρ : Type) : Env ρ := acE aGe (aq9 ρ)
def agZ : acA := ⟨[tI, tI, tI], [.bool], fun (x : Val ac9) => adp x.1 x.2.1 x.2.2⟩
def aFX : List (Nat × acA) := []
def aq4 (ρ : Type) : List (acI ρ) := []
def axj (ρ : Type) : Env ρ := acE aFX (aq4 ρ)
def asR : acA := ⟨[tI], [.bool], fun (x : Val tI) => aiO x⟩
def aIT : List (Nat × acA) := [(126, agZ)]
def aum (ρ : Type) : List (acI ρ) := []
def aAI (ρ : Type) : Env ρ := acE aIT (aum ρ)
def aEP : acA := ⟨[tI], [(.int .u64)], fun (x : Val tI) => ak4 x⟩
def aKO : List (Nat × acA) := []
def axe (ρ : Type) : List (acI ρ) := []
def aDS (ρ : Type) : Env ρ := acE aKO (axe ρ)
def aKr : acA := ⟨[(.int .u64), (.int .u64)], [(.int .u64)], fun (x : Val ab5) => aBe x.1 x.2⟩
def aID : aci := { pin := 0, cs := [], vs := [(.int .u64), (.int .u64)], head := ⟨12, [.var (.int .u64), .var (.int .u64)], []⟩, exits := [(.exit 0, ⟨12, [.var (.int .u64)], []⟩, [(.int .u64)])] }
def axf (ρ : Type) : acI ρ := ⟨[], 260, 0, aID, fun (p : Unit) (v : Val ab5) kn kx => apX v.1 v.2 (fun u0 u1 => kn (u0, u1)) (kx 0)⟩
def aNx : List (Nat × acA) := []
def aAk (ρ : Type) : List (acI ρ) := [axf ρ]
def aAl (ρ : Type) : Env ρ := acE aNx (aAk ρ)
def asN : acA := ⟨[aca], [.bool], fun (x : Val aca) => amk x⟩
def aIG : List (Nat × acA) := [(259, aEP), (260, aKr)]
def atZ (ρ : Type) : List (acI ρ) := []
def aAp (ρ : Type) : Env ρ := acE aIG (atZ ρ)
def azl : acA := ⟨[acl], [.bool], fun (x : Val acl) => ant x⟩
def aCY : List (Nat × acA) := [(82, alH), (125, asR), (126, agZ), (219, asN)]
def ao6 (ρ : Type) : List (acI ρ) := []
def aul (ρ : Type) : Env ρ := acE aCY (ao6 ρ)
def aop : acA := ⟨[acd], [tI], fun (x : Val acd) => aeD x⟩
def aqu : aci := { pin := 0, cs := [abq, tI, tI, tI, abq, abo, abt, abp, abo], vs := [tI], head := ⟨31, .any :: .box 0 0 :: aN 4 [.con abq, .con tI, .var tI], [.cells [.con tI, .con tI, .con abq, .con abo, .con abt, .con abp, .con abo]]⟩, exits := [(.ret, ⟨31, [.any, .box 0 0, .var tI, .any, .any, .any, .con abq, .con tI], [.cells [.con tI, .con tI, .con abq, .con abo, .con abt, .con abp, .con abo]]⟩, [tI]), (.exit 0, ⟨31, .any :: .box 0 0 :: aN 4 [.con abq, .con tI], [.cells [.con tI, .con tI, .con abq, .con abo, .con abt, .con abp, .con abo]]⟩, [])] }
def ai8 (ρ : Type) : acI ρ := ⟨[], 83, 0, aqu, fun (p : Val (.pair abq abH)) (v : Val tI) kn kx => af5 p.1 p.2.1 p.2.2.2.2.1 v (fun u0 => kn u0) (kx 0) (kx 1)⟩
def aus : List (Nat × acA) := [(162, azl)]
def aj6 (ρ : Type) : List (acI ρ) := [ai8 ρ]
def ah7 (ρ : Type) : Env ρ := acE aus (aj6 ρ)
def ahS : acA := ⟨[abr, tI], [tI], fun (x : Val abK) => aft x.1 x.2⟩
def an5 : aci := { pin := 0, cs := [abr, tI, tI], vs := [tI], head := ⟨19, .con abr :: .con tI :: aN 5 [.con tI, .var tI], []⟩, exits := [(.ret, ⟨19, [.con abr, .con tI, .any, .any, .var tI, .any, .any, .con tI], []⟩, [tI]), (.exit 0, ⟨19, .con abr :: .con tI :: aN 5 [.con tI], []⟩, [])] }
def ahM (ρ : Type) : acI ρ := ⟨[], 73, 0, an5, fun (p : Val (.pair abr aca)) (v : Val tI) kn kx => afg p.1 p.2.1 p.2.2 v (fun u0 => kn u0) (kx 0) (kx 1)⟩
def aqn : List (Nat × acA) := []
def aiw (ρ : Type) : List (acI ρ) := [ahM ρ]
def agP (ρ : Type) : Env ρ := acE aqn (aiw ρ)
def agx : acA := ⟨[abr, tI], [.bool], fun (x : Val abK) => adv x.1 x.2⟩
def amD : List (Nat × acA) := [(73, ahS)]
def ag2 (ρ : Type) : List (acI ρ) := []
def ahN (ρ : Type) : Env ρ := acE amD (ag2 ρ)
def aET : acA := ⟨[acd, acl], [abr], fun (x : Val (.pair acd acl)) => ajp x.1 x.2⟩
def aGi : aci := { pin := 0, cs := [abp, tI, tI, tI, abq, abo, abt, abp, abo, tI, tI, tI, tI, tI, tI, tI, tI], vs := [tI, abr], head := ⟨59, .any :: .any :: .box 0 0 :: .box 1 0 :: .any :: .own 2 :: aN 8 [.con abp, .con tI, .var tI], [.cells [.con tI, .con tI, .con abq, .con abo, .con abt, .con abp, .con abo], .cells [.con tI, .con tI, .con tI, .con tI, .con tI, .con tI, .con tI, .con tI], .rowv tI]⟩, exits := [(.exit 0, ⟨59, .any :: .any :: .box 0 0 :: .box 1 0 :: .any :: .own 2 :: aN 8 [.con abp, .con tI], [.cells [.con tI, .con tI, .con abq, .con abo, .con abt, .con abp, .con abo], .cells [.con tI, .con tI, .con tI, .con tI, .con tI, .con tI, .con tI, .con tI], .rowv tI]⟩, [abr])] }
def aup (ρ : Type) : acI ρ := ⟨[], 168, 0, aGi, fun (p : Val (.pair abp abO)) (v : Val abE) kn kx => anb p.1 p.2.1 p.2.2.2.2.2.2.2.2.2.1 v.1 v.2 (fun u0 u1 => kn (u0, u1)) (kx 0)⟩
def aGh : aci := { pin := 0, cs := [abo, tI, tI, tI, tI, tI, tI, tI, tI, tI], vs := [tI, abr], head := ⟨59, .any :: .any :: .any :: .box 0 0 :: .any :: .own 1 :: aN 32 [.con abo, .con tI, .var tI], [.cells [.con tI, .con tI, .con tI, .con tI, .con tI, .con tI, .con tI, .con tI], .rowv tI]⟩, exits := [(.exit 2, ⟨59, .any :: .any :: .any :: .box 0 0 :: .any :: .own 1 :: aN 32 [.con abo, .con tI], [.cells [.con tI, .con tI, .con tI, .con tI, .con tI, .con tI, .con tI, .con tI], .rowv tI]⟩, [abr])] }
def auo (ρ : Type) : acI ρ := ⟨[], 168, 2, aGh, fun (p : Val (.pair abo (.pair tI abD))) (v : Val abE) kn kx => ana p.1 p.2.1 p.2.2.1 v.1 v.2 (fun u0 u1 => kn (u0, u1)) (kx 0)⟩
def aK2 : List (Nat × acA) := [(65, agx)]
def axq (ρ : Type) : List (acI ρ) := [aup ρ, auo ρ]
def ap0 (ρ : Type) : Env ρ := acE aK2 (axq ρ)
def asQ : acA := ⟨[acd], [abo], fun (x : Val acd) => aki x⟩
def aCO : aci := { pin := 0, cs := [abq, tI, tI, abr, tI, tI, tI, abq, abo, abt, abp, abo, tI, tI, tI, tI, tI, tI, tI, tI], vs := [tI, abo], head := ⟨33, .any :: .box 0 0 :: .any :: .own 1 :: .any :: .box 2 0 :: .any :: .any :: .any :: .con abq :: .con tI :: .con tI :: aN 5 [.con abr, .con tI, .var tI], [.cells [.con tI, .con tI, .con abq, .con abo, .con abt, .con abp, .con abo], .rowv aca, .cells [.con tI, .con tI, .con tI, .con tI, .con tI, .con tI, .con tI, .con tI]]⟩, exits := [(.exit 2, ⟨33, .any :: .box 0 0 :: .any :: .own 1 :: .any :: .box 2 0 :: .any :: .any :: .any :: .con abq :: .con tI :: .con tI :: aN 5 [.con abr, .con tI], [.cells [.con tI, .con tI, .con abq, .con abo, .con abt, .con abp, .con abo], .rowv aca, .cells [.con tI, .con tI, .con tI, .con tI, .con tI, .con tI, .con tI, .con tI]]⟩, [abo])] }
def aq5 (ρ : Type) : acI ρ := ⟨[], 85, 2, aCO, fun (p : Val (.pair abq (.pair tI (.pair tI (.pair abr abO))))) (v : Val abI) kn kx => akX p.2.2.2.1 p.2.2.2.2.1 p.2.2.2.2.2.2.2.2.2.2.2.2.1 v.1 v.2 (fun u0 u1 => kn (u0, u1)) (kx 0)⟩
def aCP : aci := { pin := 0, cs := [abq, tI, tI, tI, abq, abo, abt, abp, abo], vs := [tI, abo], head := ⟨33, .any :: .box 0 0 :: .any :: .own 1 :: aN 5 [.con abq, .con tI, .var tI], [.cells [.con tI, .con tI, .con abq, .con abo, .con abt, .con abp, .con abo], .rowv aca]⟩, exits := [(.exit 0, ⟨33, .any :: .box 0 0 :: .any :: .own 1 :: aN 5 [.con abq, .con tI], [.cells [.con tI, .con tI, .con abq, .con abo, .con abt, .con abp, .con abo], .rowv aca]⟩, [abo])] }
def aq6 (ρ : Type) : acI ρ := ⟨[], 85, 0, aCP, fun (p : Val (.pair abq abH)) (v : Val abI) kn kx => akY p.1 p.2.1 p.2.2.1 p.2.2.2.1 p.2.2.2.2.1 p.2.2.2.2.2.1 p.2.2.2.2.2.2.1 p.2.2.2.2.2.2.2.1 p.2.2.2.2.2.2.2.2 v.1 v.2 (fun u0 u1 => kn (u0, u1)) (kx 0)⟩
def aIP : List (Nat × acA) := [(168, aET)]
def aud (ρ : Type) : List (acI ρ) := [aq5 ρ, aq6 ρ]
def am3 (ρ : Type) : Env ρ := acE aIP (aud ρ)
def aij : acA := ⟨[abA, tI, tI], [tI], fun (x : Val (.pair abA aca)) => afV x.1 x.2.1 x.2.2⟩
def av1 : List (Nat × acA) := []
def akW (ρ : Type) : List (acI ρ) := []
def an1 (ρ : Type) : Env ρ := acE av1 (akW ρ)
def aKt : acA := ⟨[tI, tI, (.ptr abA)], [tI], fun (x : Val (.pair tI (.pair tI (.ptr abA)))) => adK x.1 x.2.1 x.2.2⟩
def aCN : List (Nat × acA) := [(125, asR), (164, aij)]
def ao2 (ρ : Type) : List (acI ρ) := []
def auc (ρ : Type) : Env ρ := acE aCN (ao2 ρ)
def aEU : acA := ⟨[acd, abA, tI], [tI], fun (x : Val ab7) => aeZ x.1 x.2.1 x.2.2⟩
def aur : aci := { pin := 2, cs := [abt, tI, tI, tI, abq, abo, abt, abp, abo, tI, tI, tI, tI], vs := [tI], head := ⟨19, .con abt :: .fn 220 [(1, 0)] :: aN 5 [.con tI, .var tI], [.cells [.con tI, .con tI, .con abq, .con abo, .con abt, .con abp, .con abo], .cells [.con tI, .con tI, .con tI, .con tI]]⟩, exits := [(.ret, ⟨19, [.con abt, .fn 220 [(1, 0)], .any, .any, .var tI, .any, .any, .con tI], [.cells [.con tI, .con tI, .con abq, .con abo, .con abt, .con abp, .con abo], .cells [.con tI, .con tI, .con tI, .con tI]]⟩, [tI]), (.exit 0, ⟨19, .con abt :: .fn 220 [(1, 0)] :: aN 5 [.con tI], [.cells [.con tI, .con tI, .con abq, .con abo, .con abt, .con abp, .con abo], .cells [.con tI, .con tI, .con tI, .con tI]]⟩, [])] }
def ak0 (ρ : Type) : acI ρ := ⟨[9, 5, 1, 2], 257, 0, aur, fun (p : Val (.pair abt abL)) (v : Val tI) kn kx => agK p.1 p.2.1 p.2.2.2.2.2.2.2.2.2.1 p.2.2.2.2.2.2.2.2.2.2.1 p.2.2.2.2.2.2.2.2.2.2.2.1 v (fun u0 => kn u0) (kx 0) (kx 1)⟩
def auq : aci := { pin := 2, cs := [abo, tI, tI, tI, abq, abo, abt, abp, abo, tI, tI, tI, tI], vs := [tI], head := ⟨19, .con abo :: .fn 221 [(1, 0)] :: aN 5 [.con tI, .var tI], [.cells [.con tI, .con tI, .con abq, .con abo, .con abt, .con abp, .con abo], .cells [.con tI, .con tI, .con tI, .con tI]]⟩, exits := [(.ret, ⟨19, [.con abo, .fn 221 [(1, 0)], .any, .any, .var tI, .any, .any, .con tI], [.cells [.con tI, .con tI, .con abq, .con abo, .con abt, .con abp, .con abo], .cells [.con tI, .con tI, .con tI, .con tI]]⟩, [tI]), (.exit 0, ⟨19, .con abo :: .fn 221 [(1, 0)] :: aN 5 [.con tI], [.cells [.con tI, .con tI, .con abq, .con abo, .con abt, .con abp, .con abo], .cells [.con tI, .con tI, .con tI, .con tI]]⟩, [])] }
def akZ (ρ : Type) : acI ρ := ⟨[9, 10, 1, 2], 255, 0, auq, fun (p : Val (.pair abo abL)) (v : Val tI) kn kx => aeT p.1 p.2.1 p.2.2.2.2.2.2.2.2.2.1 p.2.2.2.2.2.2.2.2.2.2.1 p.2.2.2.2.2.2.2.2.2.2.2.1 v (fun u0 => kn u0) (kx 0) (kx 1)⟩
def ayj : List (Nat × acA) := [(82, alH), (126, agZ), (164, aij)]
def al9 (ρ : Type) : List (acI ρ) := [ak0 ρ, akZ ρ]
def ahs (ρ : Type) : Env ρ := acE ayj (al9 ρ)
def apQ : acA := ⟨[abr, abr], [abr], fun (x : Val (.pair abr abr)) => aeo x.1 x.2⟩
def aGa : aci := { pin := 2, cs := [tI, abr, abr], vs := [tI], head := ⟨19, .own 1 :: .fn 170 [(0, 0)] :: aN 5 [.con tI, .var tI], [.cells [.con abr], .rowc tI]⟩, exits := [(.ret, ⟨19, [.own 1, .fn 170 [(0, 0)], .any, .any, .var tI, .any, .any, .con tI], [.cells [.con abr], .rowc tI]⟩, [tI]), (.exit 0, ⟨19, .own 1 :: .fn 170 [(0, 0)] :: aN 5 [.con tI], [.cells [.con abr], .rowc tI]⟩, [])] }
def auk (ρ : Type) : acI ρ := ⟨[1, 3, 1, 2], 178, 0, aGa, fun (p : Val (.pair tI (.pair abr abr))) (v : Val tI) kn kx => am9 p.1 p.2.1 p.2.2 v (fun u0 => kn u0) (kx 0) (kx 1)⟩
def aF9 : aci := { pin := 2, cs := [abr], vs := [tI, tI, abr], head := ⟨42, [.own 1, .fn 170 [(0, 0)], .any, .any, .any, .var tI, .var tI], [.cells [.con abr], .rowv tI]⟩, exits := [(.exit 0, ⟨42, [.own 1, .fn 170 [(0, 0)], .any, .any, .any, .var tI], [.cells [.con abr], .rowv tI]⟩, [tI, abr])] }
def auj (ρ : Type) : acI ρ := ⟨[1, 3], 169, 0, aF9, fun (p : Val abr) (v : Val ab6) kn kx => agV p v.1 v.2.1 v.2.2 (fun u0 u1 u2 => kn (u0, u1, u2)) (kx 0)⟩
def aK1 : List (Nat × acA) := [(65, agx)]
def axn (ρ : Type) : List (acI ρ) := [auk ρ, auj ρ]
def apZ (ρ : Type) : Env ρ := acE aK1 (axn ρ)
def aec : acA := ⟨[abz], [abr], fun (x : Val abz) => acF x⟩
def amF : aci := { pin := 0, cs := [abz, abz, tI], vs := [tI, tI], head := ⟨36, .con abz :: .any :: .any :: .var tI :: aN 5 [.con abz, .con tI, .var tI], []⟩, exits := [(.exit 0, ⟨36, .con abz :: .any :: .any :: .var tI :: aN 5 [.con abz, .con tI], []⟩, [tI])] }
def ahp (ρ : Type) : acI ρ := ⟨[], 94, 0, amF, fun (p : Val (.pair abz (.pair abz tI))) (v : Val aca) kn kx => adz p.2.1 p.2.2 v.1 v.2 (fun u0 u1 => kn (u0, u1)) (kx 0)⟩
def amE : aci := { pin := 0, cs := [abz, tI], vs := [tI, abr], head := ⟨36, aN 6 (.own 0 :: aN 18 [.con abz, .con tI, .var tI]), [.rowv tI]⟩, exits := [(.exit 2, ⟨36, aN 6 (.own 0 :: aN 18 [.con abz, .con tI]), [.rowv tI]⟩, [abr])] }
def aho (ρ : Type) : acI ρ := ⟨[], 94, 2, amE, fun (p : Val (.pair abz tI)) (v : Val abE) kn kx => acJ p.1 p.2 v.1 v.2 (fun u0 u1 => kn (u0, u1)) (kx 0)⟩
def aox : List (Nat × acA) := []
def ahO (ρ : Type) : List (acI ρ) := [ahp ρ, aho ρ]
def afh (ρ : Type) : Env ρ := acE aox (ahO ρ)
def avl : acA := ⟨[abr], [.bool], fun (x : Val abr) => aid x⟩
def aAG : aci := { pin := 0, cs := [abr, abr, tI], vs := [tI], head := ⟨32, .con abr :: aN 4 [.con abr, .con tI, .var tI], []⟩, exits := [(.ret, ⟨32, [.con abr, .any, .var .bool, .any, .any, .con abr, .con tI], []⟩, [.bool]), (.exit 0, ⟨32, .con abr :: aN 4 [.con abr, .con tI], []⟩, [])] }
def ao4 (ρ : Type) : acI ρ := ⟨[], 198, 0, aAG, fun (p : Val (.pair abr abK)) (v : Val tI) kn kx => ajj p.1 p.2.1 p.2.2 v (fun u0 => kn u0) (kx 0) (kx 1)⟩
def aGc : List (Nat × acA) := [(126, agZ)]
def aq8 (ρ : Type) : List (acI ρ) := [ao4 ρ]
def ao5 (ρ : Type) : Env ρ := acE aGc (aq8 ρ)
def aMe : acA := ⟨[acd, tI, tI], [adH, .bool], fun (x : Val abV) => ap9 x.1 x.2.1 x.2.2⟩
def aGk : aci := { pin := 4, cs := [abt, tI, tI, tI, abq, abo, abt, abp, abo, tI, tI, tI, tI, tI, tI], vs := [tI], head := ⟨19, .con abt :: .fn 261 [(1, 0), (2, 0)] :: aN 5 [.con tI, .var tI], [.cells [.con tI, .con tI, .con abq, .con abo, .con abt, .con abp, .con abo], .cells [.con tI], .cells [.con tI], .cells [.con tI, .con tI, .con tI, .con tI]]⟩, exits := [(.ret, ⟨19, [.con abt, .fn 261 [(1, 0), (2, 0)], .any, .any, .var tI, .any, .any, .con tI], [.cells [.con tI, .con tI, .con abq, .con abo, .con abt, .con abp, .con abo], .cells [.con tI], .cells [.con tI], .cells [.con tI, .con tI, .con tI, .con tI]]⟩, [tI]), (.exit 0, ⟨19, .con abt :: .fn 261 [(1, 0), (2, 0)] :: aN 5 [.con tI], [.cells [.con tI, .con tI, .con abq, .con abo, .con abt, .con abp, .con abo], .cells [.con tI], .cells [.con tI], .cells [.con tI, .con tI, .con tI, .con tI]]⟩, [])] }
def aut (ρ : Type) : acI ρ := ⟨[1, 3], 257, 0, aGk, fun (p : Val (.pair abt (.pair tI (.pair tI (.pair tI (.pair abq (.pair abo (.pair abt (.pair abp (.pair abo (.pair tI (.pair tI (.pair tI ac9))))))))))))) (v : Val tI) kn kx => ane p.1 p.2.1 p.2.2.2.2.2.2.2.2.2.1 p.2.2.2.2.2.2.2.2.2.2.1 v (fun u0 => kn u0) (kx 0) (kx 1)⟩
def aK3 : List (Nat × acA) := [(126, agZ)]
def axr (ρ : Type) : List (acI ρ) := [aut ρ]
def av8 (ρ : Type) : Env ρ := acE aK3 (axr ρ)
def axQ : acA := ⟨[acd, abA, tI], [tI], fun (x : Val ab7) => adN x.1 x.2.1 x.2.2⟩
def apb : aci := { pin := 2, cs := [abp, tI, tI, tI, abq, abo, abt, abp, abo, tI, tI, abr, abr, tI, tI, tI, tI], vs := [tI], head := ⟨19, .con abp :: .fn 222 [(1, 0)] :: aN 5 [.con tI, .var tI], [.cells [.con tI, .con tI, .con abq, .con abo, .con abt, .con abp, .con abo], .cells [.con tI, .con tI, .con abr, .con abr, .con tI, .con tI, .con tI, .con tI]]⟩, exits := [(.ret, ⟨19, [.con abp, .fn 222 [(1, 0)], .any, .any, .var tI, .any, .any, .con tI], [.cells [.con tI, .con tI, .con abq, .con abo, .con abt, .con abp, .con abo], .cells [.con tI, .con tI, .con abr, .con abr, .con tI, .con tI, .con tI, .con tI]]⟩, [tI]), (.exit 0, ⟨19, .con abp :: .fn 222 [(1, 0)] :: aN 5 [.con tI], [.cells [.con tI, .con tI, .con abq, .con abo, .con abt, .con abp, .con abo], .cells [.con tI, .con tI, .con abr, .con abr, .con tI, .con tI, .con tI, .con tI]]⟩, [])] }
def aiG (ρ : Type) : acI ρ := ⟨[4, 5, 1, 2], 207, 0, apb, fun (p : Val (.pair abp (.pair tI (.pair tI (.pair tI (.pair abq (.pair abo (.pair abt (.pair abp (.pair abo acj)))))))))) (v : Val tI) kn kx => afI p.1 p.2.1 p.2.2.2.2.2.2.2.2.2.1 v (fun u0 => kn u0) (kx 0) (kx 1)⟩
def ao9 : aci := { pin := 0, cs := [abA, abr, tI, tI, tI, abr, tI, tI, tI, abq, abo, abt, abp, abo, tI, tI, abr, abr, tI, tI, tI, tI, abr], vs := [tI], head := ⟨140, .any :: .con abA :: .any :: .box 0 0 :: .any :: .any :: .any :: .box 1 0 :: .con abr :: .any :: .con tI :: aN 65 [.own 2, .con tI, .con tI, .any, .any, .any, .con abr, .con tI, .var tI], [.cells [.con tI, .con tI, .con abq, .con abo, .con abt, .con abp, .con abo], .cells [.con tI, .con tI, .con abr, .con abr, .con tI, .con tI, .con tI, .con tI], .rowc tI]⟩, exits := [(.ret, ⟨140, .any :: .con abA :: .any :: .box 0 0 :: .any :: .any :: .var tI :: .box 1 0 :: .con abr :: .any :: .con tI :: aN 65 [.own 2, .con tI, .con tI, .any, .any, .any, .con abr, .con tI], [.cells [.con tI, .con tI, .con abq, .con abo, .con abt, .con abp, .con abo], .cells [.con tI, .con tI, .con abr, .con abr, .con tI, .con tI, .con tI, .con tI], .rowc tI]⟩, [tI]), (.exit 2, ⟨140, .any :: .con abA :: .any :: .box 0 0 :: .any :: .any :: .any :: .box 1 0 :: .con abr :: .any :: .con tI :: aN 65 [.own 2, .con tI, .con tI, .any, .any, .any, .con abr, .con tI], [.cells [.con tI, .con tI, .con abq, .con abo, .con abt, .con abp, .con abo], .cells [.con tI, .con tI, .con abr, .con abr, .con tI, .con tI, .con tI, .con tI], .rowc tI]⟩, [])] }
def aiE (ρ : Type) : acI ρ := ⟨[], 167, 2, ao9, fun (p : Val (.pair abA (.pair abr (.pair tI (.pair tI (.pair tI (.pair abr (.pair tI (.pair tI (.pair tI (.pair abq (.pair abo (.pair abt (.pair abp (.pair abo (.pair tI (.pair tI (.pair abr (.pair abr (.pair tI abJ)))))))))))))))))))) (v : Val tI) kn kx => afH p.1 p.2.2.1 p.2.2.2.2.2.1 p.2.2.2.2.2.2.1 p.2.2.2.2.2.2.2.2.2.2.2.2.2.2.2.1 v (fun u0 => kn u0) (kx 0) (kx 1)⟩
def apa : aci := { pin := 0, cs := [abA, abr, tI, tI, tI, abq, abo, abt, abp, abo, tI, tI, abr, abr, tI, tI, tI, tI, abr], vs := [tI], head := ⟨140, .any :: .con abA :: .any :: .box 0 0 :: .any :: .any :: .any :: .box 1 0 :: .con abr :: aN 67 [.own 2, .con tI, .var tI], [.cells [.con tI, .con tI, .con abq, .con abo, .con abt, .con abp, .con abo], .cells [.con tI, .con tI, .con abr, .con abr, .con tI, .con tI, .con tI, .con tI], .rowc tI]⟩, exits := [(.ret, ⟨140, .any :: .con abA :: .any :: .box 0 0 :: .any :: .any :: .var tI :: .box 1 0 :: .con abr :: aN 67 [.own 2, .con tI], [.cells [.con tI, .con tI, .con abq, .con abo, .con abt, .con abp, .con abo], .cells [.con tI, .con tI, .con abr, .con abr, .con tI, .con tI, .con tI, .con tI], .rowc tI]⟩, [tI]), (.exit 0, ⟨140, .any :: .con abA :: .any :: .box 0 0 :: .any :: .any :: .any :: .box 1 0 :: .con abr :: aN 67 [.own 2, .con tI], [.cells [.con tI, .con tI, .con abq, .con abo, .con abt, .con abp, .con abo], .cells [.con tI, .con tI, .con abr, .con abr, .con tI, .con tI, .con tI, .con tI], .rowc tI]⟩, [])] }
def aiF (ρ : Type) : acI ρ := ⟨[], 167, 0, apa, fun (p : Val (.pair abA (.pair abr (.pair tI (.pair tI (.pair tI (.pair abq (.pair abo (.pair abt (.pair abp (.pair abo (.pair tI (.pair tI (.pair abr (.pair abr (.pair tI abJ)))))))))))))))) (v : Val tI) kn kx => adW p.1 p.2.1 p.2.2.1 p.2.2.2.2.2.2.2.2.2.2.2.1 p.2.2.2.2.2.2.2.2.2.2.2.2.2.2.2.2.2.2 v (fun u0 => kn u0) (kx 0) (kx 1)⟩
def ao8 : aci := { pin := 0, cs := [abr, tI, tI, tI, abq, abo, abt, abp, abo, tI, tI, abr, abr, tI, tI, tI, tI], vs := [tI], head := ⟨140, .any :: .any :: .any :: .box 0 0 :: .any :: .any :: .any :: .box 1 0 :: aN 90 [.con abr, .con tI, .var tI], [.cells [.con tI, .con tI, .con abq, .con abo, .con abt, .con abp, .con abo], .cells [.con tI, .con tI, .con abr, .con abr, .con tI, .con tI, .con tI, .con tI]]⟩, exits := [(.ret, ⟨140, .any :: .any :: .any :: .box 0 0 :: .any :: .any :: .var tI :: .box 1 0 :: aN 90 [.con abr, .con tI], [.cells [.con tI, .con tI, .con abq, .con abo, .con abt, .con abp, .con abo], .cells [.con tI, .con tI, .con abr, .con abr, .con tI, .con tI, .con tI, .con tI]]⟩, [tI]), (.exit 4, ⟨140, .any :: .any :: .any :: .box 0 0 :: .any :: .any :: .any :: .box 1 0 :: aN 90 [.con abr, .con tI], [.cells [.con tI, .con tI, .con abq, .con abo, .con abt, .con abp, .con abo], .cells [.con tI, .con tI, .con abr, .con abr, .con tI, .con tI, .con tI, .con tI]]⟩, [])] }
def aiD (ρ : Type) : acI ρ := ⟨[], 167, 4, ao8, fun (p : Val (.pair abr (.pair tI (.pair tI (.pair tI (.pair abq (.pair abo (.pair abt (.pair abp (.pair abo acj)))))))))) (v : Val tI) kn kx => adV p.1 p.2.1 p.2.2.1 p.2.2.2.1 p.2.2.2.2.1 p.2.2.2.2.2.1 p.2.2.2.2.2.2.1 p.2.2.2.2.2.2.2.1 p.2.2.2.2.2.2.2.2.1 p.2.2.2.2.2.2.2.2.2.2.1 v (fun u0 => kn u0) (kx 0) (kx 1)⟩
def asb : List (Nat × acA) := [(82, alH), (88, apQ), (94, aec), (125, asR), (126, agZ), (164, aij), (198, avl), (223, aMe)]
def ai9 (ρ : Type) : List (acI ρ) := [aiG ρ, aiE ρ, aiF ρ, aiD ρ]
def aef (ρ : Type) : Env ρ := acE asb (ai9 ρ)
def ad4 : acA := ⟨[acd], [tI], fun (x : Val acd) => acW x⟩
def ajP : acA := ⟨[acd, abo, abo], [acd], fun (x : Val (.pair acd (.pair abo abo))) => aBd x.1 x.2.1 x.2.2⟩
noncomputable def aIm : aci := { pin := 8, cs := [abr, tI, tI, tI, abq, abo, abt, abp, abo, tI, tI, abx, tI, tI], vs := [tI, abx], head := ⟨34, .any :: .any :: .any :: .box 2 0 :: aN 21 [.con abr, .con tI, .var tI], [.cells [.con tI, .con tI, .con abq, .con abo, .con abt, .con abp, .con abo], .cells [.con tI, .con tI, .nils, .nils, .nils, .nils, .nils], .cells [.omp 5], .cells [.omp 6], .cells [.nilfn, .fn 159 [(2, 0), (0, 0)], .fn 159 [(2, 0), (0, 0)], .fn 160 [(3, 0), (0, 0), (2, 0)]], .mapv tI .bool, .mapc tI .bool, .cells [.con tI, .con tI]]⟩, exits := [(.exit 0, ⟨34, .any :: .any :: .any :: .box 2 0 :: aN 21 [.con abr, .con tI], [.cells [.con tI, .con tI, .con abq, .con abo, .con abt, .con abp, .con abo], .cells [.con tI, .con tI, .nils, .nils, .nils, .nils, .nils], .cells [.omp 5], .cells [.omp 6], .cells [.nilfn, .fn 159 [(2, 0), (0, 0)], .fn 159 [(2, 0), (0, 0)], .fn 160 [(3, 0), (0, 0), (2, 0)]], .mapv tI .bool, .mapc tI .bool, .cells [.con tI, .con tI]]⟩, [abx])] }
noncomputable def aw1 (ρ : Type) : acI ρ := ⟨[7, 5], 160, 0, aIm, fun (p : Val (.pair abr (.pair tI (.pair tI (.pair tI (.pair abq (.pair abo (.pair abt (.pair abp (.pair abo (.pair tI (.pair tI (.pair abx aca))))))))))))) (v : Val (.pair tI abx)) kn kx => alV p.1 p.2.1 v.1 v.2 (fun u0 u1 => kn (u0, u1)) (kx 0)⟩
noncomputable def aIn : aci := { pin := 0, cs := [abo, abo, tI, tI, tI, abq, abo, abt, abp, abo, tI, tI], vs := [tI, abx, abx], head := ⟨130, .any :: .any :: .con abo :: .box 0 0 :: .any :: .any :: .box 1 0 :: .box 2 0 :: .box 3 0 :: .any :: .box 4 0 :: aN 19 [.con abo, .con tI, .var tI], [.cells [.con tI, .con tI, .con abq, .con abo, .con abt, .con abp, .con abo], .cells [.con tI, .con tI, .nils, .nils, .nils, .nils, .nils], .cells [.omp 5], .cells [.omp 6], .cells [.nilfn, .fn 159 [(2, 0), (0, 0)], .fn 159 [(2, 0), (0, 0)], .fn 160 [(3, 0), (0, 0), (2, 0)]], .mapv tI .bool, .mapv tI .bool]⟩, exits := [(.exit 0, ⟨130, .any :: .any :: .con abo :: .box 0 0 :: .any :: .any :: .box 1 0 :: .box 2 0 :: .box 3 0 :: .any :: .box 4 0 :: aN 19 [.con abo, .con tI], [.cells [.con tI, .con tI, .con abq, .con abo, .con abt, .con abp, .con abo], .cells [.con tI, .con tI, .nils, .nils, .nils, .nils, .nils], .cells [.omp 5], .cells [.omp 6], .cells [.nilfn, .fn 159 [(2, 0), (0, 0)], .fn 159 [(2, 0), (0, 0)], .fn 160 [(3, 0), (0, 0), (2, 0)]], .mapv tI .bool, .mapv tI .bool]⟩, [abx, abx])] }
noncomputable def aw2 (ρ : Type) : acI ρ := ⟨[], 79, 0, aIn, fun (p : Val (.pair abo (.pair abo (.pair tI (.pair tI (.pair tI (.pair abq (.pair abo (.pair abt (.pair abp abZ)))))))))) (v : Val (.pair tI (.pair abx abx))) kn kx => apU p.2.1 p.2.2.1 p.2.2.2.2.2.1 p.2.2.2.2.2.2.2.2.1 v.1 v.2.1 v.2.2 (fun u0 u1 u2 => kn (u0, u1, u2)) (kx 0)⟩
noncomputable def aIl : aci := { pin := 0, cs := [abo, abo, tI, tI, tI, abq, abo, abt, abp, abo, tI, tI, abx], vs := [tI, abx], head := ⟨130, .any :: .any :: .con abo :: .box 0 0 :: .any :: .any :: .box 1 0 :: .box 2 0 :: .box 3 0 :: aN 34 [.con abo, .con tI, .var tI], [.cells [.con tI, .con tI, .con abq, .con abo, .con abt, .con abp, .con abo], .cells [.con tI, .con tI, .nils, .nils, .nils, .nils, .nils], .cells [.omp 4], .cells [.omp 5], .mapv tI .bool, .mapc tI .bool]⟩, exits := [(.exit 2, ⟨130, .any :: .any :: .con abo :: .box 0 0 :: .any :: .any :: .box 1 0 :: .box 2 0 :: .box 3 0 :: aN 34 [.con abo, .con tI], [.cells [.con tI, .con tI, .con abq, .con abo, .con abt, .con abp, .con abo], .cells [.con tI, .con tI, .nils, .nils, .nils, .nils, .nils], .cells [.omp 4], .cells [.omp 5], .mapv tI .bool, .mapc tI .bool]⟩, [abx])] }
noncomputable def aw0 (ρ : Type) : acI ρ := ⟨[], 79, 2, aIl, fun (p : Val (.pair abo (.pair abo (.pair tI (.pair tI (.pair tI (.pair abq (.pair abo (.pair abt (.pair abp (.pair abo (.pair tI (.pair tI abx))))))))))))) (v : Val (.pair tI abx)) kn kx => alU p.2.1 p.2.2.1 v.1 v.2 (fun u0 u1 => kn (u0, u1)) (kx 0)⟩
noncomputable def aIk : aci := { pin := 0, cs := [abo, tI, tI, tI, abq, abo, abt, abp, abo, tI, tI, abq, abo, abt, abp, abo, tI, tI, abo, abx, abx, abq], vs := [tI, abo], head := ⟨130, .any :: .any :: .any :: .box 0 0 :: .any :: .any :: .box 1 0 :: .box 2 0 :: .box 3 0 :: aN 6 (.box 4 0 :: aN 52 [.con abo, .con tI, .var tI]), [.cells [.con tI, .con tI, .con abq, .con abo, .con abt, .con abp, .con abo], .cells [.con tI, .con tI, .con abq, .con abo, .con abt, .con abp, .con abo], .cells [.omp 5], .cells [.omp 6], .cells [.con tI, .con tI, .own 7, .own 8, .nils, .nils, .con abo], .mapc tI .bool, .mapc tI .bool, .rowc acl, .rowv aca]⟩, exits := [(.exit 6, ⟨130, .any :: .any :: .any :: .box 0 0 :: .any :: .any :: .box 1 0 :: .box 2 0 :: .box 3 0 :: aN 6 (.box 4 0 :: aN 52 [.con abo, .con tI]), [.cells [.con tI, .con tI, .con abq, .con abo, .con abt, .con abp, .con abo], .cells [.con tI, .con tI, .con abq, .con abo, .con abt, .con abp, .con abo], .cells [.omp 5], .cells [.omp 6], .cells [.con tI, .con tI, .own 7, .own 8, .nils, .nils, .con abo], .mapc tI .bool, .mapc tI .bool, .rowc acl, .rowv aca]⟩, [abo])] }
noncomputable def akK (ρ : Type) : acI ρ := ⟨[], 79, 6, aIk, fun (p : Val (.pair abo (.pair tI (.pair tI (.pair tI (.pair abq (.pair abo (.pair abt (.pair abp (.pair abo (.pair tI (.pair tI (.pair abq (.pair abo (.pair abt (.pair abp (.pair abo (.pair tI (.pair tI (.pair abo (.pair abx (.pair abx abq)))))))))))))))))))))) (v : Val abI) kn kx => alT p.1 p.2.1 p.2.2.2.2.2.2.2.2.2.2.2.2.2.2.2.2.2.2.2.1 v.1 v.2 (fun u0 u1 => kn (u0, u1)) (kx 0)⟩
noncomputable def aIj : aci := { pin := 0, cs := [abt, tI, tI, tI, abq, abo, abt, abp, abo, tI, tI, abq, abo, abt, abp, abo, tI, tI, abo, abx, abx, abq, abo], vs := [tI, abt], head := ⟨130, .any :: .any :: .any :: .box 0 0 :: .any :: .any :: .box 1 0 :: .box 2 0 :: .box 3 0 :: aN 6 (.box 4 0 :: aN 70 [.con abt, .con tI, .var tI]), [.cells [.con tI, .con tI, .con abq, .con abo, .con abt, .con abp, .con abo], .cells [.con tI, .con tI, .con abq, .con abo, .con abt, .con abp, .con abo], .cells [.omp 5], .cells [.omp 6], .cells [.con tI, .con tI, .own 7, .own 8, .own 9, .nils, .con abo], .mapc tI .bool, .mapc tI .bool, .rowc acl, .rowc aca, .rowv adH]⟩, exits := [(.exit 8, ⟨130, .any :: .any :: .any :: .box 0 0 :: .any :: .any :: .box 1 0 :: .box 2 0 :: .box 3 0 :: aN 6 (.box 4 0 :: aN 70 [.con abt, .con tI]), [.cells [.con tI, .con tI, .con abq, .con abo, .con abt, .con abp, .con abo], .cells [.con tI, .con tI, .con abq, .con abo, .con abt, .con abp, .con abo], .cells [.omp 5], .cells [.omp 6], .cells [.con tI, .con tI, .own 7, .own 8, .own 9, .nils, .con abo], .mapc tI .bool, .mapc tI .bool, .rowc acl, .rowc aca, .rowv adH]⟩, [abt])] }
noncomputable def akJ (ρ : Type) : acI ρ := ⟨[], 79, 8, aIj, fun (p : Val (.pair abt (.pair tI (.pair tI (.pair tI (.pair abq (.pair abo (.pair abt (.pair abp (.pair abo (.pair tI (.pair tI (.pair abq (.pair abo (.pair abt (.pair abp (.pair abo (.pair tI (.pair tI (.pair abo (.pair abx (.pair abx (.pair abq abo))))))))))))))))))))))) (v : Val (.pair tI abt)) kn kx => alS p.1 p.2.1 p.2.2.2.2.2.2.2.2.2.2.2.2.2.2.2.2.2.2.2.1 v.1 v.2 (fun u0 u1 => kn (u0, u1)) (kx 0)⟩
noncomputable def aIi : aci := { pin := 0, cs := [abp, tI, tI, tI, abq, abo, abt, abp, abo, tI, tI, abo, abx, abq, abo, abt], vs := [tI, abp], head := ⟨130, aN 6 (.box 0 0 :: .any :: .box 1 0 :: aN 6 (.box 2 0 :: aN 88 [.con abp, .con tI, .var tI])), [.cells [.con tI, .con tI, .con abq, .con abo, .con abt, .con abp, .con abo], .cells [.omp 3], .cells [.con tI, .con tI, .own 4, .own 5, .own 6, .own 7, .con abo], .mapc tI .bool, .rowc acl, .rowc aca, .rowc adH, .rowv acj]⟩, exits := [(.exit 10, ⟨130, aN 6 (.box 0 0 :: .any :: .box 1 0 :: aN 6 (.box 2 0 :: aN 88 [.con abp, .con tI])), [.cells [.con tI, .con tI, .con abq, .con abo, .con abt, .con abp, .con abo], .cells [.omp 3], .cells [.con tI, .con tI, .own 4, .own 5, .own 6, .own 7, .con abo], .mapc tI .bool, .rowc acl, .rowc aca, .rowc adH, .rowv acj]⟩, [abp])] }
noncomputable def akI (ρ : Type) : acI ρ := ⟨[], 79, 10, aIi, fun (p : Val (.pair abp (.pair tI (.pair tI (.pair tI (.pair abq (.pair abo (.pair abt (.pair abp (.pair abo (.pair tI (.pair tI (.pair abo (.pair abx (.pair abq (.pair abo abt)))))))))))))))) (v : Val (.pair tI abp)) kn kx => alR p.1 p.2.1 p.2.2.2.2.2.2.2.2.2.2.2.2.1 v.1 v.2 (fun u0 u1 => kn (u0, u1)) (kx 0)⟩
noncomputable def avA : List (Nat × acA) := [(94, aec)]
noncomputable def arP (ρ : Type) : List (acI ρ) := [aw1 ρ, aw2 ρ, aw0 ρ, akK ρ, akJ ρ, akI ρ]
noncomputable def aeB (ρ : Type) : Env ρ := acE avA (arP ρ)
noncomputable def alQ : Tpl := ⟨130, .any :: .any :: .any :: .box 0 0 :: .any :: .any :: .box 1 0 :: .box 2 0 :: .box 3 0 :: aN 6 (.box 4 0 :: aN 43 [.fn 218 [(5, 0), (6, 0)]]), [.cells [.var tI, .var tI, .var abq, .var abo, .var abt, .var abp, .var abo], .cells [.var tI, .var tI, .var abq, .var abo, .var abt, .var abp, .var abo], .cells [.omp 7], .cells [.omp 8], .cells [.con tI, .con tI, .own 9, .nils, .nils, .nils, .con abo], .cells [.var tI, .var tI, .var abq, .var abo, .var abt, .var abp, .var abo], .cells [.omp 7], .mapv tI .bool, .mapv tI .bool, .rowv acl]⟩
noncomputable def azI : Tpl := ⟨130, .any :: .any :: .any :: .box 0 0 :: .any :: .any :: .box 1 0 :: .box 2 0 :: .box 3 0 :: aN 6 (.box 4 0 :: .box 10 0 :: aN 42 [.fn 218 [(5, 0), (6, 0)]]), [.cells [.var tI, .var tI, .var abq, .var abo, .var abt, .var abp, .var abo], .cells [.var tI, .var tI, .var abq, .var abo, .var abt, .var abp, .var abo], .cells [.omp 7], .cells [.omp 8], .cells [.con tI, .con tI, .own 9, .nils, .nils, .nils, .con abo], .cells [.var tI, .var tI, .var abq, .var abo, .var abt, .var abp, .var abo], .cells [.omp 7], .mapv tI .bool, .mapv tI .bool, .rowv acl, .cells [.var tI, .var tI, .var tI, .var tI, .var tI, .var tI, .var tI, .var tI]]⟩
noncomputable def akG (ρ : Type) : List (acI ρ) := [akK ρ, akJ ρ, akI ρ]
noncomputable def ado (ρ : Type) : Env ρ := { acE avA (akG ρ) with inl := fun _ => false }
noncomputable def aj1 : Tpl := ⟨130, aN 6 [.box 0 0], [.cells [.var tI, .var tI, .var abq, .var abo, .var abt, .var abp, .var abo]]⟩
abbrev agp : List Ty := [tI, tI, abq, abo, abt, abp, abo]
noncomputable def ag3 (y : Val acd) : Val abw := (y.1.1, y.1.2, y.2.1, y.2.2.1, y.2.2.2.1, y.2.2.2.2.1, y.2.2.2.2.2)
noncomputable def ads : Code := (ak5 Tryz.prog 79).getD .skip
abbrev afU : List Ty := [tI, tI, abo]
abbrev ah5 : List Ty := [tI, tI, abq, abo, abt, abp, abo, tI, tI, abq, abo, abt, abp, abo, tI, tI, abq, abo, abt, abp, abo, abx, abx, abq]
abbrev apT : List Ty := [tI, tI, abq, abo, abt, abp, abo, tI, tI, abq, abo, abt, abp, abo, tI, tI, abq, abo, abt, abp, abo, abx, abx, abq, tI, tI, tI, tI, tI, tI, tI, tI]
abbrev acK (v : Val abu) : List (Val acl) := v.2.2.2.2.2.2.2.2.2.2.2.2.2.2.2.2.1
abbrev aee (v : Val abu) : List (Int × Bool) := v.2.2.2.2.2.2.2.2.2.2.2.2.2.2.2.2.2.2.2.2.2.1
abbrev amL (v : Val abu) : List (Val acl) := v.2.2.2.2.2.2.2.2.2.2.2.2.2.2.2.2.2.2.2.2.2.2.2
noncomputable def adr (v : Val abu) (z : List (Val acl)) : Val abu := (v.1, v.2.1, v.2.2.1, v.2.2.2.1, v.2.2.2.2.1, v.2.2.2.2.2.1, v.2.2.2.2.2.2.1, v.2.2.2.2.2.2.2.1, v.2.2.2.2.2.2.2.2.1, v.2.2.2.2.2.2.2.2.2.1, v.2.2.2.2.2.2.2.2.2.2.1, v.2.2.2.2.2.2.2.2.2.2.2.1, v.2.2.2.2.2.2.2.2.2.2.2.2.1, v.2.2.2.2.2.2.2.2.2.2.2.2.2.1, v.2.2.2.2.2.2.2.2.2.2.2.2.2.2.1, v.2.2.2.2.2.2.2.2.2.2.2.2.2.2.2.1, v.2.2.2.2.2.2.2.2.2.2.2.2.2.2.2.2.1, v.2.2.2.2.2.2.2.2.2.2.2.2.2.2.2.2.2.1, v.2.2.2.2.2.2.2.2.2.2.2.2.2.2.2.2.2.2.1, v.2.2.2.2.2.2.2.2.2.2.2.2.2.2.2.2.2.2.2.1, v.2.2.2.2.2.2.2.2.2.2.2.2.2.2.2.2.2.2.2.2.1, v.2.2.2.2.2.2.2.2.2.2.2.2.2.2.2.2.2.2.2.2.2.1, v.2.2.2.2.2.2.2.2.2.2.2.2.2.2.2.2.2.2.2.2.2.2.1, z)
noncomputable def arQ (v : Val abu) (x : Val acl) : Val (.pair tI (.pair tI (.pair abq (.pair abo (.pair abt (.pair abp (.pair abo (.pair tI (.pair tI (.pair abq (.pair abo (.pair abt (.pair abp (.pair abo (.pair tI (.pair tI (.pair abq (.pair abo (.pair abt (.pair abp (.pair abo (.pair abx (.pair abx (.pair abq abD)))))))))))))))))))))))) := (v.1, v.2.1, v.2.2.1, v.2.2.2.1, v.2.2.2.2.1, v.2.2.2.2.2.1, v.2.2.2.2.2.2.1, v.2.2.2.2.2.2.2.1, v.2.2.2.2.2.2.2.2.1, v.2.2.2.2.2.2.2.2.2.1, v.2.2.2.2.2.2.2.2.2.2.1, v.2.2.2.2.2.2.2.2.2.2.2.1, v.2.2.2.2.2.2.2.2.2.2.2.2.1, v.2.2.2.2.2.2.2.2.2.2.2.2.2.1, v.2.2.2.2.2.2.2.2.2.2.2.2.2.2.1, v.2.2.2.2.2.2.2.2.2.2.2.2.2.2.2.1, v.2.2.2.2.2.2.2.2.2.2.2.2.2.2.2.2.1, v.2.2.2.2.2.2.2.2.2.2.2.2.2.2.2.2.2.1, v.2.2.2.2.2.2.2.2.2.2.2.2.2.2.2.2.2.2.1, v.2.2.2.2.2.2.2.2.2.2.2.2.2.2.2.2.2.2.2.1, v.2.2.2.2.2.2.2.2.2.2.2.2.2.2.2.2.2.2.2.2.1, v.2.2.2.2.2.2.2.2.2.2.2.2.2.2.2.2.2.2.2.2.2.1, v.2.2.2.2.2.2.2.2.2.2.2.2.2.2.2.2.2.2.2.2.2.2.1, v.2.2.2.2.2.2.2.2.2.2.2.2.2.2.2.2.2.2.2.2.2.2.2, x.1, x.2.1, x.2.2.1, x.2.2.2.1.1, x.2.2.2.1.2, x.2.2.2.2.1.1, x.2.2.2.2.1.2, x.2.2.2.2.2)
end Go.Proofs.ZzM
end

noncomputable section
set_option maxRecDepth 100000
namespace Go.Proofs.ZzM
open Go Go.Am
def avk : acA := ⟨[acj], [.bool], fun (x : Val acj) => ami x⟩
def aE8 : List (Nat × acA) := []
def aqI (ρ : Type) : List (acI ρ) := []
def awV (ρ : Type) : Env ρ := acE aE8 (aqI ρ)
def aL8 : acA := ⟨[acd], [.bool], fun (x : Val acd) => ayJ x⟩
def aE6 : aci := { pin := 0, cs := [tI, tI, abq, abo, abt, abp, abo], vs := [tI], head := ⟨50, [.any, .box 0 0, .any, .var tI], [.cells [.con tI, .con tI, .con abq, .con abo, .con abt, .con abp, .con abo]]⟩, exits := [(.ret, ⟨50, [.any, .box 0 0, .var .bool], [.cells [.con tI, .con tI, .con abq, .con abo, .con abt, .con abp, .con abo]]⟩, [.bool]), (.exit 0, ⟨50, [.any, .box 0 0], [.cells [.con tI, .con tI, .con abq, .con abo, .con abt, .con abp, .con abo]]⟩, [])] }
def as1 (ρ : Type) : acI ρ := ⟨[], 13, 0, aE6, fun (p : Val abw) (v : Val tI) kn kx => amB p.2.2.2.2.2.1 v (fun u0 => kn u0) (kx 0) (kx 1)⟩
def aKA : List (Nat × acA) := [(29, avk)]
def awU (ρ : Type) : List (acI ρ) := [as1 ρ]
def avp (ρ : Type) : Env ρ := acE aKA (awU ρ)
def aMd : acA := ⟨[acd, acl, tI, tI], [tI], fun (x : Val (.pair acd (.pair acl aca))) => ap8 x.1 x.2.1 x.2.2.1 x.2.2.2⟩
def aF7 : aci := { pin := 0, cs := [tI, tI, abt, tI, tI, tI, abq, abo, abt, abp, abo, tI, tI, tI, tI, tI, tI, tI, tI], vs := [tI, tI], head := ⟨88, .any :: .any :: .con tI :: .con tI :: .box 0 0 :: .box 1 0 :: .any :: .any :: .any :: .var tI :: aN 7 [.con abt, .con tI, .var tI], [.cells [.con tI, .con tI, .con abq, .con abo, .con abt, .con abp, .con abo], .cells [.con tI, .con tI, .con tI, .con tI, .con tI, .con tI, .con tI, .con tI]]⟩, exits := [(.exit 0, ⟨88, .any :: .any :: .con tI :: .con tI :: .box 0 0 :: .box 1 0 :: .any :: .any :: .any :: .var tI :: aN 7 [.con abt, .con tI], [.cells [.con tI, .con tI, .con abq, .con abo, .con abt, .con abp, .con abo], .cells [.con tI, .con tI, .con tI, .con tI, .con tI, .con tI, .con tI, .con tI]]⟩, [tI])] }
def aui (ρ : Type) : acI ρ := ⟨[], 54, 0, aF7, fun (p : Val (.pair tI (.pair tI (.pair abt abO)))) (v : Val aca) kn kx => am8 p.1 p.2.1 p.2.2.1 p.2.2.2.1 p.2.2.2.2.2.2.2.2.2.2.2.1 v.1 v.2 (fun u0 u1 => kn (u0, u1)) (kx 0)⟩
def aF6 : aci := { pin := 0, cs := [tI, tI, tI, abo, tI, tI, tI, tI, tI, tI, tI, tI, tI], vs := [tI, abr], head := ⟨88, .any :: .any :: .con tI :: .con tI :: .any :: .box 0 0 :: .any :: .any :: .any :: .con tI :: .any :: .any :: .any :: .own 1 :: aN 39 [.con abo, .con tI, .var tI], [.cells [.con tI, .con tI, .con tI, .con tI, .con tI, .con tI, .con tI, .con tI], .rowv tI]⟩, exits := [(.exit 2, ⟨88, .any :: .any :: .con tI :: .con tI :: .any :: .box 0 0 :: .any :: .any :: .any :: .con tI :: .any :: .any :: .any :: .own 1 :: aN 39 [.con abo, .con tI], [.cells [.con tI, .con tI, .con tI, .con tI, .con tI, .con tI, .con tI, .con tI], .rowv tI]⟩, [abr])] }
def auh (ρ : Type) : acI ρ := ⟨[], 54, 2, aF6, fun (p : Val (.pair tI (.pair tI (.pair tI (.pair abo (.pair tI abD)))))) (v : Val abE) kn kx => am7 p.1 p.2.1 p.2.2.2.1 p.2.2.2.2.1 p.2.2.2.2.2.1 v.1 v.2 (fun u0 u1 => kn (u0, u1)) (kx 0)⟩
def aK0 : List (Nat × acA) := [(126, agZ)]
def axm (ρ : Type) : List (acI ρ) := [aui ρ, auh ρ]
def apY (ρ : Type) : Env ρ := acE aK0 (axm ρ)
def aex : acA := ⟨[abo, aca], [tI], fun (x : Val abZ) => acV x.1 x.2⟩
def ahG : aci := { pin := 0, cs := [abo, tI, tI, tI], vs := [tI], head := ⟨19, [.con abo, .any, .any, .box 0 0, .any, .any, .any, .con tI, .var tI], [.cells [.con tI, .con tI]]⟩, exits := [(.ret, ⟨19, [.con abo, .any, .any, .box 0 0, .var tI, .any, .any, .con tI], [.cells [.con tI, .con tI]]⟩, [tI]), (.exit 0, ⟨19, [.con abo, .any, .any, .box 0 0, .any, .any, .any, .con tI], [.cells [.con tI, .con tI]]⟩, [])] }
def afc (ρ : Type) : acI ρ := ⟨[], 130, 0, ahG, fun (p : Val (.pair abo ac9)) (v : Val tI) kn kx => adw p.1 p.2.1 p.2.2.1 p.2.2.2 v (fun u0 => kn u0) (kx 0) (kx 1)⟩
def aiy : List (Nat × acA) := []
def afn (ρ : Type) : List (acI ρ) := [afc ρ]
def aei (ρ : Type) : Env ρ := acE aiy (afn ρ)
def aoo : acA := ⟨[abX, abr, tI], [tI], fun (x : Val (.pair abX abK)) => afC x.1 x.2.1 x.2.2⟩
def aAF : List (Nat × acA) := [(130, aex)]
def an2 (ρ : Type) : List (acI ρ) := []
def aq7 (ρ : Type) : Env ρ := acE aAF (an2 ρ)
def anH : acA := ⟨[abA, abr], [aca], fun (x : Val (.pair abA abr)) => afT x.1 x.2⟩
def ar5 : List (Nat × acA) := []
def ai7 (ρ : Type) : List (acI ρ) := []
def akV (ρ : Type) : Env ρ := acE ar5 (ai7 ρ)
def alG : acA := ⟨[abo], [tI], fun (x : Val abo) => agH x⟩
def aCJ : aci := { pin := 0, cs := [abo, tI], vs := [tI], head := ⟨15, aN 5 [.con abo, .con tI, .var tI], []⟩, exits := [(.ret, ⟨15, [.any, .any, .var tI, .any, .any, .con abo, .con tI], []⟩, [tI]), (.exit 0, ⟨15, aN 5 [.con abo, .con tI], []⟩, [])] }
def aq3 (ρ : Type) : acI ρ := ⟨[], 227, 0, aCJ, fun (p : Val (.pair abo tI)) (v : Val tI) kn kx => akT p.1 p.2 v (fun u0 => kn u0) (kx 0) (kx 1)⟩
def aIB : List (Nat × acA) := [(219, asN)]
def atW (ρ : Type) : List (acI ρ) := [aq3 ρ]
def ar0 (ρ : Type) : Env ρ := acE aIB (atW ρ)
def ary : acA := ⟨[tI, tI], [aca, tI], fun (x : Val aca) => akh x.1 x.2⟩
def aCK : List (Nat × acA) := [(259, aEP), (260, aKr)]
def aoY (ρ : Type) : List (acI ρ) := []
def atX (ρ : Type) : Env ρ := acE aCK (aoY ρ)
def aOL : acA := ⟨[aca, aca], [aca, tI], fun (x : Val acZ) => aGF x.1 x.2⟩
def aNz : List (Nat × acA) := [(227, alG), (277, ary)]
def aAr (ρ : Type) : List (acI ρ) := []
def aIH (ρ : Type) : Env ρ := acE aNz (aAr ρ)
def asP : acA := ⟨[aca, aca], [aca], fun (x : Val acZ) => anr x.1 x.2⟩
def ayg : List (Nat × acA) := [(262, aOL)]
def al7 (ρ : Type) : List (acI ρ) := []
def ao1 (ρ : Type) : Env ρ := acE ayg (al7 ρ)
def aKs : acA := ⟨[aca, aca], [tI], fun (x : Val acZ) => aBf x.1 x.2⟩
def aNy : List (Nat × acA) := []
def aAo (ρ : Type) : List (acI ρ) := []
def aIF (ρ : Type) : Env ρ := acE aNy (aAo ρ)
def aqG : acA := ⟨[acZ], [.bool], fun (x : Val acZ) => alv x⟩
def avY : List (Nat × acA) := [(227, alG), (287, aKs)]
def akU (ρ : Type) : List (acI ρ) := []
def anZ (ρ : Type) : Env ρ := acE avY (akU ρ)
def aOM : acA := ⟨[aca, aca], [aca, tI], fun (x : Val acZ) => aBh x.1 x.2⟩
def aNA : List (Nat × acA) := [(227, alG), (277, ary)]
def aAt (ρ : Type) : List (acI ρ) := []
def aIJ (ρ : Type) : Env ρ := acE aNA (aAt ρ)
def aHS : acA := ⟨[acZ, aca], [acZ, tI], fun (x : Val (.pair acZ aca)) => aBg x.1 x.2⟩
def axh : List (Nat × acA) := [(219, asN), (278, aqG), (281, aOM), (287, aKs)]
def amZ (ρ : Type) : List (acI ρ) := []
def axg : List aQP := [⟨[3, 2], 279, 0, 4⟩]
def aII (ρ : Type) : Env ρ := acE axh (amZ ρ)
def ar2 (ρ : Type) : Env ρ := aSp axh (amZ ρ) axg
def asO : acA := ⟨[aca, aca], [acZ], fun (x : Val acZ) => ajo x.1 x.2⟩
def ayf : List (Nat × acA) := [(263, aHS)]
def al6 (ρ : Type) : List (acI ρ) := []
def ao0 (ρ : Type) : Env ρ := acE ayf (al6 ρ)
def avm : acA := ⟨[acd, acj], [acZ], fun (x : Val abM) => ajF x.1 x.2⟩
def aGf : List (Nat × acA) := [(53, arz), (88, apQ), (224, anH), (225, asP), (226, asO)]
def ara (ρ : Type) : List (acI ρ) := []
def axp (ρ : Type) : Env ρ := acE aGf (ara ρ)
def azm : acA := ⟨[acd, acj], [aca], fun (x : Val abM) => amm x.1 x.2⟩
def aIU : List (Nat × acA) := []
def aun (ρ : Type) : List (acI ρ) := []
def aAK (ρ : Type) : Env ρ := acE aIU (aun ρ)
def azj : acA := ⟨[tI, tI], [tI], fun (x : Val aca) => apq x.1 x.2⟩
def aIE : List (Nat × acA) := []
def atY (ρ : Type) : List (acI ρ) := []
def aAm (ρ : Type) : Env ρ := acE aIE (atY ρ)
def aEQ : acA := ⟨[aca], [tI, tI], fun (x : Val aca) => auU x⟩
def aKX : List (Nat × acA) := [(227, alG), (228, azj)]
def axi (ρ : Type) : List (acI ρ) := []
def aDT (ρ : Type) : Env ρ := acE aKX (axi ρ)
def azk : acA := ⟨[aca], [tI, tI], fun (x : Val aca) => apr x⟩
def aIK : List (Nat × acA) := [(227, alG), (228, azj)]
def at6 (ρ : Type) : List (acI ρ) := []
def aAu (ρ : Type) : Env ρ := acE aIK (at6 ρ)
def aER : acA := ⟨[acd, acj], [aca], fun (x : Val abM) => anq x.1 x.2⟩
def aKY : List (Nat × acA) := [(171, avm), (172, azm), (173, aEQ), (174, azk)]
def axk (ρ : Type) : List (acI ρ) := []
def aDU (ρ : Type) : Env ρ := acE aKY (axk ρ)
def aES : acA := ⟨[acd], [abX], fun (x : Val acd) => auW x⟩
def aF3 : aci := { pin := 2, cs := [tI, abr, tI, abq, tI, tI, tI, tI, abq, abo, abt, abp, abo, tI, tI, abq, abo, abt, abp, abo, abo, tI, tI, tI, tI, tI, tI, tI, tI, tI], vs := [tI, abv, abo], head := ⟨144, .box 1 0 :: .any :: .con tI :: .box 2 0 :: .con abr :: .con tI :: .var tI :: aN 24 [.con abq, .con tI, .con tI], [.cells [.con tI, .con tI, .con abq, .con abo, .con abt, .con abp, .con abo], .cells [.con tI, .con tI, .con abq, .con abo, .con abt, .con abp, .con abo, .con abo, .con tI, .own 3, .own 4], .cells [.con tI, .con tI, .con tI, .con tI, .con tI, .con tI, .con tI, .con tI], .rowv ac9, .rowv aca]⟩, exits := [(.exit 2, ⟨144, .box 1 0 :: .any :: .con tI :: .box 2 0 :: .con abr :: .con tI :: aN 25 [.con abq, .con tI, .con tI], [.cells [.con tI, .con tI, .con abq, .con abo, .con abt, .con abp, .con abo], .cells [.con tI, .con tI, .con abq, .con abo, .con abt, .con abp, .con abo, .con abo, .con tI, .own 3, .own 4], .cells [.con tI, .con tI, .con tI, .con tI, .con tI, .con tI, .con tI, .con tI], .rowv ac9, .rowv aca]⟩, [abv, abo])] }
def auf (ρ : Type) : acI ρ := ⟨[2, 1], 132, 2, aF3, fun (p : Val (.pair tI (.pair abr (.pair tI (.pair abq (.pair tI (.pair tI (.pair tI (.pair tI (.pair abq (.pair abo (.pair abt (.pair abp (.pair abo (.pair tI (.pair tI (.pair abq (.pair abo (.pair abt (.pair abp (.pair abo (.pair abo (.pair tI abD))))))))))))))))))))))) (v : Val (.pair tI asx)) kn kx => am5 p.1 p.2.1 p.2.2.1 p.2.2.2.2.2.2.2.2.2.2.2.2.2.1 p.2.2.2.2.2.2.2.2.2.2.2.2.2.2.1 p.2.2.2.2.2.2.2.2.2.2.2.2.2.2.2.1 p.2.2.2.2.2.2.2.2.2.2.2.2.2.2.2.2.1 p.2.2.2.2.2.2.2.2.2.2.2.2.2.2.2.2.2.1 p.2.2.2.2.2.2.2.2.2.2.2.2.2.2.2.2.2.2.1 p.2.2.2.2.2.2.2.2.2.2.2.2.2.2.2.2.2.2.2.1 p.2.2.2.2.2.2.2.2.2.2.2.2.2.2.2.2.2.2.2.2.2.2.1 p.2.2.2.2.2.2.2.2.2.2.2.2.2.2.2.2.2.2.2.2.2.2.2.1 p.2.2.2.2.2.2.2.2.2.2.2.2.2.2.2.2.2.2.2.2.2.2.2.2.1 p.2.2.2.2.2.2.2.2.2.2.2.2.2.2.2.2.2.2.2.2.2.2.2.2.2.1 p.2.2.2.2.2.2.2.2.2.2.2.2.2.2.2.2.2.2.2.2.2.2.2.2.2.2.1 p.2.2.2.2.2.2.2.2.2.2.2.2.2.2.2.2.2.2.2.2.2.2.2.2.2.2.2.1 p.2.2.2.2.2.2.2.2.2.2.2.2.2.2.2.2.2.2.2.2.2.2.2.2.2.2.2.2.1 p.2.2.2.2.2.2.2.2.2.2.2.2.2.2.2.2.2.2.2.2.2.2.2.2.2.2.2.2.2 v.1 v.2.1 v.2.2 (fun u0 u1 u2 => kn (u0, u1, u2)) (kx 0)⟩
def aF4 : aci := { pin := 2, cs := [abq, tI, tI, tI, abq, abo, abt, abp, abo, tI, tI, abq, abo, abt, abp, abo, abo, tI], vs := [tI, abv, abo], head := ⟨144, .box 1 0 :: aN 30 [.con abq, .con tI, .var tI], [.cells [.con tI, .con tI, .con abq, .con abo, .con abt, .con abp, .con abo], .cells [.con tI, .con tI, .con abq, .con abo, .con abt, .con abp, .con abo, .con abo, .con tI, .own 2, .own 3], .rowv ac9, .rowv aca]⟩, exits := [(.exit 0, ⟨144, .box 1 0 :: aN 30 [.con abq, .con tI], [.cells [.con tI, .con tI, .con abq, .con abo, .con abt, .con abp, .con abo], .cells [.con tI, .con tI, .con abq, .con abo, .con abt, .con abp, .con abo, .con abo, .con tI, .own 2, .own 3], .rowv ac9, .rowv aca]⟩, [abv, abo])] }
def aug (ρ : Type) : acI ρ := ⟨[2, 1], 132, 0, aF4, fun (p : Val (.pair abq (.pair tI (.pair tI (.pair tI (.pair abq (.pair abo (.pair abt (.pair abp (.pair abo (.pair tI (.pair tI (.pair abq (.pair abo (.pair abt (.pair abp (.pair abo (.pair abo tI)))))))))))))))))) (v : Val (.pair tI asx)) kn kx => am6 p.1 p.2.1 p.2.2.2.2.2.2.2.2.2.1 p.2.2.2.2.2.2.2.2.2.2.1 p.2.2.2.2.2.2.2.2.2.2.2.1 p.2.2.2.2.2.2.2.2.2.2.2.2.1 p.2.2.2.2.2.2.2.2.2.2.2.2.2.1 p.2.2.2.2.2.2.2.2.2.2.2.2.2.2.1 p.2.2.2.2.2.2.2.2.2.2.2.2.2.2.2.1 p.2.2.2.2.2.2.2.2.2.2.2.2.2.2.2.2.1 p.2.2.2.2.2.2.2.2.2.2.2.2.2.2.2.2.2 v.1 v.2.1 v.2.2 (fun u0 u1 u2 => kn (u0, u1, u2)) (kx 0)⟩
def aF2 : aci := { pin := 2, cs := [abp, tI, tI, tI, abq, abo, abt, abp, abo, tI, tI, abq, abo, abt, abp, abo, abo, tI], vs := [tI, abv, abo], head := ⟨144, .box 1 0 :: aN 107 [.con abp, .con tI, .var tI], [.cells [.con tI, .con tI, .con abq, .con abo, .con abt, .con abp, .con abo], .cells [.con tI, .con tI, .con abq, .con abo, .con abt, .con abp, .con abo, .con abo, .con tI, .own 2, .own 3], .rowv ac9, .rowv aca]⟩, exits := [(.exit 4, ⟨144, .box 1 0 :: aN 107 [.con abp, .con tI], [.cells [.con tI, .con tI, .con abq, .con abo, .con abt, .con abp, .con abo], .cells [.con tI, .con tI, .con abq, .con abo, .con abt, .con abp, .con abo, .con abo, .con tI, .own 2, .own 3], .rowv ac9, .rowv aca]⟩, [abv, abo])] }
def aue (ρ : Type) : acI ρ := ⟨[2, 1], 132, 4, aF2, fun (p : Val (.pair abp (.pair tI (.pair tI (.pair tI (.pair abq (.pair abo (.pair abt (.pair abp (.pair abo (.pair tI (.pair tI (.pair abq (.pair abo (.pair abt (.pair abp (.pair abo (.pair abo tI)))))))))))))))))) (v : Val (.pair tI asx)) kn kx => am4 p.1 p.2.1 p.2.2.2.2.2.2.2.2.2.1 p.2.2.2.2.2.2.2.2.2.2.1 p.2.2.2.2.2.2.2.2.2.2.2.1 p.2.2.2.2.2.2.2.2.2.2.2.2.1 p.2.2.2.2.2.2.2.2.2.2.2.2.2.1 p.2.2.2.2.2.2.2.2.2.2.2.2.2.2.1 p.2.2.2.2.2.2.2.2.2.2.2.2.2.2.2.1 p.2.2.2.2.2.2.2.2.2.2.2.2.2.2.2.2.1 p.2.2.2.2.2.2.2.2.2.2.2.2.2.2.2.2.2 v.1 v.2.1 v.2.2 (fun u0 u1 u2 => kn (u0, u1, u2)) (kx 0)⟩
def aKZ : List (Nat × acA) := [(54, aMd), (85, asQ), (87, aoo), (88, apQ), (168, aET), (200, aER)]
def axl (ρ : Type) : List (acI ρ) := [auf ρ, aug ρ, aue ρ]
def al8 (ρ : Type) : Env ρ := acE aKZ (axl ρ)
def aed : acA := ⟨[acd], [acm, abo, tI], fun (x : Val acd) => adu x⟩
def aGo : List (Nat × acA) := [(38, ad4), (62, aES)]
def arb (ρ : Type) : List (acI ρ) := []
def axt (ρ : Type) : Env ρ := acE aGo (arb ρ)
def aga : acA := ⟨[acd, aca], [tI, tI], fun (x : Val abV) => ad8 x.1 x.2⟩
def aI0 : List (Nat × acA) := [(38, ad4), (85, asQ), (130, aex)]
def auy (ρ : Type) : List (acI ρ) := []
def aAN (ρ : Type) : Env ρ := acE aI0 (auy ρ)
def agN : acA := ⟨[abB, aca], [tI], fun (x : Val abT) => ae7 x.1 x.2⟩
def aB5 : List (Nat × acA) := [(60, aga)]
def aoD (ρ : Type) : List (acI ρ) := []
def as9 (ρ : Type) : Env ρ := acE aB5 (aoD ρ)
def ayx : acA := ⟨[acm, tI], [.bool], fun (x : Val (.pair acm tI)) => ak3 x.1 x.2⟩
def aKJ : List (Nat × acA) := []
def aw7 (ρ : Type) : List (acI ρ) := []
def aDN (ρ : Type) : Env ρ := acE aKJ (aw7 ρ)
def alF : acA := ⟨[acm], [tI, tI], fun (x : Val acm) => aiN x⟩
def aCF : aci := { pin := 0, cs := [abv, tI, tI, abv], vs := [tI], head := ⟨57, .any :: .box 0 0 :: aN 17 [.con abv, .con tI, .var tI], [.cells [.con tI, .con abv]]⟩, exits := [(.ret, ⟨57, .any :: .box 0 0 :: .var tI :: .var tI :: aN 15 [.con abv, .con tI], [.cells [.con tI, .con abv]]⟩, [tI, tI]), (.exit 0, ⟨57, .any :: .box 0 0 :: aN 17 [.con abv, .con tI], [.cells [.con tI, .con abv]]⟩, [])] }
def aqZ (ρ : Type) : acI ρ := ⟨[], 133, 0, aCF, fun (p : Val (.pair abv abP)) (v : Val tI) kn kx => akO p.1 p.2.1 p.2.2.1 p.2.2.2 v (fun u0 => kn u0) (kx 0) (kx 1)⟩
def aIy : List (Nat × acA) := [(134, ayx)]
def atQ (ρ : Type) : List (acI ρ) := [aqZ ρ]
def arZ (ρ : Type) : Env ρ := acE aIy (atQ ρ)
def aku : acA := ⟨[acm, abx], [abr, .bool], fun (x : Val (.pair acm abx)) => ag7 x.1 x.2⟩
def avR : aci := { pin := 2, cs := [abx, abv, tI, tI, abv, abr, tI, abv, abG, abr], vs := [tI, tI], head := ⟨140, .any :: .con abx :: .own 1 :: .box 2 0 :: .any :: .any :: .any :: .box 3 0 :: .own 4 :: .own 5 :: .var tI :: aN 14 [.con abv, .con tI, .var tI], [.cells [.con tI, .con abv], .rowc tI, .cells [.con tI, .con abv], .cells [.nils], .rowc .bool, .rowc tI]⟩, exits := [(.exit 0, ⟨140, .any :: .con abx :: .own 1 :: .box 2 0 :: .any :: .any :: .any :: .box 3 0 :: .own 4 :: .own 5 :: .var tI :: aN 14 [.con abv, .con tI], [.cells [.con tI, .con abv], .rowc tI, .cells [.con tI, .con abv], .cells [.nils], .rowc .bool, .rowc tI]⟩, [tI])] }
def al5 (ρ : Type) : acI ρ := ⟨[2, 3], 136, 0, avR, fun (p : Val (.pair abx (.pair abv (.pair tI (.pair tI (.pair abv (.pair abr (.pair tI (.pair abv abN))))))))) (v : Val aca) kn kx => afq p.2.1 p.2.2.1 v.1 v.2 (fun u0 u1 => kn (u0, u1)) (kx 0)⟩
def avQ : aci := { pin := 2, cs := [abx, tI, tI, tI, abv, abr, tI, abv, abr], vs := [tI, abG, abr], head := ⟨140, .any :: .con abx :: .own 1 :: .box 2 0 :: .any :: .any :: .any :: .box 3 0 :: .own 4 :: .own 5 :: .con tI :: aN 27 [.con tI, .var tI], [.cells [.con tI, .con abv], .rowc tI, .cells [.con tI, .con abv], .cells [.own 6], .rowv .bool, .rowc tI, .rowv tI]⟩, exits := [(.exit 2, ⟨140, .any :: .con abx :: .own 1 :: .box 2 0 :: .any :: .any :: .any :: .box 3 0 :: .own 4 :: .own 5 :: .con tI :: aN 27 [.con tI], [.cells [.con tI, .con abv], .rowc tI, .cells [.con tI, .con abv], .cells [.own 6], .rowv .bool, .rowc tI, .rowv tI]⟩, [abG, abr])] }
def al4 (ρ : Type) : acI ρ := ⟨[2, 3], 136, 2, avQ, fun (p : Val (.pair abx (.pair tI (.pair tI (.pair tI (.pair abv (.pair abr (.pair tI (.pair abv abr))))))))) (v : Val (.pair tI abN)) kn kx => ad7 p.2.2.1 p.2.2.2.2.2.1 v.1 v.2.1 v.2.2 (fun u0 u1 u2 => kn (u0, u1, u2)) (kx 0)⟩
def avO : aci := { pin := 2, cs := [abx, tI, tI, abv, tI, tI, abv, tI, abv, abr], vs := [tI, abr, abG, abr], head := ⟨140, .any :: .con abx :: .own 1 :: .box 2 0 :: .any :: .any :: .any :: .box 3 0 :: .own 4 :: .own 5 :: .con tI :: .any :: .any :: .any :: .con tI :: aN 62 [.con abv, .con tI, .var tI], [.cells [.con tI, .con abv], .rowv tI, .cells [.con tI, .con abv], .cells [.own 6], .rowv .bool, .rowc tI, .rowv tI]⟩, exits := [(.ret, ⟨140, .any :: .con abx :: .own 1 :: .box 2 0 :: .any :: .any :: .var .bool :: .box 3 0 :: .own 4 :: .own 5 :: .con tI :: .any :: .any :: .any :: .con tI :: aN 62 [.con abv, .con tI], [.cells [.con tI, .con abv], .rowv tI, .cells [.con tI, .con abv], .cells [.own 6], .rowv .bool, .rowc tI, .rowv tI]⟩, [.bool, abr, abG, abr]), (.exit 6, ⟨140, .any :: .con abx :: .own 1 :: .box 2 0 :: .any :: .any :: .any :: .box 3 0 :: .own 4 :: .own 5 :: .con tI :: .any :: .any :: .any :: .con tI :: aN 62 [.con abv, .con tI], [.cells [.con tI, .con abv], .rowv tI, .cells [.con tI, .con abv], .cells [.own 6], .rowv .bool, .rowc tI, .rowv tI]⟩, [abr, abG, abr])] }
def al2 (ρ : Type) : acI ρ := ⟨[2, 3], 136, 6, avO, fun (p : Val (.pair abx (.pair tI (.pair tI (.pair abv (.pair tI (.pair tI (.pair abv (.pair tI (.pair abv abr)))))))))) (v : Val (.pair tI ab3)) kn kx => agc p.1 p.2.1 p.2.2.1 p.2.2.2.1 p.2.2.2.2.1 v.1 v.2.1 v.2.2.1 v.2.2.2 (fun u0 u1 u2 u3 => kn (u0, u1, u2, u3)) (kx 0) (kx 1)⟩
def avP : aci := { pin := 2, cs := [abx, tI, tI, abv, tI, abv], vs := [abr, abG, abr, abr], head := ⟨140, [.any, .con abx, .own 1, .box 2 0, .any, .any, .any, .box 3 0, .own 4, .own 5, .con tI], [.cells [.con tI, .con abv], .rowv tI, .cells [.con tI, .con abv], .cells [.own 6], .rowv .bool, .rowv tI, .rowv tI]⟩, exits := [(.ret, ⟨140, [.any, .con abx, .own 1, .box 2 0, .any, .any, .var .bool, .box 3 0, .own 4, .own 5, .con tI], [.cells [.con tI, .con abv], .rowv tI, .cells [.con tI, .con abv], .cells [.own 6], .rowv .bool, .rowv tI, .rowv tI]⟩, [.bool, abr, abG, abr, abr])] }
def al3 (ρ : Type) : acI ρ := ⟨[2, 3], 136, 4, avP, fun (p : Val (.pair abx (.pair tI (.pair tI (.pair abv acm))))) (v : Val abQ) kn kx => ady p.1 p.2.1 p.2.2.2.2.1 p.2.2.2.2.2 v.1 v.2.1 v.2.2.1 v.2.2.2 (fun u0 u1 u2 u3 => kn (u0, u1, u2, u3)) (kx 0)⟩
def avN : aci := { pin := 0, cs := [tI, tI], vs := [tI, abr], head := ⟨34, aN 6 (.own 0 :: .con tI :: aN 13 [.con tI, .var tI]), [.rowv tI]⟩, exits := [(.exit 0, ⟨34, aN 6 (.own 0 :: .con tI :: aN 13 [.con tI]), [.rowv tI]⟩, [abr])] }
def al1 (ρ : Type) : acI ρ := ⟨[], 135, 0, avN, fun (p : Val aca) (v : Val abE) kn kx => agb p.1 p.2 v.1 v.2 (fun u0 u1 => kn (u0, u1)) (kx 0)⟩
def azT : List (Nat × acA) := []
def anU (ρ : Type) : List (acI ρ) := [al5 ρ, al4 ρ, al2 ρ, al3 ρ, al1 ρ]
def ae3 (ρ : Type) : Env ρ := acE azT (anU ρ)
def aHP : acA := ⟨[acm, abr], [tI], fun (x : Val ab4) => auT x.1 x.2⟩
def aCz : aci := { pin := 0, cs := [abr, tI, tI, abv], vs := [tI], head := ⟨37, .any :: .any :: .box 0 0 :: aN 16 [.con abr, .con tI, .var tI], [.cells [.con tI, .con abv]]⟩, exits := [(.ret, ⟨37, .any :: .any :: .box 0 0 :: .any :: .var tI :: aN 14 [.con abr, .con tI], [.cells [.con tI, .con abv]]⟩, [tI]), (.exit 0, ⟨37, .any :: .any :: .box 0 0 :: aN 16 [.con abr, .con tI], [.cells [.con tI, .con abv]]⟩, [])] }
def aqT (ρ : Type) : acI ρ := ⟨[], 63, 0, aCz, fun (p : Val (.pair abr abP)) (v : Val tI) kn kx => akM p.1 p.2.1 p.2.2.1 p.2.2.2 v (fun u0 => kn u0) (kx 0) (kx 1)⟩
def aIw : List (Nat × acA) := [(133, alF), (134, ayx), (135, aku)]
def atM (ρ : Type) : List (acI ρ) := [aqT ρ]
def arY (ρ : Type) : Env ρ := acE aIw (atM ρ)
def aDA : acA := ⟨[acm, abx, tI], [abr], fun (x : Val (.pair acm (.pair abx tI))) => ap7 x.1 x.2.1 x.2.2⟩
def az0 : aci := { pin := 0, cs := [abx, tI, tI, tI, abv], vs := [tI, abr], head := ⟨29, .any :: .con abx :: .con tI :: .box 0 0 :: .any :: .any :: .any :: .own 1 :: aN 5 [.con tI, .var tI], [.cells [.con tI, .con abv], .rowv tI]⟩, exits := [(.exit 0, ⟨29, .any :: .con abx :: .con tI :: .box 0 0 :: .any :: .any :: .any :: .own 1 :: aN 5 [.con tI], [.cells [.con tI, .con abv], .rowv tI]⟩, [abr])] }
def aoX (ρ : Type) : acI ρ := ⟨[], 64, 0, az0, fun (p : Val (.pair abx (.pair tI abP))) (v : Val abE) kn kx => aji p.2.2.1 v.1 v.2 (fun u0 u1 => kn (u0, u1)) (kx 0)⟩
def azZ : aci := { pin := 2, cs := [abx, abv, tI, tI, abv, abr, tI, abv, abG, abr], vs := [tI, tI], head := ⟨140, .any :: .con abx :: .own 1 :: .box 2 0 :: .any :: .any :: .any :: .box 3 0 :: .own 4 :: .own 5 :: .var tI :: aN 14 [.con abv, .con tI, .var tI], [.cells [.con tI, .con abv], .rowc tI, .cells [.con tI, .con abv], .cells [.nils], .rowc .bool, .rowc tI]⟩, exits := [(.exit 0, ⟨140, .any :: .con abx :: .own 1 :: .box 2 0 :: .any :: .any :: .any :: .box 3 0 :: .own 4 :: .own 5 :: .var tI :: aN 14 [.con abv, .con tI], [.cells [.con tI, .con abv], .rowc tI, .cells [.con tI, .con abv], .cells [.nils], .rowc .bool, .rowc tI]⟩, [tI])] }
def aoW (ρ : Type) : acI ρ := ⟨[8, 3], 136, 0, azZ, fun (p : Val (.pair abx (.pair abv (.pair tI (.pair tI (.pair abv (.pair abr (.pair tI (.pair abv abN))))))))) (v : Val aca) kn kx => amY p.2.1 p.2.2.1 v.1 v.2 (fun u0 u1 => kn (u0, u1)) (kx 0)⟩
def azY : aci := { pin := 2, cs := [abx, tI, tI, tI, abv, abr, tI, abv, abr], vs := [tI, abG, abr], head := ⟨140, .any :: .con abx :: .own 1 :: .box 2 0 :: .any :: .any :: .any :: .box 3 0 :: .own 4 :: .own 5 :: .con tI :: aN 27 [.con tI, .var tI], [.cells [.con tI, .con abv], .rowc tI, .cells [.con tI, .con abv], .cells [.own 6], .rowv .bool, .rowc tI, .rowv tI]⟩, exits := [(.exit 2, ⟨140, .any :: .con abx :: .own 1 :: .box 2 0 :: .any :: .any :: .any :: .box 3 0 :: .own 4 :: .own 5 :: .con tI :: aN 27 [.con tI], [.cells [.con tI, .con abv], .rowc tI, .cells [.con tI, .con abv], .cells [.own 6], .rowv .bool, .rowc tI, .rowv tI]⟩, [abG, abr])] }
def aoV (ρ : Type) : acI ρ := ⟨[8, 3], 136, 2, azY, fun (p : Val (.pair abx (.pair tI (.pair tI (.pair tI (.pair abv (.pair abr (.pair tI (.pair abv abr))))))))) (v : Val (.pair tI abN)) kn kx => amX p.2.2.1 p.2.2.2.2.2.1 v.1 v.2.1 v.2.2 (fun u0 u1 u2 => kn (u0, u1, u2)) (kx 0)⟩
def azW : aci := { pin := 2, cs := [abx, tI, tI, abv, tI, tI, abv, tI, abv, abr], vs := [tI, abr, abG, abr], head := ⟨140, .any :: .con abx :: .own 1 :: .box 2 0 :: .any :: .any :: .any :: .box 3 0 :: .own 4 :: .own 5 :: .con tI :: .any :: .any :: .any :: .con tI :: aN 62 [.con abv, .con tI, .var tI], [.cells [.con tI, .con abv], .rowv tI, .cells [.con tI, .con abv], .cells [.own 6], .rowv .bool, .rowc tI, .rowv tI]⟩, exits := [(.ret, ⟨140, .any :: .con abx :: .own 1 :: .box 2 0 :: .any :: .any :: .var .bool :: .box 3 0 :: .own 4 :: .own 5 :: .con tI :: .any :: .any :: .any :: .con tI :: aN 62 [.con abv, .con tI], [.cells [.con tI, .con abv], .rowv tI, .cells [.con tI, .con abv], .cells [.own 6], .rowv .bool, .rowc tI, .rowv tI]⟩, [.bool, abr, abG, abr]), (.exit 6, ⟨140, .any :: .con abx :: .own 1 :: .box 2 0 :: .any :: .any :: .any :: .box 3 0 :: .own 4 :: .own 5 :: .con tI :: .any :: .any :: .any :: .con tI :: aN 62 [.con abv, .con tI], [.cells [.con tI, .con abv], .rowv tI, .cells [.con tI, .con abv], .cells [.own 6], .rowv .bool, .rowc tI, .rowv tI]⟩, [abr, abG, abr])] }
def aoT (ρ : Type) : acI ρ := ⟨[8, 3], 136, 6, azW, fun (p : Val (.pair abx (.pair tI (.pair tI (.pair abv (.pair tI (.pair tI (.pair abv (.pair tI (.pair abv abr)))))))))) (v : Val (.pair tI ab3)) kn kx => atL p.1 p.2.1 p.2.2.1 p.2.2.2.1 p.2.2.2.2.1 v.1 v.2.1 v.2.2.1 v.2.2.2 (fun u0 u1 u2 u3 => kn (u0, u1, u2, u3)) (kx 0) (kx 1)⟩
def azX : aci := { pin := 2, cs := [abx, tI, tI, abv, tI, abv], vs := [abr, abG, abr, abr], head := ⟨140, [.any, .con abx, .own 1, .box 2 0, .any, .any, .any, .box 3 0, .own 4, .own 5, .con tI], [.cells [.con tI, .con abv], .rowv tI, .cells [.con tI, .con abv], .cells [.own 6], .rowv .bool, .rowv tI, .rowv tI]⟩, exits := [(.ret, ⟨140, [.any, .con abx, .own 1, .box 2 0, .any, .any, .var .bool, .box 3 0, .own 4, .own 5, .con tI], [.cells [.con tI, .con abv], .rowv tI, .cells [.con tI, .con abv], .cells [.own 6], .rowv .bool, .rowv tI, .rowv tI]⟩, [.bool, abr, abG, abr, abr])] }
def aoU (ρ : Type) : acI ρ := ⟨[8, 3], 136, 4, azX, fun (p : Val (.pair abx (.pair tI (.pair tI (.pair abv acm))))) (v : Val abQ) kn kx => amW p.1 p.2.1 p.2.2.2.2.1 p.2.2.2.2.2 v.1 v.2.1 v.2.2.1 v.2.2.2 (fun u0 u1 u2 u3 => kn (u0, u1, u2, u3)) (kx 0)⟩
def aFJ : List (Nat × acA) := []
def aqS (ρ : Type) : List (acI ρ) := [aoX ρ, aoW ρ, aoV ρ, aoT ρ, aoU ρ]
def agd (ρ : Type) : Env ρ := acE aFJ (aqS ρ)
def asM : acA := ⟨[acm, tI, tI], [tI, tI], fun (x : Val ab1) => akg x.1 x.2.1 x.2.2⟩
def aIA : List (Nat × acA) := [(63, aHP), (64, aDA)]
def atV (ρ : Type) : List (acI ρ) := []
def aAf (ρ : Type) : Env ρ := acE aIA (atV ρ)
def agB : acA := ⟨[abB, tI, tI], [tI], fun (x : Val abT) => ac3 x.1 x.2.1 x.2.2⟩
def avv : List (Nat × acA) := [(89, asM)]
def akD (ρ : Type) : List (acI ρ) := []
def anM (ρ : Type) : Env ρ := acE avv (akD ρ)
def ak8 : acA := ⟨[abB, aca], [tI], fun (x : Val abT) => ae6 x.1 x.2⟩
def avu : List (Nat × acA) := [(55, agN), (56, agB)]
def akC (ρ : Type) : List (acI ρ) := []
def anL (ρ : Type) : Env ρ := acE avu (akC ρ)
def ahT : acA := ⟨[abB, aca], [tI], fun (x : Val abT) => afu x.1 x.2⟩
def aqs : List (Nat × acA) := [(55, agN), (56, agB)]
def aiB (ρ : Type) : List (acI ρ) := []
def ajX (ρ : Type) : Env ρ := acE aqs (aiB ρ)
def agl : acA := ⟨[abB, aca], [aca], fun (x : Val abT) => aet x.1 x.2⟩
def aqr : List (Nat × acA) := [(121, ak8), (122, ahT)]
def aiA (ρ : Type) : List (acI ρ) := []
def agS (ρ : Type) : Env ρ := { acE aqr (aiA ρ) with hint := awn [(12, 121), (16, 122)] }
def ajg : acA := ⟨[acd, aca], [acd, tI], fun (x : Val abV) => ags x.1 x.2⟩
def aGq : aci := { pin := 6, cs := [tI, tI, tI, abq, abo, abt, abp, abo, tI, tI, tI, tI, tI, tI, abq, abo, abt, abp, abo, tI, tI, tI, tI, abp, tI, tI, abq, abo, abt, abo], vs := [tI, abp], head := ⟨50, .any :: .box 6 0 :: .box 7 0 :: .own 8 :: aN 21 [.own 8, .con tI, .var tI], [.cells [.con tI, .con tI, .con abq, .con abo, .con abt, .con abp, .con abo], .cells [.con tI, .con tI], .cells [.con tI, .con tI, .nils, .nils, .nils, .nils, .nils], .cells [.con tI, .con tI, .con abq, .con abo, .con abt, .con abp, .con abo], .cells [.con tI, .con tI, .nils, .nils, .nils, .nils, .nils], .dead, .cells [.con tI, .con tI, .own 9, .own 10, .own 11, .con abp, .own 12], .cells [.con tI, .con tI, .nils, .nils, .nils, .nils, .nils], .rowv acj, .rowc acl, .rowc aca, .rowc adH, .rowc aca]⟩, exits := [(.exit 0, ⟨50, .any :: .box 6 0 :: .box 7 0 :: .own 8 :: aN 21 [.own 8, .con tI], [.cells [.con tI, .con tI, .con abq, .con abo, .con abt, .con abp, .con abo], .cells [.con tI, .con tI], .cells [.con tI, .con tI, .nils, .nils, .nils, .nils, .nils], .cells [.con tI, .con tI, .con abq, .con abo, .con abt, .con abp, .con abo], .cells [.con tI, .con tI, .nils, .nils, .nils, .nils, .nils], .dead, .cells [.con tI, .con tI, .own 9, .own 10, .own 11, .con abp, .own 12], .cells [.con tI, .con tI, .nils, .nils, .nils, .nils, .nils], .rowv acj, .rowc acl, .rowc aca, .rowc adH, .rowc aca]⟩, [abp])] }
def auw (ρ : Type) : acI ρ := ⟨[1, 2, 4, 1], 175, 0, aGq, fun (p : Val (.pair tI (.pair tI (.pair tI (.pair abq (.pair abo (.pair abt (.pair abp (.pair abo (.pair tI (.pair tI (.pair tI (.pair tI (.pair tI (.pair tI (.pair abq (.pair abo (.pair abt (.pair abp (.pair abo (.pair tI (.pair tI (.pair tI (.pair tI (.pair abp (.pair tI (.pair tI (.pair abq (.pair abo (.pair abt abo)))))))))))))))))))))))))))))) (v : Val (.pair tI abp)) kn kx => ang p.1 v.1 v.2 (fun u0 u1 => kn (u0, u1)) (kx 0)⟩
def aK6 : List (Nat × acA) := [(38, ad4)]
def axv (ρ : Type) : List (acI ρ) := [auw ρ]
def awb (ρ : Type) : Env ρ := acE aK6 (axv ρ)
def ad0 : acA := ⟨[acm], [.bool, tI], fun (x : Val acm) => adc x⟩
def avV : List (Nat × acA) := [(133, alF), (135, aku)]
def akN (ρ : Type) : List (acI ρ) := []
def anW (ρ : Type) : Env ρ := acE avV (akN ρ)
def aon : acA := ⟨[acd, aca], [aca, tI], fun (x : Val abV) => ag6 x.1 x.2⟩
def avF : aci := { pin := 4, cs := [tI, tI, tI, abq, abo, abt, abp, abo, tI, tI, tI, tI, abo], vs := [tI, tI, tI, abq, abo, abt, abp, abo], head := ⟨68, .any :: .any :: .box 4 0 :: aN 20 [.own 3, .con tI, .var tI], [.cells [.con tI, .con tI, .con abq, .con abo, .con abt, .con abp, .con abo], .cells [.con tI, .con tI], .cells [.con tI, .con tI], .rowc aca, .cells [.var tI, .var tI, .var abq, .var abo, .var abt, .var abp, .var abo]]⟩, exits := [(.ret, ⟨68, .any :: .any :: .box 4 0 :: .any :: .nilp :: .var tI :: aN 17 [.own 3, .con tI], [.cells [.con tI, .con tI, .con abq, .con abo, .con abt, .con abp, .con abo], .cells [.con tI, .con tI], .cells [.con tI, .con tI], .rowc aca, .cells [.var tI, .var tI, .var abq, .var abo, .var abt, .var abp, .var abo]]⟩, [tI, tI, tI, abq, abo, abt, abp, abo]), (.exit 0, ⟨68, .any :: .any :: .box 4 0 :: aN 20 [.own 3, .con tI], [.cells [.con tI, .con tI, .con abq, .con abo, .con abt, .con abp, .con abo], .cells [.con tI, .con tI], .cells [.con tI, .con tI], .rowc aca, .cells [.var tI, .var tI, .var abq, .var abo, .var abt, .var abp, .var abo]]⟩, [tI, tI, abq, abo, abt, abp, abo])] }
def alX (ρ : Type) : acI ρ := ⟨[1, 3], 50, 0, avF, fun (p : Val (.pair tI (.pair tI (.pair tI (.pair abq (.pair abo (.pair abt (.pair abp (.pair abo (.pair tI (.pair tI abS))))))))))) (v : Val abH) kn kx => ac2 p.1 p.2.2.2.2.2.2.2.2.2.2.2.2 v.1 v.2.1 v.2.2.1 v.2.2.2.1 v.2.2.2.2.1 v.2.2.2.2.2.1 v.2.2.2.2.2.2.1 v.2.2.2.2.2.2.2 (fun u0 u1 u2 u3 u4 u5 u6 u7 => kn (u0, u1, u2, u3, u4, u5, u6, u7)) (kx 0) (kx 1)⟩
def azO : List (Nat × acA) := [(20, aed), (38, ad4), (51, agl), (60, aga), (61, ajg), (123, ad0)]
def anP (ρ : Type) : List (acI ρ) := [alX ρ]
def alg (ρ : Type) : Env ρ := acE azO (anP ρ)
def azh : acA := ⟨[acd, aca, aca], [aca, tI], fun (x : Val (.pair acd acZ)) => anp x.1 x.2.1 x.2.2⟩
def ax6 : aci := { pin := 5, cs := [tI, tI, tI, abq, abo, abt, abp, abo, tI, tI, tI, tI, tI, tI, abo], vs := [tI, tI, tI, abq, abo, abt, abp, abo], head := ⟨68, .any :: .any :: .box 5 0 :: aN 20 [.own 4, .con tI, .var tI], [.cells [.con tI, .con tI, .con abq, .con abo, .con abt, .con abp, .con abo], .cells [.con tI, .con tI], .cells [.con tI, .con tI], .cells [.con tI, .con tI], .rowc aca, .cells [.var tI, .var tI, .var abq, .var abo, .var abt, .var abp, .var abo]]⟩, exits := [(.ret, ⟨68, .any :: .any :: .box 5 0 :: .any :: .nilp :: .var tI :: aN 17 [.own 4, .con tI], [.cells [.con tI, .con tI, .con abq, .con abo, .con abt, .con abp, .con abo], .cells [.con tI, .con tI], .cells [.con tI, .con tI], .cells [.con tI, .con tI], .rowc aca, .cells [.var tI, .var tI, .var abq, .var abo, .var abt, .var abp, .var abo]]⟩, [tI, tI, tI, abq, abo, abt, abp, abo]), (.exit 0, ⟨68, .any :: .any :: .box 5 0 :: aN 20 [.own 4, .con tI], [.cells [.con tI, .con tI, .con abq, .con abo, .con abt, .con abp, .con abo], .cells [.con tI, .con tI], .cells [.con tI, .con tI], .cells [.con tI, .con tI], .rowc aca, .cells [.var tI, .var tI, .var abq, .var abo, .var abt, .var abp, .var abo]]⟩, [tI, tI, abq, abo, abt, abp, abo])] }
def anT (ρ : Type) : acI ρ := ⟨[1, 4], 50, 0, ax6, fun (p : Val (.pair tI (.pair tI (.pair tI (.pair abq (.pair abo (.pair abt (.pair abp (.pair abo (.pair tI (.pair tI (.pair tI (.pair tI abS))))))))))))) (v : Val abH) kn kx => alk p.1 p.2.2.2.2.2.2.2.2.2.2.2.2.2.2 v.1 v.2.1 v.2.2.1 v.2.2.2.1 v.2.2.2.2.1 v.2.2.2.2.2.1 v.2.2.2.2.2.2.1 v.2.2.2.2.2.2.2 (fun u0 u1 u2 u3 u4 u5 u6 u7 => kn (u0, u1, u2, u3, u4, u5, u6, u7)) (kx 0) (kx 1)⟩
def aCs : List (Nat × acA) := [(20, aed), (38, ad4), (55, agN), (56, agB), (60, aga), (61, ajg), (123, ad0)]
def aoQ (ρ : Type) : List (acI ρ) := [anT ρ]
def amS (ρ : Type) : Env ρ := acE aCs (aoQ ρ)
def avn : acA := ⟨[abr, abr], [abr, abr, tI], fun (x : Val (.pair abr abr)) => amn x.1 x.2⟩
def aGt : List (Nat × acA) := [(88, apQ), (198, avl)]
def arc (ρ : Type) : List (acI ρ) := []
def axw (ρ : Type) : Env ρ := acE aGt (arc ρ)
def aL9 : acA := ⟨[abr, tI], [.bool], fun (x : Val abK) => ayK x.1 x.2⟩
def aKB : List (Nat × acA) := [(129, avn)]
def awW (ρ : Type) : List (acI ρ) := []
def aDM (ρ : Type) : Env ρ := acE aKB (awW ρ)
def aHM : acA := ⟨[tI], [.bool], fun (x : Val tI) => auP x⟩
def aIg : List (Nat × acA) := []
def atl (ρ : Type) : List (acI ρ) := []
def azF (ρ : Type) : Env ρ := acE aIg (atl ρ)
def aHL : acA := ⟨[tI, abz], [abo], fun (x : Val (.pair tI abz)) => auO x.1 x.2⟩
def aCg : aci := { pin := 0, cs := [tI, abr, tI], vs := [tI, abo], head := ⟨23, .con tI :: aN 4 [.own 0, .any, .any, .any, .con abr, .con tI, .var tI], [.rowv aca]⟩, exits := [(.exit 0, ⟨23, .con tI :: aN 4 [.own 0, .any, .any, .any, .con abr, .con tI], [.rowv aca]⟩, [abo])] }
def aqJ (ρ : Type) : acI ρ := ⟨[], 59, 0, aCg, fun (p : Val (.pair tI abK)) (v : Val abI) kn kx => akE p.1 p.2.1 p.2.2 v.1 v.2 (fun u0 u1 => kn (u0, u1)) (kx 0)⟩
def aIf : List (Nat × acA) := [(94, aec)]
def atk (ρ : Type) : List (acI ρ) := [aqJ ρ]
def arO (ρ : Type) : Env ρ := acE aIf (atk ρ)
def aMb : acA := ⟨[acd, tI, abr], [aca, tI], fun (x : Val (.pair acd abE)) => ayL x.1 x.2.1 x.2.2⟩
def aFy : aci := { pin := 3, cs := [abo, tI, tI, tI, abq, abo, abt, abp, abo, tI, tI, abz], vs := [tI, tI, tI, abq, abo, abt, abp, abo], head := ⟨68, .any :: .any :: .box 3 0 :: aN 20 [.con abo, .con tI, .var tI], [.cells [.con tI, .con tI, .con abq, .con abo, .con abt, .con abp, .con abo], .cells [.con tI, .con tI], .rowf abr 0, .cells [.var tI, .var tI, .var abq, .var abo, .var abt, .var abp, .var abo]]⟩, exits := [(.ret, ⟨68, .any :: .any :: .box 3 0 :: .any :: .nilp :: .var tI :: aN 17 [.con abo, .con tI], [.cells [.con tI, .con tI, .con abq, .con abo, .con abt, .con abp, .con abo], .cells [.con tI, .con tI], .rowf abr 0, .cells [.var tI, .var tI, .var abq, .var abo, .var abt, .var abp, .var abo]]⟩, [tI, tI, tI, abq, abo, abt, abp, abo]), (.exit 0, ⟨68, .any :: .any :: .box 3 0 :: aN 20 [.con abo, .con tI], [.cells [.con tI, .con tI, .con abq, .con abo, .con abt, .con abp, .con abo], .cells [.con tI, .con tI], .rowf abr 0, .cells [.var tI, .var tI, .var abq, .var abo, .var abt, .var abp, .var abo]]⟩, [tI, tI, abq, abo, abt, abp, abo])] }
def atv (ρ : Type) : acI ρ := ⟨[7, 2], 50, 0, aFy, fun (p : Val (.pair abo (.pair tI (.pair tI (.pair tI (.pair abq (.pair abo (.pair abt (.pair abp (.pair abo (.pair tI (.pair tI abz)))))))))))) (v : Val abH) kn kx => amP p.1 p.2.1 v.1 v.2.1 v.2.2.1 v.2.2.2.1 v.2.2.2.2.1 v.2.2.2.2.2.1 v.2.2.2.2.2.2.1 v.2.2.2.2.2.2.2 (fun u0 u1 u2 u3 u4 u5 u6 u7 => kn (u0, u1, u2, u3, u4, u5, u6, u7)) (kx 0) (kx 1)⟩
def aFx : aci := { pin := 0, cs := [abB, abo, tI, tI, tI], vs := [tI, tI, tI], head := ⟨87, aN 6 (.box 0 0 :: .any :: .any :: .any :: .con abB :: .any :: .any :: .box 1 0 :: aN 51 [.con abo, .con tI, .var tI]), [.cells [.con tI, .con tI], .cells [.var tI, .var tI]]⟩, exits := [(.exit 0, ⟨87, aN 6 (.box 0 0 :: .any :: .any :: .any :: .con abB :: .any :: .any :: .box 1 0 :: aN 51 [.con abo, .con tI]), [.cells [.con tI, .con tI], .cells [.var tI, .var tI]]⟩, [tI, tI])] }
def atu (ρ : Type) : acI ρ := ⟨[], 18, 0, aFx, fun (p : Val (.pair abB (.pair abo ac9))) (v : Val ac9) kn kx => amO p.1 p.2.1 p.2.2.1 v.1 v.2.1 v.2.2 (fun u0 u1 u2 => kn (u0, u1, u2)) (kx 0)⟩
def aKG : List (Nat × acA) := [(20, aed), (38, ad4), (51, agl), (57, aL9), (58, aHM), (59, aHL), (60, aga), (61, ajg), (123, ad0)]
def aw4 (ρ : Type) : List (acI ρ) := [atv ρ, atu ρ]
def apV (ρ : Type) : Env ρ := acE aKG (aw4 ρ)
def arv : acA := ⟨[aca, aca], [tI], fun (x : Val acZ) => akc x.1 x.2⟩
def aB3 : List (Nat × acA) := []
def aoz (ρ : Type) : List (acI ρ) := []
def as6 (ρ : Type) : Env ρ := acE aB3 (aoz ρ)
def aHN : acA := ⟨[acd, aca, aca], [tI, tI], fun (x : Val (.pair acd acZ)) => auQ x.1 x.2.1 x.2.2⟩
def aCq : aci := { pin := 4, cs := [tI, tI, tI, abq, abo, abt, abp, abo, tI, tI, tI, tI, abo], vs := [tI, tI, tI, abq, abo, abt, abp, abo], head := ⟨68, .any :: .any :: .box 4 0 :: aN 20 [.own 3, .con tI, .var tI], [.cells [.con tI, .con tI, .con abq, .con abo, .con abt, .con abp, .con abo], .cells [.con tI, .con tI], .cells [.con tI, .con tI], .rowc aca, .cells [.var tI, .var tI, .var abq, .var abo, .var abt, .var abp, .var abo]]⟩, exits := [(.ret, ⟨68, .any :: .any :: .box 4 0 :: .any :: .nilp :: .var tI :: aN 17 [.own 3, .con tI], [.cells [.con tI, .con tI, .con abq, .con abo, .con abt, .con abp, .con abo], .cells [.con tI, .con tI], .cells [.con tI, .con tI], .rowc aca, .cells [.var tI, .var tI, .var abq, .var abo, .var abt, .var abp, .var abo]]⟩, [tI, tI, tI, abq, abo, abt, abp, abo]), (.exit 0, ⟨68, .any :: .any :: .box 4 0 :: aN 20 [.own 3, .con tI], [.cells [.con tI, .con tI, .con abq, .con abo, .con abt, .con abp, .con abo], .cells [.con tI, .con tI], .cells [.con tI, .con tI], .rowc aca, .cells [.var tI, .var tI, .var abq, .var abo, .var abt, .var abp, .var abo]]⟩, [tI, tI, abq, abo, abt, abp, abo])] }
def aqR (ρ : Type) : acI ρ := ⟨[1, 3], 50, 0, aCq, fun (p : Val (.pair tI (.pair tI (.pair tI (.pair abq (.pair abo (.pair abt (.pair abp (.pair abo (.pair tI (.pair tI abS))))))))))) (v : Val abH) kn kx => aoL p.1 p.2.2.2.2.2.2.2.2.2.2.2.2 v.1 v.2.1 v.2.2.1 v.2.2.2.1 v.2.2.2.2.1 v.2.2.2.2.2.1 v.2.2.2.2.2.2.1 v.2.2.2.2.2.2.2 (fun u0 u1 u2 u3 u4 u5 u6 u7 => kn (u0, u1, u2, u3, u4, u5, u6, u7)) (kx 0) (kx 1)⟩
def aIq : List (Nat × acA) := [(20, aed), (38, ad4), (51, agl), (60, aga), (61, ajg), (69, arv), (123, ad0)]
def atw (ρ : Type) : List (acI ρ) := [aqR ρ]
def arT (ρ : Type) : Env ρ := acE aIq (atw ρ)
def aEV : acA := ⟨[acd, acj], [acd, tI], fun (x : Val abM) => ajq x.1 x.2⟩
def aGm : aci := { pin := 8, cs := [tI, tI, tI, abq, abo, abt, abp, abo, tI, tI, abr, abr, tI, tI, tI, tI, tI, tI, tI, tI, abq, abo, abt, abp, abo, tI, tI, tI, tI, abp, tI, tI, abq, abo, abt, abo], vs := [tI, abp], head := ⟨50, .any :: .box 8 0 :: .box 9 0 :: .own 10 :: aN 21 [.own 10, .con tI, .var tI], [.cells [.con tI, .con tI, .con abq, .con abo, .con abt, .con abp, .con abo], .cells [.con tI, .con tI, .con abr, .con abr, .con tI, .con tI, .con tI, .con tI], .cells [.con tI, .con tI, .nils, .nils, .nils, .nils, .nils], .dead, .dead, .cells [.con tI, .con tI, .con abq, .con abo, .con abt, .con abp, .con abo], .cells [.con tI, .con tI, .nils, .nils, .nils, .nils, .nils], .dead, .cells [.con tI, .con tI, .own 11, .own 12, .own 13, .con abp, .own 14], .cells [.con tI, .con tI, .nils, .nils, .nils, .nils, .nils], .rowv acj, .rowc acl, .rowc aca, .rowc adH, .rowc aca]⟩, exits := [(.exit 0, ⟨50, .any :: .box 8 0 :: .box 9 0 :: .own 10 :: aN 21 [.own 10, .con tI], [.cells [.con tI, .con tI, .con abq, .con abo, .con abt, .con abp, .con abo], .cells [.con tI, .con tI, .con abr, .con abr, .con tI, .con tI, .con tI, .con tI], .cells [.con tI, .con tI, .nils, .nils, .nils, .nils, .nils], .dead, .dead, .cells [.con tI, .con tI, .con abq, .con abo, .con abt, .con abp, .con abo], .cells [.con tI, .con tI, .nils, .nils, .nils, .nils, .nils], .dead, .cells [.con tI, .con tI, .own 11, .own 12, .own 13, .con abp, .own 14], .cells [.con tI, .con tI, .nils, .nils, .nils, .nils, .nils], .rowv acj, .rowc acl, .rowc aca, .rowc adH, .rowc aca]⟩, [abp])] }
def auu (ρ : Type) : acI ρ := ⟨[2, 2, 4, 1], 175, 0, aGm, fun (p : Val (.pair tI (.pair tI (.pair tI (.pair abq (.pair abo (.pair abt (.pair abp (.pair abo (.pair tI (.pair tI (.pair abr (.pair abr (.pair tI (.pair tI (.pair tI (.pair tI (.pair tI (.pair tI (.pair tI (.pair tI (.pair abq (.pair abo (.pair abt (.pair abp (.pair abo (.pair tI (.pair tI (.pair tI (.pair tI (.pair abp (.pair tI (.pair tI (.pair abq (.pair abo (.pair abt abo)))))))))))))))))))))))))))))))))))) (v : Val (.pair tI abp)) kn kx => anf p.1 v.1 v.2 (fun u0 u1 => kn (u0, u1)) (kx 0)⟩
def aK4 : List (Nat × acA) := [(38, ad4)]
def axs (ρ : Type) : List (acI ρ) := [auu ρ]
def av9 (ρ : Type) : Env ρ := acE aK4 (axs ρ)
def aHU : acA := ⟨[acd, acj, aca], [aca, tI], fun (x : Val (.pair acd (.pair acj aca))) => aml x.1 x.2.1 x.2.2⟩
def aIN : List (Nat × acA) := [(171, avm), (172, azm), (173, aEQ), (174, azk)]
def aua (ρ : Type) : List (acI ρ) := []
def aAy (ρ : Type) : Env ρ := acE aIN (aua ρ)
def azn : acA := ⟨[acd, acj], [aca, tI], fun (x : Val abM) => anu x.1 x.2⟩
def aC6 : List (Nat × acA) := [(41, aEV), (62, aES), (87, aoo), (88, apQ), (89, asM), (90, aHU)]
def apc (ρ : Type) : List (acI ρ) := []
def auv (ρ : Type) : Env ρ := acE aC6 (apc ρ)
def aHT : acA := ⟨[acd, tI], [acj, tI], fun (x : Val abU) => auV x.1 x.2⟩
def aIM : List (Nat × acA) := [(38, ad4)]
def at7 (ρ : Type) : List (acI ρ) := []
def aAw (ρ : Type) : Env ρ := acE aIM (at7 ρ)
def aMf : acA := ⟨[acd, tI], [aca, tI], fun (x : Val abU) => ayM x.1 x.2⟩
def aK5 : List (Nat × acA) := [(200, aER), (205, aHT)]
def axu (ρ : Type) : List (acI ρ) := []
def aDV (ρ : Type) : Env ρ := acE aK5 (axu ρ)
def awT : acA := ⟨[abr, abB, (.ptr acj)], [tI], fun (x : Val (.pair abr (.pair abB (.ptr acj)))) => aiM x.1 x.2.1 x.2.2⟩
def azE : List (Nat × acA) := [(55, agN)]
def anO (ρ : Type) : List (acI ρ) := []
def aqM (ρ : Type) : Env ρ := acE azE (anO ρ)
def awS : acA := ⟨[tI, tI, abB, (.ptr tI), abW, (.ptr tI)], [ac9], fun (x : Val (.pair tI (.pair tI (.pair abB (.pair (.ptr tI) (.pair abW (.ptr tI))))))) => aiL x.1 x.2.1 x.2.2.1 x.2.2.2.1 x.2.2.2.2.1 x.2.2.2.2.2⟩
def azD : List (Nat × acA) := [(56, agB)]
def anN (ρ : Type) : List (acI ρ) := []
def aqL (ρ : Type) : Env ρ := acE azD (anN ρ)
def apP : acA := ⟨[abB, aca, acj], [aev, tI], fun (x : Val (.pair abB ab0)) => ajE x.1 x.2.1 x.2.2⟩
def azC : aci := { pin := 0, cs := [tI, abr, abr, abo, abv, tI, tI, tI, tI, tI, abr, abr, tI, tI, tI, tI, tI, tI, tI, tI, tI, tI, tI, tI, tI, tI, tI, tI, tI, tI, abq, abo, abt, abp, abo, tI], vs := [tI, abv], head := ⟨127, aN 4 (.box 0 0 :: .box 1 0 :: .box 2 0 :: .any :: .box 3 0 :: .any :: .any :: .con tI :: .box 4 0 :: .any :: .con abr :: .con abr :: .any :: .any :: .con abo :: .any :: .box 5 0 :: aN 65 [.con abv, .con tI, .var tI]), [.cells [.con tI, .con tI], .cells [.con tI, .con tI, .con abr, .con abr, .con tI, .con tI, .con tI, .con tI], .cells [.con tI, .con tI, .con tI, .con tI, .con tI, .con tI, .con tI, .con tI], .cells [.con tI, .con tI], .cells [.con tI, .con tI], .cells [.con tI, .con tI, .con abq, .con abo, .con abt, .con abp, .con abo, .con tI, .own 6], .rowv ac9]⟩, exits := [(.exit 0, ⟨127, aN 4 (.box 0 0 :: .box 1 0 :: .box 2 0 :: .any :: .box 3 0 :: .any :: .any :: .con tI :: .box 4 0 :: .any :: .con abr :: .con abr :: .any :: .any :: .con abo :: .any :: .box 5 0 :: aN 65 [.con abv, .con tI]), [.cells [.con tI, .con tI], .cells [.con tI, .con tI, .con abr, .con abr, .con tI, .con tI, .con tI, .con tI], .cells [.con tI, .con tI, .con tI, .con tI, .con tI, .con tI, .con tI, .con tI], .cells [.con tI, .con tI], .cells [.con tI, .con tI], .cells [.con tI, .con tI, .con abq, .con abo, .con abt, .con abp, .con abo, .con tI, .own 6], .rowv ac9]⟩, [abv])] }
def aoE (ρ : Type) : acI ρ := ⟨[], 71, 0, azC, fun (p : Val (.pair tI (.pair abr (.pair abr (.pair abo (.pair abv (.pair tI (.pair tI (.pair tI (.pair tI (.pair tI (.pair abr (.pair abr (.pair tI (.pair tI (.pair tI (.pair tI (.pair tI (.pair tI (.pair tI (.pair tI (.pair tI (.pair tI (.pair tI (.pair tI (.pair tI (.pair tI (.pair tI (.pair tI (.pair tI (.pair tI (.pair abq (.pair abo (.pair abt (.pair abp (.pair abo tI)))))))))))))))))))))))))))))))))))) (v : Val acm) kn kx => ahq p.1 p.2.2.2.1 p.2.2.2.2.1 p.2.2.2.2.2.1 v.1 v.2 (fun u0 u1 => kn (u0, u1)) (kx 0)⟩
def aFm : List (Nat × acA) := [(20, aed), (40, azn), (41, aEV), (55, agN), (129, avn), (142, aMf), (143, awT), (144, awS)]
def aqK (ρ : Type) : List (acI ρ) := [aoE ρ]
def akF (ρ : Type) : Env ρ := { acE aFm (aqK ρ) with hint := awn [(110, 143), (113, 143), (120, 144), (123, 144)] }
def amx : acA := ⟨[ac9], [abr], fun (x : Val ac9) => afL x⟩
def axY : List (Nat × acA) := []
def alO (ρ : Type) : List (acI ρ) := []
def aoH (ρ : Type) : Env ρ := acE axY (alO ρ)
def aDy : acA := ⟨[ac9, tI], [tI], fun (x : Val (.pair ac9 tI)) => amj x.1 x.2⟩
def aFo : List (Nat × acA) := []
def aqN (ρ : Type) : List (acI ρ) := []
def awY (ρ : Type) : Env ρ := acE aFo (aqN ρ)
def ak6 : acA := ⟨[aev, tI], [aca], fun (x : Val (.pair aev tI)) => ad1 x.1 x.2⟩
def avr : List (Nat × acA) := [(177, aDy)]
def akA (ρ : Type) : List (acI ρ) := []
def anJ (ρ : Type) : Env ρ := acE avr (akA ρ)
def ak7 : acA := ⟨[aev, abr], [abr], fun (x : Val (.pair aev abr)) => agF x.1 x.2⟩
def arH : aci := { pin := 0, cs := [tI, abr, tI, tI, tI, tI, tI, tI, tI, tI, tI, tI], vs := [tI, abr], head := ⟨48, .any :: .any :: .box 0 0 :: .any :: .any :: .own 1 :: .any :: .con tI :: .var tI :: aN 7 [.con abr, .con tI, .con tI], [.cells [.con tI, .con tI, .con tI, .con tI, .con tI, .con tI, .con tI, .con tI], .rowv tI]⟩, exits := [(.exit 2, ⟨48, .any :: .any :: .box 0 0 :: .any :: .any :: .own 1 :: .any :: .con tI :: aN 8 [.con abr, .con tI, .con tI], [.cells [.con tI, .con tI, .con tI, .con tI, .con tI, .con tI, .con tI, .con tI], .rowv tI]⟩, [abr])] }
def ajV (ρ : Type) : acI ρ := ⟨[], 101, 2, arH, fun (p : Val (.pair tI (.pair abr (.pair tI (.pair tI abD))))) (v : Val abE) kn kx => afp p.1 p.2.2.2.2.1 p.2.2.2.2.2.1 v.1 v.2 (fun u0 u1 => kn (u0, u1)) (kx 0)⟩
def arJ : aci := { pin := 0, cs := [abr, tI, tI, tI, tI, tI, tI, tI, tI, tI], vs := [tI, abr], head := ⟨48, .any :: .any :: .box 0 0 :: .any :: .any :: .own 1 :: aN 10 [.con abr, .con tI, .var tI], [.cells [.con tI, .con tI, .con tI, .con tI, .con tI, .con tI, .con tI, .con tI], .rowv tI]⟩, exits := [(.exit 0, ⟨48, .any :: .any :: .box 0 0 :: .any :: .any :: .own 1 :: aN 10 [.con abr, .con tI], [.cells [.con tI, .con tI, .con tI, .con tI, .con tI, .con tI, .con tI, .con tI], .rowv tI]⟩, [abr])] }
def ajW (ρ : Type) : acI ρ := ⟨[], 101, 0, arJ, fun (p : Val (.pair abr (.pair tI abD))) (v : Val abE) kn kx => ago p.1 p.2.1 p.2.2.1 p.2.2.2.1 v.1 v.2 (fun u0 u1 => kn (u0, u1)) (kx 0)⟩
def avs : List (Nat × acA) := []
def akB (ρ : Type) : List (acI ρ) := [ajV ρ, ajW ρ]
def agJ (ρ : Type) : Env ρ := acE avs (akB ρ)
def ajO : acA := ⟨[aev], [tI], fun (x : Val aev) => agf x⟩
def aqo : aci := { pin := 0, cs := [abr, tI, tI, tI, tI, tI, tI, tI, tI, tI], vs := [tI, tI], head := ⟨34, .any :: .box 0 0 :: .any :: .var tI :: aN 12 [.con abr, .con tI, .var tI], [.cells [.con tI, .con tI, .con tI, .con tI, .con tI, .con tI, .con tI, .con tI]]⟩, exits := [(.exit 0, ⟨34, .any :: .box 0 0 :: .any :: .var tI :: aN 12 [.con abr, .con tI], [.cells [.con tI, .con tI, .con tI, .con tI, .con tI, .con tI, .con tI, .con tI]]⟩, [tI])] }
def ai6 (ρ : Type) : acI ρ := ⟨[], 72, 0, aqo, fun (p : Val (.pair abr (.pair tI abD))) (v : Val aca) kn kx => af4 p.1 p.2.1 p.2.2.1 p.2.2.2.1 p.2.2.2.2.1 p.2.2.2.2.2.1 p.2.2.2.2.2.2.1 p.2.2.2.2.2.2.2.1 p.2.2.2.2.2.2.2.2.1 p.2.2.2.2.2.2.2.2.2 v.1 v.2 (fun u0 u1 => kn (u0, u1)) (kx 0)⟩
def as3 : List (Nat × acA) := [(94, aec), (95, amx), (99, ak6), (101, ak7)]
def ajT (ρ : Type) : List (acI ρ) := [ai6 ρ]
def ah0 (ρ : Type) : Env ρ := acE as3 (ajT ρ)
def aze : acA := ⟨[acd, aca, acj], [tI, tI], fun (x : Val (.pair acd ab0)) => ahy x.1 x.2.1 x.2.2⟩
def aCm : aci := { pin := 4, cs := [tI, tI, tI, abq, abo, abt, abp, abo, tI, tI, tI, tI, abr, abr, tI, tI, tI, tI, abo], vs := [tI, tI, tI, abq, abo, abt, abp, abo], head := ⟨68, .any :: .any :: .box 4 0 :: aN 20 [.own 3, .con tI, .var tI], [.cells [.con tI, .con tI, .con abq, .con abo, .con abt, .con abp, .con abo], .cells [.con tI, .con tI], .cells [.con tI, .con tI, .con abr, .con abr, .con tI, .con tI, .con tI, .con tI], .rowc aca, .cells [.var tI, .var tI, .var abq, .var abo, .var abt, .var abp, .var abo]]⟩, exits := [(.ret, ⟨68, .any :: .any :: .box 4 0 :: .any :: .nilp :: .var tI :: aN 17 [.own 3, .con tI], [.cells [.con tI, .con tI, .con abq, .con abo, .con abt, .con abp, .con abo], .cells [.con tI, .con tI], .cells [.con tI, .con tI, .con abr, .con abr, .con tI, .con tI, .con tI, .con tI], .rowc aca, .cells [.var tI, .var tI, .var abq, .var abo, .var abt, .var abp, .var abo]]⟩, [tI, tI, tI, abq, abo, abt, abp, abo]), (.exit 0, ⟨68, .any :: .any :: .box 4 0 :: aN 20 [.own 3, .con tI], [.cells [.con tI, .con tI, .con abq, .con abo, .con abt, .con abp, .con abo], .cells [.con tI, .con tI], .cells [.con tI, .con tI, .con abr, .con abr, .con tI, .con tI, .con tI, .con tI], .rowc aca, .cells [.var tI, .var tI, .var abq, .var abo, .var abt, .var abp, .var abo]]⟩, [tI, tI, abq, abo, abt, abp, abo])] }
def aqO (ρ : Type) : acI ρ := ⟨[1, 3], 50, 0, aCm, fun (p : Val (.pair tI (.pair tI (.pair tI (.pair abq (.pair abo (.pair abt (.pair abp (.pair abo (.pair tI (.pair tI (.pair tI (.pair tI (.pair abr (.pair abr (.pair tI (.pair tI abS))))))))))))))))) (v : Val abH) kn kx => aoJ p.1 p.2.2.2.2.2.2.2.2.2.2.2.2.2.2.2.2.2.2 v.1 v.2.1 v.2.2.1 v.2.2.2.1 v.2.2.2.2.1 v.2.2.2.2.2.1 v.2.2.2.2.2.2.1 v.2.2.2.2.2.2.2 (fun u0 u1 u2 u3 u4 u5 u6 u7 => kn (u0, u1, u2, u3, u4, u5, u6, u7)) (kx 0) (kx 1)⟩
def aIo : List (Nat × acA) := [(20, aed), (38, ad4), (60, aga), (61, ajg), (71, apP), (72, ajO), (123, ad0)]
def ato (ρ : Type) : List (acI ρ) := [aqO ρ]
def arR (ρ : Type) : Env ρ := acE aIo (ato ρ)
def arx : acA := ⟨[acm, abr], [tI], fun (x : Val ab4) => akf x.1 x.2⟩
def ax8 : aci := { pin := 1, cs := [abr, tI, tI, abv], vs := [tI], head := ⟨19, .con abr :: .fn 206 [(0, 0)] :: aN 5 [.con tI, .var tI], [.cells [.con tI, .con abv]]⟩, exits := [(.ret, ⟨19, [.con abr, .fn 206 [(0, 0)], .any, .any, .var tI, .any, .any, .con tI], [.cells [.con tI, .con abv]]⟩, [tI]), (.exit 0, ⟨19, .con abr :: .fn 206 [(0, 0)] :: aN 5 [.con tI], [.cells [.con tI, .con abv]]⟩, [])] }
def anV (ρ : Type) : acI ρ := ⟨[3, 2, 1, 2], 178, 0, ax8, fun (p : Val (.pair abr abP)) (v : Val tI) kn kx => ain p.1 p.2.1 p.2.2.2 v (fun u0 => kn u0) (kx 0) (kx 1)⟩
def aCx : List (Nat × acA) := []
def aoS (ρ : Type) : List (acI ρ) := [anV ρ]
def amV (ρ : Type) : Env ρ := acE aCx (aoS ρ)
def aEO : acA := ⟨[acm, tI, abr], [tI, tI, .bool], fun (x : Val (.pair acm abE)) => auS x.1 x.2.1 x.2.2⟩
def aFF : aci := { pin := 0, cs := [abr, tI, tI, abv], vs := [tI, tI, tI], head := ⟨37, .any :: .var tI :: .any :: .box 0 0 :: aN 5 [.var tI, .any, .any, .any, .con abr, .con tI, .var tI], [.cells [.con tI, .con abv]]⟩, exits := [(.ret, ⟨37, .any :: .any :: .any :: .box 0 0 :: .any :: .any :: .var tI :: .var tI :: .var .bool :: aN 4 [.con abr, .con tI], [.cells [.con tI, .con abv]]⟩, [tI, tI, .bool]), (.exit 0, ⟨37, .any :: .var tI :: .any :: .box 0 0 :: aN 5 [.var tI, .any, .any, .any, .con abr, .con tI], [.cells [.con tI, .con abv]]⟩, [tI, tI])] }
def atD (ρ : Type) : acI ρ := ⟨[], 146, 0, aFF, fun (p : Val (.pair abr abP)) (v : Val ac9) kn kx => amU p.1 p.2.1 p.2.2.2 v.1 v.2.1 v.2.2 (fun u0 u1 u2 => kn (u0, u1, u2)) (kx 0) (kx 1)⟩
def aKI : List (Nat × acA) := []
def aw6 (ρ : Type) : List (acI ρ) := [atD ρ]
def avM (ρ : Type) : Env ρ := acE aKI (aw6 ρ)
def aqF : acA := ⟨[acm, tI, tI, abr], [tI, tI], fun (x : Val (.pair acm ab6)) => agG x.1 x.2.1 x.2.2.1 x.2.2.2⟩
def avX : List (Nat × acA) := [(133, alF), (134, ayx), (145, arx), (146, aEO)]
def akQ (ρ : Type) : List (acI ρ) := []
def anY (ρ : Type) : Env ρ := acE avX (akQ ρ)
def amy : acA := ⟨[afa], [tI], fun (x : Val afa) => ahA x⟩
def ax2 : List (Nat × acA) := [(20, aed), (38, ad4), (60, aga), (76, aqF)]
def alY (ρ : Type) : List (acI ρ) := []
def aoN (ρ : Type) : Env ρ := acE ax2 (alY ρ)
def aqE : acA := ⟨[acm, abr], [tI], fun (x : Val ab4) => aiq x.1 x.2⟩
def avW : List (Nat × acA) := [(133, alF), (145, arx), (146, aEO)]
def akP (ρ : Type) : List (acI ρ) := []
def anX (ρ : Type) : Env ρ := acE avW (akP ρ)
def aqD : acA := ⟨[afa], [tI], fun (x : Val afa) => aip x⟩
def avG : List (Nat × acA) := [(20, aed), (38, ad4), (86, aqE)]
def akL (ρ : Type) : List (acI ρ) := []
def anQ (ρ : Type) : Env ρ := acE avG (akL ρ)
def afP : acA := ⟨[abq, acl], [tI], fun (x : Val (.pair abq acl)) => ael x.1 x.2⟩
def aha : aci := { pin := 0, cs := [abq, tI, tI, tI, tI, tI, tI, tI, tI, tI], vs := [tI], head := ⟨19, [.con abq, .any, .any, .box 0 0, .any, .any, .any, .con tI, .var tI], [.cells [.con tI, .con tI, .con tI, .con tI, .con tI, .con tI, .con tI, .con tI]]⟩, exits := [(.ret, ⟨19, [.con abq, .any, .any, .box 0 0, .var tI, .any, .any, .con tI], [.cells [.con tI, .con tI, .con tI, .con tI, .con tI, .con tI, .con tI, .con tI]]⟩, [tI]), (.exit 0, ⟨19, [.con abq, .any, .any, .box 0 0, .any, .any, .any, .con tI], [.cells [.con tI, .con tI, .con tI, .con tI, .con tI, .con tI, .con tI, .con tI]]⟩, [])] }
def aeK (ρ : Type) : acI ρ := ⟨[], 254, 0, aha, fun (p : Val (.pair abq (.pair tI abD))) (v : Val tI) kn kx => ac1 p.1 p.2.1 p.2.2.1 p.2.2.2.1 p.2.2.2.2.1 p.2.2.2.2.2.1 p.2.2.2.2.2.2.1 p.2.2.2.2.2.2.2.1 p.2.2.2.2.2.2.2.2.1 p.2.2.2.2.2.2.2.2.2 v (fun u0 => kn u0) (kx 0) (kx 1)⟩
def ahI : List (Nat × acA) := []
def aeY (ρ : Type) : List (acI ρ) := [aeK ρ]
def adU (ρ : Type) : Env ρ := acE ahI (aeY ρ)
def afb : acA := ⟨[abq, acl], [.bool], fun (x : Val (.pair abq acl)) => adq x.1 x.2⟩
def agR : List (Nat × acA) := [(254, afP)]
def aer (ρ : Type) : List (acI ρ) := []
def aeM (ρ : Type) : Env ρ := acE agR (aer ρ)
def agA : acA := ⟨[abo, aca], [tI], fun (x : Val abZ) => ae5 x.1 x.2⟩
def aix : aci := { pin := 0, cs := [abo, tI, tI, tI], vs := [tI], head := ⟨19, [.con abo, .any, .any, .box 0 0, .any, .any, .any, .con tI, .var tI], [.cells [.con tI, .con tI]]⟩, exits := [(.ret, ⟨19, [.con abo, .any, .any, .box 0 0, .var tI, .any, .any, .con tI], [.cells [.con tI, .con tI]]⟩, [tI]), (.exit 0, ⟨19, [.con abo, .any, .any, .box 0 0, .any, .any, .any, .con tI], [.cells [.con tI, .con tI]]⟩, [])] }
def afz (ρ : Type) : acI ρ := ⟨[], 256, 0, aix, fun (p : Val (.pair abo ac9)) (v : Val tI) kn kx => adg p.1 p.2.1 p.2.2.1 p.2.2.2 v (fun u0 => kn u0) (kx 0) (kx 1)⟩
def ajh : List (Nat × acA) := []
def afR (ρ : Type) : List (acI ρ) := [afz ρ]
def aey (ρ : Type) : Env ρ := acE ajh (afR ρ)
def af1 : acA := ⟨[abo, aca], [.bool], fun (x : Val abZ) => adk x.1 x.2⟩
def ahZ : List (Nat × acA) := [(256, agA)]
def afe (ρ : Type) : List (acI ρ) := []
def afA (ρ : Type) : Env ρ := acE ahZ (afe ρ)
def af9 : acA := ⟨[abt, adH], [tI], fun (x : Val (.pair abt adH)) => aeC x.1 x.2⟩
def ahH : aci := { pin := 0, cs := [abt, tI, tI, tI, tI, tI], vs := [tI], head := ⟨19, [.con abt, .any, .any, .box 0 0, .any, .any, .any, .con tI, .var tI], [.cells [.con tI, .con tI, .con tI, .con tI]]⟩, exits := [(.ret, ⟨19, [.con abt, .any, .any, .box 0 0, .var tI, .any, .any, .con tI], [.cells [.con tI, .con tI, .con tI, .con tI]]⟩, [tI]), (.exit 0, ⟨19, [.con abt, .any, .any, .box 0 0, .any, .any, .any, .con tI], [.cells [.con tI, .con tI, .con tI, .con tI]]⟩, [])] }
def afd (ρ : Type) : acI ρ := ⟨[], 258, 0, ahH, fun (p : Val (.pair abt (.pair tI (.pair tI ac9)))) (v : Val tI) kn kx => ac5 p.1 p.2.1 p.2.2.1 p.2.2.2.1 p.2.2.2.2.1 p.2.2.2.2.2 v (fun u0 => kn u0) (kx 0) (kx 1)⟩
def aiz : List (Nat × acA) := []
def afo (ρ : Type) : List (acI ρ) := [afd ρ]
def aej (ρ : Type) : Env ρ := acE aiz (afo ρ)
def afy : acA := ⟨[abt, adH], [.bool], fun (x : Val (.pair abt adH)) => ac6 x.1 x.2⟩
def ahn : List (Nat × acA) := [(258, af9)]
def aeL (ρ : Type) : List (acI ρ) := []
def aff (ρ : Type) : Env ρ := acE ahn (aeL ρ)
def aMa : acA := ⟨[acd, acd], [.bool], fun (x : Val (.pair acd acd)) => auN x.1 x.2⟩
def aFj : aci := { pin := 0, cs := [abq, tI, tI, tI, abq, abo, abt, abp, abo, tI, tI, abq, abo, abt, abp, abo], vs := [tI, abx], head := ⟨87, .any :: .any :: .box 0 0 :: .box 1 0 :: .any :: .box 2 0 :: aN 10 [.con abq, .con tI, .var tI], [.cells [.con tI, .con tI, .con abq, .con abo, .con abt, .con abp, .con abo], .cells [.con tI, .con tI, .con abq, .con abo, .con abt, .con abp, .con abo], .cells [.omp 3], .mapv tI .bool]⟩, exits := [(.exit 0, ⟨87, .any :: .any :: .box 0 0 :: .box 1 0 :: .any :: .box 2 0 :: aN 10 [.con abq, .con tI], [.cells [.con tI, .con tI, .con abq, .con abo, .con abt, .con abp, .con abo], .cells [.con tI, .con tI, .con abq, .con abo, .con abt, .con abp, .con abo], .cells [.omp 3], .mapv tI .bool]⟩, [abx])] }
def atj (ρ : Type) : acI ρ := ⟨[], 77, 0, aFj, fun (p : Val (.pair abq (.pair tI (.pair tI (.pair tI (.pair abq (.pair abo (.pair abt (.pair abp (.pair abo abw)))))))))) (v : Val (.pair tI abx)) kn kx => amI p.1 p.2.1 v.1 v.2 (fun u0 u1 => kn (u0, u1)) (kx 0)⟩
def aFg : aci := { pin := 6, cs := [abr, abr, tI, tI, tI, abq, abo, abt, abp, abo, tI, tI, abq, abo, abt, abp, abo, abx, tI, tI, abr, abr, tI, tI, tI, tI, tI, tI, abr, abr, tI, tI, tI, tI], vs := [tI], head := ⟨26, .con abr :: .con abr :: aN 10 [.con tI, .var tI], [.cells [.con tI, .con tI, .con abq, .con abo, .con abt, .con abp, .con abo], .cells [.con tI, .con tI, .con abq, .con abo, .con abt, .con abp, .con abo], .cells [.omp 3], .mapc tI .bool, .cells [.con tI, .con tI, .con abr, .con abr, .con tI, .con tI, .con tI, .con tI], .cells [.con tI, .con tI, .con abr, .con abr, .con tI, .con tI, .con tI, .con tI]]⟩, exits := [(.ret, ⟨26, .con abr :: .con abr :: .any :: .any :: .var .bool :: aN 7 [.con tI], [.cells [.con tI, .con tI, .con abq, .con abo, .con abt, .con abp, .con abo], .cells [.con tI, .con tI, .con abq, .con abo, .con abt, .con abp, .con abo], .cells [.omp 3], .mapc tI .bool, .cells [.con tI, .con tI, .con abr, .con abr, .con tI, .con tI, .con tI, .con tI], .cells [.con tI, .con tI, .con abr, .con abr, .con tI, .con tI, .con tI, .con tI]]⟩, [.bool]), (.exit 0, ⟨26, .con abr :: .con abr :: aN 10 [.con tI], [.cells [.con tI, .con tI, .con abq, .con abo, .con abt, .con abp, .con abo], .cells [.con tI, .con tI, .con abq, .con abo, .con abt, .con abp, .con abo], .cells [.omp 3], .mapc tI .bool, .cells [.con tI, .con tI, .con abr, .con abr, .con tI, .con tI, .con tI, .con tI], .cells [.con tI, .con tI, .con abr, .con abr, .con tI, .con tI, .con tI, .con tI]]⟩, [])] }
def atg (ρ : Type) : acI ρ := ⟨[14, 3, 1, 2, 4, 5, 1, 38], 151, 0, aFg, fun (p : Val (.pair abr (.pair abr (.pair tI (.pair tI (.pair tI (.pair abq (.pair abo (.pair abt (.pair abp (.pair abo (.pair tI (.pair tI (.pair abq (.pair abo (.pair abt (.pair abp (.pair abo (.pair abx (.pair tI (.pair tI (.pair abr (.pair abr (.pair tI (.pair tI (.pair tI (.pair tI acj))))))))))))))))))))))))))) (v : Val tI) kn kx => ah4 p.1 p.2.1 p.2.2.1 v (fun u0 => kn u0) (kx 0) (kx 1)⟩
def aFf : aci := { pin := 6, cs := [abr, abr, tI, tI, tI, abq, abo, abt, abp, abo, tI, tI, abq, abo, abt, abp, abo, abx, tI, tI, abr, abr, tI, tI, tI, tI, tI, tI, abr, abr, tI, tI, tI, tI], vs := [tI], head := ⟨26, .con abr :: .con abr :: aN 10 [.con tI, .var tI], [.cells [.con tI, .con tI, .con abq, .con abo, .con abt, .con abp, .con abo], .cells [.con tI, .con tI, .con abq, .con abo, .con abt, .con abp, .con abo], .cells [.omp 3], .mapc tI .bool, .cells [.con tI, .con tI, .con abr, .con abr, .con tI, .con tI, .con tI, .con tI], .cells [.con tI, .con tI, .con abr, .con abr, .con tI, .con tI, .con tI, .con tI]]⟩, exits := [(.ret, ⟨26, .con abr :: .con abr :: .any :: .any :: .var .bool :: aN 7 [.con tI], [.cells [.con tI, .con tI, .con abq, .con abo, .con abt, .con abp, .con abo], .cells [.con tI, .con tI, .con abq, .con abo, .con abt, .con abp, .con abo], .cells [.omp 3], .mapc tI .bool, .cells [.con tI, .con tI, .con abr, .con abr, .con tI, .con tI, .con tI, .con tI], .cells [.con tI, .con tI, .con abr, .con abr, .con tI, .con tI, .con tI, .con tI]]⟩, [.bool]), (.exit 0, ⟨26, .con abr :: .con abr :: aN 10 [.con tI], [.cells [.con tI, .con tI, .con abq, .con abo, .con abt, .con abp, .con abo], .cells [.con tI, .con tI, .con abq, .con abo, .con abt, .con abp, .con abo], .cells [.omp 3], .mapc tI .bool, .cells [.con tI, .con tI, .con abr, .con abr, .con tI, .con tI, .con tI, .con tI], .cells [.con tI, .con tI, .con abr, .con abr, .con tI, .con tI, .con tI, .con tI]]⟩, [])] }
def atf (ρ : Type) : acI ρ := ⟨[14, 3, 1, 2, 4, 5, 1, 45], 151, 0, aFf, fun (p : Val (.pair abr (.pair abr (.pair tI (.pair tI (.pair tI (.pair abq (.pair abo (.pair abt (.pair abp (.pair abo (.pair tI (.pair tI (.pair abq (.pair abo (.pair abt (.pair abp (.pair abo (.pair abx (.pair tI (.pair tI (.pair abr (.pair abr (.pair tI (.pair tI (.pair tI (.pair tI acj))))))))))))))))))))))))))) (v : Val tI) kn kx => amH p.1 p.2.1 p.2.2.1 v (fun u0 => kn u0) (kx 0) (kx 1)⟩
def aFh : aci := { pin := 5, cs := [abp, tI, tI, tI, abq, abo, abt, abp, abo, tI, tI, abq, abo, abt, abp, abo, abx, tI, tI, abr, abr, tI, tI, tI, tI], vs := [tI], head := ⟨19, .con abp :: .fn 150 [(4, 0)] :: aN 5 [.con tI, .var tI], [.cells [.con tI, .con tI, .con abq, .con abo, .con abt, .con abp, .con abo], .cells [.con tI, .con tI, .con abq, .con abo, .con abt, .con abp, .con abo], .cells [.omp 3], .mapc tI .bool, .cells [.con tI, .con tI, .con abr, .con abr, .con tI, .con tI, .con tI, .con tI]]⟩, exits := [(.ret, ⟨19, [.con abp, .fn 150 [(4, 0)], .any, .any, .var tI, .any, .any, .con tI], [.cells [.con tI, .con tI, .con abq, .con abo, .con abt, .con abp, .con abo], .cells [.con tI, .con tI, .con abq, .con abo, .con abt, .con abp, .con abo], .cells [.omp 3], .mapc tI .bool, .cells [.con tI, .con tI, .con abr, .con abr, .con tI, .con tI, .con tI, .con tI]]⟩, [tI]), (.exit 0, ⟨19, .con abp :: .fn 150 [(4, 0)] :: aN 5 [.con tI], [.cells [.con tI, .con tI, .con abq, .con abo, .con abt, .con abp, .con abo], .cells [.con tI, .con tI, .con abq, .con abo, .con abt, .con abp, .con abo], .cells [.omp 3], .mapc tI .bool, .cells [.con tI, .con tI, .con abr, .con abr, .con tI, .con tI, .con tI, .con tI]]⟩, [])] }
def ath (ρ : Type) : acI ρ := ⟨[14, 3, 1, 2], 207, 0, aFh, fun (p : Val (.pair abp (.pair tI (.pair tI (.pair tI (.pair abq (.pair abo (.pair abt (.pair abp (.pair abo (.pair tI (.pair tI (.pair abq (.pair abo (.pair abt (.pair abp (.pair abo (.pair abx acj)))))))))))))))))) (v : Val tI) kn kx => ajZ p.1 p.2.1 p.2.2.2.2.2.2.2.2.2.2.2.2.2.2.2.2.2.1 p.2.2.2.2.2.2.2.2.2.2.2.2.2.2.2.2.2.2.1 p.2.2.2.2.2.2.2.2.2.2.2.2.2.2.2.2.2.2.2.1 p.2.2.2.2.2.2.2.2.2.2.2.2.2.2.2.2.2.2.2.2.1 p.2.2.2.2.2.2.2.2.2.2.2.2.2.2.2.2.2.2.2.2.2.1 p.2.2.2.2.2.2.2.2.2.2.2.2.2.2.2.2.2.2.2.2.2.2.1 p.2.2.2.2.2.2.2.2.2.2.2.2.2.2.2.2.2.2.2.2.2.2.2.1 p.2.2.2.2.2.2.2.2.2.2.2.2.2.2.2.2.2.2.2.2.2.2.2.2 v (fun u0 => kn u0) (kx 0) (kx 1)⟩
def aFi : aci := { pin := 0, cs := [abp, tI, tI, tI, abq, abo, abt, abp, abo, tI, tI, abq, abo, abt, abp, abo, abx], vs := [tI], head := ⟨87, .any :: .any :: .box 0 0 :: .box 1 0 :: aN 4 (.fn 147 [] :: .fn 148 [(2, 0)] :: .fn 149 [(2, 0)] :: aN 18 [.con abp, .con tI, .var tI]), [.cells [.con tI, .con tI, .con abq, .con abo, .con abt, .con abp, .con abo], .cells [.con tI, .con tI, .con abq, .con abo, .con abt, .con abp, .con abo], .cells [.omp 3], .mapc tI .bool]⟩, exits := [(.ret, ⟨87, .any :: .any :: .box 0 0 :: .box 1 0 :: .var .bool :: .any :: .any :: .any :: .fn 147 [] :: .fn 148 [(2, 0)] :: .fn 149 [(2, 0)] :: aN 18 [.con abp, .con tI], [.cells [.con tI, .con tI, .con abq, .con abo, .con abt, .con abp, .con abo], .cells [.con tI, .con tI, .con abq, .con abo, .con abt, .con abp, .con abo], .cells [.omp 3], .mapc tI .bool]⟩, [.bool]), (.exit 2, ⟨87, .any :: .any :: .box 0 0 :: .box 1 0 :: aN 4 (.fn 147 [] :: .fn 148 [(2, 0)] :: .fn 149 [(2, 0)] :: aN 18 [.con abp, .con tI]), [.cells [.con tI, .con tI, .con abq, .con abo, .con abt, .con abp, .con abo], .cells [.con tI, .con tI, .con abq, .con abo, .con abt, .con abp, .con abo], .cells [.omp 3], .mapc tI .bool]⟩, [])] }
def ati (ρ : Type) : acI ρ := ⟨[], 77, 2, aFi, fun (p : Val (.pair abp (.pair tI (.pair tI (.pair tI (.pair abq (.pair abo (.pair abt (.pair abp (.pair abo (.pair tI (.pair tI (.pair abq (.pair abo (.pair abt (.pair abp (.pair abo abx))))))))))))))))) (v : Val tI) kn kx => aj0 p.1 p.2.1 p.2.2.2.2.2.2.2.2.2.2.2.2.2.2.1 v (fun u0 => kn u0) (kx 0) (kx 1)⟩
def aFe : aci := { pin := 6, cs := [abq, tI, tI, tI, abq, abo, abt, abp, abo, tI, tI, abq, abo, abt, abp, abo, abx, abq], vs := [tI], head := ⟨19, .con abq :: .fn 209 [(5, 0), (4, 0)] :: aN 5 [.con tI, .var tI], [.cells [.con tI, .con tI, .con abq, .con abo, .con abt, .con abp, .con abo], .cells [.con tI, .con tI, .con abq, .con abo, .con abt, .con abp, .con abo], .cells [.omp 3], .mapc tI .bool, .cells [.con abq], .cells [.fn 147 []]]⟩, exits := [(.ret, ⟨19, [.con abq, .fn 209 [(5, 0), (4, 0)], .any, .any, .var tI, .any, .any, .con tI], [.cells [.con tI, .con tI, .con abq, .con abo, .con abt, .con abp, .con abo], .cells [.con tI, .con tI, .con abq, .con abo, .con abt, .con abp, .con abo], .cells [.omp 3], .mapc tI .bool, .cells [.con abq], .cells [.fn 147 []]]⟩, [tI]), (.exit 0, ⟨19, .con abq :: .fn 209 [(5, 0), (4, 0)] :: aN 5 [.con tI], [.cells [.con tI, .con tI, .con abq, .con abo, .con abt, .con abp, .con abo], .cells [.con tI, .con tI, .con abq, .con abo, .con abt, .con abp, .con abo], .cells [.omp 3], .mapc tI .bool, .cells [.con abq], .cells [.fn 147 []]]⟩, [])] }
def ate (ρ : Type) : acI ρ := ⟨[17, 11, 1, 2, 1, 2], 253, 0, aFe, fun (p : Val (.pair abq (.pair tI (.pair tI (.pair tI (.pair abq (.pair abo (.pair abt (.pair abp (.pair abo (.pair tI (.pair tI (.pair abq (.pair abo (.pair abt (.pair abp (.pair abo (.pair abx abq)))))))))))))))))) (v : Val tI) kn kx => ajY p.1 p.2.1 p.2.2.2.2.2.2.2.2.2.2.2.2.2.2.2.2.2 v (fun u0 => kn u0) (kx 0) (kx 1)⟩
def aFd : aci := { pin := 8, cs := [abo, tI, tI, tI, abq, abo, abt, abp, abo, tI, tI, abq, abo, abt, abp, abo, abx, abq, abo], vs := [tI], head := ⟨19, .con abo :: .fn 212 [(7, 0), (6, 0)] :: aN 5 [.con tI, .var tI], [.cells [.con tI, .con tI, .con abq, .con abo, .con abt, .con abp, .con abo], .cells [.con tI, .con tI, .con abq, .con abo, .con abt, .con abp, .con abo], .cells [.omp 3], .mapc tI .bool, .cells [.con abq], .cells [.fn 147 []], .cells [.con abo], .cells [.fn 148 [(2, 0)]]]⟩, exits := [(.ret, ⟨19, [.con abo, .fn 212 [(7, 0), (6, 0)], .any, .any, .var tI, .any, .any, .con tI], [.cells [.con tI, .con tI, .con abq, .con abo, .con abt, .con abp, .con abo], .cells [.con tI, .con tI, .con abq, .con abo, .con abt, .con abp, .con abo], .cells [.omp 3], .mapc tI .bool, .cells [.con abq], .cells [.fn 147 []], .cells [.con abo], .cells [.fn 148 [(2, 0)]]]⟩, [tI]), (.exit 0, ⟨19, .con abo :: .fn 212 [(7, 0), (6, 0)] :: aN 5 [.con tI], [.cells [.con tI, .con tI, .con abq, .con abo, .con abt, .con abp, .con abo], .cells [.con tI, .con tI, .con abq, .con abo, .con abt, .con abp, .con abo], .cells [.omp 3], .mapc tI .bool, .cells [.con abq], .cells [.fn 147 []], .cells [.con abo], .cells [.fn 148 [(2, 0)]]]⟩, [])] }
def atd (ρ : Type) : acI ρ := ⟨[17, 19, 1, 2, 1, 2], 255, 0, aFd, fun (p : Val (.pair abo (.pair tI (.pair tI (.pair tI (.pair abq (.pair abo (.pair abt (.pair abp (.pair abo (.pair tI (.pair tI (.pair abq (.pair abo (.pair abt (.pair abp (.pair abo (.pair abx (.pair abq abo))))))))))))))))))) (v : Val tI) kn kx => agT p.1 p.2.1 p.2.2.2.2.2.2.2.2.2.2.2.2.2.2.2.2.1 p.2.2.2.2.2.2.2.2.2.2.2.2.2.2.2.2.2.2 v (fun u0 => kn u0) (kx 0) (kx 1)⟩
def aFc : aci := { pin := 10, cs := [abo, tI, tI, tI, abq, abo, abt, abp, abo, tI, tI, abq, abo, abt, abp, abo, abx, abq, abo, abo], vs := [tI], head := ⟨19, .con abo :: .fn 212 [(9, 0), (8, 0)] :: aN 5 [.con tI, .var tI], [.cells [.con tI, .con tI, .con abq, .con abo, .con abt, .con abp, .con abo], .cells [.con tI, .con tI, .con abq, .con abo, .con abt, .con abp, .con abo], .cells [.omp 3], .mapc tI .bool, .cells [.con abq], .cells [.fn 147 []], .cells [.con abo], .cells [.fn 148 [(2, 0)]], .cells [.con abo], .cells [.fn 148 [(2, 0)]]]⟩, exits := [(.ret, ⟨19, [.con abo, .fn 212 [(9, 0), (8, 0)], .any, .any, .var tI, .any, .any, .con tI], [.cells [.con tI, .con tI, .con abq, .con abo, .con abt, .con abp, .con abo], .cells [.con tI, .con tI, .con abq, .con abo, .con abt, .con abp, .con abo], .cells [.omp 3], .mapc tI .bool, .cells [.con abq], .cells [.fn 147 []], .cells [.con abo], .cells [.fn 148 [(2, 0)]], .cells [.con abo], .cells [.fn 148 [(2, 0)]]]⟩, [tI]), (.exit 0, ⟨19, .con abo :: .fn 212 [(9, 0), (8, 0)] :: aN 5 [.con tI], [.cells [.con tI, .con tI, .con abq, .con abo, .con abt, .con abp, .con abo], .cells [.con tI, .con tI, .con abq, .con abo, .con abt, .con abp, .con abo], .cells [.omp 3], .mapc tI .bool, .cells [.con abq], .cells [.fn 147 []], .cells [.con abo], .cells [.fn 148 [(2, 0)]], .cells [.con abo], .cells [.fn 148 [(2, 0)]]]⟩, [])] }
def atc (ρ : Type) : acI ρ := ⟨[17, 27, 1, 2, 1, 2], 255, 0, aFc, fun (p : Val (.pair abo (.pair tI (.pair tI (.pair tI (.pair abq (.pair abo (.pair abt (.pair abp (.pair abo (.pair tI (.pair tI (.pair abq (.pair abo (.pair abt (.pair abp (.pair abo (.pair abx (.pair abq (.pair abo abo)))))))))))))))))))) (v : Val tI) kn kx => ah3 p.1 p.2.1 p.2.2.2.2.2.2.2.2.2.2.2.2.2.2.2.2.1 p.2.2.2.2.2.2.2.2.2.2.2.2.2.2.2.2.2.2.2 v (fun u0 => kn u0) (kx 0) (kx 1)⟩
def aFb : aci := { pin := 12, cs := [abt, tI, tI, tI, abq, abo, abt, abp, abo, tI, tI, abq, abo, abt, abp, abo, abx, abq, abo, abo, abt], vs := [tI], head := ⟨19, .con abt :: .fn 215 [(11, 0), (10, 0)] :: aN 5 [.con tI, .var tI], [.cells [.con tI, .con tI, .con abq, .con abo, .con abt, .con abp, .con abo], .cells [.con tI, .con tI, .con abq, .con abo, .con abt, .con abp, .con abo], .cells [.omp 3], .mapc tI .bool, .cells [.con abq], .cells [.fn 147 []], .cells [.con abo], .cells [.fn 148 [(2, 0)]], .cells [.con abo], .cells [.fn 148 [(2, 0)]], .cells [.con abt], .cells [.fn 149 [(2, 0)]]]⟩, exits := [(.ret, ⟨19, [.con abt, .fn 215 [(11, 0), (10, 0)], .any, .any, .var tI, .any, .any, .con tI], [.cells [.con tI, .con tI, .con abq, .con abo, .con abt, .con abp, .con abo], .cells [.con tI, .con tI, .con abq, .con abo, .con abt, .con abp, .con abo], .cells [.omp 3], .mapc tI .bool, .cells [.con abq], .cells [.fn 147 []], .cells [.con abo], .cells [.fn 148 [(2, 0)]], .cells [.con abo], .cells [.fn 148 [(2, 0)]], .cells [.con abt], .cells [.fn 149 [(2, 0)]]]⟩, [tI]), (.exit 0, ⟨19, .con abt :: .fn 215 [(11, 0), (10, 0)] :: aN 5 [.con tI], [.cells [.con tI, .con tI, .con abq, .con abo, .con abt, .con abp, .con abo], .cells [.con tI, .con tI, .con abq, .con abo, .con abt, .con abp, .con abo], .cells [.omp 3], .mapc tI .bool, .cells [.con abq], .cells [.fn 147 []], .cells [.con abo], .cells [.fn 148 [(2, 0)]], .cells [.con abo], .cells [.fn 148 [(2, 0)]], .cells [.con abt], .cells [.fn 149 [(2, 0)]]]⟩, [])] }
def atb (ρ : Type) : acI ρ := ⟨[17, 35, 1, 2, 1, 2], 257, 0, aFb, fun (p : Val (.pair abt (.pair tI (.pair tI (.pair tI (.pair abq (.pair abo (.pair abt (.pair abp (.pair abo (.pair tI (.pair tI (.pair abq (.pair abo (.pair abt (.pair abp (.pair abo (.pair abx (.pair abq (.pair abo (.pair abo abt))))))))))))))))))))) (v : Val tI) kn kx => adI p.1 p.2.1 p.2.2.2.2.2.2.2.2.2.2.2.2.2.2.2.2.1 p.2.2.2.2.2.2.2.2.2.2.2.2.2.2.2.2.2.2.2.2 v (fun u0 => kn u0) (kx 0) (kx 1)⟩
def aFa : aci := { pin := 14, cs := [abt, tI, tI, tI, abq, abo, abt, abp, abo, tI, tI, abq, abo, abt, abp, abo, abx, abq, abo, abo, abt, abt], vs := [tI], head := ⟨19, .con abt :: .fn 215 [(13, 0), (12, 0)] :: aN 5 [.con tI, .var tI], [.cells [.con tI, .con tI, .con abq, .con abo, .con abt, .con abp, .con abo], .cells [.con tI, .con tI, .con abq, .con abo, .con abt, .con abp, .con abo], .cells [.omp 3], .mapc tI .bool, .cells [.con abq], .cells [.fn 147 []], .cells [.con abo], .cells [.fn 148 [(2, 0)]], .cells [.con abo], .cells [.fn 148 [(2, 0)]], .cells [.con abt], .cells [.fn 149 [(2, 0)]], .cells [.con abt], .cells [.fn 149 [(2, 0)]]]⟩, exits := [(.ret, ⟨19, [.con abt, .fn 215 [(13, 0), (12, 0)], .any, .any, .var tI, .any, .any, .con tI], [.cells [.con tI, .con tI, .con abq, .con abo, .con abt, .con abp, .con abo], .cells [.con tI, .con tI, .con abq, .con abo, .con abt, .con abp, .con abo], .cells [.omp 3], .mapc tI .bool, .cells [.con abq], .cells [.fn 147 []], .cells [.con abo], .cells [.fn 148 [(2, 0)]], .cells [.con abo], .cells [.fn 148 [(2, 0)]], .cells [.con abt], .cells [.fn 149 [(2, 0)]], .cells [.con abt], .cells [.fn 149 [(2, 0)]]]⟩, [tI]), (.exit 0, ⟨19, .con abt :: .fn 215 [(13, 0), (12, 0)] :: aN 5 [.con tI], [.cells [.con tI, .con tI, .con abq, .con abo, .con abt, .con abp, .con abo], .cells [.con tI, .con tI, .con abq, .con abo, .con abt, .con abp, .con abo], .cells [.omp 3], .mapc tI .bool, .cells [.con abq], .cells [.fn 147 []], .cells [.con abo], .cells [.fn 148 [(2, 0)]], .cells [.con abo], .cells [.fn 148 [(2, 0)]], .cells [.con abt], .cells [.fn 149 [(2, 0)]], .cells [.con abt], .cells [.fn 149 [(2, 0)]]]⟩, [])] }
def ata (ρ : Type) : acI ρ := ⟨[17, 43, 1, 2, 1, 2], 257, 0, aFa, fun (p : Val (.pair abt (.pair tI (.pair tI (.pair tI (.pair abq (.pair abo (.pair abt (.pair abp (.pair abo (.pair tI (.pair tI (.pair abq (.pair abo (.pair abt (.pair abp (.pair abo (.pair abx (.pair abq (.pair abo (.pair abo (.pair abt abt)))))))))))))))))))))) (v : Val tI) kn kx => ade p.1 p.2.1 p.2.2.2.2.2.2.2.2.2.2.2.2.2.2.2.2.1 p.2.2.2.2.2.2.2.2.2.2.2.2.2.2.2.2.2.2.2.2.2 v (fun u0 => kn u0) (kx 0) (kx 1)⟩
def aKC : List (Nat × acA) := [(210, afb), (213, af1), (216, afy)]
def awX (ρ : Type) : List (acI ρ) := [atj ρ, atg ρ, atf ρ, ath ρ, ati ρ, ate ρ, atd ρ, atc ρ, atb ρ, ata ρ]
def aeQ (ρ : Type) : Env ρ := acE aKC (awX ρ)
def aDz : acA := ⟨[acd, afa], [.bool, tI], fun (x : Val (.pair acd afa)) => ap5 x.1 x.2⟩
def aFw : List (Nat × acA) := [(33, amy), (38, ad4), (39, aqD), (77, aMa)]
def aqP (ρ : Type) : List (acI ρ) := []
def aw3 (ρ : Type) : Env ρ := acE aFw (aqP ρ)
def azi : acA := ⟨[acm, tI, tI], [abz], fun (x : Val ab1) => apm x.1 x.2.1 x.2.2⟩
def aNw : aci := { pin := 0, cs := [tI, tI, tI, tI, abv], vs := [tI, abr], head := ⟨45, .any :: .con tI :: .con tI :: .box 0 0 :: .any :: .any :: .any :: .own 1 :: aN 7 [.con tI, .var tI], [.cells [.con tI, .con abv], .rowv tI]⟩, exits := [(.exit 0, ⟨45, .any :: .con tI :: .con tI :: .box 0 0 :: .any :: .any :: .any :: .own 1 :: aN 7 [.con tI], [.cells [.con tI, .con abv], .rowv tI]⟩, [abr])] }
def aDR (ρ : Type) : acI ρ := ⟨[], 156, 0, aNw, fun (p : Val (.pair tI (.pair tI abP))) (v : Val abE) kn kx => apW p.2.2.1 v.1 v.2 (fun u0 u1 => kn (u0, u1)) (kx 0)⟩
def aNu : aci := { pin := 4, cs := [abr, tI, abz, tI, abv], vs := [tI, abr], head := ⟨53, .con abr :: .box 1 0 :: .any :: .any :: .own 4 :: aN 7 [.con tI, .var tI], [.rowc abr, .cells [.con tI, .con abv], .dead, .dead, .rowv tI]⟩, exits := [(.exit 0, ⟨53, .con abr :: .box 1 0 :: .any :: .any :: .own 4 :: aN 7 [.con tI], [.rowc abr, .cells [.con tI, .con abv], .dead, .dead, .rowv tI]⟩, [abr])] }
def aDP (ρ : Type) : acI ρ := ⟨[12, 8], 217, 0, aNu, fun (p : Val (.pair abr (.pair tI (.pair abz acm)))) (v : Val abE) kn kx => aFI p.2.1 v.1 v.2 (fun u0 u1 => kn (u0, u1)) (kx 0)⟩
def aNt : aci := { pin := 4, cs := [abr, abv, tI, abz, tI, abv], vs := [tI, abr], head := ⟨53, .con abr :: .any :: .any :: .any :: .own 4 :: aN 16 [.con abv, .con tI, .var tI], [.rowc abr, .cells [.con tI, .con abv], .dead, .dead, .rowv tI]⟩, exits := [(.exit 2, ⟨53, .con abr :: .any :: .any :: .any :: .own 4 :: aN 16 [.con abv, .con tI], [.rowc abr, .cells [.con tI, .con abv], .dead, .dead, .rowv tI]⟩, [abr])] }
def aDO (ρ : Type) : acI ρ := ⟨[12, 8], 217, 2, aNt, fun (p : Val (.pair abr (.pair abv (.pair tI (.pair abz acm))))) (v : Val abE) kn kx => atK p.1 p.2.1 p.2.2.1 v.1 v.2 (fun u0 u1 => kn (u0, u1)) (kx 0)⟩
def aNv : aci := { pin := 0, cs := [tI, tI, abv], vs := [tI, abz], head := ⟨45, aN 9 (.own 0 :: .fn 217 [(1, 0)] :: aN 18 [.con tI, .var tI]), [.rowv abr, .cells [.con tI, .con abv]]⟩, exits := [(.exit 2, ⟨45, aN 9 (.own 0 :: .fn 217 [(1, 0)] :: aN 18 [.con tI]), [.rowv abr, .cells [.con tI, .con abv]]⟩, [abz])] }
def aDQ (ρ : Type) : acI ρ := ⟨[], 156, 2, aNv, fun (p : Val abP) (v : Val (.pair tI abz)) kn kx => ayE p.1 p.2.1 p.2.2 v.1 v.2 (fun u0 u1 => kn (u0, u1)) (kx 0)⟩
def aRp : List (Nat × acA) := []
def aIv (ρ : Type) : List (acI ρ) := [aDR ρ, aDP ρ, aDO ρ, aDQ ρ]
def avT (ρ : Type) : Env ρ := acE aRp (aIv ρ)
def aHQ : acA := ⟨[acm], [abr, tI], fun (x : Val acm) => apn x⟩
def aCE : aci := { pin := 0, cs := [tI, tI, abv], vs := [tI, abR], head := ⟨93, .any :: .box 0 0 :: aN 6 (.own 1 :: aN 24 [.con tI, .var tI]), [.cells [.con tI, .con abv], .rowv abz]⟩, exits := [(.exit 0, ⟨93, .any :: .box 0 0 :: aN 6 (.own 1 :: aN 24 [.con tI]), [.cells [.con tI, .con abv], .rowv abz]⟩, [abR])] }
def aqY (ρ : Type) : acI ρ := ⟨[], 78, 0, aCE, fun (p : Val abP) (v : Val (.pair tI abR)) kn kx => axc p.1 p.2.1 p.2.2 v.1 v.2 (fun u0 u1 => kn (u0, u1)) (kx 0)⟩
def aCA : aci := { pin := 3, cs := [tI, abz, abv, tI, tI, abv, abR, tI, tI, tI, tI, abv], vs := [tI, tI, tI, abr], head := ⟨73, .any :: .var tI :: .con tI :: .con abz :: .fn 157 [] :: .box 3 0 :: aN 5 (.own 4 :: .var tI :: aN 7 [.con abv, .con tI, .var tI]), [.cells [.con tI, .con abv], .rowc abz, .cells [.con tI, .con tI, .con tI], .cells [.con tI, .con abv], .rowv tI]⟩, exits := [(.exit 2, ⟨73, .any :: .var tI :: .con tI :: .con abz :: .fn 157 [] :: .box 3 0 :: aN 5 (.own 4 :: .var tI :: aN 7 [.con abv, .con tI]), [.cells [.con tI, .con abv], .rowc abz, .cells [.con tI, .con tI, .con tI], .cells [.con tI, .con abv], .rowv tI]⟩, [tI, tI, abr])] }
def aqU (ρ : Type) : acI ρ := ⟨[22, 10], 158, 2, aCA, fun (p : Val (.pair tI (.pair abz (.pair abv (.pair tI (.pair tI (.pair abv (.pair abR (.pair tI (.pair tI abP)))))))))) (v : Val abJ) kn kx => aw8 p.1 p.2.1 p.2.2.1 p.2.2.2.1 v.1 v.2.1 v.2.2.1 v.2.2.2 (fun u0 u1 u2 u3 => kn (u0, u1, u2, u3)) (kx 0)⟩
def aCB : aci := { pin := 3, cs := [abz, tI, abv, abR, tI, tI, tI, tI, abv], vs := [tI, tI, tI, abr], head := ⟨73, .any :: .var tI :: .var tI :: .con abz :: .fn 157 [] :: .box 3 0 :: aN 5 [.own 4, .var tI], [.cells [.con tI, .con abv], .rowc abz, .cells [.con tI, .con tI, .con tI], .cells [.con tI, .con abv], .rowv tI]⟩, exits := [(.exit 0, ⟨73, .any :: .any :: .any :: .con abz :: .fn 157 [] :: .box 3 0 :: aN 5 [.own 4], [.cells [.con tI, .con abv], .rowc abz, .cells [.con tI, .con tI, .con tI], .cells [.con tI, .con abv], .rowv tI]⟩, [abr])] }
def aqV (ρ : Type) : acI ρ := ⟨[22, 10], 158, 0, aCB, fun (p : Val (.pair abz (.pair tI (.pair abv (.pair abR (.pair tI (.pair tI abP))))))) (v : Val abJ) kn kx => aw9 p.1 p.2.2.2.2.2.2.2.2 v.1 v.2.1 v.2.2.1 v.2.2.2 (fun u0 u1 u2 u3 => kn (u0, u1, u2, u3)) (kx 0)⟩
def aCC : aci := { pin := 0, cs := [tI, abv, tI, tI, abv, abR], vs := [tI], head := ⟨93, .any :: .box 0 0 :: aN 6 (.own 1 :: .any :: .fn 157 [] :: .con tI :: aN 37 [.con abv, .con tI, .var tI]), [.cells [.con tI, .con abv], .rowc abz]⟩, exits := [(.exit 2, ⟨93, .any :: .box 0 0 :: aN 6 (.own 1 :: .any :: .fn 157 [] :: .con tI :: aN 37 [.con abv, .con tI]), [.cells [.con tI, .con abv], .rowc abz]⟩, []), (.ret, ⟨93, .any :: .box 0 0 :: .own 2 :: .var tI :: aN 4 (.own 1 :: .any :: .fn 157 [] :: .con tI :: aN 37 [.con abv, .con tI]), [.cells [.con tI, .con abv], .rowc abz, .rowv tI]⟩, [tI, abr]), (.exit 4, ⟨93, .any :: .box 0 0 :: aN 6 (.own 1 :: .any :: .fn 157 [] :: .con tI :: aN 37 [.con abv, .con tI]), [.cells [.con tI, .con abv], .rowc abz]⟩, [])] }
def aqW (ρ : Type) : acI ρ := ⟨[], 78, 4, aCC, fun (p : Val (.pair tI (.pair abv (.pair tI (.pair tI (.pair abv abR)))))) (v : Val tI) kn kx => axa p.1 p.2.1 p.2.2.1 p.2.2.2.1 p.2.2.2.2.1 p.2.2.2.2.2 v (fun u0 => kn u0) (kx 0) (kx 1) (kx 2)⟩
def aCD : aci := { pin := 0, cs := [tI, abv, abR], vs := [tI], head := ⟨93, .any :: .box 0 0 :: aN 6 [.own 1, .any, .fn 157 [], .var tI], [.cells [.con tI, .con abv], .rowc abz]⟩, exits := [(.exit 2, ⟨93, .any :: .box 0 0 :: aN 6 [.own 1, .any, .fn 157 []], [.cells [.con tI, .con abv], .rowc abz]⟩, []), (.ret, ⟨93, .any :: .box 0 0 :: .own 2 :: .var tI :: aN 4 [.own 1, .any, .fn 157 []], [.cells [.con tI, .con abv], .rowc abz, .rowv tI]⟩, [tI, abr])] }
def aqX (ρ : Type) : acI ρ := ⟨[], 78, 2, aCD, fun (p : Val (.pair tI (.pair abv abR))) (v : Val tI) kn kx => axb p.1 p.2.1 p.2.2 v (fun u0 => kn u0) (kx 0) (kx 1)⟩
def aIx : List (Nat × acA) := [(133, alF), (135, aku), (156, azi)]
def atO (ρ : Type) : List (acI ρ) := [aqY ρ, aqU ρ, aqV ρ, aqW ρ, aqX ρ]
def agU (ρ : Type) : Env ρ := acE aIx (atO ρ)
def arw : acA := ⟨[acd, abr], [abo], fun (x : Val (.pair acd abr)) => akd x.1 x.2⟩
def axU : aci := { pin := 0, cs := [abo, abr, tI], vs := [tI, abo], head := ⟨32, aN 6 (.con abo :: .any :: .own 0 :: aN 8 [.con abr, .con tI, .var tI]), [.rowv aca]⟩, exits := [(.exit 0, ⟨32, aN 6 (.con abo :: .any :: .own 0 :: aN 8 [.con abr, .con tI]), [.rowv aca]⟩, [abo])] }
def anK (ρ : Type) : acI ρ := ⟨[], 80, 0, axU, fun (p : Val (.pair abo abK)) (v : Val abI) kn kx => ail p.1 p.2.1 p.2.2 v.1 v.2 (fun u0 u1 => kn (u0, u1)) (kx 0)⟩
def aB4 : List (Nat × acA) := [(20, aed)]
def aoA (ρ : Type) : List (acI ρ) := [anK ρ]
def amG (ρ : Type) : Env ρ := acE aB4 (aoA ρ)
def aHO : acA := ⟨[acd], [afa, tI], fun (x : Val acd) => auR x⟩
def aIr : List (Nat × acA) := [(20, aed), (78, aHQ), (79, ajP), (80, arw)]
def aty (ρ : Type) : List (acI ρ) := []
def azP (ρ : Type) : Env ρ := acE aIr (aty ρ)
def asK : acA := ⟨[tI], [tI], fun (x : Val tI) => ahz x⟩
def ax0 : List (Nat × acA) := []
def alW (ρ : Type) : List (acI ρ) := []
def aoK (ρ : Type) : Env ρ := acE ax0 (alW ρ)
def asJ : acA := ⟨[ac9, tI], [abr], fun (x : Val (.pair ac9 tI)) => afM x.1 x.2⟩
def axZ : List (Nat × acA) := []
def alP (ρ : Type) : List (acI ρ) := []
def aoI (ρ : Type) : Env ρ := acE axZ (alP ρ)
def azf : acA := ⟨[acd, aca, aca, acj], [.bool, tI], fun (x : Val (.pair acd (.pair aca ab0))) => ake x.1 x.2.1 x.2.2.1 x.2.2.2⟩
def aeS : aci := { pin := 5, cs := [tI, tI, tI, abq, abo, abt, abp, abo, tI, tI, tI, tI, tI, tI, abr, abr, tI, tI, tI, tI, abo], vs := [tI, tI, tI, abq, abo, abt, abp, abo], head := ⟨68, .any :: .any :: .box 5 0 :: aN 20 [.own 4, .con tI, .var tI], [.cells [.con tI, .con tI, .con abq, .con abo, .con abt, .con abp, .con abo], .cells [.con tI, .con tI], .cells [.con tI, .con tI], .cells [.con tI, .con tI, .con abr, .con abr, .con tI, .con tI, .con tI, .con tI], .rowc aca, .cells [.var tI, .var tI, .var abq, .var abo, .var abt, .var abp, .var abo]]⟩, exits := [(.ret, ⟨68, .any :: .any :: .box 5 0 :: .any :: .nilp :: .var tI :: aN 17 [.own 4, .con tI], [.cells [.con tI, .con tI, .con abq, .con abo, .con abt, .con abp, .con abo], .cells [.con tI, .con tI], .cells [.con tI, .con tI], .cells [.con tI, .con tI, .con abr, .con abr, .con tI, .con tI, .con tI, .con tI], .rowc aca, .cells [.var tI, .var tI, .var abq, .var abo, .var abt, .var abp, .var abo]]⟩, [tI, tI, tI, abq, abo, abt, abp, abo]), (.exit 0, ⟨68, .any :: .any :: .box 5 0 :: aN 20 [.own 4, .con tI], [.cells [.con tI, .con tI, .con abq, .con abo, .con abt, .con abp, .con abo], .cells [.con tI, .con tI], .cells [.con tI, .con tI], .cells [.con tI, .con tI, .con abr, .con abr, .con tI, .con tI, .con tI, .con tI], .rowc aca, .cells [.var tI, .var tI, .var abq, .var abo, .var abt, .var abp, .var abo]]⟩, [tI, tI, abq, abo, abt, abp, abo])] }
def aiW (ρ : Type) : acI ρ := ⟨[1, 3], 50, 0, aeS, fun (p : Val abC) (v : Val abH) kn kx => alf p.1 p.2.2.2.2.2.2.2.2.2.2.2.2.2.2.2.2.2.2.2.2 v.1 v.2.1 v.2.2.1 v.2.2.2.1 v.2.2.2.2.1 v.2.2.2.2.2.1 v.2.2.2.2.2.2.1 v.2.2.2.2.2.2.2 (fun u0 u1 u2 u3 u4 u5 u6 u7 => kn (u0, u1, u2, u3, u4, u5, u6, u7)) (kx 0) (kx 1)⟩
def aeR : aci := { pin := 12, cs := [abr, tI, tI, tI, abq, abo, abt, abp, abo, tI, tI, tI, tI, tI, tI, abr, abr, tI, tI, tI, tI, abo, tI, tI, abq, abo, abt, abp, abo, tI, abv, tI, tI, tI, tI, tI, tI, tI, tI, abz, abz, abz], vs := [tI], head := ⟨19, .con abr :: .fn 98 [(8, 0), (2, 0)] :: aN 5 [.con tI, .var tI], [.cells [.con tI, .con tI, .con abq, .con abo, .con abt, .con abp, .con abo], .cells [.con tI, .con tI], .cells [.con tI, .con tI], .cells [.con tI, .con tI, .con abr, .con abr, .con tI, .con tI, .con tI, .con tI], .rowc aca, .cells [.con tI, .con tI, .con abq, .con abo, .con abt, .con abp, .con abo], .cells [.con tI, .con abv], .dead, .cells [.con tI, .con tI, .con tI, .con tI, .con tI, .con tI, .con tI, .con tI], .rowf abr 0, .rowf abr 0, .rowf abr 0]⟩, exits := [(.ret, ⟨19, [.con abr, .fn 98 [(8, 0), (2, 0)], .any, .any, .var tI, .any, .any, .con tI], [.cells [.con tI, .con tI, .con abq, .con abo, .con abt, .con abp, .con abo], .cells [.con tI, .con tI], .cells [.con tI, .con tI], .cells [.con tI, .con tI, .con abr, .con abr, .con tI, .con tI, .con tI, .con tI], .rowc aca, .cells [.con tI, .con tI, .con abq, .con abo, .con abt, .con abp, .con abo], .cells [.con tI, .con abv], .dead, .cells [.con tI, .con tI, .con tI, .con tI, .con tI, .con tI, .con tI, .con tI], .rowf abr 0, .rowf abr 0, .rowf abr 0]⟩, [tI]), (.exit 0, ⟨19, .con abr :: .fn 98 [(8, 0), (2, 0)] :: aN 5 [.con tI], [.cells [.con tI, .con tI, .con abq, .con abo, .con abt, .con abp, .con abo], .cells [.con tI, .con tI], .cells [.con tI, .con tI], .cells [.con tI, .con tI, .con abr, .con abr, .con tI, .con tI, .con tI, .con tI], .rowc aca, .cells [.con tI, .con tI, .con abq, .con abo, .con abt, .con abp, .con abo], .cells [.con tI, .con abv], .dead, .cells [.con tI, .con tI, .con tI, .con tI, .con tI, .con tI, .con tI, .con tI], .rowf abr 0, .rowf abr 0, .rowf abr 0]⟩, [])] }
def aiV (ρ : Type) : acI ρ := ⟨[18, 4, 1, 2], 178, 0, aeR, fun (p : Val aby) (v : Val tI) kn kx => aim p.1 p.2.1 p.2.2.2.2.2.2.2.2.2.2.2.1 p.2.2.2.2.2.2.2.2.2.2.2.2.1 p.2.2.2.2.2.2.2.2.2.2.2.2.2.2.2.2.2.2.2.2.2.2.2.2.2.2.2.2.2.2.2.1 p.2.2.2.2.2.2.2.2.2.2.2.2.2.2.2.2.2.2.2.2.2.2.2.2.2.2.2.2.2.2.2.2.1 p.2.2.2.2.2.2.2.2.2.2.2.2.2.2.2.2.2.2.2.2.2.2.2.2.2.2.2.2.2.2.2.2.2.1 p.2.2.2.2.2.2.2.2.2.2.2.2.2.2.2.2.2.2.2.2.2.2.2.2.2.2.2.2.2.2.2.2.2.2.1 p.2.2.2.2.2.2.2.2.2.2.2.2.2.2.2.2.2.2.2.2.2.2.2.2.2.2.2.2.2.2.2.2.2.2.2.1 p.2.2.2.2.2.2.2.2.2.2.2.2.2.2.2.2.2.2.2.2.2.2.2.2.2.2.2.2.2.2.2.2.2.2.2.2.1 p.2.2.2.2.2.2.2.2.2.2.2.2.2.2.2.2.2.2.2.2.2.2.2.2.2.2.2.2.2.2.2.2.2.2.2.2.2.1 p.2.2.2.2.2.2.2.2.2.2.2.2.2.2.2.2.2.2.2.2.2.2.2.2.2.2.2.2.2.2.2.2.2.2.2.2.2.2.1 v (fun u0 => kn u0) (kx 0) (kx 1)⟩
def aqQ : List (Nat × acA) := [(20, aed), (38, ad4), (60, aga), (61, ajg), (69, arv), (71, apP), (94, aec), (95, amx), (96, asK), (97, asJ), (99, ak6), (101, ak7), (123, ad0)]
def aj2 (ρ : Type) : List (acI ρ) := [aiW ρ, aiV ρ]
def ale : List aQP := [⟨[], 42, 0, 4⟩]
def ada (ρ : Type) : Env ρ := { acE aqQ (aj2 ρ) with hint := awn [(51, 96), (55, 96)] }
def amM (ρ : Type) : Env ρ := { { aSp aqQ (aj2 ρ) ale with loops := aI3 (ada ρ) ale } with hint := awn [(51, 96), (55, 96)] }
def awR : acA := ⟨[], [acd], fun (_ : Unit) => apl⟩
def azw : List (Nat × acA) := []
def anI (ρ : Type) : List (acI ρ) := []
def aqH (ρ : Type) : Env ρ := acE azw (anI ρ)
def aHR : acA := ⟨[acm, tI, tI], [abr, tI], fun (x : Val ab1) => apo x.1 x.2.1 x.2.2⟩
def aCI : aci := { pin := 3, cs := [abz, tI, tI, abv, tI, tI], vs := [tI], head := ⟨19, .con abz :: .fn 194 [(1, 0), (2, 0)] :: aN 5 [.con tI, .var tI], [.cells [.con tI, .con abv], .cells [.con tI], .cells [.con tI]]⟩, exits := [(.ret, ⟨19, [.con abz, .fn 194 [(1, 0), (2, 0)], .any, .any, .var tI, .any, .any, .con tI], [.cells [.con tI, .con abv], .cells [.con tI], .cells [.con tI]]⟩, [tI]), (.exit 0, ⟨19, .con abz :: .fn 194 [(1, 0), (2, 0)] :: aN 5 [.con tI], [.cells [.con tI, .con abv], .cells [.con tI], .cells [.con tI]]⟩, [])] }
def aq2 (ρ : Type) : acI ρ := ⟨[5, 2], 193, 0, aCI, fun (p : Val (.pair abz (.pair tI (.pair tI (.pair abv aca))))) (v : Val tI) kn kx => akS p.1 p.2.1 p.2.2.2.2.1 p.2.2.2.2.2 v (fun u0 => kn u0) (kx 0) (kx 1)⟩
def aCG : aci := { pin := 3, cs := [tI, abz, abv, tI, tI, abv, tI, tI, tI, abv], vs := [tI, tI, tI, abr], head := ⟨73, .any :: .var tI :: .con tI :: .con abz :: .fn 195 [(2, 0)] :: .box 3 0 :: aN 5 (.own 4 :: .var tI :: aN 7 [.con abv, .con tI, .var tI]), [.cells [.con tI, .con abv], .cells [.con tI], .cells [.con tI], .cells [.con tI, .con abv], .rowv tI]⟩, exits := [(.exit 2, ⟨73, .any :: .var tI :: .con tI :: .con abz :: .fn 195 [(2, 0)] :: .box 3 0 :: aN 5 (.own 4 :: .var tI :: aN 7 [.con abv, .con tI]), [.cells [.con tI, .con abv], .cells [.con tI], .cells [.con tI], .cells [.con tI, .con abv], .rowv tI]⟩, [tI, tI, abr])] }
def aq0 (ρ : Type) : acI ρ := ⟨[6, 5], 158, 2, aCG, fun (p : Val (.pair tI (.pair abz (.pair abv (.pair tI (.pair tI (.pair abv (.pair tI abP)))))))) (v : Val abJ) kn kx => axd p.1 p.2.1 p.2.2.1 p.2.2.2.1 p.2.2.2.2.2.2.2.1 v.1 v.2.1 v.2.2.1 v.2.2.2 (fun u0 u1 u2 u3 => kn (u0, u1, u2, u3)) (kx 0)⟩
def aCH : aci := { pin := 3, cs := [abz, tI, abv, tI, tI, tI, abv], vs := [tI, tI, tI, abr], head := ⟨73, .any :: .var tI :: .var tI :: .con abz :: .fn 195 [(2, 0)] :: .box 3 0 :: aN 5 [.own 4, .var tI], [.cells [.con tI, .con abv], .cells [.con tI], .cells [.con tI], .cells [.con tI, .con abv], .rowv tI]⟩, exits := [(.exit 0, ⟨73, .any :: .any :: .any :: .con abz :: .fn 195 [(2, 0)] :: .box 3 0 :: aN 5 [.own 4], [.cells [.con tI, .con abv], .cells [.con tI], .cells [.con tI], .cells [.con tI, .con abv], .rowv tI]⟩, [abr])] }
def aq1 (ρ : Type) : acI ρ := ⟨[6, 5], 158, 0, aCH, fun (p : Val (.pair abz (.pair tI (.pair abv (.pair tI abP))))) (v : Val abJ) kn kx => akR p.1 p.2.2.2.2.1 p.2.2.2.2.2.2 v.1 v.2.1 v.2.2.1 v.2.2.2 (fun u0 u1 u2 u3 => kn (u0, u1, u2, u3)) (kx 0)⟩
def aIz : List (Nat × acA) := [(89, asM), (156, azi)]
def atU (ρ : Type) : List (acI ρ) := [aq2 ρ, aq0 ρ, aq1 ρ]
def aj3 (ρ : Type) : Env ρ := acE aIz (atU ρ)
def asL : acA := ⟨[abB, abW, (.ptr .bool)], [abr], fun (x : Val (.pair abB (.pair abW (.ptr .bool)))) => ahB x.1 x.2.1 x.2.2⟩
def ax5 : List (Nat × acA) := [(55, agN), (120, aHR)]
def alZ (ρ : Type) : List (acI ρ) := []
def aoP (ρ : Type) : Env ρ := acE ax5 (alZ ρ)
def azg : acA := ⟨[acd, aca, .bool], [afa, tI], fun (x : Val (.pair acd (.pair aca .bool))) => ano x.1 x.2.1 x.2.2⟩
def ax4 : aci := { pin := 5, cs := [tI, tI, tI, abq, abo, abt, abp, abo, tI, tI, tI, tI, .bool, tI, abo], vs := [tI, tI, tI, abq, abo, abt, abp, abo], head := ⟨68, .any :: .any :: .box 5 0 :: aN 20 [.own 4, .con tI, .var tI], [.cells [.con tI, .con tI, .con abq, .con abo, .con abt, .con abp, .con abo], .dead, .dead, .cells [.con tI, .con tI, .nils, .nils, .nils, .nils, .nils, .con tI, .con tI, .con .bool, .con tI, .nils], .rowc aca, .cells [.var tI, .var tI, .var abq, .var abo, .var abt, .var abp, .var abo]]⟩, exits := [(.ret, ⟨68, .any :: .any :: .box 5 0 :: .any :: .nilp :: .var tI :: aN 17 [.own 4, .con tI], [.cells [.con tI, .con tI, .con abq, .con abo, .con abt, .con abp, .con abo], .dead, .dead, .cells [.con tI, .con tI, .nils, .nils, .nils, .nils, .nils, .con tI, .con tI, .con .bool, .con tI, .nils], .rowc aca, .cells [.var tI, .var tI, .var abq, .var abo, .var abt, .var abp, .var abo]]⟩, [tI, tI, tI, abq, abo, abt, abp, abo]), (.exit 0, ⟨68, .any :: .any :: .box 5 0 :: aN 20 [.own 4, .con tI], [.cells [.con tI, .con tI, .con abq, .con abo, .con abt, .con abp, .con abo], .dead, .dead, .cells [.con tI, .con tI, .nils, .nils, .nils, .nils, .nils, .con tI, .con tI, .con .bool, .con tI, .nils], .rowc aca, .cells [.var tI, .var tI, .var abq, .var abo, .var abt, .var abp, .var abo]]⟩, [tI, tI, abq, abo, abt, abp, abo])] }
def anS (ρ : Type) : acI ρ := ⟨[1, 3], 50, 0, ax4, fun (p : Val (.pair tI (.pair tI (.pair tI (.pair abq (.pair abo (.pair abt (.pair abp (.pair abo (.pair tI (.pair tI (.pair tI (.pair tI (.pair .bool abI)))))))))))))) (v : Val abH) kn kx => alj p.1 p.2.2.2.2.2.2.2.2.2.2.2.2.2.2 v.1 v.2.1 v.2.2.1 v.2.2.2.1 v.2.2.2.2.1 v.2.2.2.2.2.1 v.2.2.2.2.2.2.1 v.2.2.2.2.2.2.2 (fun u0 u1 u2 u3 u4 u5 u6 u7 => kn (u0, u1, u2, u3, u4, u5, u6, u7)) (kx 0) (kx 1)⟩
def ax3 : aci := { pin := 10, cs := [tI, tI, tI, abq, abo, abt, abp, abo, tI, tI, tI, tI, .bool, tI, abo, tI, tI, abq, abo, abt, abp, abo, tI, abv, abo, tI, tI, abq, abo, abt, abp, abo, tI, tI, abq, abo, abt, abp, abo], vs := [tI], head := ⟨68, .any :: .any :: .box 10 0 :: aN 20 [.nils, .con tI, .var tI], [.cells [.con tI, .con tI, .con abq, .con abo, .con abt, .con abp, .con abo], .dead, .dead, .cells [.con tI, .con tI, .nils, .nils, .nils, .nils, .nils, .con tI, .con tI, .con .bool, .con tI, .nils], .rowc aca, .cells [.con tI, .con tI, .con abq, .con abo, .con abt, .con abp, .con abo], .cells [.con tI, .con abv], .dead, .rowf aca 0, .cells [.con tI, .con tI, .con abq, .con abo, .con abt, .con abp, .con abo], .cells [.con tI, .con tI, .con abq, .con abo, .con abt, .con abp, .con abo]]⟩, exits := [(.exit 0, ⟨68, .any :: .any :: .box 10 0 :: aN 20 [.nils, .con tI], [.cells [.con tI, .con tI, .con abq, .con abo, .con abt, .con abp, .con abo], .dead, .dead, .cells [.con tI, .con tI, .nils, .nils, .nils, .nils, .nils, .con tI, .con tI, .con .bool, .con tI, .nils], .rowc aca, .cells [.con tI, .con tI, .con abq, .con abo, .con abt, .con abp, .con abo], .cells [.con tI, .con abv], .dead, .rowf aca 0, .cells [.con tI, .con tI, .con abq, .con abo, .con abt, .con abp, .con abo], .cells [.con tI, .con tI, .con abq, .con abo, .con abt, .con abp, .con abo]]⟩, [])] }
def anR (ρ : Type) : acI ρ := ⟨[6, 1], 50, 0, ax3, fun (p : Val (.pair tI (.pair tI (.pair tI (.pair abq (.pair abo (.pair abt (.pair abp (.pair abo (.pair tI (.pair tI (.pair tI (.pair tI (.pair .bool (.pair tI (.pair abo (.pair tI (.pair tI (.pair abq (.pair abo (.pair abt (.pair abp (.pair abo (.pair tI (.pair abv (.pair abo (.pair tI (.pair tI (.pair abq (.pair abo (.pair abt (.pair abp (.pair abo abw))))))))))))))))))))))))))))))))) (v : Val tI) kn kx => ali p.1 v (fun u0 => kn u0) (kx 0)⟩
def aCr : List (Nat × acA) := [(20, aed), (38, ad4), (60, aga), (61, ajg), (79, ajP), (80, arw), (119, asL), (121, ak8), (122, ahT), (123, ad0)]
def aoO (ρ : Type) : List (acI ρ) := [anS ρ, anR ρ]
def ahr (ρ : Type) : Env ρ := { acE aCr (aoO ρ) with hint := awn [(34, 119), (56, 119)] }
def azd : acA := ⟨[], [.bool], fun (_ : Unit) => afK⟩
def aB0 : List (Nat × acA) := [(15, aon), (17, azh), (18, aMb), (25, aHN), (31, aze), (33, amy), (35, aDz), (36, aHO), (42, azf), (48, awR), (49, azg)]
def aos (ρ : Type) : List (acI ρ) := []
def as0 (ρ : Type) : Env ρ := acE aB0 (aos ρ)
def aMc : acA := ⟨[acd, aca, abp], [tI, tI], fun (x : Val ab2) => ap6 x.1 x.2.1 x.2.2⟩
def aFE : aci := { pin := 3, cs := [tI, tI, tI, abq, abo, abt, abp, abo, tI, tI, abo], vs := [tI, tI, tI, abq, abo, abt, abp, abo], head := ⟨68, .any :: .any :: .box 3 0 :: aN 20 [.own 2, .con tI, .var tI], [.cells [.con tI, .con tI, .con abq, .con abo, .con abt, .con abp, .con abo], .cells [.con tI, .con tI], .rowc aca, .cells [.var tI, .var tI, .var abq, .var abo, .var abt, .var abp, .var abo]]⟩, exits := [(.ret, ⟨68, .any :: .any :: .box 3 0 :: .any :: .nilp :: .var tI :: aN 17 [.own 2, .con tI], [.cells [.con tI, .con tI, .con abq, .con abo, .con abt, .con abp, .con abo], .cells [.con tI, .con tI], .rowc aca, .cells [.var tI, .var tI, .var abq, .var abo, .var abt, .var abp, .var abo]]⟩, [tI, tI, tI, abq, abo, abt, abp, abo]), (.exit 0, ⟨68, .any :: .any :: .box 3 0 :: aN 20 [.own 2, .con tI], [.cells [.con tI, .con tI, .con abq, .con abo, .con abt, .con abp, .con abo], .cells [.con tI, .con tI], .rowc aca, .cells [.var tI, .var tI, .var abq, .var abo, .var abt, .var abp, .var abo]]⟩, [tI, tI, abq, abo, abt, abp, abo])] }
def atC (ρ : Type) : acI ρ := ⟨[1, 3], 50, 0, aFE, fun (p : Val (.pair tI (.pair tI (.pair tI (.pair abq (.pair abo (.pair abt (.pair abp (.pair abo abS))))))))) (v : Val abH) kn kx => arW p.1 p.2.2.2.2.2.2.2.2.2.2 v.1 v.2.1 v.2.2.1 v.2.2.2.1 v.2.2.2.2.1 v.2.2.2.2.2.1 v.2.2.2.2.2.2.1 v.2.2.2.2.2.2.2 (fun u0 u1 u2 u3 u4 u5 u6 u7 => kn (u0, u1, u2, u3, u4, u5, u6, u7)) (kx 0) (kx 1)⟩
def aFD : aci := { pin := 0, cs := [abB, abp, tI, tI, tI], vs := [tI, abr], head := ⟨57, aN 4 (.box 0 0 :: .any :: .any :: .any :: .con abB :: .any :: .own 1 :: aN 20 [.con abp, .con tI, .var tI]), [.cells [.con tI, .con tI], .rowv tI]⟩, exits := [(.ret, ⟨57, aN 4 (.box 0 0 :: .any :: .var tI :: .var tI :: .con abB :: .any :: .own 1 :: aN 20 [.con abp, .con tI]), [.cells [.con tI, .con tI], .rowv tI]⟩, [tI, tI, abr]), (.exit 0, ⟨57, aN 4 (.box 0 0 :: .any :: .any :: .any :: .con abB :: .any :: .own 1 :: aN 20 [.con abp, .con tI]), [.cells [.con tI, .con tI], .rowv tI]⟩, [abr])] }
def atB (ρ : Type) : acI ρ := ⟨[], 30, 0, aFD, fun (p : Val (.pair abB (.pair abp ac9))) (v : Val abE) kn kx => ah6 p.1 p.2.1 p.2.2.1 p.2.2.2.1 p.2.2.2.2 v.1 v.2 (fun u0 u1 => kn (u0, u1)) (kx 0) (kx 1)⟩
def aFC : aci := { pin := 2, cs := [tI, tI, abr], vs := [tI, tI], head := ⟨25, [.own 1, .any, .any, .var tI, .var tI], [.cells [.con tI, .con tI], .rowc tI]⟩, exits := [(.exit 0, ⟨25, [.own 1, .any, .any, .var tI], [.cells [.con tI, .con tI], .rowc tI]⟩, [tI])] }
def atA (ρ : Type) : acI ρ := ⟨[17, 2], 74, 0, aFC, fun (p : Val ab6) (v : Val aca) kn kx => amT p.2.2 v.1 v.2 (fun u0 u1 => kn (u0, u1)) (kx 0)⟩
def aKH : List (Nat × acA) := [(20, aed), (38, ad4), (60, aga), (61, ajg), (71, apP), (72, ajO), (73, ahS), (123, ad0)]
def aw5 (ρ : Type) : List (acI ρ) := [atC ρ, atB ρ, atA ρ]
def al0 (ρ : Type) : Env ρ := acE aKH (aw5 ρ)
def ahh : acA := ⟨[acd, aca, abp], [.bool], fun (x : Val ab2) => akb x.1 x.2.1 x.2.2⟩
def aqm : aci := { pin := 0, cs := [abp, tI, tI, abq, abo, abt, abp, abo, tI, tI], vs := [tI], head := ⟨133, [.any, .any, .con abp, .box 0 0, .box 1 0, .any, .any, .var tI], [.cells [.con tI, .con tI, .con abq, .con abo, .con abt, .con abp, .con abo], .cells [.con tI, .con tI]]⟩, exits := [(.ret, ⟨133, [.any, .any, .con abp, .box 0 0, .box 1 0, .any, .var .bool], [.cells [.con tI, .con tI, .con abq, .con abo, .con abt, .con abp, .con abo], .cells [.con tI, .con tI]]⟩, [.bool]), (.exit 0, ⟨133, [.any, .any, .con abp, .box 0 0, .box 1 0], [.cells [.con tI, .con tI, .con abq, .con abo, .con abt, .con abp, .con abo], .cells [.con tI, .con tI]]⟩, [])] }
def ai5 (ρ : Type) : acI ρ := ⟨[], 6, 0, aqm, fun (p : Val (.pair abp (.pair tI (.pair tI (.pair abq (.pair abo (.pair abt (.pair abp abZ)))))))) (v : Val tI) kn kx => aeX p.1 v (fun u0 => kn u0) (kx 0) (kx 1)⟩
def aql : aci := { pin := 0, cs := [abp, tI, tI, tI, tI, tI, abq, abo, abt, abp, abo, tI, tI, tI, tI], vs := [tI], head := ⟨133, [.any, .any, .con abp, .box 0 0, .box 1 0, .any, .any, .any, .con tI, .any, .box 2 0, .any, .con tI, .con tI, .var tI], [.cells [.con tI, .con tI, .con abq, .con abo, .con abt, .con abp, .con abo], .cells [.con tI, .con tI], .cells [.con tI, .con tI]]⟩, exits := [(.ret, ⟨133, [.any, .any, .con abp, .box 0 0, .box 1 0, .any, .var .bool, .any, .con tI, .any, .box 2 0, .any, .con tI, .con tI], [.cells [.con tI, .con tI, .con abq, .con abo, .con abt, .con abp, .con abo], .cells [.con tI, .con tI], .cells [.con tI, .con tI]]⟩, [.bool]), (.exit 2, ⟨133, [.any, .any, .con abp, .box 0 0, .box 1 0, .any, .any, .any, .con tI, .any, .box 2 0, .any, .con tI, .con tI], [.cells [.con tI, .con tI, .con abq, .con abo, .con abt, .con abp, .con abo], .cells [.con tI, .con tI], .cells [.con tI, .con tI]]⟩, [])] }
def ai4 (ρ : Type) : acI ρ := ⟨[], 6, 2, aql, fun (p : Val (.pair abp (.pair tI (.pair tI abL)))) (v : Val tI) kn kx => aeW p.1 p.2.1 p.2.2.1 p.2.2.2.2.1 p.2.2.2.2.2.1 p.2.2.2.2.2.2.1 p.2.2.2.2.2.2.2.1 p.2.2.2.2.2.2.2.2.1 p.2.2.2.2.2.2.2.2.2.1 p.2.2.2.2.2.2.2.2.2.2.1 p.2.2.2.2.2.2.2.2.2.2.2.1 p.2.2.2.2.2.2.2.2.2.2.2.2.1 p.2.2.2.2.2.2.2.2.2.2.2.2.2.1 p.2.2.2.2.2.2.2.2.2.2.2.2.2.2 v (fun u0 => kn u0) (kx 0) (kx 1)⟩
def as2 : List (Nat × acA) := [(13, aL8), (14, azd), (15, aon), (29, avk), (30, aMc), (31, aze)]
def ajR (ρ : Type) : List (acI ρ) := [ai5 ρ, ai4 ρ]
def agn (ρ : Type) : Env ρ := acE as2 (ajR ρ)
end Go.Proofs.ZzM
end
