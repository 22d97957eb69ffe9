/- lemmas -/
import Derived.Test.YthhhehllmdfhiaaGreatAmE
import Derived.KernelRfl
import Derived.Test.YthhhehllmdfhiaaGreatMdTA
import Derived.Test.YthhhehllmdfhiaaGreatProg
set_option linter.all false
set_option linter.unusedSectionVars false
set_option linter.unusedVariables false
set_option linter.unusedSimpArgs false
noncomputable section
set_option maxRecDepth 100000
namespace Go.Proofs.ZzM
open Go Go.Am
def IO : Nat → Bool
  | 91 => true
  | 140 => true
  | 229 => true
  | 230 => true
  | 231 => true
  | 232 => true
  | 233 => true
  | _ => false
def RQ : Nat → Bool
  | 127 => true
  | _ => false
def vf : Nat → Bool
  | 128 => true
  | _ => false
def isInl : Nat → Bool
  | 2 => true
  | 50 => true
  | 66 => true
  | 74 => true
  | 84 => true
  | 92 => true
  | 93 => true
  | 98 => true
  | 100 => true
  | 124 => true
  | 131 => true
  | 132 => true
  | 136 => true
  | 137 => true
  | 139 => true
  | 141 => true
  | 147 => true
  | 148 => true
  | 149 => true
  | 150 => true
  | 151 => true
  | 152 => true
  | 153 => true
  | 154 => true
  | 155 => true
  | 157 => true
  | 158 => true
  | 159 => true
  | 160 => true
  | 161 => true
  | 165 => true
  | 169 => true
  | 170 => true
  | 175 => true
  | 176 => true
  | 178 => true
  | 193 => true
  | 194 => true
  | 195 => true
  | 196 => true
  | 199 => true
  | 201 => true
  | 202 => true
  | 203 => true
  | 204 => true
  | 206 => true
  | 207 => true
  | 208 => true
  | 209 => true
  | 211 => true
  | 212 => true
  | 214 => true
  | 215 => true
  | 217 => true
  | 218 => true
  | 220 => true
  | 221 => true
  | 222 => true
  | 242 => true
  | 243 => true
  | 244 => true
  | 245 => true
  | 246 => true
  | 247 => true
  | 249 => true
  | 250 => true
  | 253 => true
  | 255 => true
  | 257 => true
  | 261 => true
  | 269 => true
  | 270 => true
  | 272 => true
  | 273 => true
  | 275 => true
  | 276 => true
  | 279 => true
  | 280 => true
  | 286 => true
  | 288 => true
  | 289 => true
  | _ => false
def isFz : Nat → Bool
  | 59 => true
  | 79 => true
  | 94 => true
  | _ => false
def isEat : Nat → Nat → Bool
  | 41, 8 => true
  | 41, 11 => true
  | 49, 4 => true
  | 49, 5 => true
  | 50, 67 => true
  | 176, 25 => true
  | 202, 0 => true
  | _, _ => false
def bM {ρ : Type} (pt : List (Nat × bJ)) (tab : List (bP ρ)) : Env ρ :=
  { P := Tryz.prog, eat := isEat, clone := IO, sort := RQ, compact := vf, inl := isInl, fz := isFz, pure := WL pt, loops := mw tab }
def abH {ρ : Type} (pt : List (Nat × bJ)) (tab : List (bP ρ)) (us : List Z2) : Env ρ :=
  { P := Tryz.prog, eat := isEat, clone := IO, sort := RQ, compact := vf, inl := isInl, fz := isFz, pure := WL pt, loops := RI (bM pt tab) us }
end Go.Proofs.ZzM
end

noncomputable section
set_option maxRecDepth 100000
namespace Go.Proofs.ZzM
open Go Go.Am
def xQ : bJ := ⟨[bg], [ao], fun (x : Val bg) => fV x⟩
def FD : bo := { pin := 0, cs := [ac, tI], vs := [tI, ao], head := ⟨20, .any :: .any :: .any :: .omp 0 :: aN 4 [.con ac, .con tI, .var tI], [.mapv tI br]⟩, exits := [(.exit 0, ⟨20, .any :: .any :: .any :: .omp 0 :: aN 4 [.con ac, .con tI], [.mapv tI br]⟩, [ao])] }
def s8 (ρ : Type) : bP ρ := ⟨[], 53, 0, FD, fun (p : Val (.pair ac tI)) (v : Val (.pair tI ao)) kn kx => kW p.1 p.2 v.1 v.2 (fun u0 u1 => kn (u0, u1)) (kx 0)⟩
def KM : List (Nat × bJ) := []
def uL (ρ : Type) : List (bP ρ) := [s8 ρ]
def rD (ρ : Type) : Env ρ := bM KM (uL ρ)
def pM : bJ := ⟨[bc, tI, tI], [.bool], fun (x : Val ci) => fG x.1 x.2.1 x.2.2⟩
def OE : List (Nat × bJ) := []
def xr (ρ : Type) : List (bP ρ) := []
def EB (ρ : Type) : Env ρ := bM OE (xr ρ)
def iA : bJ := ⟨[tI, tI, tI], [.bool], fun (x : Val cw) => cE x.1 x.2.1 x.2.2⟩
def Oj : List (Nat × bJ) := []
def xm (ρ : Type) : List (bP ρ) := []
def Ew (ρ : Type) : Env ρ := bM Oj (xm ρ)
def zt : bJ := ⟨[tI], [.bool], fun (x : Val tI) => lO x⟩
def Rx : List (Nat × bJ) := [(126, iA)]
def Ba (ρ : Type) : List (bP ρ) := []
def Iy (ρ : Type) : Env ρ := bM Rx (Ba ρ)
def M5 : bJ := ⟨[tI], [(.int .u64)], fun (x : Val tI) => oR x⟩
def TJ : List (Nat × bJ) := []
def Ep (ρ : Type) : List (bP ρ) := []
def L2 (ρ : Type) : Env ρ := bM TJ (Ep ρ)
def Tk : bJ := ⟨[(.int .u64), (.int .u64)], [(.int .u64)], fun (x : Val aX) => I9 x.1 x.2⟩
def Rh : bo := { pin := 0, cs := [], vs := [(.int .u64), (.int .u64)], head := ⟨12, [.var (.int .u64), .var (.int .u64)], []⟩, exits := [(.exit 0, ⟨12, [.var (.int .u64)], []⟩, [(.int .u64)])] }
def Er (ρ : Type) : bP ρ := ⟨[], 260, 0, Rh, fun (p : Unit) (v : Val aX) kn kx => vQ v.1 v.2 (fun u0 u1 => kn (u0, u1)) (kx 0)⟩
def Wy : List (Nat × bJ) := []
def H7 (ρ : Type) : List (bP ρ) := [Er ρ]
def H8 (ρ : Type) : Env ρ := bM Wy (H7 ρ)
def zo : bJ := ⟨[bc], [.bool], fun (x : Val bc) => qB x⟩
def Rk : List (Nat × bJ) := [(259, M5), (260, Tk)]
def AQ (ρ : Type) : List (bP ρ) := []
def Ic (ρ : Type) : Env ρ := bM Rk (AQ ρ)
def GV : bJ := ⟨[br], [.bool], fun (x : Val br) => sh x⟩
def KY : List (Nat × bJ) := [(82, pM), (125, zt), (126, iA), (219, zo)]
def uT (ρ : Type) : List (bP ρ) := []
def A9 (ρ : Type) : Env ρ := bM KY (uT ρ)
def tP : bJ := ⟨[bg], [tI], fun (x : Val bg) => fj x⟩
def wC : bo := { pin := 0, cs := [ac, tI, tI, tI, ac, aa, af, ab, aa], vs := [tI], head := ⟨31, .any :: .box 0 0 :: aN 4 [.con ac, .con tI, .var tI], [.cells [.con tI, .con tI, .con ac, .con aa, .con af, .con ab, .con aa]]⟩, exits := [(.ret, ⟨31, [.any, .box 0 0, .var tI, .any, .any, .any, .con ac, .con tI], [.cells [.con tI, .con tI, .con ac, .con aa, .con af, .con ab, .con aa]]⟩, [tI]), (.exit 0, ⟨31, .any :: .box 0 0 :: aN 4 [.con ac, .con tI], [.cells [.con tI, .con tI, .con ac, .con aa, .con af, .con ab, .con aa]]⟩, [])] }
def mg (ρ : Type) : bP ρ := ⟨[], 83, 0, wC, fun (p : Val (.pair ac az)) (v : Val tI) kn kx => hX p.1 p.2.1 p.2.2.2.2.1 v (fun u0 => kn u0) (kx 0) (kx 1)⟩
def Bh : List (Nat × bJ) := [(162, GV)]
def nv (ρ : Type) : List (bP ρ) := [mg ρ]
def kF (ρ : Type) : Env ρ := bM Bh (nv ρ)
def pJ : bJ := ⟨[ae, tI], [tI], fun (x : Val aA) => iG x.1 x.2⟩
def ti : bo := { pin := 0, cs := [ae, tI, tI], vs := [tI], head := ⟨19, .con ae :: .con tI :: aN 5 [.con tI, .var tI], []⟩, exits := [(.ret, ⟨19, [.con ae, .con tI, .any, .any, .var tI, .any, .any, .con tI], []⟩, [tI]), (.exit 0, ⟨19, .con ae :: .con tI :: aN 5 [.con tI], []⟩, [])] }
def j8 (ρ : Type) : bP ρ := ⟨[], 73, 0, ti, fun (p : Val (.pair ae bc)) (v : Val tI) kn kx => f9 p.1 p.2.1 p.2.2 v (fun u0 => kn u0) (kx 0) (kx 1)⟩
def wt : List (Nat × bJ) := []
def lm (ρ : Type) : List (bP ρ) := [j8 ρ]
def i7 (ρ : Type) : Env ρ := bM wt (lm ρ)
def iM : bJ := ⟨[ae, tI], [.bool], fun (x : Val aA) => dj x.1 x.2⟩
def qV : List (Nat × bJ) := [(73, pJ)]
def jl (ρ : Type) : List (bP ρ) := []
def j9 (ρ : Type) : Env ρ := bM qV (jl ρ)
def M8 : bJ := ⟨[bg, br], [ae], fun (x : Val (.pair bg br)) => mC x.1 x.2⟩
def OJ : bo := { pin := 0, cs := [ab, tI, tI, tI, ac, aa, af, ab, aa, tI, tI, tI, tI, tI, tI, tI, tI], vs := [tI, ae], head := ⟨59, .any :: .any :: .box 0 0 :: .box 1 0 :: .any :: .own 2 :: aN 8 [.con ab, .con tI, .var tI], [.cells [.con tI, .con tI, .con ac, .con aa, .con af, .con ab, .con aa], .cells [.con tI, .con tI, .con tI, .con tI, .con tI, .con tI, .con tI, .con tI], .rowv tI]⟩, exits := [(.exit 0, ⟨59, .any :: .any :: .box 0 0 :: .box 1 0 :: .any :: .own 2 :: aN 8 [.con ab, .con tI], [.cells [.con tI, .con tI, .con ac, .con aa, .con af, .con ab, .con aa], .cells [.con tI, .con tI, .con tI, .con tI, .con tI, .con tI, .con tI, .con tI], .rowv tI]⟩, [ae])] }
def Be (ρ : Type) : bP ρ := ⟨[], 168, 0, OJ, fun (p : Val (.pair ab aI)) (v : Val ax) kn kx => rQ p.1 p.2.1 p.2.2.2.2.2.2.2.2.2.1 v.1 v.2 (fun u0 u1 => kn (u0, u1)) (kx 0)⟩
def OI : bo := { pin := 0, cs := [aa, tI, tI, tI, tI, tI, tI, tI, tI, tI], vs := [tI, ae], head := ⟨59, .any :: .any :: .any :: .box 0 0 :: .any :: .own 1 :: aN 32 [.con aa, .con tI, .var tI], [.cells [.con tI, .con tI, .con tI, .con tI, .con tI, .con tI, .con tI, .con tI], .rowv tI]⟩, exits := [(.exit 2, ⟨59, .any :: .any :: .any :: .box 0 0 :: .any :: .own 1 :: aN 32 [.con aa, .con tI], [.cells [.con tI, .con tI, .con tI, .con tI, .con tI, .con tI, .con tI, .con tI], .rowv tI]⟩, [ae])] }
def Bc (ρ : Type) : bP ρ := ⟨[], 168, 2, OI, fun (p : Val (.pair aa (.pair tI ar))) (v : Val ax) kn kx => rP p.1 p.2.1 p.2.2.1 v.1 v.2 (fun u0 u1 => kn (u0, u1)) (kx 0)⟩
def TX : List (Nat × bJ) := [(65, iM)]
def ED (ρ : Type) : List (bP ρ) := [Be ρ, Bc ρ]
def vT (ρ : Type) : Env ρ := bM TX (ED ρ)
def zr : bJ := ⟨[bg], [aa], fun (x : Val bg) => nO x⟩
def KO : bo := { pin := 0, cs := [ac, tI, tI, ae, tI, tI, tI, ac, aa, af, ab, aa, tI, tI, tI, tI, tI, tI, tI, tI], vs := [tI, aa], head := ⟨33, .any :: .box 0 0 :: .any :: .own 1 :: .any :: .box 2 0 :: .any :: .any :: .any :: .con ac :: .con tI :: .con tI :: aN 5 [.con ae, .con tI, .var tI], [.cells [.con tI, .con tI, .con ac, .con aa, .con af, .con ab, .con aa], .rowv bc, .cells [.con tI, .con tI, .con tI, .con tI, .con tI, .con tI, .con tI, .con tI]]⟩, exits := [(.exit 2, ⟨33, .any :: .box 0 0 :: .any :: .own 1 :: .any :: .box 2 0 :: .any :: .any :: .any :: .con ac :: .con tI :: .con tI :: aN 5 [.con ae, .con tI], [.cells [.con tI, .con tI, .con ac, .con aa, .con af, .con ab, .con aa], .rowv bc, .cells [.con tI, .con tI, .con tI, .con tI, .con tI, .con tI, .con tI, .con tI]]⟩, [aa])] }
def xn (ρ : Type) : bP ρ := ⟨[], 85, 2, KO, fun (p : Val (.pair ac (.pair tI (.pair tI (.pair ae aI))))) (v : Val aT) kn kx => oI p.2.2.2.1 p.2.2.2.2.1 p.2.2.2.2.2.2.2.2.2.2.2.2.1 v.1 v.2 (fun u0 u1 => kn (u0, u1)) (kx 0)⟩
def KP : bo := { pin := 0, cs := [ac, tI, tI, tI, ac, aa, af, ab, aa], vs := [tI, aa], head := ⟨33, .any :: .box 0 0 :: .any :: .own 1 :: aN 5 [.con ac, .con tI, .var tI], [.cells [.con tI, .con tI, .con ac, .con aa, .con af, .con ab, .con aa], .rowv bc]⟩, exits := [(.exit 0, ⟨33, .any :: .box 0 0 :: .any :: .own 1 :: aN 5 [.con ac, .con tI], [.cells [.con tI, .con tI, .con ac, .con aa, .con af, .con ab, .con aa], .rowv bc]⟩, [aa])] }
def xo (ρ : Type) : bP ρ := ⟨[], 85, 0, KP, fun (p : Val (.pair ac az)) (v : Val aT) kn kx => oJ p.1 p.2.1 p.2.2.1 p.2.2.2.1 p.2.2.2.2.1 p.2.2.2.2.2.1 p.2.2.2.2.2.2.1 p.2.2.2.2.2.2.2.1 p.2.2.2.2.2.2.2.2 v.1 v.2 (fun u0 u1 => kn (u0, u1)) (kx 0)⟩
def Rt : List (Nat × bJ) := [(168, M8)]
def A0 (ρ : Type) : List (bP ρ) := [xn ρ, xo ρ]
def rH (ρ : Type) : Env ρ := bM Rt (A0 ρ)
def kQ : bJ := ⟨[ao, tI, tI], [tI], fun (x : Val (.pair ao bc)) => gW x.1 x.2.1 x.2.2⟩
def C2 : List (Nat × bJ) := []
def oH (ρ : Type) : List (bP ρ) := []
def s9 (ρ : Type) : Env ρ := bM C2 (oH ρ)
def Tm : bJ := ⟨[tI, tI, (.ptr ao)], [tI], fun (x : Val (.pair tI (.pair tI (.ptr ao)))) => dJ x.1 x.2.1 x.2.2⟩
def KN : List (Nat × bJ) := [(125, zt), (164, kQ)]
def uO (ρ : Type) : List (bP ρ) := []
def AZ (ρ : Type) : Env ρ := bM KN (uO ρ)
def M9 : bJ := ⟨[bg, ao, tI], [tI], fun (x : Val aY) => fL x.1 x.2.1 x.2.2⟩
def Bg : bo := { pin := 2, cs := [af, tI, tI, tI, ac, aa, af, ab, aa, tI, tI, tI, tI], vs := [tI], head := ⟨19, .con af :: .fn 220 [(1, 0)] :: aN 5 [.con tI, .var tI], [.cells [.con tI, .con tI, .con ac, .con aa, .con af, .con ab, .con aa], .cells [.con tI, .con tI, .con tI, .con tI]]⟩, exits := [(.ret, ⟨19, [.con af, .fn 220 [(1, 0)], .any, .any, .var tI, .any, .any, .con tI], [.cells [.con tI, .con tI, .con ac, .con aa, .con af, .con ab, .con aa], .cells [.con tI, .con tI, .con tI, .con tI]]⟩, [tI]), (.exit 0, ⟨19, .con af :: .fn 220 [(1, 0)] :: aN 5 [.con tI], [.cells [.con tI, .con tI, .con ac, .con aa, .con af, .con ab, .con aa], .cells [.con tI, .con tI, .con tI, .con tI]]⟩, [])] }
def oM (ρ : Type) : bP ρ := ⟨[9, 5, 1, 2], 257, 0, Bg, fun (p : Val (.pair af aF)) (v : Val tI) kn kx => iZ p.1 p.2.1 p.2.2.2.2.2.2.2.2.2.1 p.2.2.2.2.2.2.2.2.2.2.1 p.2.2.2.2.2.2.2.2.2.2.2.1 v (fun u0 => kn u0) (kx 0) (kx 1)⟩
def Bf : bo := { pin := 2, cs := [aa, tI, tI, tI, ac, aa, af, ab, aa, tI, tI, tI, tI], vs := [tI], head := ⟨19, .con aa :: .fn 221 [(1, 0)] :: aN 5 [.con tI, .var tI], [.cells [.con tI, .con tI, .con ac, .con aa, .con af, .con ab, .con aa], .cells [.con tI, .con tI, .con tI, .con tI]]⟩, exits := [(.ret, ⟨19, [.con aa, .fn 221 [(1, 0)], .any, .any, .var tI, .any, .any, .con tI], [.cells [.con tI, .con tI, .con ac, .con aa, .con af, .con ab, .con aa], .cells [.con tI, .con tI, .con tI, .con tI]]⟩, [tI]), (.exit 0, ⟨19, .con aa :: .fn 221 [(1, 0)] :: aN 5 [.con tI], [.cells [.con tI, .con tI, .con ac, .con aa, .con af, .con ab, .con aa], .cells [.con tI, .con tI, .con tI, .con tI]]⟩, [])] }
def oL (ρ : Type) : bP ρ := ⟨[9, 10, 1, 2], 255, 0, Bf, fun (p : Val (.pair aa aF)) (v : Val tI) kn kx => fF p.1 p.2.1 p.2.2.2.2.2.2.2.2.2.1 p.2.2.2.2.2.2.2.2.2.2.1 p.2.2.2.2.2.2.2.2.2.2.2.1 v (fun u0 => kn u0) (kx 0) (kx 1)⟩
def FI : List (Nat × bJ) := [(82, pM), (126, iA), (164, kQ)]
def qp (ρ : Type) : List (bP ρ) := [oM ρ, oL ρ]
def jP (ρ : Type) : Env ρ := bM FI (qp ρ)
def vI : bJ := ⟨[ae, ae], [ae], fun (x : Val (.pair ae ae)) => eQ x.1 x.2⟩
def OA : bo := { pin := 2, cs := [tI, ae, ae], vs := [tI], head := ⟨19, .own 1 :: .fn 170 [(0, 0)] :: aN 5 [.con tI, .var tI], [.cells [.con ae], .rowc tI]⟩, exits := [(.ret, ⟨19, [.own 1, .fn 170 [(0, 0)], .any, .any, .var tI, .any, .any, .con tI], [.cells [.con ae], .rowc tI]⟩, [tI]), (.exit 0, ⟨19, .own 1 :: .fn 170 [(0, 0)] :: aN 5 [.con tI], [.cells [.con ae], .rowc tI]⟩, [])] }
def A8 (ρ : Type) : bP ρ := ⟨[1, 3, 1, 2], 178, 0, OA, fun (p : Val (.pair tI (.pair ae ae))) (v : Val tI) kn kx => rO p.1 p.2.1 p.2.2 v (fun u0 => kn u0) (kx 0) (kx 1)⟩
def Oz : bo := { pin := 2, cs := [ae], vs := [tI, tI, ae], head := ⟨42, [.own 1, .fn 170 [(0, 0)], .any, .any, .any, .var tI, .var tI], [.cells [.con ae], .rowv tI]⟩, exits := [(.exit 0, ⟨42, [.own 1, .fn 170 [(0, 0)], .any, .any, .any, .var tI], [.cells [.con ae], .rowv tI]⟩, [tI, ae])] }
def A7 (ρ : Type) : bP ρ := ⟨[1, 3], 169, 0, Oz, fun (p : Val ae) (v : Val (.pair tI ax)) kn kx => je p v.1 v.2.1 v.2.2 (fun u0 u1 u2 => kn (u0, u1, u2)) (kx 0)⟩
def TW : List (Nat × bJ) := [(65, iM)]
def EA (ρ : Type) : List (bP ρ) := [A8 ρ, A7 ρ]
def vS (ρ : Type) : Env ρ := bM TW (EA ρ)
def er : bJ := ⟨[am], [ae], fun (x : Val am) => bR x⟩
def qX : bo := { pin := 0, cs := [am, am, tI], vs := [tI, tI], head := ⟨36, .con am :: .any :: .any :: .var tI :: aN 5 [.con am, .con tI, .var tI], []⟩, exits := [(.exit 0, ⟨36, .con am :: .any :: .any :: .var tI :: aN 5 [.con am, .con tI], []⟩, [tI])] }
def jM (ρ : Type) : bP ρ := ⟨[], 94, 0, qX, fun (p : Val (.pair am (.pair am tI))) (v : Val bc) kn kx => dq p.2.1 p.2.2 v.1 v.2 (fun u0 u1 => kn (u0, u1)) (kx 0)⟩
def qW : bo := { pin := 0, cs := [am, tI], vs := [tI, ae], head := ⟨36, aN 6 (.own 0 :: aN 18 [.con am, .con tI, .var tI]), [.rowv tI]⟩, exits := [(.exit 2, ⟨36, aN 6 (.own 0 :: aN 18 [.con am, .con tI]), [.rowv tI]⟩, [ae])] }
def jL (ρ : Type) : bP ρ := ⟨[], 94, 2, qW, fun (p : Val (.pair am tI)) (v : Val ax) kn kx => bV p.1 p.2 v.1 v.2 (fun u0 u1 => kn (u0, u1)) (kx 0)⟩
def tX : List (Nat × bJ) := []
def ka (ρ : Type) : List (bP ρ) := [jM ρ, jL ρ]
def gc (ρ : Type) : Env ρ := bM tX (ka ρ)
def Cg : bJ := ⟨[ae], [.bool], fun (x : Val ae) => kL x⟩
def Iw : bo := { pin := 0, cs := [ae, ae, tI], vs := [tI], head := ⟨32, .con ae :: aN 4 [.con ae, .con tI, .var tI], []⟩, exits := [(.ret, ⟨32, [.con ae, .any, .var .bool, .any, .any, .con ae, .con tI], []⟩, [.bool]), (.exit 0, ⟨32, .con ae :: aN 4 [.con ae, .con tI], []⟩, [])] }
def uR (ρ : Type) : bP ρ := ⟨[], 198, 0, Iw, fun (p : Val (.pair ae aA)) (v : Val tI) kn kx => mu p.1 p.2.1 p.2.2 v (fun u0 => kn u0) (kx 0) (kx 1)⟩
def OC : List (Nat × bJ) := [(126, iA)]
def xq (ρ : Type) : List (bP ρ) := [uR ρ]
def uS (ρ : Type) : Env ρ := bM OC (xq ρ)
def Vf : bJ := ⟨[bg, tI, tI], [dG, .bool], fun (x : Val aJ) => wg x.1 x.2.1 x.2.2⟩
def OL : bo := { pin := 4, cs := [af, tI, tI, tI, ac, aa, af, ab, aa, tI, tI, tI, tI, tI, tI], vs := [tI], head := ⟨19, .con af :: .fn 261 [(1, 0), (2, 0)] :: aN 5 [.con tI, .var tI], [.cells [.con tI, .con tI, .con ac, .con aa, .con af, .con ab, .con aa], .cells [.con tI], .cells [.con tI], .cells [.con tI, .con tI, .con tI, .con tI]]⟩, exits := [(.ret, ⟨19, [.con af, .fn 261 [(1, 0), (2, 0)], .any, .any, .var tI, .any, .any, .con tI], [.cells [.con tI, .con tI, .con ac, .con aa, .con af, .con ab, .con aa], .cells [.con tI], .cells [.con tI], .cells [.con tI, .con tI, .con tI, .con tI]]⟩, [tI]), (.exit 0, ⟨19, .con af :: .fn 261 [(1, 0), (2, 0)] :: aN 5 [.con tI], [.cells [.con tI, .con tI, .con ac, .con aa, .con af, .con ab, .con aa], .cells [.con tI], .cells [.con tI], .cells [.con tI, .con tI, .con tI, .con tI]]⟩, [])] }
def Bi (ρ : Type) : bP ρ := ⟨[1, 3], 257, 0, OL, fun (p : Val (.pair af (.pair tI (.pair tI (.pair tI (.pair ac (.pair aa (.pair af (.pair ab (.pair aa (.pair tI (.pair tI (.pair tI cw))))))))))))) (v : Val tI) kn kx => rS p.1 p.2.1 p.2.2.2.2.2.2.2.2.2.1 p.2.2.2.2.2.2.2.2.2.2.1 v (fun u0 => kn u0) (kx 0) (kx 1)⟩
def TY : List (Nat × bJ) := [(126, iA)]
def EE (ρ : Type) : List (bP ρ) := [Bi ρ]
def Da (ρ : Type) : Env ρ := bM TY (EE ρ)
def Fc : bJ := ⟨[bg, ao, tI], [tI], fun (x : Val aY) => dK x.1 x.2.1 x.2.2⟩
def uY : bo := { pin := 2, cs := [ab, tI, tI, tI, ac, aa, af, ab, aa, tI, tI, ae, ae, tI, tI, tI, tI], vs := [tI], head := ⟨19, .con ab :: .fn 222 [(1, 0)] :: aN 5 [.con tI, .var tI], [.cells [.con tI, .con tI, .con ac, .con aa, .con af, .con ab, .con aa], .cells [.con tI, .con tI, .con ae, .con ae, .con tI, .con tI, .con tI, .con tI]]⟩, exits := [(.ret, ⟨19, [.con ab, .fn 222 [(1, 0)], .any, .any, .var tI, .any, .any, .con tI], [.cells [.con tI, .con tI, .con ac, .con aa, .con af, .con ab, .con aa], .cells [.con tI, .con tI, .con ae, .con ae, .con tI, .con tI, .con tI, .con tI]]⟩, [tI]), (.exit 0, ⟨19, .con ab :: .fn 222 [(1, 0)] :: aN 5 [.con tI], [.cells [.con tI, .con tI, .con ac, .con aa, .con af, .con ab, .con aa], .cells [.con tI, .con tI, .con ae, .con ae, .con tI, .con tI, .con tI, .con tI]]⟩, [])] }
def lG (ρ : Type) : bP ρ := ⟨[4, 5, 1, 2], 207, 0, uY, fun (p : Val (.pair ab (.pair tI (.pair tI (.pair tI (.pair ac (.pair aa (.pair af (.pair ab (.pair aa bp)))))))))) (v : Val tI) kn kx => gI p.1 p.2.1 p.2.2.2.2.2.2.2.2.2.1 v (fun u0 => kn u0) (kx 0) (kx 1)⟩
def uW : bo := { pin := 0, cs := [ao, ae, tI, tI, tI, ae, tI, tI, tI, ac, aa, af, ab, aa, tI, tI, ae, ae, tI, tI, tI, tI, ae], vs := [tI], head := ⟨140, .any :: .con ao :: .any :: .box 0 0 :: .any :: .any :: .any :: .box 1 0 :: .con ae :: .any :: .con tI :: aN 65 [.own 2, .con tI, .con tI, .any, .any, .any, .con ae, .con tI, .var tI], [.cells [.con tI, .con tI, .con ac, .con aa, .con af, .con ab, .con aa], .cells [.con tI, .con tI, .con ae, .con ae, .con tI, .con tI, .con tI, .con tI], .rowc tI]⟩, exits := [(.ret, ⟨140, .any :: .con ao :: .any :: .box 0 0 :: .any :: .any :: .var tI :: .box 1 0 :: .con ae :: .any :: .con tI :: aN 65 [.own 2, .con tI, .con tI, .any, .any, .any, .con ae, .con tI], [.cells [.con tI, .con tI, .con ac, .con aa, .con af, .con ab, .con aa], .cells [.con tI, .con tI, .con ae, .con ae, .con tI, .con tI, .con tI, .con tI], .rowc tI]⟩, [tI]), (.exit 2, ⟨140, .any :: .con ao :: .any :: .box 0 0 :: .any :: .any :: .any :: .box 1 0 :: .con ae :: .any :: .con tI :: aN 65 [.own 2, .con tI, .con tI, .any, .any, .any, .con ae, .con tI], [.cells [.con tI, .con tI, .con ac, .con aa, .con af, .con ab, .con aa], .cells [.con tI, .con tI, .con ae, .con ae, .con tI, .con tI, .con tI, .con tI], .rowc tI]⟩, [])] }
def lE (ρ : Type) : bP ρ := ⟨[], 167, 2, uW, fun (p : Val (.pair ao (.pair ae (.pair tI (.pair tI (.pair tI (.pair ae (.pair tI (.pair tI (.pair tI (.pair ac (.pair aa (.pair af (.pair ab (.pair aa (.pair tI (.pair tI (.pair ae (.pair ae (.pair tI aD)))))))))))))))))))) (v : Val tI) kn kx => gH p.1 p.2.2.1 p.2.2.2.2.2.1 p.2.2.2.2.2.2.1 p.2.2.2.2.2.2.2.2.2.2.2.2.2.2.2.1 v (fun u0 => kn u0) (kx 0) (kx 1)⟩
def uX : bo := { pin := 0, cs := [ao, ae, tI, tI, tI, ac, aa, af, ab, aa, tI, tI, ae, ae, tI, tI, tI, tI, ae], vs := [tI], head := ⟨140, .any :: .con ao :: .any :: .box 0 0 :: .any :: .any :: .any :: .box 1 0 :: .con ae :: aN 67 [.own 2, .con tI, .var tI], [.cells [.con tI, .con tI, .con ac, .con aa, .con af, .con ab, .con aa], .cells [.con tI, .con tI, .con ae, .con ae, .con tI, .con tI, .con tI, .con tI], .rowc tI]⟩, exits := [(.ret, ⟨140, .any :: .con ao :: .any :: .box 0 0 :: .any :: .any :: .var tI :: .box 1 0 :: .con ae :: aN 67 [.own 2, .con tI], [.cells [.con tI, .con tI, .con ac, .con aa, .con af, .con ab, .con aa], .cells [.con tI, .con tI, .con ae, .con ae, .con tI, .con tI, .con tI, .con tI], .rowc tI]⟩, [tI]), (.exit 0, ⟨140, .any :: .con ao :: .any :: .box 0 0 :: .any :: .any :: .any :: .box 1 0 :: .con ae :: aN 67 [.own 2, .con tI], [.cells [.con tI, .con tI, .con ac, .con aa, .con af, .con ab, .con aa], .cells [.con tI, .con tI, .con ae, .con ae, .con tI, .con tI, .con tI, .con tI], .rowc tI]⟩, [])] }
def lF (ρ : Type) : bP ρ := ⟨[], 167, 0, uX, fun (p : Val (.pair ao (.pair ae (.pair tI (.pair tI (.pair tI (.pair ac (.pair aa (.pair af (.pair ab (.pair aa (.pair tI (.pair tI (.pair ae (.pair ae (.pair tI aD)))))))))))))))) (v : Val tI) kn kx => dV p.1 p.2.1 p.2.2.1 p.2.2.2.2.2.2.2.2.2.2.2.1 p.2.2.2.2.2.2.2.2.2.2.2.2.2.2.2.2.2.2 v (fun u0 => kn u0) (kx 0) (kx 1)⟩
def uV : bo := { pin := 0, cs := [ae, tI, tI, tI, ac, aa, af, ab, aa, tI, tI, ae, ae, tI, tI, tI, tI], vs := [tI], head := ⟨140, .any :: .any :: .any :: .box 0 0 :: .any :: .any :: .any :: .box 1 0 :: aN 90 [.con ae, .con tI, .var tI], [.cells [.con tI, .con tI, .con ac, .con aa, .con af, .con ab, .con aa], .cells [.con tI, .con tI, .con ae, .con ae, .con tI, .con tI, .con tI, .con tI]]⟩, exits := [(.ret, ⟨140, .any :: .any :: .any :: .box 0 0 :: .any :: .any :: .var tI :: .box 1 0 :: aN 90 [.con ae, .con tI], [.cells [.con tI, .con tI, .con ac, .con aa, .con af, .con ab, .con aa], .cells [.con tI, .con tI, .con ae, .con ae, .con tI, .con tI, .con tI, .con tI]]⟩, [tI]), (.exit 4, ⟨140, .any :: .any :: .any :: .box 0 0 :: .any :: .any :: .any :: .box 1 0 :: aN 90 [.con ae, .con tI], [.cells [.con tI, .con tI, .con ac, .con aa, .con af, .con ab, .con aa], .cells [.con tI, .con tI, .con ae, .con ae, .con tI, .con tI, .con tI, .con tI]]⟩, [])] }
def lC (ρ : Type) : bP ρ := ⟨[], 167, 4, uV, fun (p : Val (.pair ae (.pair tI (.pair tI (.pair tI (.pair ac (.pair aa (.pair af (.pair ab (.pair aa bp)))))))))) (v : Val tI) kn kx => dU p.1 p.2.1 p.2.2.1 p.2.2.2.1 p.2.2.2.2.1 p.2.2.2.2.2.1 p.2.2.2.2.2.2.1 p.2.2.2.2.2.2.2.1 p.2.2.2.2.2.2.2.2.1 p.2.2.2.2.2.2.2.2.2.2.1 v (fun u0 => kn u0) (kx 0) (kx 1)⟩
def yD : List (Nat × bJ) := [(82, pM), (88, vI), (94, er), (125, zt), (126, iA), (164, kQ), (198, Cg), (223, Vf)]
def mh (ρ : Type) : List (bP ρ) := [lG ρ, lE ρ, lF ρ, lC ρ]
def eA (ρ : Type) : Env ρ := bM yD (mh ρ)
def dQ : bJ := ⟨[bg], [tI], fun (x : Val bg) => b9 x⟩
def m7 : bJ := ⟨[bg, aa, aa], [bg], fun (x : Val (.pair bg (.pair aa aa))) => I8 x.1 x.2.1 x.2.2⟩
noncomputable def QZ : bo := { pin := 8, cs := [ae, tI, tI, tI, ac, aa, af, ab, aa, tI, tI, aj, tI, tI], vs := [tI, aj], head := ⟨34, .any :: .any :: .any :: .box 2 0 :: aN 21 [.con ae, .con tI, .var tI], [.cells [.con tI, .con tI, .con ac, .con aa, .con af, .con ab, .con aa], .cells [.con tI, .con tI, .nils, .nils, .nils, .nils, .nils], .cells [.omp 5], .cells [.omp 6], .cells [.nilfn, .fn 159 [(2, 0), (0, 0)], .fn 159 [(2, 0), (0, 0)], .fn 160 [(3, 0), (0, 0), (2, 0)]], .mapv tI .bool, .mapc tI .bool, .cells [.con tI, .con tI]]⟩, exits := [(.exit 0, ⟨34, .any :: .any :: .any :: .box 2 0 :: aN 21 [.con ae, .con tI], [.cells [.con tI, .con tI, .con ac, .con aa, .con af, .con ab, .con aa], .cells [.con tI, .con tI, .nils, .nils, .nils, .nils, .nils], .cells [.omp 5], .cells [.omp 6], .cells [.nilfn, .fn 159 [(2, 0), (0, 0)], .fn 159 [(2, 0), (0, 0)], .fn 160 [(3, 0), (0, 0), (2, 0)]], .mapv tI .bool, .mapc tI .bool, .cells [.con tI, .con tI]]⟩, [aj])] }
noncomputable def Ec (ρ : Type) : bP ρ := ⟨[7, 5], 160, 0, QZ, fun (p : Val (.pair ae (.pair tI (.pair tI (.pair tI (.pair ac (.pair aa (.pair af (.pair ab (.pair aa (.pair tI (.pair tI (.pair aj bc))))))))))))) (v : Val (.pair tI aj)) kn kx => p8 p.1 p.2.1 v.1 v.2 (fun u0 u1 => kn (u0, u1)) (kx 0)⟩
noncomputable def Q0 : bo := { pin := 0, cs := [aa, aa, tI, tI, tI, ac, aa, af, ab, aa, tI, tI], vs := [tI, aj, aj], head := ⟨130, .any :: .any :: .con aa :: .box 0 0 :: .any :: .any :: .box 1 0 :: .box 2 0 :: .box 3 0 :: .any :: .box 4 0 :: aN 19 [.con aa, .con tI, .var tI], [.cells [.con tI, .con tI, .con ac, .con aa, .con af, .con ab, .con aa], .cells [.con tI, .con tI, .nils, .nils, .nils, .nils, .nils], .cells [.omp 5], .cells [.omp 6], .cells [.nilfn, .fn 159 [(2, 0), (0, 0)], .fn 159 [(2, 0), (0, 0)], .fn 160 [(3, 0), (0, 0), (2, 0)]], .mapv tI .bool, .mapv tI .bool]⟩, exits := [(.exit 0, ⟨130, .any :: .any :: .con aa :: .box 0 0 :: .any :: .any :: .box 1 0 :: .box 2 0 :: .box 3 0 :: .any :: .box 4 0 :: aN 19 [.con aa, .con tI], [.cells [.con tI, .con tI, .con ac, .con aa, .con af, .con ab, .con aa], .cells [.con tI, .con tI, .nils, .nils, .nils, .nils, .nils], .cells [.omp 5], .cells [.omp 6], .cells [.nilfn, .fn 159 [(2, 0), (0, 0)], .fn 159 [(2, 0), (0, 0)], .fn 160 [(3, 0), (0, 0), (2, 0)]], .mapv tI .bool, .mapv tI .bool]⟩, [aj, aj])] }
noncomputable def Ed (ρ : Type) : bP ρ := ⟨[], 79, 0, Q0, fun (p : Val (.pair aa (.pair aa (.pair tI (.pair tI (.pair tI (.pair ac (.pair aa (.pair af (.pair ab aW)))))))))) (v : Val (.pair tI (.pair aj aj))) kn kx => vM p.2.1 p.2.2.1 p.2.2.2.2.2.1 p.2.2.2.2.2.2.2.2.1 v.1 v.2.1 v.2.2 (fun u0 u1 u2 => kn (u0, u1, u2)) (kx 0)⟩
noncomputable def QY : bo := { pin := 0, cs := [aa, aa, tI, tI, tI, ac, aa, af, ab, aa, tI, tI, aj], vs := [tI, aj], head := ⟨130, .any :: .any :: .con aa :: .box 0 0 :: .any :: .any :: .box 1 0 :: .box 2 0 :: .box 3 0 :: aN 34 [.con aa, .con tI, .var tI], [.cells [.con tI, .con tI, .con ac, .con aa, .con af, .con ab, .con aa], .cells [.con tI, .con tI, .nils, .nils, .nils, .nils, .nils], .cells [.omp 4], .cells [.omp 5], .mapv tI .bool, .mapc tI .bool]⟩, exits := [(.exit 2, ⟨130, .any :: .any :: .con aa :: .box 0 0 :: .any :: .any :: .box 1 0 :: .box 2 0 :: .box 3 0 :: aN 34 [.con aa, .con tI], [.cells [.con tI, .con tI, .con ac, .con aa, .con af, .con ab, .con aa], .cells [.con tI, .con tI, .nils, .nils, .nils, .nils, .nils], .cells [.omp 4], .cells [.omp 5], .mapv tI .bool, .mapc tI .bool]⟩, [aj])] }
noncomputable def Eb (ρ : Type) : bP ρ := ⟨[], 79, 2, QY, fun (p : Val (.pair aa (.pair aa (.pair tI (.pair tI (.pair tI (.pair ac (.pair aa (.pair af (.pair ab (.pair aa (.pair tI (.pair tI aj))))))))))))) (v : Val (.pair tI aj)) kn kx => pZ p.2.1 p.2.2.1 v.1 v.2 (fun u0 u1 => kn (u0, u1)) (kx 0)⟩
noncomputable def QX : bo := { pin := 0, cs := [aa, tI, tI, tI, ac, aa, af, ab, aa, tI, tI, ac, aa, af, ab, aa, tI, tI, aa, aj, aj, ac], vs := [tI, aa], head := ⟨130, .any :: .any :: .any :: .box 0 0 :: .any :: .any :: .box 1 0 :: .box 2 0 :: .box 3 0 :: aN 6 (.box 4 0 :: aN 52 [.con aa, .con tI, .var tI]), [.cells [.con tI, .con tI, .con ac, .con aa, .con af, .con ab, .con aa], .cells [.con tI, .con tI, .con ac, .con aa, .con af, .con ab, .con aa], .cells [.omp 5], .cells [.omp 6], .cells [.con tI, .con tI, .own 7, .own 8, .nils, .nils, .con aa], .mapc tI .bool, .mapc tI .bool, .rowc br, .rowv bc]⟩, exits := [(.exit 6, ⟨130, .any :: .any :: .any :: .box 0 0 :: .any :: .any :: .box 1 0 :: .box 2 0 :: .box 3 0 :: aN 6 (.box 4 0 :: aN 52 [.con aa, .con tI]), [.cells [.con tI, .con tI, .con ac, .con aa, .con af, .con ab, .con aa], .cells [.con tI, .con tI, .con ac, .con aa, .con af, .con ab, .con aa], .cells [.omp 5], .cells [.omp 6], .cells [.con tI, .con tI, .own 7, .own 8, .nils, .nils, .con aa], .mapc tI .bool, .mapc tI .bool, .rowc br, .rowv bc]⟩, [aa])] }
noncomputable def ov (ρ : Type) : bP ρ := ⟨[], 79, 6, QX, fun (p : Val (.pair aa (.pair tI (.pair tI (.pair tI (.pair ac (.pair aa (.pair af (.pair ab (.pair aa (.pair tI (.pair tI (.pair ac (.pair aa (.pair af (.pair ab (.pair aa (.pair tI (.pair tI (.pair aa (.pair aj (.pair aj ac)))))))))))))))))))))) (v : Val aT) kn kx => pY p.1 p.2.1 p.2.2.2.2.2.2.2.2.2.2.2.2.2.2.2.2.2.2.2.1 v.1 v.2 (fun u0 u1 => kn (u0, u1)) (kx 0)⟩
noncomputable def QW : bo := { pin := 0, cs := [af, tI, tI, tI, ac, aa, af, ab, aa, tI, tI, ac, aa, af, ab, aa, tI, tI, aa, aj, aj, ac, aa], vs := [tI, af], head := ⟨130, .any :: .any :: .any :: .box 0 0 :: .any :: .any :: .box 1 0 :: .box 2 0 :: .box 3 0 :: aN 6 (.box 4 0 :: aN 70 [.con af, .con tI, .var tI]), [.cells [.con tI, .con tI, .con ac, .con aa, .con af, .con ab, .con aa], .cells [.con tI, .con tI, .con ac, .con aa, .con af, .con ab, .con aa], .cells [.omp 5], .cells [.omp 6], .cells [.con tI, .con tI, .own 7, .own 8, .own 9, .nils, .con aa], .mapc tI .bool, .mapc tI .bool, .rowc br, .rowc bc, .rowv dG]⟩, exits := [(.exit 8, ⟨130, .any :: .any :: .any :: .box 0 0 :: .any :: .any :: .box 1 0 :: .box 2 0 :: .box 3 0 :: aN 6 (.box 4 0 :: aN 70 [.con af, .con tI]), [.cells [.con tI, .con tI, .con ac, .con aa, .con af, .con ab, .con aa], .cells [.con tI, .con tI, .con ac, .con aa, .con af, .con ab, .con aa], .cells [.omp 5], .cells [.omp 6], .cells [.con tI, .con tI, .own 7, .own 8, .own 9, .nils, .con aa], .mapc tI .bool, .mapc tI .bool, .rowc br, .rowc bc, .rowv dG]⟩, [af])] }
noncomputable def ou (ρ : Type) : bP ρ := ⟨[], 79, 8, QW, fun (p : Val (.pair af (.pair tI (.pair tI (.pair tI (.pair ac (.pair aa (.pair af (.pair ab (.pair aa (.pair tI (.pair tI (.pair ac (.pair aa (.pair af (.pair ab (.pair aa (.pair tI (.pair tI (.pair aa (.pair aj (.pair aj (.pair ac aa))))))))))))))))))))))) (v : Val (.pair tI af)) kn kx => pX p.1 p.2.1 p.2.2.2.2.2.2.2.2.2.2.2.2.2.2.2.2.2.2.2.1 v.1 v.2 (fun u0 u1 => kn (u0, u1)) (kx 0)⟩
noncomputable def QV : bo := { pin := 0, cs := [ab, tI, tI, tI, ac, aa, af, ab, aa, tI, tI, aa, aj, ac, aa, af], vs := [tI, ab], head := ⟨130, aN 6 (.box 0 0 :: .any :: .box 1 0 :: aN 6 (.box 2 0 :: aN 88 [.con ab, .con tI, .var tI])), [.cells [.con tI, .con tI, .con ac, .con aa, .con af, .con ab, .con aa], .cells [.omp 3], .cells [.con tI, .con tI, .own 4, .own 5, .own 6, .own 7, .con aa], .mapc tI .bool, .rowc br, .rowc bc, .rowc dG, .rowv bp]⟩, exits := [(.exit 10, ⟨130, aN 6 (.box 0 0 :: .any :: .box 1 0 :: aN 6 (.box 2 0 :: aN 88 [.con ab, .con tI])), [.cells [.con tI, .con tI, .con ac, .con aa, .con af, .con ab, .con aa], .cells [.omp 3], .cells [.con tI, .con tI, .own 4, .own 5, .own 6, .own 7, .con aa], .mapc tI .bool, .rowc br, .rowc bc, .rowc dG, .rowv bp]⟩, [ab])] }
noncomputable def ot (ρ : Type) : bP ρ := ⟨[], 79, 10, QV, fun (p : Val (.pair ab (.pair tI (.pair tI (.pair tI (.pair ac (.pair aa (.pair af (.pair ab (.pair aa (.pair tI (.pair tI (.pair aa (.pair aj (.pair ac (.pair aa af)))))))))))))))) (v : Val (.pair tI ab)) kn kx => pW p.1 p.2.1 p.2.2.2.2.2.2.2.2.2.2.2.2.1 v.1 v.2 (fun u0 u1 => kn (u0, u1)) (kx 0)⟩
noncomputable def Cx : List (Nat × bJ) := [(94, er)]
noncomputable def yg (ρ : Type) : List (bP ρ) := [Ec ρ, Ed ρ, Eb ρ, ov ρ, ou ρ, ot ρ]
noncomputable def fg (ρ : Type) : Env ρ := bM Cx (yg ρ)
noncomputable def pV : Tpl := ⟨130, .any :: .any :: .any :: .box 0 0 :: .any :: .any :: .box 1 0 :: .box 2 0 :: .box 3 0 :: aN 6 (.box 4 0 :: aN 43 [.fn 218 [(5, 0), (6, 0)]]), [.cells [.var tI, .var tI, .var ac, .var aa, .var af, .var ab, .var aa], .cells [.var tI, .var tI, .var ac, .var aa, .var af, .var ab, .var aa], .cells [.omp 7], .cells [.omp 8], .cells [.con tI, .con tI, .own 9, .nils, .nils, .nils, .con aa], .cells [.var tI, .var tI, .var ac, .var aa, .var af, .var ab, .var aa], .cells [.omp 7], .mapv tI .bool, .mapv tI .bool, .rowv br]⟩
noncomputable def Hn : Tpl := ⟨130, .any :: .any :: .any :: .box 0 0 :: .any :: .any :: .box 1 0 :: .box 2 0 :: .box 3 0 :: aN 6 (.box 4 0 :: .box 10 0 :: aN 42 [.fn 218 [(5, 0), (6, 0)]]), [.cells [.var tI, .var tI, .var ac, .var aa, .var af, .var ab, .var aa], .cells [.var tI, .var tI, .var ac, .var aa, .var af, .var ab, .var aa], .cells [.omp 7], .cells [.omp 8], .cells [.con tI, .con tI, .own 9, .nils, .nils, .nils, .con aa], .cells [.var tI, .var tI, .var ac, .var aa, .var af, .var ab, .var aa], .cells [.omp 7], .mapv tI .bool, .mapv tI .bool, .rowv br, .cells [.var tI, .var tI, .var tI, .var tI, .var tI, .var tI, .var tI, .var tI]]⟩
noncomputable def oo (ρ : Type) : List (bP ρ) := [ov ρ, ou ρ, ot ρ]
noncomputable def cR (ρ : Type) : Env ρ := { bM Cx (oo ρ) with inl := fun _ => false }
noncomputable def nr : Tpl := ⟨130, aN 6 [.box 0 0], [.cells [.var tI, .var tI, .var ac, .var aa, .var af, .var ab, .var aa]]⟩
abbrev iD : List Ty := [tI, tI, ac, aa, af, ab, aa]
noncomputable def jm (y : Val bg) : Val ai := (y.1.1, y.1.2, y.2.1, y.2.2.1, y.2.2.2.1, y.2.2.2.2.1, y.2.2.2.2.2)
noncomputable def cZ : Code := (oT Tryz.prog 79).getD .skip
abbrev gV : List Ty := [tI, tI, aa]
abbrev kB : List Ty := [tI, tI, ac, aa, af, ab, aa, tI, tI, ac, aa, af, ab, aa, tI, tI, ac, aa, af, ab, aa, aj, aj, ac]
abbrev vL : List Ty := [tI, tI, ac, aa, af, ab, aa, tI, tI, ac, aa, af, ab, aa, tI, tI, ac, aa, af, ab, aa, aj, aj, ac, tI, tI, tI, tI, tI, tI, tI, tI]
abbrev bW (v : Val ag) : List (Val br) := v.2.2.2.2.2.2.2.2.2.2.2.2.2.2.2.2.1
abbrev ez (v : Val ag) : List (Int × Bool) := v.2.2.2.2.2.2.2.2.2.2.2.2.2.2.2.2.2.2.2.2.2.1
abbrev rf (v : Val ag) : List (Val br) := v.2.2.2.2.2.2.2.2.2.2.2.2.2.2.2.2.2.2.2.2.2.2.2
noncomputable def cY (v : Val ag) (z : List (Val br)) : Val ag := (v.1, v.2.1, v.2.2.1, v.2.2.2.1, v.2.2.2.2.1, v.2.2.2.2.2.1, v.2.2.2.2.2.2.1, v.2.2.2.2.2.2.2.1, v.2.2.2.2.2.2.2.2.1, v.2.2.2.2.2.2.2.2.2.1, v.2.2.2.2.2.2.2.2.2.2.1, v.2.2.2.2.2.2.2.2.2.2.2.1, v.2.2.2.2.2.2.2.2.2.2.2.2.1, v.2.2.2.2.2.2.2.2.2.2.2.2.2.1, v.2.2.2.2.2.2.2.2.2.2.2.2.2.2.1, v.2.2.2.2.2.2.2.2.2.2.2.2.2.2.2.1, v.2.2.2.2.2.2.2.2.2.2.2.2.2.2.2.2.1, v.2.2.2.2.2.2.2.2.2.2.2.2.2.2.2.2.2.1, v.2.2.2.2.2.2.2.2.2.2.2.2.2.2.2.2.2.2.1, v.2.2.2.2.2.2.2.2.2.2.2.2.2.2.2.2.2.2.2.1, v.2.2.2.2.2.2.2.2.2.2.2.2.2.2.2.2.2.2.2.2.1, v.2.2.2.2.2.2.2.2.2.2.2.2.2.2.2.2.2.2.2.2.2.1, v.2.2.2.2.2.2.2.2.2.2.2.2.2.2.2.2.2.2.2.2.2.2.1, z)
noncomputable def yh (v : Val ag) (x : Val br) : Val (.pair tI (.pair tI (.pair ac (.pair aa (.pair af (.pair ab (.pair aa (.pair tI (.pair tI (.pair ac (.pair aa (.pair af (.pair ab (.pair aa (.pair tI (.pair tI (.pair ac (.pair aa (.pair af (.pair ab (.pair aa (.pair aj (.pair aj (.pair ac ar)))))))))))))))))))))))) := (v.1, v.2.1, v.2.2.1, v.2.2.2.1, v.2.2.2.2.1, v.2.2.2.2.2.1, v.2.2.2.2.2.2.1, v.2.2.2.2.2.2.2.1, v.2.2.2.2.2.2.2.2.1, v.2.2.2.2.2.2.2.2.2.1, v.2.2.2.2.2.2.2.2.2.2.1, v.2.2.2.2.2.2.2.2.2.2.2.1, v.2.2.2.2.2.2.2.2.2.2.2.2.1, v.2.2.2.2.2.2.2.2.2.2.2.2.2.1, v.2.2.2.2.2.2.2.2.2.2.2.2.2.2.1, v.2.2.2.2.2.2.2.2.2.2.2.2.2.2.2.1, v.2.2.2.2.2.2.2.2.2.2.2.2.2.2.2.2.1, v.2.2.2.2.2.2.2.2.2.2.2.2.2.2.2.2.2.1, v.2.2.2.2.2.2.2.2.2.2.2.2.2.2.2.2.2.2.1, v.2.2.2.2.2.2.2.2.2.2.2.2.2.2.2.2.2.2.2.1, v.2.2.2.2.2.2.2.2.2.2.2.2.2.2.2.2.2.2.2.2.1, v.2.2.2.2.2.2.2.2.2.2.2.2.2.2.2.2.2.2.2.2.2.1, v.2.2.2.2.2.2.2.2.2.2.2.2.2.2.2.2.2.2.2.2.2.2.1, v.2.2.2.2.2.2.2.2.2.2.2.2.2.2.2.2.2.2.2.2.2.2.2, x.1, x.2.1, x.2.2.1, x.2.2.2.1.1, x.2.2.2.1.2, x.2.2.2.2.1.1, x.2.2.2.2.1.2, x.2.2.2.2.2)
end Go.Proofs.ZzM
end

noncomputable section
set_option maxRecDepth 100000
namespace Go.Proofs.ZzM
open Go Go.Am
def LG : bJ := ⟨[bp], [.bool], fun (x : Val bp) => vZ x⟩
def Nr : List (Nat × bJ) := []
def wS (ρ : Type) : List (bP ρ) := []
def D6 (ρ : Type) : Env ρ := bM Nr (wS ρ)
def U9 : bJ := ⟨[bg], [.bool], fun (x : Val bg) => Gd x⟩
def Np : bo := { pin := 0, cs := [tI, tI, ac, aa, af, ab, aa], vs := [tI], head := ⟨50, [.any, .box 0 0, .any, .var tI], [.cells [.con tI, .con tI, .con ac, .con aa, .con af, .con ab, .con aa]]⟩, exits := [(.ret, ⟨50, [.any, .box 0 0, .var .bool], [.cells [.con tI, .con tI, .con ac, .con aa, .con af, .con ab, .con aa]]⟩, [.bool]), (.exit 0, ⟨50, [.any, .box 0 0], [.cells [.con tI, .con tI, .con ac, .con aa, .con af, .con ab, .con aa]]⟩, [])] }
def zH (ρ : Type) : bP ρ := ⟨[], 13, 0, Np, fun (p : Val ai) (v : Val tI) kn kx => qT p.2.2.2.2.2.1 v (fun u0 => kn u0) (kx 0) (kx 1)⟩
def Tu : List (Nat × bJ) := [(29, LG)]
def D5 (ρ : Type) : List (bP ρ) := [zH ρ]
def Cm (ρ : Type) : Env ρ := bM Tu (D5 ρ)
def Ve : bJ := ⟨[bg, br, tI, tI], [tI], fun (x : Val (.pair bg (.pair br bc))) => we x.1 x.2.1 x.2.2.1 x.2.2.2⟩
def Ox : bo := { pin := 0, cs := [tI, tI, af, tI, tI, tI, ac, aa, af, ab, aa, tI, tI, tI, tI, tI, tI, tI, tI], vs := [tI, tI], head := ⟨88, .any :: .any :: .con tI :: .con tI :: .box 0 0 :: .box 1 0 :: .any :: .any :: .any :: .var tI :: aN 7 [.con af, .con tI, .var tI], [.cells [.con tI, .con tI, .con ac, .con aa, .con af, .con ab, .con aa], .cells [.con tI, .con tI, .con tI, .con tI, .con tI, .con tI, .con tI, .con tI]]⟩, exits := [(.exit 0, ⟨88, .any :: .any :: .con tI :: .con tI :: .box 0 0 :: .box 1 0 :: .any :: .any :: .any :: .var tI :: aN 7 [.con af, .con tI], [.cells [.con tI, .con tI, .con ac, .con aa, .con af, .con ab, .con aa], .cells [.con tI, .con tI, .con tI, .con tI, .con tI, .con tI, .con tI, .con tI]]⟩, [tI])] }
def A6 (ρ : Type) : bP ρ := ⟨[], 54, 0, Ox, fun (p : Val (.pair tI (.pair tI (.pair af aI)))) (v : Val bc) kn kx => rN p.1 p.2.1 p.2.2.1 p.2.2.2.1 p.2.2.2.2.2.2.2.2.2.2.2.1 v.1 v.2 (fun u0 u1 => kn (u0, u1)) (kx 0)⟩
def Ow : bo := { pin := 0, cs := [tI, tI, tI, aa, tI, tI, tI, tI, tI, tI, tI, tI, tI], vs := [tI, ae], head := ⟨88, .any :: .any :: .con tI :: .con tI :: .any :: .box 0 0 :: .any :: .any :: .any :: .con tI :: .any :: .any :: .any :: .own 1 :: aN 39 [.con aa, .con tI, .var tI], [.cells [.con tI, .con tI, .con tI, .con tI, .con tI, .con tI, .con tI, .con tI], .rowv tI]⟩, exits := [(.exit 2, ⟨88, .any :: .any :: .con tI :: .con tI :: .any :: .box 0 0 :: .any :: .any :: .any :: .con tI :: .any :: .any :: .any :: .own 1 :: aN 39 [.con aa, .con tI], [.cells [.con tI, .con tI, .con tI, .con tI, .con tI, .con tI, .con tI, .con tI], .rowv tI]⟩, [ae])] }
def A5 (ρ : Type) : bP ρ := ⟨[], 54, 2, Ow, fun (p : Val (.pair tI (.pair tI (.pair tI (.pair aa (.pair tI ar)))))) (v : Val ax) kn kx => rM p.1 p.2.1 p.2.2.2.1 p.2.2.2.2.1 p.2.2.2.2.2.1 v.1 v.2 (fun u0 u1 => kn (u0, u1)) (kx 0)⟩
def TV : List (Nat × bJ) := [(126, iA)]
def Ez (ρ : Type) : List (bP ρ) := [A6 ρ, A5 ρ]
def vR (ρ : Type) : Env ρ := bM TV (Ez ρ)
def eZ : bJ := ⟨[aa, bc], [tI], fun (x : Val aW) => cd x.1 x.2⟩
def j2 : bo := { pin := 0, cs := [aa, tI, tI, tI], vs := [tI], head := ⟨19, [.con aa, .any, .any, .box 0 0, .any, .any, .any, .con tI, .var tI], [.cells [.con tI, .con tI]]⟩, exits := [(.ret, ⟨19, [.con aa, .any, .any, .box 0 0, .var tI, .any, .any, .con tI], [.cells [.con tI, .con tI]]⟩, [tI]), (.exit 0, ⟨19, [.con aa, .any, .any, .box 0 0, .any, .any, .any, .con tI], [.cells [.con tI, .con tI]]⟩, [])] }
def fZ (ρ : Type) : bP ρ := ⟨[], 130, 0, j2, fun (p : Val (.pair aa cw)) (v : Val tI) kn kx => dk p.1 p.2.1 p.2.2.1 p.2.2.2 v (fun u0 => kn u0) (kx 0) (kx 1)⟩
def lp : List (Nat × bJ) := []
def gi (ρ : Type) : List (bP ρ) := [fZ ρ]
def eG (ρ : Type) : Env ρ := bM lp (gi ρ)
def tO : bJ := ⟨[aC, ae, tI], [tI], fun (x : Val (.pair aC aA)) => gD x.1 x.2.1 x.2.2⟩
def Iv : List (Nat × bJ) := [(130, eZ)]
def tc (ρ : Type) : List (bP ρ) := []
def xp (ρ : Type) : Env ρ := bM Iv (tc ρ)
def sH : bJ := ⟨[ao, ae], [bc], fun (x : Val (.pair ao ae)) => gU x.1 x.2⟩
def yx : List (Nat × bJ) := []
def mf (ρ : Type) : List (bP ρ) := []
def oG (ρ : Type) : Env ρ := bM yx (mf ρ)
def pK : bJ := ⟨[aa], [tI], fun (x : Val aa) => iW x⟩
def KJ : bo := { pin := 0, cs := [aa, tI], vs := [tI], head := ⟨15, aN 5 [.con aa, .con tI, .var tI], []⟩, exits := [(.ret, ⟨15, [.any, .any, .var tI, .any, .any, .con aa, .con tI], []⟩, [tI]), (.exit 0, ⟨15, aN 5 [.con aa, .con tI], []⟩, [])] }
def xl (ρ : Type) : bP ρ := ⟨[], 227, 0, KJ, fun (p : Val (.pair aa tI)) (v : Val tI) kn kx => oE p.1 p.2 v (fun u0 => kn u0) (kx 0) (kx 1)⟩
def Rf : List (Nat × bJ) := [(219, zo)]
def AM (ρ : Type) : List (bP ρ) := [xl ρ]
def yr (ρ : Type) : Env ρ := bM Rf (AM ρ)
def xP : bJ := ⟨[tI, tI], [bc, tI], fun (x : Val bc) => nN x.1 x.2⟩
def KK : List (Nat × bJ) := [(259, M5), (260, Tk)]
def uK (ρ : Type) : List (bP ρ) := []
def AO (ρ : Type) : Env ρ := bM KK (uK ρ)
def XU : bJ := ⟨[bc, bc], [bc, tI], fun (x : Val ci) => Pa x.1 x.2⟩
def WA : List (Nat × bJ) := [(227, pK), (277, xP)]
def Ie (ρ : Type) : List (bP ρ) := []
def Rl (ρ : Type) : Env ρ := bM WA (Ie ρ)
def zq : bJ := ⟨[bc, bc], [bc], fun (x : Val ci) => sg x.1 x.2⟩
def FF : List (Nat × bJ) := [(262, XU)]
def qn (ρ : Type) : List (bP ρ) := []
def uN (ρ : Type) : Env ρ := bM FF (qn ρ)
def Tl : bJ := ⟨[bc, bc], [tI], fun (x : Val ci) => Ja x.1 x.2⟩
def Wz : List (Nat × bJ) := []
def Ib (ρ : Type) : List (bP ρ) := []
def Rj (ρ : Type) : Env ρ := bM Wz (Ib ρ)
def wN : bJ := ⟨[ci], [.bool], fun (x : Val ci) => pB x⟩
def CZ : List (Nat × bJ) := [(227, pK), (287, Tl)]
def oF (ρ : Type) : List (bP ρ) := []
def s7 (ρ : Type) : Env ρ := bM CZ (oF ρ)
def XV : bJ := ⟨[bc, bc], [bc, tI], fun (x : Val ci) => Jc x.1 x.2⟩
def WB : List (Nat × bJ) := [(227, pK), (277, xP)]
def Ig (ρ : Type) : List (bP ρ) := []
def Rn (ρ : Type) : Env ρ := bM WB (Ig ρ)
def Qt : bJ := ⟨[ci, bc], [ci, tI], fun (x : Val (.pair ci bc)) => Jb x.1 x.2⟩
def Et : List (Nat × bJ) := [(219, zo), (278, wN), (281, XV), (287, Tl)]
def rC (ρ : Type) : List (bP ρ) := []
def Es : List Z2 := [⟨[3, 2], 279, 0, 4⟩]
def Rm (ρ : Type) : Env ρ := bM Et (rC ρ)
def yv (ρ : Type) : Env ρ := abH Et (rC ρ) Es
def zp : bJ := ⟨[bc, bc], [ci], fun (x : Val ci) => mB x.1 x.2⟩
def FE : List (Nat × bJ) := [(263, Qt)]
def qm (ρ : Type) : List (bP ρ) := []
def uM (ρ : Type) : Env ρ := bM FE (qm ρ)
def Ch : bJ := ⟨[bg, bp], [ci], fun (x : Val aH) => mS x.1 x.2⟩
def OG : List (Nat × bJ) := [(53, xQ), (88, vI), (224, sH), (225, zq), (226, zp)]
def xt (ρ : Type) : List (bP ρ) := []
def EC (ρ : Type) : Env ρ := bM OG (xt ρ)
def GW : bJ := ⟨[bg, bp], [bc], fun (x : Val aH) => qD x.1 x.2⟩
def Ry : List (Nat × bJ) := []
def Bb (ρ : Type) : List (bP ρ) := []
def IA (ρ : Type) : Env ρ := bM Ry (Bb ρ)
def GT : bJ := ⟨[tI, tI], [tI], fun (x : Val bc) => vo x.1 x.2⟩
def Ri : List (Nat × bJ) := []
def AP (ρ : Type) : List (bP ρ) := []
def H9 (ρ : Type) : Env ρ := bM Ri (AP ρ)
def M6 : bJ := ⟨[bc], [tI, tI], fun (x : Val bc) => BJ x⟩
def TS : List (Nat × bJ) := [(227, pK), (228, GT)]
def Eu (ρ : Type) : List (bP ρ) := []
def L3 (ρ : Type) : Env ρ := bM TS (Eu ρ)
def GU : bJ := ⟨[bc], [tI, tI], fun (x : Val bc) => vp x⟩
def Ro : List (Nat × bJ) := [(227, pK), (228, GT)]
def AU (ρ : Type) : List (bP ρ) := []
def Ih (ρ : Type) : Env ρ := bM Ro (AU ρ)
def M7 : bJ := ⟨[bg, bp], [bc], fun (x : Val aH) => sf x.1 x.2⟩
def TT : List (Nat × bJ) := [(171, Ch), (172, GW), (173, M6), (174, GU)]
def Ex (ρ : Type) : List (bP ρ) := []
def L4 (ρ : Type) : Env ρ := bM TT (Ex ρ)
def FZ : bJ := ⟨[bg], [aC], fun (x : Val bg) => wd x⟩
def Ot : bo := { pin := 2, cs := [tI, ae, tI, ac, tI, tI, tI, tI, ac, aa, af, ab, aa, tI, tI, ac, aa, af, ab, aa, aa, tI, tI, tI, tI, tI, tI, tI, tI, tI], vs := [tI, ah, aa], head := ⟨144, .box 1 0 :: .any :: .con tI :: .box 2 0 :: .con ae :: .con tI :: .var tI :: aN 24 [.con ac, .con tI, .con tI], [.cells [.con tI, .con tI, .con ac, .con aa, .con af, .con ab, .con aa], .cells [.con tI, .con tI, .con ac, .con aa, .con af, .con ab, .con aa, .con aa, .con tI, .own 3, .own 4], .cells [.con tI, .con tI, .con tI, .con tI, .con tI, .con tI, .con tI, .con tI], .rowv cw, .rowv bc]⟩, exits := [(.exit 2, ⟨144, .box 1 0 :: .any :: .con tI :: .box 2 0 :: .con ae :: .con tI :: aN 25 [.con ac, .con tI, .con tI], [.cells [.con tI, .con tI, .con ac, .con aa, .con af, .con ab, .con aa], .cells [.con tI, .con tI, .con ac, .con aa, .con af, .con ab, .con aa, .con aa, .con tI, .own 3, .own 4], .cells [.con tI, .con tI, .con tI, .con tI, .con tI, .con tI, .con tI, .con tI], .rowv cw, .rowv bc]⟩, [ah, aa])] }
def A3 (ρ : Type) : bP ρ := ⟨[2, 1], 132, 2, Ot, fun (p : Val (.pair tI (.pair ae (.pair tI (.pair ac (.pair tI (.pair tI (.pair tI (.pair tI (.pair ac (.pair aa (.pair af (.pair ab (.pair aa (.pair tI (.pair tI (.pair ac (.pair aa (.pair af (.pair ab (.pair aa (.pair aa (.pair tI ar))))))))))))))))))))))) (v : Val (.pair tI yY)) kn kx => rK p.1 p.2.1 p.2.2.1 p.2.2.2.2.2.2.2.2.2.2.2.2.2.1 p.2.2.2.2.2.2.2.2.2.2.2.2.2.2.1 p.2.2.2.2.2.2.2.2.2.2.2.2.2.2.2.1 p.2.2.2.2.2.2.2.2.2.2.2.2.2.2.2.2.1 p.2.2.2.2.2.2.2.2.2.2.2.2.2.2.2.2.2.1 p.2.2.2.2.2.2.2.2.2.2.2.2.2.2.2.2.2.2.1 p.2.2.2.2.2.2.2.2.2.2.2.2.2.2.2.2.2.2.2.1 p.2.2.2.2.2.2.2.2.2.2.2.2.2.2.2.2.2.2.2.2.2.2.1 p.2.2.2.2.2.2.2.2.2.2.2.2.2.2.2.2.2.2.2.2.2.2.2.1 p.2.2.2.2.2.2.2.2.2.2.2.2.2.2.2.2.2.2.2.2.2.2.2.2.1 p.2.2.2.2.2.2.2.2.2.2.2.2.2.2.2.2.2.2.2.2.2.2.2.2.2.1 p.2.2.2.2.2.2.2.2.2.2.2.2.2.2.2.2.2.2.2.2.2.2.2.2.2.2.1 p.2.2.2.2.2.2.2.2.2.2.2.2.2.2.2.2.2.2.2.2.2.2.2.2.2.2.2.1 p.2.2.2.2.2.2.2.2.2.2.2.2.2.2.2.2.2.2.2.2.2.2.2.2.2.2.2.2.1 p.2.2.2.2.2.2.2.2.2.2.2.2.2.2.2.2.2.2.2.2.2.2.2.2.2.2.2.2.2 v.1 v.2.1 v.2.2 (fun u0 u1 u2 => kn (u0, u1, u2)) (kx 0)⟩
def Ou : bo := { pin := 2, cs := [ac, tI, tI, tI, ac, aa, af, ab, aa, tI, tI, ac, aa, af, ab, aa, aa, tI], vs := [tI, ah, aa], head := ⟨144, .box 1 0 :: aN 30 [.con ac, .con tI, .var tI], [.cells [.con tI, .con tI, .con ac, .con aa, .con af, .con ab, .con aa], .cells [.con tI, .con tI, .con ac, .con aa, .con af, .con ab, .con aa, .con aa, .con tI, .own 2, .own 3], .rowv cw, .rowv bc]⟩, exits := [(.exit 0, ⟨144, .box 1 0 :: aN 30 [.con ac, .con tI], [.cells [.con tI, .con tI, .con ac, .con aa, .con af, .con ab, .con aa], .cells [.con tI, .con tI, .con ac, .con aa, .con af, .con ab, .con aa, .con aa, .con tI, .own 2, .own 3], .rowv cw, .rowv bc]⟩, [ah, aa])] }
def A4 (ρ : Type) : bP ρ := ⟨[2, 1], 132, 0, Ou, fun (p : Val (.pair ac (.pair tI (.pair tI (.pair tI (.pair ac (.pair aa (.pair af (.pair ab (.pair aa (.pair tI (.pair tI (.pair ac (.pair aa (.pair af (.pair ab (.pair aa (.pair aa tI)))))))))))))))))) (v : Val (.pair tI yY)) kn kx => rL p.1 p.2.1 p.2.2.2.2.2.2.2.2.2.1 p.2.2.2.2.2.2.2.2.2.2.1 p.2.2.2.2.2.2.2.2.2.2.2.1 p.2.2.2.2.2.2.2.2.2.2.2.2.1 p.2.2.2.2.2.2.2.2.2.2.2.2.2.1 p.2.2.2.2.2.2.2.2.2.2.2.2.2.2.1 p.2.2.2.2.2.2.2.2.2.2.2.2.2.2.2.1 p.2.2.2.2.2.2.2.2.2.2.2.2.2.2.2.2.1 p.2.2.2.2.2.2.2.2.2.2.2.2.2.2.2.2.2 v.1 v.2.1 v.2.2 (fun u0 u1 u2 => kn (u0, u1, u2)) (kx 0)⟩
def Oq : bo := { pin := 2, cs := [ab, tI, tI, tI, ac, aa, af, ab, aa, tI, tI, ac, aa, af, ab, aa, aa, tI], vs := [tI, ah, aa], head := ⟨144, .box 1 0 :: aN 107 [.con ab, .con tI, .var tI], [.cells [.con tI, .con tI, .con ac, .con aa, .con af, .con ab, .con aa], .cells [.con tI, .con tI, .con ac, .con aa, .con af, .con ab, .con aa, .con aa, .con tI, .own 2, .own 3], .rowv cw, .rowv bc]⟩, exits := [(.exit 4, ⟨144, .box 1 0 :: aN 107 [.con ab, .con tI], [.cells [.con tI, .con tI, .con ac, .con aa, .con af, .con ab, .con aa], .cells [.con tI, .con tI, .con ac, .con aa, .con af, .con ab, .con aa, .con aa, .con tI, .own 2, .own 3], .rowv cw, .rowv bc]⟩, [ah, aa])] }
def A2 (ρ : Type) : bP ρ := ⟨[2, 1], 132, 4, Oq, fun (p : Val (.pair ab (.pair tI (.pair tI (.pair tI (.pair ac (.pair aa (.pair af (.pair ab (.pair aa (.pair tI (.pair tI (.pair ac (.pair aa (.pair af (.pair ab (.pair aa (.pair aa tI)))))))))))))))))) (v : Val (.pair tI yY)) kn kx => rJ p.1 p.2.1 p.2.2.2.2.2.2.2.2.2.1 p.2.2.2.2.2.2.2.2.2.2.1 p.2.2.2.2.2.2.2.2.2.2.2.1 p.2.2.2.2.2.2.2.2.2.2.2.2.1 p.2.2.2.2.2.2.2.2.2.2.2.2.2.1 p.2.2.2.2.2.2.2.2.2.2.2.2.2.2.1 p.2.2.2.2.2.2.2.2.2.2.2.2.2.2.2.1 p.2.2.2.2.2.2.2.2.2.2.2.2.2.2.2.2.1 p.2.2.2.2.2.2.2.2.2.2.2.2.2.2.2.2.2 v.1 v.2.1 v.2.2 (fun u0 u1 u2 => kn (u0, u1, u2)) (kx 0)⟩
def TU : List (Nat × bJ) := [(54, Ve), (85, zr), (87, tO), (88, vI), (168, M8), (200, M7)]
def Ey (ρ : Type) : List (bP ρ) := [A3 ρ, A4 ρ, A2 ρ]
def qo (ρ : Type) : Env ρ := bM TU (Ey ρ)
def eu : bJ := ⟨[bg], [bq, aa, tI], fun (x : Val bg) => df x⟩
def OQ : List (Nat × bJ) := [(38, dQ), (62, FZ)]
def xu (ρ : Type) : List (bP ρ) := []
def EG (ρ : Type) : Env ρ := bM OQ (xu ρ)
def gh : bJ := ⟨[bg, bc], [tI, tI], fun (x : Val aJ) => dc x.1 x.2⟩
def RE : List (Nat × bJ) := [(38, dQ), (85, zr), (130, eZ)]
def Bm (ρ : Type) : List (bP ρ) := []
def IE (ρ : Type) : Env ρ := bM RE (Bm ρ)
def ij : bJ := ⟨[au, bc], [tI], fun (x : Val aQ) => fi x.1 x.2⟩
def J3 : List (Nat × bJ) := [(60, gh)]
def ue (ρ : Type) : List (bP ρ) := []
def zP (ρ : Type) : Env ρ := bM J3 (ue ρ)
def FY : bJ := ⟨[bq, tI], [.bool], fun (x : Val (.pair bq tI)) => oQ x.1 x.2⟩
def TD : List (Nat × bJ) := []
def Eh (ρ : Type) : List (bP ρ) := []
def LW (ρ : Type) : Env ρ := bM TD (Eh ρ)
def m8 : bJ := ⟨[bq], [tI, tI], fun (x : Val bq) => jY x⟩
def KE : bo := { pin := 0, cs := [ah, tI, tI, ah], vs := [tI], head := ⟨57, .any :: .box 0 0 :: aN 17 [.con ah, .con tI, .var tI], [.cells [.con tI, .con ah]]⟩, exits := [(.ret, ⟨57, .any :: .box 0 0 :: .var tI :: .var tI :: aN 15 [.con ah, .con tI], [.cells [.con tI, .con ah]]⟩, [tI, tI]), (.exit 0, ⟨57, .any :: .box 0 0 :: aN 17 [.con ah, .con tI], [.cells [.con tI, .con ah]]⟩, [])] }
def xg (ρ : Type) : bP ρ := ⟨[], 133, 0, KE, fun (p : Val (.pair ah aG)) (v : Val tI) kn kx => oz p.1 p.2.1 p.2.2.1 p.2.2.2 v (fun u0 => kn u0) (kx 0) (kx 1)⟩
def Rc : List (Nat × bJ) := [(134, FY)]
def AG (ρ : Type) : List (bP ρ) := [xg ρ]
def yq (ρ : Type) : Env ρ := bM Rc (AG ρ)
def lg : bJ := ⟨[bq, aj], [ae, .bool], fun (x : Val (.pair bq aj)) => iu x.1 x.2⟩
def CS : bo := { pin := 2, cs := [aj, ah, tI, tI, ah, ae, tI, ah, aw, ae], vs := [tI, tI], head := ⟨140, .any :: .con aj :: .own 1 :: .box 2 0 :: .any :: .any :: .any :: .box 3 0 :: .own 4 :: .own 5 :: .var tI :: aN 14 [.con ah, .con tI, .var tI], [.cells [.con tI, .con ah], .rowc tI, .cells [.con tI, .con ah], .cells [.nils], .rowc .bool, .rowc tI]⟩, exits := [(.exit 0, ⟨140, .any :: .con aj :: .own 1 :: .box 2 0 :: .any :: .any :: .any :: .box 3 0 :: .own 4 :: .own 5 :: .var tI :: aN 14 [.con ah, .con tI], [.cells [.con tI, .con ah], .rowc tI, .cells [.con tI, .con ah], .cells [.nils], .rowc .bool, .rowc tI]⟩, [tI])] }
def ql (ρ : Type) : bP ρ := ⟨[2, 3], 136, 0, CS, fun (p : Val (.pair aj (.pair ah (.pair tI (.pair tI (.pair ah (.pair ae (.pair tI (.pair ah aK))))))))) (v : Val bc) kn kx => gn p.2.1 p.2.2.1 v.1 v.2 (fun u0 u1 => kn (u0, u1)) (kx 0)⟩
def CQ : bo := { pin := 2, cs := [aj, tI, tI, tI, ah, ae, tI, ah, ae], vs := [tI, aw, ae], head := ⟨140, .any :: .con aj :: .own 1 :: .box 2 0 :: .any :: .any :: .any :: .box 3 0 :: .own 4 :: .own 5 :: .con tI :: aN 27 [.con tI, .var tI], [.cells [.con tI, .con ah], .rowc tI, .cells [.con tI, .con ah], .cells [.own 6], .rowv .bool, .rowc tI, .rowv tI]⟩, exits := [(.exit 2, ⟨140, .any :: .con aj :: .own 1 :: .box 2 0 :: .any :: .any :: .any :: .box 3 0 :: .own 4 :: .own 5 :: .con tI :: aN 27 [.con tI], [.cells [.con tI, .con ah], .rowc tI, .cells [.con tI, .con ah], .cells [.own 6], .rowv .bool, .rowc tI, .rowv tI]⟩, [aw, ae])] }
def qk (ρ : Type) : bP ρ := ⟨[2, 3], 136, 2, CQ, fun (p : Val (.pair aj (.pair tI (.pair tI (.pair tI (.pair ah (.pair ae (.pair tI (.pair ah ae))))))))) (v : Val (.pair tI aK)) kn kx => eh p.2.2.1 p.2.2.2.2.2.1 v.1 v.2.1 v.2.2 (fun u0 u1 u2 => kn (u0, u1, u2)) (kx 0)⟩
def CO : bo := { pin := 2, cs := [aj, tI, tI, ah, tI, tI, ah, tI, ah, ae], vs := [tI, ae, aw, ae], head := ⟨140, .any :: .con aj :: .own 1 :: .box 2 0 :: .any :: .any :: .any :: .box 3 0 :: .own 4 :: .own 5 :: .con tI :: .any :: .any :: .any :: .con tI :: aN 62 [.con ah, .con tI, .var tI], [.cells [.con tI, .con ah], .rowv tI, .cells [.con tI, .con ah], .cells [.own 6], .rowv .bool, .rowc tI, .rowv tI]⟩, exits := [(.ret, ⟨140, .any :: .con aj :: .own 1 :: .box 2 0 :: .any :: .any :: .var .bool :: .box 3 0 :: .own 4 :: .own 5 :: .con tI :: .any :: .any :: .any :: .con tI :: aN 62 [.con ah, .con tI], [.cells [.con tI, .con ah], .rowv tI, .cells [.con tI, .con ah], .cells [.own 6], .rowv .bool, .rowc tI, .rowv tI]⟩, [.bool, ae, aw, ae]), (.exit 6, ⟨140, .any :: .con aj :: .own 1 :: .box 2 0 :: .any :: .any :: .any :: .box 3 0 :: .own 4 :: .own 5 :: .con tI :: .any :: .any :: .any :: .con tI :: aN 62 [.con ah, .con tI], [.cells [.con tI, .con ah], .rowv tI, .cells [.con tI, .con ah], .cells [.own 6], .rowv .bool, .rowc tI, .rowv tI]⟩, [ae, aw, ae])] }
def qi (ρ : Type) : bP ρ := ⟨[2, 3], 136, 6, CO, fun (p : Val (.pair aj (.pair tI (.pair tI (.pair ah (.pair tI (.pair tI (.pair ah (.pair tI (.pair ah ae)))))))))) (v : Val (.pair tI (.pair ae aK))) kn kx => il p.1 p.2.1 p.2.2.1 p.2.2.2.1 p.2.2.2.2.1 v.1 v.2.1 v.2.2.1 v.2.2.2 (fun u0 u1 u2 u3 => kn (u0, u1, u2, u3)) (kx 0) (kx 1)⟩
def CP : bo := { pin := 2, cs := [aj, tI, tI, ah, tI, ah], vs := [ae, aw, ae, ae], head := ⟨140, [.any, .con aj, .own 1, .box 2 0, .any, .any, .any, .box 3 0, .own 4, .own 5, .con tI], [.cells [.con tI, .con ah], .rowv tI, .cells [.con tI, .con ah], .cells [.own 6], .rowv .bool, .rowv tI, .rowv tI]⟩, exits := [(.ret, ⟨140, [.any, .con aj, .own 1, .box 2 0, .any, .any, .var .bool, .box 3 0, .own 4, .own 5, .con tI], [.cells [.con tI, .con ah], .rowv tI, .cells [.con tI, .con ah], .cells [.own 6], .rowv .bool, .rowv tI, .rowv tI]⟩, [.bool, ae, aw, ae, ae])] }
def qj (ρ : Type) : bP ρ := ⟨[2, 3], 136, 4, CP, fun (p : Val (.pair aj (.pair tI (.pair tI (.pair ah bq))))) (v : Val aL) kn kx => dm p.1 p.2.1 p.2.2.2.2.1 p.2.2.2.2.2 v.1 v.2.1 v.2.2.1 v.2.2.2 (fun u0 u1 u2 u3 => kn (u0, u1, u2, u3)) (kx 0)⟩
def CN : bo := { pin := 0, cs := [tI, tI], vs := [tI, ae], head := ⟨34, aN 6 (.own 0 :: .con tI :: aN 13 [.con tI, .var tI]), [.rowv tI]⟩, exits := [(.exit 0, ⟨34, aN 6 (.own 0 :: .con tI :: aN 13 [.con tI]), [.rowv tI]⟩, [ae])] }
def qg (ρ : Type) : bP ρ := ⟨[], 135, 0, CN, fun (p : Val bc) (v : Val ax) kn kx => ik p.1 p.2 v.1 v.2 (fun u0 u1 => kn (u0, u1)) (kx 0)⟩
def Hz : List (Nat × bJ) := []
def sV (ρ : Type) : List (bP ρ) := [ql ρ, qk ρ, qi ρ, qj ρ, qg ρ]
def fR (ρ : Type) : Env ρ := bM Hz (sV ρ)
def Qp : bJ := ⟨[bq, ae], [tI], fun (x : Val aS) => BI x.1 x.2⟩
def Kw : bo := { pin := 0, cs := [ae, tI, tI, ah], vs := [tI], head := ⟨37, .any :: .any :: .box 0 0 :: aN 16 [.con ae, .con tI, .var tI], [.cells [.con tI, .con ah]]⟩, exits := [(.ret, ⟨37, .any :: .any :: .box 0 0 :: .any :: .var tI :: aN 14 [.con ae, .con tI], [.cells [.con tI, .con ah]]⟩, [tI]), (.exit 0, ⟨37, .any :: .any :: .box 0 0 :: aN 16 [.con ae, .con tI], [.cells [.con tI, .con ah]]⟩, [])] }
def xa (ρ : Type) : bP ρ := ⟨[], 63, 0, Kw, fun (p : Val (.pair ae aG)) (v : Val tI) kn kx => ox p.1 p.2.1 p.2.2.1 p.2.2.2 v (fun u0 => kn u0) (kx 0) (kx 1)⟩
def Q8 : List (Nat × bJ) := [(133, m8), (134, FY), (135, lg)]
def AA (ρ : Type) : List (bP ρ) := [xa ρ]
def yp (ρ : Type) : Env ρ := bM Q8 (AA ρ)
def LJ : bJ := ⟨[bq, aj, tI], [ae], fun (x : Val (.pair bq (.pair aj tI))) => wc x.1 x.2.1 x.2.2⟩
def HG : bo := { pin := 0, cs := [aj, tI, tI, tI, ah], vs := [tI, ae], head := ⟨29, .any :: .con aj :: .con tI :: .box 0 0 :: .any :: .any :: .any :: .own 1 :: aN 5 [.con tI, .var tI], [.cells [.con tI, .con ah], .rowv tI]⟩, exits := [(.exit 0, ⟨29, .any :: .con aj :: .con tI :: .box 0 0 :: .any :: .any :: .any :: .own 1 :: aN 5 [.con tI], [.cells [.con tI, .con ah], .rowv tI]⟩, [ae])] }
def uJ (ρ : Type) : bP ρ := ⟨[], 64, 0, HG, fun (p : Val (.pair aj (.pair tI aG))) (v : Val ax) kn kx => mr p.2.2.1 v.1 v.2 (fun u0 u1 => kn (u0, u1)) (kx 0)⟩
def HF : bo := { pin := 2, cs := [aj, ah, tI, tI, ah, ae, tI, ah, aw, ae], vs := [tI, tI], head := ⟨140, .any :: .con aj :: .own 1 :: .box 2 0 :: .any :: .any :: .any :: .box 3 0 :: .own 4 :: .own 5 :: .var tI :: aN 14 [.con ah, .con tI, .var tI], [.cells [.con tI, .con ah], .rowc tI, .cells [.con tI, .con ah], .cells [.nils], .rowc .bool, .rowc tI]⟩, exits := [(.exit 0, ⟨140, .any :: .con aj :: .own 1 :: .box 2 0 :: .any :: .any :: .any :: .box 3 0 :: .own 4 :: .own 5 :: .var tI :: aN 14 [.con ah, .con tI], [.cells [.con tI, .con ah], .rowc tI, .cells [.con tI, .con ah], .cells [.nils], .rowc .bool, .rowc tI]⟩, [tI])] }
def uI (ρ : Type) : bP ρ := ⟨[8, 3], 136, 0, HF, fun (p : Val (.pair aj (.pair ah (.pair tI (.pair tI (.pair ah (.pair ae (.pair tI (.pair ah aK))))))))) (v : Val bc) kn kx => rA p.2.1 p.2.2.1 v.1 v.2 (fun u0 u1 => kn (u0, u1)) (kx 0)⟩
def HE : bo := { pin := 2, cs := [aj, tI, tI, tI, ah, ae, tI, ah, ae], vs := [tI, aw, ae], head := ⟨140, .any :: .con aj :: .own 1 :: .box 2 0 :: .any :: .any :: .any :: .box 3 0 :: .own 4 :: .own 5 :: .con tI :: aN 27 [.con tI, .var tI], [.cells [.con tI, .con ah], .rowc tI, .cells [.con tI, .con ah], .cells [.own 6], .rowv .bool, .rowc tI, .rowv tI]⟩, exits := [(.exit 2, ⟨140, .any :: .con aj :: .own 1 :: .box 2 0 :: .any :: .any :: .any :: .box 3 0 :: .own 4 :: .own 5 :: .con tI :: aN 27 [.con tI], [.cells [.con tI, .con ah], .rowc tI, .cells [.con tI, .con ah], .cells [.own 6], .rowv .bool, .rowc tI, .rowv tI]⟩, [aw, ae])] }
def uH (ρ : Type) : bP ρ := ⟨[8, 3], 136, 2, HE, fun (p : Val (.pair aj (.pair tI (.pair tI (.pair tI (.pair ah (.pair ae (.pair tI (.pair ah ae))))))))) (v : Val (.pair tI aK)) kn kx => rz p.2.2.1 p.2.2.2.2.2.1 v.1 v.2.1 v.2.2 (fun u0 u1 u2 => kn (u0, u1, u2)) (kx 0)⟩
def HC : bo := { pin := 2, cs := [aj, tI, tI, ah, tI, tI, ah, tI, ah, ae], vs := [tI, ae, aw, ae], head := ⟨140, .any :: .con aj :: .own 1 :: .box 2 0 :: .any :: .any :: .any :: .box 3 0 :: .own 4 :: .own 5 :: .con tI :: .any :: .any :: .any :: .con tI :: aN 62 [.con ah, .con tI, .var tI], [.cells [.con tI, .con ah], .rowv tI, .cells [.con tI, .con ah], .cells [.own 6], .rowv .bool, .rowc tI, .rowv tI]⟩, exits := [(.ret, ⟨140, .any :: .con aj :: .own 1 :: .box 2 0 :: .any :: .any :: .var .bool :: .box 3 0 :: .own 4 :: .own 5 :: .con tI :: .any :: .any :: .any :: .con tI :: aN 62 [.con ah, .con tI], [.cells [.con tI, .con ah], .rowv tI, .cells [.con tI, .con ah], .cells [.own 6], .rowv .bool, .rowc tI, .rowv tI]⟩, [.bool, ae, aw, ae]), (.exit 6, ⟨140, .any :: .con aj :: .own 1 :: .box 2 0 :: .any :: .any :: .any :: .box 3 0 :: .own 4 :: .own 5 :: .con tI :: .any :: .any :: .any :: .con tI :: aN 62 [.con ah, .con tI], [.cells [.con tI, .con ah], .rowv tI, .cells [.con tI, .con ah], .cells [.own 6], .rowv .bool, .rowc tI, .rowv tI]⟩, [ae, aw, ae])] }
def uF (ρ : Type) : bP ρ := ⟨[8, 3], 136, 6, HC, fun (p : Val (.pair aj (.pair tI (.pair tI (.pair ah (.pair tI (.pair tI (.pair ah (.pair tI (.pair ah ae)))))))))) (v : Val (.pair tI (.pair ae aK))) kn kx => Az p.1 p.2.1 p.2.2.1 p.2.2.2.1 p.2.2.2.2.1 v.1 v.2.1 v.2.2.1 v.2.2.2 (fun u0 u1 u2 u3 => kn (u0, u1, u2, u3)) (kx 0) (kx 1)⟩
def HD : bo := { pin := 2, cs := [aj, tI, tI, ah, tI, ah], vs := [ae, aw, ae, ae], head := ⟨140, [.any, .con aj, .own 1, .box 2 0, .any, .any, .any, .box 3 0, .own 4, .own 5, .con tI], [.cells [.con tI, .con ah], .rowv tI, .cells [.con tI, .con ah], .cells [.own 6], .rowv .bool, .rowv tI, .rowv tI]⟩, exits := [(.ret, ⟨140, [.any, .con aj, .own 1, .box 2 0, .any, .any, .var .bool, .box 3 0, .own 4, .own 5, .con tI], [.cells [.con tI, .con ah], .rowv tI, .cells [.con tI, .con ah], .cells [.own 6], .rowv .bool, .rowv tI, .rowv tI]⟩, [.bool, ae, aw, ae, ae])] }
def uG (ρ : Type) : bP ρ := ⟨[8, 3], 136, 4, HD, fun (p : Val (.pair aj (.pair tI (.pair tI (.pair ah bq))))) (v : Val aL) kn kx => ru p.1 p.2.1 p.2.2.2.2.1 p.2.2.2.2.2 v.1 v.2.1 v.2.2.1 v.2.2.2 (fun u0 u1 u2 u3 => kn (u0, u1, u2, u3)) (kx 0)⟩
def N0 : List (Nat × bJ) := []
def w9 (ρ : Type) : List (bP ρ) := [uJ ρ, uI ρ, uH ρ, uF ρ, uG ρ]
def ip (ρ : Type) : Env ρ := bM N0 (w9 ρ)
def tN : bJ := ⟨[bq, tI, tI], [tI, tI], fun (x : Val aM) => lN x.1 x.2.1 x.2.2⟩
def Re : List (Nat × bJ) := [(63, Qp), (64, LJ)]
def AK (ρ : Type) : List (bP ρ) := []
def HY (ρ : Type) : Env ρ := bM Re (AK ρ)
def iQ : bJ := ⟨[au, tI, tI], [tI], fun (x : Val aQ) => cp x.1 x.2.1 x.2.2⟩
def Cs : List (Nat × bJ) := [(89, tN)]
def oj (ρ : Type) : List (bP ρ) := []
def sM (ρ : Type) : Env ρ := bM Cs (oj ρ)
def oW : bJ := ⟨[au, bc], [tI], fun (x : Val aQ) => fU x.1 x.2⟩
def Cr : List (Nat × bJ) := [(55, ij), (56, iQ)]
def oi (ρ : Type) : List (bP ρ) := []
def sL (ρ : Type) : Env ρ := bM Cr (oi ρ)
def kh : bJ := ⟨[au, bc], [tI], fun (x : Val aQ) => gq x.1 x.2⟩
def wz : List (Nat × bJ) := [(55, ij), (56, iQ)]
def lu (ρ : Type) : List (bP ρ) := []
def nk (ρ : Type) : Env ρ := bM wz (lu ρ)
def iz : bJ := ⟨[au, bc], [bc], fun (x : Val aQ) => eV x.1 x.2⟩
def wy : List (Nat × bJ) := [(121, oW), (122, kh)]
def lr (ρ : Type) : List (bP ρ) := []
def ja (ρ : Type) : Env ρ := { bM wy (lr ρ) with hint := Dp [(12, 121), (16, 122)] }
def kR : bJ := ⟨[bg, bc], [bg, tI], fun (x : Val aJ) => fm x.1 x.2⟩
def OT : bo := { pin := 6, cs := [tI, tI, tI, ac, aa, af, ab, aa, tI, tI, tI, tI, tI, tI, ac, aa, af, ab, aa, tI, tI, tI, tI, ab, tI, tI, ac, aa, af, aa], vs := [tI, ab], head := ⟨50, .any :: .box 6 0 :: .box 7 0 :: .own 8 :: aN 21 [.own 8, .con tI, .var tI], [.cells [.con tI, .con tI, .con ac, .con aa, .con af, .con ab, .con aa], .cells [.con tI, .con tI], .cells [.con tI, .con tI, .nils, .nils, .nils, .nils, .nils], .cells [.con tI, .con tI, .con ac, .con aa, .con af, .con ab, .con aa], .cells [.con tI, .con tI, .nils, .nils, .nils, .nils, .nils], .dead, .cells [.con tI, .con tI, .own 9, .own 10, .own 11, .con ab, .own 12], .cells [.con tI, .con tI, .nils, .nils, .nils, .nils, .nils], .rowv bp, .rowc br, .rowc bc, .rowc dG, .rowc bc]⟩, exits := [(.exit 0, ⟨50, .any :: .box 6 0 :: .box 7 0 :: .own 8 :: aN 21 [.own 8, .con tI], [.cells [.con tI, .con tI, .con ac, .con aa, .con af, .con ab, .con aa], .cells [.con tI, .con tI], .cells [.con tI, .con tI, .nils, .nils, .nils, .nils, .nils], .cells [.con tI, .con tI, .con ac, .con aa, .con af, .con ab, .con aa], .cells [.con tI, .con tI, .nils, .nils, .nils, .nils, .nils], .dead, .cells [.con tI, .con tI, .own 9, .own 10, .own 11, .con ab, .own 12], .cells [.con tI, .con tI, .nils, .nils, .nils, .nils, .nils], .rowv bp, .rowc br, .rowc bc, .rowc dG, .rowc bc]⟩, [ab])] }
def Bl (ρ : Type) : bP ρ := ⟨[1, 2, 4, 1], 175, 0, OT, fun (p : Val (.pair tI (.pair tI (.pair tI (.pair ac (.pair aa (.pair af (.pair ab (.pair aa (.pair tI (.pair tI (.pair tI (.pair tI (.pair tI (.pair tI (.pair ac (.pair aa (.pair af (.pair ab (.pair aa (.pair tI (.pair tI (.pair tI (.pair tI (.pair ab (.pair tI (.pair tI (.pair ac (.pair aa (.pair af aa)))))))))))))))))))))))))))))) (v : Val (.pair tI ab)) kn kx => rV p.1 v.1 v.2 (fun u0 u1 => kn (u0, u1)) (kx 0)⟩
def T1 : List (Nat × bJ) := [(38, dQ)]
def EI (ρ : Type) : List (bP ρ) := [Bl ρ]
def De (ρ : Type) : Env ρ := bM T1 (EI ρ)
def dX : bJ := ⟨[bq], [.bool, tI], fun (x : Val bq) => cD x⟩
def CW : List (Nat × bJ) := [(133, m8), (135, lg)]
def oy (ρ : Type) : List (bP ρ) := []
def sX (ρ : Type) : Env ρ := bM CW (oy ρ)
def tM : bJ := ⟨[bg, bc], [bc, tI], fun (x : Val aJ) => jp x.1 x.2⟩
def CC : bo := { pin := 4, cs := [tI, tI, tI, ac, aa, af, ab, aa, tI, tI, tI, tI, aa], vs := [tI, tI, tI, ac, aa, af, ab, aa], head := ⟨68, .any :: .any :: .box 4 0 :: aN 20 [.own 3, .con tI, .var tI], [.cells [.con tI, .con tI, .con ac, .con aa, .con af, .con ab, .con aa], .cells [.con tI, .con tI], .cells [.con tI, .con tI], .rowc bc, .cells [.var tI, .var tI, .var ac, .var aa, .var af, .var ab, .var aa]]⟩, exits := [(.ret, ⟨68, .any :: .any :: .box 4 0 :: .any :: .nilp :: .var tI :: aN 17 [.own 3, .con tI], [.cells [.con tI, .con tI, .con ac, .con aa, .con af, .con ab, .con aa], .cells [.con tI, .con tI], .cells [.con tI, .con tI], .rowc bc, .cells [.var tI, .var tI, .var ac, .var aa, .var af, .var ab, .var aa]]⟩, [tI, tI, tI, ac, aa, af, ab, aa]), (.exit 0, ⟨68, .any :: .any :: .box 4 0 :: aN 20 [.own 3, .con tI], [.cells [.con tI, .con tI, .con ac, .con aa, .con af, .con ab, .con aa], .cells [.con tI, .con tI], .cells [.con tI, .con tI], .rowc bc, .cells [.var tI, .var tI, .var ac, .var aa, .var af, .var ab, .var aa]]⟩, [tI, tI, ac, aa, af, ab, aa])] }
def qd (ρ : Type) : bP ρ := ⟨[1, 3], 50, 0, CC, fun (p : Val (.pair tI (.pair tI (.pair tI (.pair ac (.pair aa (.pair af (.pair ab (.pair aa (.pair tI (.pair tI aB))))))))))) (v : Val az) kn kx => cn p.1 p.2.2.2.2.2.2.2.2.2.2.2.2 v.1 v.2.1 v.2.2.1 v.2.2.2.1 v.2.2.2.2.1 v.2.2.2.2.2.1 v.2.2.2.2.2.2.1 v.2.2.2.2.2.2.2 (fun u0 u1 u2 u3 u4 u5 u6 u7 => kn (u0, u1, u2, u3, u4, u5, u6, u7)) (kx 0) (kx 1)⟩
def Ht : List (Nat × bJ) := [(20, eu), (38, dQ), (51, iz), (60, gh), (61, kR), (123, dX)]
def sP (ρ : Type) : List (bP ρ) := [qd ρ]
def pf (ρ : Type) : Env ρ := bM Ht (sP ρ)
def xN : bJ := ⟨[bg, bc, bc], [bc, tI], fun (x : Val (.pair bg ci)) => nJ x.1 x.2.1 x.2.2⟩
def Fv : bo := { pin := 5, cs := [tI, tI, tI, ac, aa, af, ab, aa, tI, tI, tI, tI, tI, tI, aa], vs := [tI, tI, tI, ac, aa, af, ab, aa], head := ⟨68, .any :: .any :: .box 5 0 :: aN 20 [.own 4, .con tI, .var tI], [.cells [.con tI, .con tI, .con ac, .con aa, .con af, .con ab, .con aa], .cells [.con tI, .con tI], .cells [.con tI, .con tI], .cells [.con tI, .con tI], .rowc bc, .cells [.var tI, .var tI, .var ac, .var aa, .var af, .var ab, .var aa]]⟩, exits := [(.ret, ⟨68, .any :: .any :: .box 5 0 :: .any :: .nilp :: .var tI :: aN 17 [.own 4, .con tI], [.cells [.con tI, .con tI, .con ac, .con aa, .con af, .con ab, .con aa], .cells [.con tI, .con tI], .cells [.con tI, .con tI], .cells [.con tI, .con tI], .rowc bc, .cells [.var tI, .var tI, .var ac, .var aa, .var af, .var ab, .var aa]]⟩, [tI, tI, tI, ac, aa, af, ab, aa]), (.exit 0, ⟨68, .any :: .any :: .box 5 0 :: aN 20 [.own 4, .con tI], [.cells [.con tI, .con tI, .con ac, .con aa, .con af, .con ab, .con aa], .cells [.con tI, .con tI], .cells [.con tI, .con tI], .cells [.con tI, .con tI], .rowc bc, .cells [.var tI, .var tI, .var ac, .var aa, .var af, .var ab, .var aa]]⟩, [tI, tI, ac, aa, af, ab, aa])] }
def sU (ρ : Type) : bP ρ := ⟨[1, 4], 50, 0, Fv, fun (p : Val (.pair tI (.pair tI (.pair tI (.pair ac (.pair aa (.pair af (.pair ab (.pair aa (.pair tI (.pair tI (.pair tI (.pair tI aB))))))))))))) (v : Val az) kn kx => pm p.1 p.2.2.2.2.2.2.2.2.2.2.2.2.2.2 v.1 v.2.1 v.2.2.1 v.2.2.2.1 v.2.2.2.2.1 v.2.2.2.2.2.1 v.2.2.2.2.2.2.1 v.2.2.2.2.2.2.2 (fun u0 u1 u2 u3 u4 u5 u6 u7 => kn (u0, u1, u2, u3, u4, u5, u6, u7)) (kx 0) (kx 1)⟩
def Ks : List (Nat × bJ) := [(20, eu), (38, dQ), (55, ij), (56, iQ), (60, gh), (61, kR), (123, dX)]
def uC (ρ : Type) : List (bP ρ) := [sU ρ]
def rq (ρ : Type) : Env ρ := bM Ks (uC ρ)
def Ci : bJ := ⟨[ae, ae], [ae, ae, tI], fun (x : Val (.pair ae ae)) => qE x.1 x.2⟩
def OX : List (Nat × bJ) := [(88, vI), (198, Cg)]
def xv (ρ : Type) : List (bP ρ) := []
def EK (ρ : Type) : Env ρ := bM OX (xv ρ)
def Va : bJ := ⟨[ae, tI], [.bool], fun (x : Val aA) => Ge x.1 x.2⟩
def Tv : List (Nat × bJ) := [(129, Ci)]
def D7 (ρ : Type) : List (bP ρ) := []
def LV (ρ : Type) : Env ρ := bM Tv (D7 ρ)
def Ql : bJ := ⟨[tI], [.bool], fun (x : Val tI) => BD x⟩
def QT : List (Nat × bJ) := []
def Ab (ρ : Type) : List (bP ρ) := []
def Hk (ρ : Type) : Env ρ := bM QT (Ab ρ)
def Qk : bJ := ⟨[tI, am], [aa], fun (x : Val (.pair tI am)) => BC x.1 x.2⟩
def Ke : bo := { pin := 0, cs := [tI, ae, tI], vs := [tI, aa], head := ⟨23, .con tI :: aN 4 [.own 0, .any, .any, .any, .con ae, .con tI, .var tI], [.rowv bc]⟩, exits := [(.exit 0, ⟨23, .con tI :: aN 4 [.own 0, .any, .any, .any, .con ae, .con tI], [.rowv bc]⟩, [aa])] }
def wT (ρ : Type) : bP ρ := ⟨[], 59, 0, Ke, fun (p : Val (.pair tI aA)) (v : Val aT) kn kx => ol p.1 p.2.1 p.2.2 v.1 v.2 (fun u0 u1 => kn (u0, u1)) (kx 0)⟩
def QS : List (Nat × bJ) := [(94, er)]
def Aa (ρ : Type) : List (bP ρ) := [wT ρ]
def yf (ρ : Type) : Env ρ := bM QS (Aa ρ)
def Vc : bJ := ⟨[bg, tI, ae], [bc, tI], fun (x : Val (.pair bg ax)) => Gf x.1 x.2.1 x.2.2⟩
def NS : bo := { pin := 3, cs := [aa, tI, tI, tI, ac, aa, af, ab, aa, tI, tI, am], vs := [tI, tI, tI, ac, aa, af, ab, aa], head := ⟨68, .any :: .any :: .box 3 0 :: aN 20 [.con aa, .con tI, .var tI], [.cells [.con tI, .con tI, .con ac, .con aa, .con af, .con ab, .con aa], .cells [.con tI, .con tI], .rowf ae 0, .cells [.var tI, .var tI, .var ac, .var aa, .var af, .var ab, .var aa]]⟩, exits := [(.ret, ⟨68, .any :: .any :: .box 3 0 :: .any :: .nilp :: .var tI :: aN 17 [.con aa, .con tI], [.cells [.con tI, .con tI, .con ac, .con aa, .con af, .con ab, .con aa], .cells [.con tI, .con tI], .rowf ae 0, .cells [.var tI, .var tI, .var ac, .var aa, .var af, .var ab, .var aa]]⟩, [tI, tI, tI, ac, aa, af, ab, aa]), (.exit 0, ⟨68, .any :: .any :: .box 3 0 :: aN 20 [.con aa, .con tI], [.cells [.con tI, .con tI, .con ac, .con aa, .con af, .con ab, .con aa], .cells [.con tI, .con tI], .rowf ae 0, .cells [.var tI, .var tI, .var ac, .var aa, .var af, .var ab, .var aa]]⟩, [tI, tI, ac, aa, af, ab, aa])] }
def Ak (ρ : Type) : bP ρ := ⟨[7, 2], 50, 0, NS, fun (p : Val (.pair aa (.pair tI (.pair tI (.pair tI (.pair ac (.pair aa (.pair af (.pair ab (.pair aa (.pair tI (.pair tI am)))))))))))) (v : Val az) kn kx => rj p.1 p.2.1 v.1 v.2.1 v.2.2.1 v.2.2.2.1 v.2.2.2.2.1 v.2.2.2.2.2.1 v.2.2.2.2.2.2.1 v.2.2.2.2.2.2.2 (fun u0 u1 u2 u3 u4 u5 u6 u7 => kn (u0, u1, u2, u3, u4, u5, u6, u7)) (kx 0) (kx 1)⟩
def NR : bo := { pin := 0, cs := [au, aa, tI, tI, tI], vs := [tI, tI, tI], head := ⟨87, aN 6 (.box 0 0 :: .any :: .any :: .any :: .con au :: .any :: .any :: .box 1 0 :: aN 51 [.con aa, .con tI, .var tI]), [.cells [.con tI, .con tI], .cells [.var tI, .var tI]]⟩, exits := [(.exit 0, ⟨87, aN 6 (.box 0 0 :: .any :: .any :: .any :: .con au :: .any :: .any :: .box 1 0 :: aN 51 [.con aa, .con tI]), [.cells [.con tI, .con tI], .cells [.var tI, .var tI]]⟩, [tI, tI])] }
def Aj (ρ : Type) : bP ρ := ⟨[], 18, 0, NR, fun (p : Val (.pair au (.pair aa cw))) (v : Val cw) kn kx => ri p.1 p.2.1 p.2.2.1 v.1 v.2.1 v.2.2 (fun u0 u1 u2 => kn (u0, u1, u2)) (kx 0)⟩
def TB : List (Nat × bJ) := [(20, eu), (38, dQ), (51, iz), (57, Va), (58, Ql), (59, Qk), (60, gh), (61, kR), (123, dX)]
def Ef (ρ : Type) : List (bP ρ) := [Ak ρ, Aj ρ]
def vN (ρ : Type) : Env ρ := bM TB (Ef ρ)
def xL : bJ := ⟨[bc, bc], [tI], fun (x : Val ci) => nF x.1 x.2⟩
def J1 : List (Nat × bJ) := []
def tZ (ρ : Type) : List (bP ρ) := []
def zM (ρ : Type) : Env ρ := bM J1 (tZ ρ)
def Qn : bJ := ⟨[bg, bc, bc], [tI, tI], fun (x : Val (.pair bg ci)) => BF x.1 x.2.1 x.2.2⟩
def Ko : bo := { pin := 4, cs := [tI, tI, tI, ac, aa, af, ab, aa, tI, tI, tI, tI, aa], vs := [tI, tI, tI, ac, aa, af, ab, aa], head := ⟨68, .any :: .any :: .box 4 0 :: aN 20 [.own 3, .con tI, .var tI], [.cells [.con tI, .con tI, .con ac, .con aa, .con af, .con ab, .con aa], .cells [.con tI, .con tI], .cells [.con tI, .con tI], .rowc bc, .cells [.var tI, .var tI, .var ac, .var aa, .var af, .var ab, .var aa]]⟩, exits := [(.ret, ⟨68, .any :: .any :: .box 4 0 :: .any :: .nilp :: .var tI :: aN 17 [.own 3, .con tI], [.cells [.con tI, .con tI, .con ac, .con aa, .con af, .con ab, .con aa], .cells [.con tI, .con tI], .cells [.con tI, .con tI], .rowc bc, .cells [.var tI, .var tI, .var ac, .var aa, .var af, .var ab, .var aa]]⟩, [tI, tI, tI, ac, aa, af, ab, aa]), (.exit 0, ⟨68, .any :: .any :: .box 4 0 :: aN 20 [.own 3, .con tI], [.cells [.con tI, .con tI, .con ac, .con aa, .con af, .con ab, .con aa], .cells [.con tI, .con tI], .cells [.con tI, .con tI], .rowc bc, .cells [.var tI, .var tI, .var ac, .var aa, .var af, .var ab, .var aa]]⟩, [tI, tI, ac, aa, af, ab, aa])] }
def w8 (ρ : Type) : bP ρ := ⟨[1, 3], 50, 0, Ko, fun (p : Val (.pair tI (.pair tI (.pair tI (.pair ac (.pair aa (.pair af (.pair ab (.pair aa (.pair tI (.pair tI aB))))))))))) (v : Val az) kn kx => ur p.1 p.2.2.2.2.2.2.2.2.2.2.2.2 v.1 v.2.1 v.2.2.1 v.2.2.2.1 v.2.2.2.2.1 v.2.2.2.2.2.1 v.2.2.2.2.2.2.1 v.2.2.2.2.2.2.2 (fun u0 u1 u2 u3 u4 u5 u6 u7 => kn (u0, u1, u2, u3, u4, u5, u6, u7)) (kx 0) (kx 1)⟩
def Q3 : List (Nat × bJ) := [(20, eu), (38, dQ), (51, iz), (60, gh), (61, kR), (69, xL), (123, dX)]
def Al (ρ : Type) : List (bP ρ) := [w8 ρ]
def yk (ρ : Type) : Env ρ := bM Q3 (Al ρ)
def Na : bJ := ⟨[bg, bp], [bg, tI], fun (x : Val aH) => mD x.1 x.2⟩
def OO : bo := { pin := 8, cs := [tI, tI, tI, ac, aa, af, ab, aa, tI, tI, ae, ae, tI, tI, tI, tI, tI, tI, tI, tI, ac, aa, af, ab, aa, tI, tI, tI, tI, ab, tI, tI, ac, aa, af, aa], vs := [tI, ab], head := ⟨50, .any :: .box 8 0 :: .box 9 0 :: .own 10 :: aN 21 [.own 10, .con tI, .var tI], [.cells [.con tI, .con tI, .con ac, .con aa, .con af, .con ab, .con aa], .cells [.con tI, .con tI, .con ae, .con ae, .con tI, .con tI, .con tI, .con tI], .cells [.con tI, .con tI, .nils, .nils, .nils, .nils, .nils], .dead, .dead, .cells [.con tI, .con tI, .con ac, .con aa, .con af, .con ab, .con aa], .cells [.con tI, .con tI, .nils, .nils, .nils, .nils, .nils], .dead, .cells [.con tI, .con tI, .own 11, .own 12, .own 13, .con ab, .own 14], .cells [.con tI, .con tI, .nils, .nils, .nils, .nils, .nils], .rowv bp, .rowc br, .rowc bc, .rowc dG, .rowc bc]⟩, exits := [(.exit 0, ⟨50, .any :: .box 8 0 :: .box 9 0 :: .own 10 :: aN 21 [.own 10, .con tI], [.cells [.con tI, .con tI, .con ac, .con aa, .con af, .con ab, .con aa], .cells [.con tI, .con tI, .con ae, .con ae, .con tI, .con tI, .con tI, .con tI], .cells [.con tI, .con tI, .nils, .nils, .nils, .nils, .nils], .dead, .dead, .cells [.con tI, .con tI, .con ac, .con aa, .con af, .con ab, .con aa], .cells [.con tI, .con tI, .nils, .nils, .nils, .nils, .nils], .dead, .cells [.con tI, .con tI, .own 11, .own 12, .own 13, .con ab, .own 14], .cells [.con tI, .con tI, .nils, .nils, .nils, .nils, .nils], .rowv bp, .rowc br, .rowc bc, .rowc dG, .rowc bc]⟩, [ab])] }
def Bj (ρ : Type) : bP ρ := ⟨[2, 2, 4, 1], 175, 0, OO, fun (p : Val (.pair tI (.pair tI (.pair tI (.pair ac (.pair aa (.pair af (.pair ab (.pair aa (.pair tI (.pair tI (.pair ae (.pair ae (.pair tI (.pair tI (.pair tI (.pair tI (.pair tI (.pair tI (.pair tI (.pair tI (.pair ac (.pair aa (.pair af (.pair ab (.pair aa (.pair tI (.pair tI (.pair tI (.pair tI (.pair ab (.pair tI (.pair tI (.pair ac (.pair aa (.pair af aa)))))))))))))))))))))))))))))))))))) (v : Val (.pair tI ab)) kn kx => rU p.1 v.1 v.2 (fun u0 u1 => kn (u0, u1)) (kx 0)⟩
def TZ : List (Nat × bJ) := [(38, dQ)]
def EF (ρ : Type) : List (bP ρ) := [Bj ρ]
def Db (ρ : Type) : Env ρ := bM TZ (EF ρ)
def Qv : bJ := ⟨[bg, bp, bc], [bc, tI], fun (x : Val (.pair bg (.pair bp bc))) => qC x.1 x.2.1 x.2.2⟩
def Rr : List (Nat × bJ) := [(171, Ch), (172, GW), (173, M6), (174, GU)]
def AX (ρ : Type) : List (bP ρ) := []
def Il (ρ : Type) : Env ρ := bM Rr (AX ρ)
def GX : bJ := ⟨[bg, bp], [bc, tI], fun (x : Val aH) => si x.1 x.2⟩
def K9 : List (Nat × bJ) := [(41, Na), (62, FZ), (87, tO), (88, vI), (89, tN), (90, Qv)]
def uZ (ρ : Type) : List (bP ρ) := []
def Bk (ρ : Type) : Env ρ := bM K9 (uZ ρ)
def Qu : bJ := ⟨[bg, tI], [bp, tI], fun (x : Val aP) => BK x.1 x.2⟩
def Rq : List (Nat × bJ) := [(38, dQ)]
def AW (ρ : Type) : List (bP ρ) := []
def Ij (ρ : Type) : Env ρ := bM Rq (AW ρ)
def Vg : bJ := ⟨[bg, tI], [bc, tI], fun (x : Val aP) => Gh x.1 x.2⟩
def T0 : List (Nat × bJ) := [(200, M7), (205, Qu)]
def EH (ρ : Type) : List (bP ρ) := []
def L5 (ρ : Type) : Env ρ := bM T0 (EH ρ)
def D3 : bJ := ⟨[ae, au, (.ptr bp)], [tI], fun (x : Val (.pair ae (.pair au (.ptr bp)))) => lM x.1 x.2.1 x.2.2⟩
def Hj : List (Nat × bJ) := [(55, ij)]
def sO (ρ : Type) : List (bP ρ) := []
def wW (ρ : Type) : Env ρ := bM Hj (sO ρ)
def D2 : bJ := ⟨[tI, tI, au, (.ptr tI), aR, (.ptr tI)], [cw], fun (x : Val (.pair tI (.pair tI (.pair au (.pair (.ptr tI) (.pair aR (.ptr tI))))))) => lL x.1 x.2.1 x.2.2.1 x.2.2.2.1 x.2.2.2.2.1 x.2.2.2.2.2⟩
def Hg : List (Nat × bJ) := [(56, iQ)]
def sN (ρ : Type) : List (bP ρ) := []
def wV (ρ : Type) : Env ρ := bM Hg (sN ρ)
def Cf : bJ := ⟨[au, bc, bp], [eX, tI], fun (x : Val (.pair au aU)) => qz x.1 x.2.1 x.2.2⟩
def Hf : bo := { pin := 0, cs := [tI, ae, ae, aa, ah, tI, tI, tI, tI, tI, ae, ae, tI, tI, tI, tI, tI, tI, tI, tI, tI, tI, tI, tI, tI, tI, tI, tI, tI, tI, ac, aa, af, ab, aa, tI], vs := [tI, ah], head := ⟨127, aN 4 (.box 0 0 :: .box 1 0 :: .box 2 0 :: .any :: .box 3 0 :: .any :: .any :: .con tI :: .box 4 0 :: .any :: .con ae :: .con ae :: .any :: .any :: .con aa :: .any :: .box 5 0 :: aN 65 [.con ah, .con tI, .var tI]), [.cells [.con tI, .con tI], .cells [.con tI, .con tI, .con ae, .con ae, .con tI, .con tI, .con tI, .con tI], .cells [.con tI, .con tI, .con tI, .con tI, .con tI, .con tI, .con tI, .con tI], .cells [.con tI, .con tI], .cells [.con tI, .con tI], .cells [.con tI, .con tI, .con ac, .con aa, .con af, .con ab, .con aa, .con tI, .own 6], .rowv cw]⟩, exits := [(.exit 0, ⟨127, aN 4 (.box 0 0 :: .box 1 0 :: .box 2 0 :: .any :: .box 3 0 :: .any :: .any :: .con tI :: .box 4 0 :: .any :: .con ae :: .con ae :: .any :: .any :: .con aa :: .any :: .box 5 0 :: aN 65 [.con ah, .con tI]), [.cells [.con tI, .con tI], .cells [.con tI, .con tI, .con ae, .con ae, .con tI, .con tI, .con tI, .con tI], .cells [.con tI, .con tI, .con tI, .con tI, .con tI, .con tI, .con tI, .con tI], .cells [.con tI, .con tI], .cells [.con tI, .con tI], .cells [.con tI, .con tI, .con ac, .con aa, .con af, .con ab, .con aa, .con tI, .own 6], .rowv cw]⟩, [ah])] }
def uf (ρ : Type) : bP ρ := ⟨[], 71, 0, Hf, fun (p : Val (.pair tI (.pair ae (.pair ae (.pair aa (.pair ah (.pair tI (.pair tI (.pair tI (.pair tI (.pair tI (.pair ae (.pair ae (.pair tI (.pair tI (.pair tI (.pair tI (.pair tI (.pair tI (.pair tI (.pair tI (.pair tI (.pair tI (.pair tI (.pair tI (.pair tI (.pair tI (.pair tI (.pair tI (.pair tI (.pair tI (.pair ac (.pair aa (.pair af (.pair ab (.pair aa tI)))))))))))))))))))))))))))))))))))) (v : Val bq) kn kx => jN p.1 p.2.2.2.1 p.2.2.2.2.1 p.2.2.2.2.2.1 v.1 v.2 (fun u0 u1 => kn (u0, u1)) (kx 0)⟩
def NF : List (Nat × bJ) := [(20, eu), (40, GX), (41, Na), (55, ij), (129, Ci), (142, Vg), (143, D3), (144, D2)]
def wU (ρ : Type) : List (bP ρ) := [uf ρ]
def om (ρ : Type) : Env ρ := { bM NF (wU ρ) with hint := Dp [(110, 143), (113, 143), (120, 144), (123, 144)] }
def qO : bJ := ⟨[cw], [ae], fun (x : Val cw) => gM x⟩
def Fl : List (Nat × bJ) := []
def pT (ρ : Type) : List (bP ρ) := []
def uj (ρ : Type) : Env ρ := bM Fl (pT ρ)
def LH : bJ := ⟨[cw, tI], [tI], fun (x : Val (.pair cw tI)) => qA x.1 x.2⟩
def NH : List (Nat × bJ) := []
def wX (ρ : Type) : List (bP ρ) := []
def D9 (ρ : Type) : Env ρ := bM NH (wX ρ)
def oU : bJ := ⟨[eX, tI], [bc], fun (x : Val (.pair eX tI)) => dY x.1 x.2⟩
def Co : List (Nat × bJ) := [(177, LH)]
def og (ρ : Type) : List (bP ρ) := []
def sJ (ρ : Type) : Env ρ := bM Co (og ρ)
def oV : bJ := ⟨[eX, ae], [ae], fun (x : Val (.pair eX ae)) => iU x.1 x.2⟩
def ya : bo := { pin := 0, cs := [tI, ae, tI, tI, tI, tI, tI, tI, tI, tI, tI, tI], vs := [tI, ae], head := ⟨48, .any :: .any :: .box 0 0 :: .any :: .any :: .own 1 :: .any :: .con tI :: .var tI :: aN 7 [.con ae, .con tI, .con tI], [.cells [.con tI, .con tI, .con tI, .con tI, .con tI, .con tI, .con tI, .con tI], .rowv tI]⟩, exits := [(.exit 2, ⟨48, .any :: .any :: .box 0 0 :: .any :: .any :: .own 1 :: .any :: .con tI :: aN 8 [.con ae, .con tI, .con tI], [.cells [.con tI, .con tI, .con tI, .con tI, .con tI, .con tI, .con tI, .con tI], .rowv tI]⟩, [ae])] }
def ni (ρ : Type) : bP ρ := ⟨[], 101, 2, ya, fun (p : Val (.pair tI (.pair ae (.pair tI (.pair tI ar))))) (v : Val ax) kn kx => gk p.1 p.2.2.2.2.1 p.2.2.2.2.2.1 v.1 v.2 (fun u0 u1 => kn (u0, u1)) (kx 0)⟩
def yb : bo := { pin := 0, cs := [ae, tI, tI, tI, tI, tI, tI, tI, tI, tI], vs := [tI, ae], head := ⟨48, .any :: .any :: .box 0 0 :: .any :: .any :: .own 1 :: aN 10 [.con ae, .con tI, .var tI], [.cells [.con tI, .con tI, .con tI, .con tI, .con tI, .con tI, .con tI, .con tI], .rowv tI]⟩, exits := [(.exit 0, ⟨48, .any :: .any :: .box 0 0 :: .any :: .any :: .own 1 :: aN 10 [.con ae, .con tI], [.cells [.con tI, .con tI, .con tI, .con tI, .con tI, .con tI, .con tI, .con tI], .rowv tI]⟩, [ae])] }
def nj (ρ : Type) : bP ρ := ⟨[], 101, 0, yb, fun (p : Val (.pair ae (.pair tI ar))) (v : Val ax) kn kx => iC p.1 p.2.1 p.2.2.1 p.2.2.2.1 v.1 v.2 (fun u0 u1 => kn (u0, u1)) (kx 0)⟩
def Cp : List (Nat × bJ) := []
def oh (ρ : Type) : List (bP ρ) := [ni ρ, nj ρ]
def iY (ρ : Type) : Env ρ := bM Cp (oh ρ)
def tK : bJ := ⟨[eX], [tI], fun (x : Val eX) => jU x⟩
def wu : bo := { pin := 0, cs := [ae, tI, tI, tI, tI, tI, tI, tI, tI, tI], vs := [tI, tI], head := ⟨34, .any :: .box 0 0 :: .any :: .var tI :: aN 12 [.con ae, .con tI, .var tI], [.cells [.con tI, .con tI, .con tI, .con tI, .con tI, .con tI, .con tI, .con tI]]⟩, exits := [(.exit 0, ⟨34, .any :: .box 0 0 :: .any :: .var tI :: aN 12 [.con ae, .con tI], [.cells [.con tI, .con tI, .con tI, .con tI, .con tI, .con tI, .con tI, .con tI]]⟩, [tI])] }
def me (ρ : Type) : bP ρ := ⟨[], 72, 0, wu, fun (p : Val (.pair ae (.pair tI ar))) (v : Val bc) kn kx => hO p.1 p.2.1 p.2.2.1 p.2.2.2.1 p.2.2.2.2.1 p.2.2.2.2.2.1 p.2.2.2.2.2.2.1 p.2.2.2.2.2.2.2.1 p.2.2.2.2.2.2.2.2.1 p.2.2.2.2.2.2.2.2.2 v.1 v.2 (fun u0 u1 => kn (u0, u1)) (kx 0)⟩
def zJ : List (Nat × bJ) := [(94, er), (95, qO), (99, oU), (101, oV)]
def ng (ρ : Type) : List (bP ρ) := [me ρ]
def ku (ρ : Type) : Env ρ := bM zJ (ng ρ)
def Qm : bJ := ⟨[bg, bc, bp], [tI, tI], fun (x : Val (.pair bg aU)) => vj x.1 x.2.1 x.2.2⟩
def Kk : bo := { pin := 4, cs := [tI, tI, tI, ac, aa, af, ab, aa, tI, tI, tI, tI, ae, ae, tI, tI, tI, tI, aa], vs := [tI, tI, tI, ac, aa, af, ab, aa], head := ⟨68, .any :: .any :: .box 4 0 :: aN 20 [.own 3, .con tI, .var tI], [.cells [.con tI, .con tI, .con ac, .con aa, .con af, .con ab, .con aa], .cells [.con tI, .con tI], .cells [.con tI, .con tI, .con ae, .con ae, .con tI, .con tI, .con tI, .con tI], .rowc bc, .cells [.var tI, .var tI, .var ac, .var aa, .var af, .var ab, .var aa]]⟩, exits := [(.ret, ⟨68, .any :: .any :: .box 4 0 :: .any :: .nilp :: .var tI :: aN 17 [.own 3, .con tI], [.cells [.con tI, .con tI, .con ac, .con aa, .con af, .con ab, .con aa], .cells [.con tI, .con tI], .cells [.con tI, .con tI, .con ae, .con ae, .con tI, .con tI, .con tI, .con tI], .rowc bc, .cells [.var tI, .var tI, .var ac, .var aa, .var af, .var ab, .var aa]]⟩, [tI, tI, tI, ac, aa, af, ab, aa]), (.exit 0, ⟨68, .any :: .any :: .box 4 0 :: aN 20 [.own 3, .con tI], [.cells [.con tI, .con tI, .con ac, .con aa, .con af, .con ab, .con aa], .cells [.con tI, .con tI], .cells [.con tI, .con tI, .con ae, .con ae, .con tI, .con tI, .con tI, .con tI], .rowc bc, .cells [.var tI, .var tI, .var ac, .var aa, .var af, .var ab, .var aa]]⟩, [tI, tI, ac, aa, af, ab, aa])] }
def wY (ρ : Type) : bP ρ := ⟨[1, 3], 50, 0, Kk, fun (p : Val (.pair tI (.pair tI (.pair tI (.pair ac (.pair aa (.pair af (.pair ab (.pair aa (.pair tI (.pair tI (.pair tI (.pair tI (.pair ae (.pair ae (.pair tI (.pair tI aB))))))))))))))))) (v : Val az) kn kx => un p.1 p.2.2.2.2.2.2.2.2.2.2.2.2.2.2.2.2.2.2 v.1 v.2.1 v.2.2.1 v.2.2.2.1 v.2.2.2.2.1 v.2.2.2.2.2.1 v.2.2.2.2.2.2.1 v.2.2.2.2.2.2.2 (fun u0 u1 u2 u3 u4 u5 u6 u7 => kn (u0, u1, u2, u3, u4, u5, u6, u7)) (kx 0) (kx 1)⟩
def Q1 : List (Nat × bJ) := [(20, eu), (38, dQ), (60, gh), (61, kR), (71, Cf), (72, tK), (123, dX)]
def Ae (ρ : Type) : List (bP ρ) := [wY ρ]
def yi (ρ : Type) : Env ρ := bM Q1 (Ae ρ)
def xO : bJ := ⟨[bq, ae], [tI], fun (x : Val aS) => nM x.1 x.2⟩
def Fx : bo := { pin := 1, cs := [ae, tI, tI, ah], vs := [tI], head := ⟨19, .con ae :: .fn 206 [(0, 0)] :: aN 5 [.con tI, .var tI], [.cells [.con tI, .con ah]]⟩, exits := [(.ret, ⟨19, [.con ae, .fn 206 [(0, 0)], .any, .any, .var tI, .any, .any, .con tI], [.cells [.con tI, .con ah]]⟩, [tI]), (.exit 0, ⟨19, .con ae :: .fn 206 [(0, 0)] :: aN 5 [.con tI], [.cells [.con tI, .con ah]]⟩, [])] }
def sW (ρ : Type) : bP ρ := ⟨[3, 2, 1, 2], 178, 0, Fx, fun (p : Val (.pair ae aG)) (v : Val tI) kn kx => kV p.1 p.2.1 p.2.2.2 v (fun u0 => kn u0) (kx 0) (kx 1)⟩
def Ku : List (Nat × bJ) := []
def uE (ρ : Type) : List (bP ρ) := [sW ρ]
def rt (ρ : Type) : Env ρ := bM Ku (uE ρ)
def M4 : bJ := ⟨[bq, tI, ae], [tI, tI, .bool], fun (x : Val (.pair bq ax)) => BH x.1 x.2.1 x.2.2⟩
def NW : bo := { pin := 0, cs := [ae, tI, tI, ah], vs := [tI, tI, tI], head := ⟨37, .any :: .var tI :: .any :: .box 0 0 :: aN 5 [.var tI, .any, .any, .any, .con ae, .con tI, .var tI], [.cells [.con tI, .con ah]]⟩, exits := [(.ret, ⟨37, .any :: .any :: .any :: .box 0 0 :: .any :: .any :: .var tI :: .var tI :: .var .bool :: aN 4 [.con ae, .con tI], [.cells [.con tI, .con ah]]⟩, [tI, tI, .bool]), (.exit 0, ⟨37, .any :: .var tI :: .any :: .box 0 0 :: aN 5 [.var tI, .any, .any, .any, .con ae, .con tI], [.cells [.con tI, .con ah]]⟩, [tI, tI])] }
def Ar (ρ : Type) : bP ρ := ⟨[], 146, 0, NW, fun (p : Val (.pair ae aG)) (v : Val cw) kn kx => rr p.1 p.2.1 p.2.2.2 v.1 v.2.1 v.2.2 (fun u0 u1 u2 => kn (u0, u1, u2)) (kx 0) (kx 1)⟩
def TC : List (Nat × bJ) := []
def Eg (ρ : Type) : List (bP ρ) := [Ar ρ]
def CM (ρ : Type) : Env ρ := bM TC (Eg ρ)
def wM : bJ := ⟨[bq, tI, tI, ae], [tI, tI], fun (x : Val (.pair bq (.pair tI ax))) => iV x.1 x.2.1 x.2.2.1 x.2.2.2⟩
def CY : List (Nat × bJ) := [(133, m8), (134, FY), (145, xO), (146, M4)]
def oB (ρ : Type) : List (bP ρ) := []
def sZ (ρ : Type) : Env ρ := bM CY (oB ρ)
def qP : bJ := ⟨[fW], [tI], fun (x : Val fW) => jW x⟩
def Fr : List (Nat × bJ) := [(20, eu), (38, dQ), (60, gh), (76, wM)]
def qe (ρ : Type) : List (bP ρ) := []
def uz (ρ : Type) : Env ρ := bM Fr (qe ρ)
def wL : bJ := ⟨[bq, ae], [tI], fun (x : Val aS) => kY x.1 x.2⟩
def CX : List (Nat × bJ) := [(133, m8), (145, xO), (146, M4)]
def oA (ρ : Type) : List (bP ρ) := []
def sY (ρ : Type) : Env ρ := bM CX (oA ρ)
def wK : bJ := ⟨[fW], [tI], fun (x : Val fW) => kX x⟩
def CE : List (Nat × bJ) := [(20, eu), (38, dQ), (86, wL)]
def ow (ρ : Type) : List (bP ρ) := []
def sR (ρ : Type) : Env ρ := bM CE (ow ρ)
def gS : bJ := ⟨[ac, br], [tI], fun (x : Val (.pair ac br)) => eM x.1 x.2⟩
def jv : bo := { pin := 0, cs := [ac, tI, tI, tI, tI, tI, tI, tI, tI, tI], vs := [tI], head := ⟨19, [.con ac, .any, .any, .box 0 0, .any, .any, .any, .con tI, .var tI], [.cells [.con tI, .con tI, .con tI, .con tI, .con tI, .con tI, .con tI, .con tI]]⟩, exits := [(.ret, ⟨19, [.con ac, .any, .any, .box 0 0, .var tI, .any, .any, .con tI], [.cells [.con tI, .con tI, .con tI, .con tI, .con tI, .con tI, .con tI, .con tI]]⟩, [tI]), (.exit 0, ⟨19, [.con ac, .any, .any, .box 0 0, .any, .any, .any, .con tI], [.cells [.con tI, .con tI, .con tI, .con tI, .con tI, .con tI, .con tI, .con tI]]⟩, [])] }
def fq (ρ : Type) : bP ρ := ⟨[], 254, 0, jv, fun (p : Val (.pair ac (.pair tI ar))) (v : Val tI) kn kx => cm p.1 p.2.1 p.2.2.1 p.2.2.2.1 p.2.2.2.2.1 p.2.2.2.2.2.1 p.2.2.2.2.2.2.1 p.2.2.2.2.2.2.2.1 p.2.2.2.2.2.2.2.2.1 p.2.2.2.2.2.2.2.2.2 v (fun u0 => kn u0) (kx 0) (kx 1)⟩
def j4 : List (Nat × bJ) := []
def fJ (ρ : Type) : List (bP ρ) := [fq ρ]
def dT (ρ : Type) : Env ρ := bM j4 (fJ ρ)
def fY : bJ := ⟨[ac, br], [.bool], fun (x : Val (.pair ac br)) => cX x.1 x.2⟩
def i9 : List (Nat × bJ) := [(254, gS)]
def eS (ρ : Type) : List (bP ρ) := []
def fu (ρ : Type) : Env ρ := bM i9 (eS ρ)
def iP : bJ := ⟨[aa, bc], [tI], fun (x : Val aW) => fT x.1 x.2⟩
def ln : bo := { pin := 0, cs := [aa, tI, tI, tI], vs := [tI], head := ⟨19, [.con aa, .any, .any, .box 0 0, .any, .any, .any, .con tI, .var tI], [.cells [.con tI, .con tI]]⟩, exits := [(.ret, ⟨19, [.con aa, .any, .any, .box 0 0, .var tI, .any, .any, .con tI], [.cells [.con tI, .con tI]]⟩, [tI]), (.exit 0, ⟨19, [.con aa, .any, .any, .box 0 0, .any, .any, .any, .con tI], [.cells [.con tI, .con tI]]⟩, [])] }
def gA (ρ : Type) : bP ρ := ⟨[], 256, 0, ln, fun (p : Val (.pair aa cw)) (v : Val tI) kn kx => cH p.1 p.2.1 p.2.2.1 p.2.2.2 v (fun u0 => kn u0) (kx 0) (kx 1)⟩
def mq : List (Nat × bJ) := []
def gT (ρ : Type) : List (bP ρ) := [gA ρ]
def fc (ρ : Type) : Env ρ := bM mq (gT ρ)
def g8 : bJ := ⟨[aa, bc], [.bool], fun (x : Val aW) => cN x.1 x.2⟩
def ks : List (Nat × bJ) := [(256, iP)]
def f5 (ρ : Type) : List (bP ρ) := []
def gB (ρ : Type) : Env ρ := bM ks (f5 ρ)
def ii : bJ := ⟨[af, dG], [tI], fun (x : Val (.pair af dG)) => fh x.1 x.2⟩
def j3 : bo := { pin := 0, cs := [af, tI, tI, tI, tI, tI], vs := [tI], head := ⟨19, [.con af, .any, .any, .box 0 0, .any, .any, .any, .con tI, .var tI], [.cells [.con tI, .con tI, .con tI, .con tI]]⟩, exits := [(.ret, ⟨19, [.con af, .any, .any, .box 0 0, .var tI, .any, .any, .con tI], [.cells [.con tI, .con tI, .con tI, .con tI]]⟩, [tI]), (.exit 0, ⟨19, [.con af, .any, .any, .box 0 0, .any, .any, .any, .con tI], [.cells [.con tI, .con tI, .con tI, .con tI]]⟩, [])] }
def f0 (ρ : Type) : bP ρ := ⟨[], 258, 0, j3, fun (p : Val (.pair af (.pair tI (.pair tI cw)))) (v : Val tI) kn kx => cq p.1 p.2.1 p.2.2.1 p.2.2.2.1 p.2.2.2.2.1 p.2.2.2.2.2 v (fun u0 => kn u0) (kx 0) (kx 1)⟩
def lq : List (Nat × bJ) := []
def gj (ρ : Type) : List (bP ρ) := [f0 ρ]
def eI (ρ : Type) : Env ρ := bM lq (gj ρ)
def gy : bJ := ⟨[af, dG], [.bool], fun (x : Val (.pair af dG)) => cr x.1 x.2⟩
def jK : List (Nat × bJ) := [(258, ii)]
def ft (ρ : Type) : List (bP ρ) := []
def f6 (ρ : Type) : Env ρ := bM jK (ft ρ)
def Vb : bJ := ⟨[bg, bg], [.bool], fun (x : Val (.pair bg bg)) => BB x.1 x.2⟩
def NC : bo := { pin := 0, cs := [ac, tI, tI, tI, ac, aa, af, ab, aa, tI, tI, ac, aa, af, ab, aa], vs := [tI, aj], head := ⟨87, .any :: .any :: .box 0 0 :: .box 1 0 :: .any :: .box 2 0 :: aN 10 [.con ac, .con tI, .var tI], [.cells [.con tI, .con tI, .con ac, .con aa, .con af, .con ab, .con aa], .cells [.con tI, .con tI, .con ac, .con aa, .con af, .con ab, .con aa], .cells [.omp 3], .mapv tI .bool]⟩, exits := [(.exit 0, ⟨87, .any :: .any :: .box 0 0 :: .box 1 0 :: .any :: .box 2 0 :: aN 10 [.con ac, .con tI], [.cells [.con tI, .con tI, .con ac, .con aa, .con af, .con ab, .con aa], .cells [.con tI, .con tI, .con ac, .con aa, .con af, .con ab, .con aa], .cells [.omp 3], .mapv tI .bool]⟩, [aj])] }
def zZ (ρ : Type) : bP ρ := ⟨[], 77, 0, NC, fun (p : Val (.pair ac (.pair tI ay))) (v : Val (.pair tI aj)) kn kx => rc p.1 p.2.1 v.1 v.2 (fun u0 u1 => kn (u0, u1)) (kx 0)⟩
def Nz : bo := { pin := 6, cs := [ae, ae, tI, tI, tI, ac, aa, af, ab, aa, tI, tI, ac, aa, af, ab, aa, aj, tI, tI, ae, ae, tI, tI, tI, tI, tI, tI, ae, ae, tI, tI, tI, tI], vs := [tI], head := ⟨26, .con ae :: .con ae :: aN 10 [.con tI, .var tI], [.cells [.con tI, .con tI, .con ac, .con aa, .con af, .con ab, .con aa], .cells [.con tI, .con tI, .con ac, .con aa, .con af, .con ab, .con aa], .cells [.omp 3], .mapc tI .bool, .cells [.con tI, .con tI, .con ae, .con ae, .con tI, .con tI, .con tI, .con tI], .cells [.con tI, .con tI, .con ae, .con ae, .con tI, .con tI, .con tI, .con tI]]⟩, exits := [(.ret, ⟨26, .con ae :: .con ae :: .any :: .any :: .var .bool :: aN 7 [.con tI], [.cells [.con tI, .con tI, .con ac, .con aa, .con af, .con ab, .con aa], .cells [.con tI, .con tI, .con ac, .con aa, .con af, .con ab, .con aa], .cells [.omp 3], .mapc tI .bool, .cells [.con tI, .con tI, .con ae, .con ae, .con tI, .con tI, .con tI, .con tI], .cells [.con tI, .con tI, .con ae, .con ae, .con tI, .con tI, .con tI, .con tI]]⟩, [.bool]), (.exit 0, ⟨26, .con ae :: .con ae :: aN 10 [.con tI], [.cells [.con tI, .con tI, .con ac, .con aa, .con af, .con ab, .con aa], .cells [.con tI, .con tI, .con ac, .con aa, .con af, .con ab, .con aa], .cells [.omp 3], .mapc tI .bool, .cells [.con tI, .con tI, .con ae, .con ae, .con tI, .con tI, .con tI, .con tI], .cells [.con tI, .con tI, .con ae, .con ae, .con tI, .con tI, .con tI, .con tI]]⟩, [])] }
def zW (ρ : Type) : bP ρ := ⟨[14, 3, 1, 2, 4, 5, 1, 38], 151, 0, Nz, fun (p : Val (.pair ae (.pair ae (.pair tI (.pair tI (.pair tI (.pair ac (.pair aa (.pair af (.pair ab (.pair aa (.pair tI (.pair tI (.pair ac (.pair aa (.pair af (.pair ab (.pair aa (.pair aj (.pair tI (.pair tI (.pair ae (.pair ae (.pair tI (.pair tI (.pair tI (.pair tI bp))))))))))))))))))))))))))) (v : Val tI) kn kx => kz p.1 p.2.1 p.2.2.1 v (fun u0 => kn u0) (kx 0) (kx 1)⟩
def Ny : bo := { pin := 6, cs := [ae, ae, tI, tI, tI, ac, aa, af, ab, aa, tI, tI, ac, aa, af, ab, aa, aj, tI, tI, ae, ae, tI, tI, tI, tI, tI, tI, ae, ae, tI, tI, tI, tI], vs := [tI], head := ⟨26, .con ae :: .con ae :: aN 10 [.con tI, .var tI], [.cells [.con tI, .con tI, .con ac, .con aa, .con af, .con ab, .con aa], .cells [.con tI, .con tI, .con ac, .con aa, .con af, .con ab, .con aa], .cells [.omp 3], .mapc tI .bool, .cells [.con tI, .con tI, .con ae, .con ae, .con tI, .con tI, .con tI, .con tI], .cells [.con tI, .con tI, .con ae, .con ae, .con tI, .con tI, .con tI, .con tI]]⟩, exits := [(.ret, ⟨26, .con ae :: .con ae :: .any :: .any :: .var .bool :: aN 7 [.con tI], [.cells [.con tI, .con tI, .con ac, .con aa, .con af, .con ab, .con aa], .cells [.con tI, .con tI, .con ac, .con aa, .con af, .con ab, .con aa], .cells [.omp 3], .mapc tI .bool, .cells [.con tI, .con tI, .con ae, .con ae, .con tI, .con tI, .con tI, .con tI], .cells [.con tI, .con tI, .con ae, .con ae, .con tI, .con tI, .con tI, .con tI]]⟩, [.bool]), (.exit 0, ⟨26, .con ae :: .con ae :: aN 10 [.con tI], [.cells [.con tI, .con tI, .con ac, .con aa, .con af, .con ab, .con aa], .cells [.con tI, .con tI, .con ac, .con aa, .con af, .con ab, .con aa], .cells [.omp 3], .mapc tI .bool, .cells [.con tI, .con tI, .con ae, .con ae, .con tI, .con tI, .con tI, .con tI], .cells [.con tI, .con tI, .con ae, .con ae, .con tI, .con tI, .con tI, .con tI]]⟩, [])] }
def zV (ρ : Type) : bP ρ := ⟨[14, 3, 1, 2, 4, 5, 1, 45], 151, 0, Ny, fun (p : Val (.pair ae (.pair ae (.pair tI (.pair tI (.pair tI (.pair ac (.pair aa (.pair af (.pair ab (.pair aa (.pair tI (.pair tI (.pair ac (.pair aa (.pair af (.pair ab (.pair aa (.pair aj (.pair tI (.pair tI (.pair ae (.pair ae (.pair tI (.pair tI (.pair tI (.pair tI bp))))))))))))))))))))))))))) (v : Val tI) kn kx => qZ p.1 p.2.1 p.2.2.1 v (fun u0 => kn u0) (kx 0) (kx 1)⟩
def NA : bo := { pin := 5, cs := [ab, tI, tI, tI, ac, aa, af, ab, aa, tI, tI, ac, aa, af, ab, aa, aj, tI, tI, ae, ae, tI, tI, tI, tI], vs := [tI], head := ⟨19, .con ab :: .fn 150 [(4, 0)] :: aN 5 [.con tI, .var tI], [.cells [.con tI, .con tI, .con ac, .con aa, .con af, .con ab, .con aa], .cells [.con tI, .con tI, .con ac, .con aa, .con af, .con ab, .con aa], .cells [.omp 3], .mapc tI .bool, .cells [.con tI, .con tI, .con ae, .con ae, .con tI, .con tI, .con tI, .con tI]]⟩, exits := [(.ret, ⟨19, [.con ab, .fn 150 [(4, 0)], .any, .any, .var tI, .any, .any, .con tI], [.cells [.con tI, .con tI, .con ac, .con aa, .con af, .con ab, .con aa], .cells [.con tI, .con tI, .con ac, .con aa, .con af, .con ab, .con aa], .cells [.omp 3], .mapc tI .bool, .cells [.con tI, .con tI, .con ae, .con ae, .con tI, .con tI, .con tI, .con tI]]⟩, [tI]), (.exit 0, ⟨19, .con ab :: .fn 150 [(4, 0)] :: aN 5 [.con tI], [.cells [.con tI, .con tI, .con ac, .con aa, .con af, .con ab, .con aa], .cells [.con tI, .con tI, .con ac, .con aa, .con af, .con ab, .con aa], .cells [.omp 3], .mapc tI .bool, .cells [.con tI, .con tI, .con ae, .con ae, .con tI, .con tI, .con tI, .con tI]]⟩, [])] }
def zX (ρ : Type) : bP ρ := ⟨[14, 3, 1, 2], 207, 0, NA, fun (p : Val (.pair ab (.pair tI (.pair tI (.pair tI (.pair ac (.pair aa (.pair af (.pair ab (.pair aa (.pair tI (.pair tI (.pair ac (.pair aa (.pair af (.pair ab (.pair aa (.pair aj bp)))))))))))))))))) (v : Val tI) kn kx => np p.1 p.2.1 p.2.2.2.2.2.2.2.2.2.2.2.2.2.2.2.2.2.1 p.2.2.2.2.2.2.2.2.2.2.2.2.2.2.2.2.2.2.1 p.2.2.2.2.2.2.2.2.2.2.2.2.2.2.2.2.2.2.2.1 p.2.2.2.2.2.2.2.2.2.2.2.2.2.2.2.2.2.2.2.2.1 p.2.2.2.2.2.2.2.2.2.2.2.2.2.2.2.2.2.2.2.2.2.1 p.2.2.2.2.2.2.2.2.2.2.2.2.2.2.2.2.2.2.2.2.2.2.1 p.2.2.2.2.2.2.2.2.2.2.2.2.2.2.2.2.2.2.2.2.2.2.2.1 p.2.2.2.2.2.2.2.2.2.2.2.2.2.2.2.2.2.2.2.2.2.2.2.2 v (fun u0 => kn u0) (kx 0) (kx 1)⟩
def NB : bo := { pin := 0, cs := [ab, tI, tI, tI, ac, aa, af, ab, aa, tI, tI, ac, aa, af, ab, aa, aj], vs := [tI], head := ⟨87, .any :: .any :: .box 0 0 :: .box 1 0 :: aN 4 (.fn 147 [] :: .fn 148 [(2, 0)] :: .fn 149 [(2, 0)] :: aN 18 [.con ab, .con tI, .var tI]), [.cells [.con tI, .con tI, .con ac, .con aa, .con af, .con ab, .con aa], .cells [.con tI, .con tI, .con ac, .con aa, .con af, .con ab, .con aa], .cells [.omp 3], .mapc tI .bool]⟩, exits := [(.ret, ⟨87, .any :: .any :: .box 0 0 :: .box 1 0 :: .var .bool :: .any :: .any :: .any :: .fn 147 [] :: .fn 148 [(2, 0)] :: .fn 149 [(2, 0)] :: aN 18 [.con ab, .con tI], [.cells [.con tI, .con tI, .con ac, .con aa, .con af, .con ab, .con aa], .cells [.con tI, .con tI, .con ac, .con aa, .con af, .con ab, .con aa], .cells [.omp 3], .mapc tI .bool]⟩, [.bool]), (.exit 2, ⟨87, .any :: .any :: .box 0 0 :: .box 1 0 :: aN 4 (.fn 147 [] :: .fn 148 [(2, 0)] :: .fn 149 [(2, 0)] :: aN 18 [.con ab, .con tI]), [.cells [.con tI, .con tI, .con ac, .con aa, .con af, .con ab, .con aa], .cells [.con tI, .con tI, .con ac, .con aa, .con af, .con ab, .con aa], .cells [.omp 3], .mapc tI .bool]⟩, [])] }
def zY (ρ : Type) : bP ρ := ⟨[], 77, 2, NB, fun (p : Val (.pair ab (.pair tI (.pair tI (.pair tI (.pair ac (.pair aa (.pair af (.pair ab (.pair aa (.pair tI (.pair tI (.pair ac (.pair aa (.pair af (.pair ab (.pair aa aj))))))))))))))))) (v : Val tI) kn kx => nq p.1 p.2.1 p.2.2.2.2.2.2.2.2.2.2.2.2.2.2.1 v (fun u0 => kn u0) (kx 0) (kx 1)⟩
def Nx : bo := { pin := 6, cs := [ac, tI, tI, tI, ac, aa, af, ab, aa, tI, tI, ac, aa, af, ab, aa, aj, ac], vs := [tI], head := ⟨19, .con ac :: .fn 209 [(5, 0), (4, 0)] :: aN 5 [.con tI, .var tI], [.cells [.con tI, .con tI, .con ac, .con aa, .con af, .con ab, .con aa], .cells [.con tI, .con tI, .con ac, .con aa, .con af, .con ab, .con aa], .cells [.omp 3], .mapc tI .bool, .cells [.con ac], .cells [.fn 147 []]]⟩, exits := [(.ret, ⟨19, [.con ac, .fn 209 [(5, 0), (4, 0)], .any, .any, .var tI, .any, .any, .con tI], [.cells [.con tI, .con tI, .con ac, .con aa, .con af, .con ab, .con aa], .cells [.con tI, .con tI, .con ac, .con aa, .con af, .con ab, .con aa], .cells [.omp 3], .mapc tI .bool, .cells [.con ac], .cells [.fn 147 []]]⟩, [tI]), (.exit 0, ⟨19, .con ac :: .fn 209 [(5, 0), (4, 0)] :: aN 5 [.con tI], [.cells [.con tI, .con tI, .con ac, .con aa, .con af, .con ab, .con aa], .cells [.con tI, .con tI, .con ac, .con aa, .con af, .con ab, .con aa], .cells [.omp 3], .mapc tI .bool, .cells [.con ac], .cells [.fn 147 []]]⟩, [])] }
def zU (ρ : Type) : bP ρ := ⟨[17, 11, 1, 2, 1, 2], 253, 0, Nx, fun (p : Val (.pair ac (.pair tI (.pair tI (.pair tI (.pair ac (.pair aa (.pair af (.pair ab (.pair aa (.pair tI (.pair tI (.pair ac (.pair aa (.pair af (.pair ab (.pair aa (.pair aj ac)))))))))))))))))) (v : Val tI) kn kx => nl p.1 p.2.1 p.2.2.2.2.2.2.2.2.2.2.2.2.2.2.2.2.2 v (fun u0 => kn u0) (kx 0) (kx 1)⟩
def Nw : bo := { pin := 8, cs := [aa, tI, tI, tI, ac, aa, af, ab, aa, tI, tI, ac, aa, af, ab, aa, aj, ac, aa], vs := [tI], head := ⟨19, .con aa :: .fn 212 [(7, 0), (6, 0)] :: aN 5 [.con tI, .var tI], [.cells [.con tI, .con tI, .con ac, .con aa, .con af, .con ab, .con aa], .cells [.con tI, .con tI, .con ac, .con aa, .con af, .con ab, .con aa], .cells [.omp 3], .mapc tI .bool, .cells [.con ac], .cells [.fn 147 []], .cells [.con aa], .cells [.fn 148 [(2, 0)]]]⟩, exits := [(.ret, ⟨19, [.con aa, .fn 212 [(7, 0), (6, 0)], .any, .any, .var tI, .any, .any, .con tI], [.cells [.con tI, .con tI, .con ac, .con aa, .con af, .con ab, .con aa], .cells [.con tI, .con tI, .con ac, .con aa, .con af, .con ab, .con aa], .cells [.omp 3], .mapc tI .bool, .cells [.con ac], .cells [.fn 147 []], .cells [.con aa], .cells [.fn 148 [(2, 0)]]]⟩, [tI]), (.exit 0, ⟨19, .con aa :: .fn 212 [(7, 0), (6, 0)] :: aN 5 [.con tI], [.cells [.con tI, .con tI, .con ac, .con aa, .con af, .con ab, .con aa], .cells [.con tI, .con tI, .con ac, .con aa, .con af, .con ab, .con aa], .cells [.omp 3], .mapc tI .bool, .cells [.con ac], .cells [.fn 147 []], .cells [.con aa], .cells [.fn 148 [(2, 0)]]]⟩, [])] }
def zT (ρ : Type) : bP ρ := ⟨[17, 19, 1, 2, 1, 2], 255, 0, Nw, fun (p : Val (.pair aa (.pair tI (.pair tI (.pair tI (.pair ac (.pair aa (.pair af (.pair ab (.pair aa (.pair tI (.pair tI (.pair ac (.pair aa (.pair af (.pair ab (.pair aa (.pair aj (.pair ac aa))))))))))))))))))) (v : Val tI) kn kx => jb p.1 p.2.1 p.2.2.2.2.2.2.2.2.2.2.2.2.2.2.2.2.1 p.2.2.2.2.2.2.2.2.2.2.2.2.2.2.2.2.2.2 v (fun u0 => kn u0) (kx 0) (kx 1)⟩
def Nv : bo := { pin := 10, cs := [aa, tI, tI, tI, ac, aa, af, ab, aa, tI, tI, ac, aa, af, ab, aa, aj, ac, aa, aa], vs := [tI], head := ⟨19, .con aa :: .fn 212 [(9, 0), (8, 0)] :: aN 5 [.con tI, .var tI], [.cells [.con tI, .con tI, .con ac, .con aa, .con af, .con ab, .con aa], .cells [.con tI, .con tI, .con ac, .con aa, .con af, .con ab, .con aa], .cells [.omp 3], .mapc tI .bool, .cells [.con ac], .cells [.fn 147 []], .cells [.con aa], .cells [.fn 148 [(2, 0)]], .cells [.con aa], .cells [.fn 148 [(2, 0)]]]⟩, exits := [(.ret, ⟨19, [.con aa, .fn 212 [(9, 0), (8, 0)], .any, .any, .var tI, .any, .any, .con tI], [.cells [.con tI, .con tI, .con ac, .con aa, .con af, .con ab, .con aa], .cells [.con tI, .con tI, .con ac, .con aa, .con af, .con ab, .con aa], .cells [.omp 3], .mapc tI .bool, .cells [.con ac], .cells [.fn 147 []], .cells [.con aa], .cells [.fn 148 [(2, 0)]], .cells [.con aa], .cells [.fn 148 [(2, 0)]]]⟩, [tI]), (.exit 0, ⟨19, .con aa :: .fn 212 [(9, 0), (8, 0)] :: aN 5 [.con tI], [.cells [.con tI, .con tI, .con ac, .con aa, .con af, .con ab, .con aa], .cells [.con tI, .con tI, .con ac, .con aa, .con af, .con ab, .con aa], .cells [.omp 3], .mapc tI .bool, .cells [.con ac], .cells [.fn 147 []], .cells [.con aa], .cells [.fn 148 [(2, 0)]], .cells [.con aa], .cells [.fn 148 [(2, 0)]]]⟩, [])] }
def zS (ρ : Type) : bP ρ := ⟨[17, 27, 1, 2, 1, 2], 255, 0, Nv, fun (p : Val (.pair aa (.pair tI (.pair tI (.pair tI (.pair ac (.pair aa (.pair af (.pair ab (.pair aa (.pair tI (.pair tI (.pair ac (.pair aa (.pair af (.pair ab (.pair aa (.pair aj (.pair ac (.pair aa aa)))))))))))))))))))) (v : Val tI) kn kx => ky p.1 p.2.1 p.2.2.2.2.2.2.2.2.2.2.2.2.2.2.2.2.1 p.2.2.2.2.2.2.2.2.2.2.2.2.2.2.2.2.2.2.2 v (fun u0 => kn u0) (kx 0) (kx 1)⟩
def Nu : bo := { pin := 12, cs := [af, tI, tI, tI, ac, aa, af, ab, aa, tI, tI, ac, aa, af, ab, aa, aj, ac, aa, aa, af], vs := [tI], head := ⟨19, .con af :: .fn 215 [(11, 0), (10, 0)] :: aN 5 [.con tI, .var tI], [.cells [.con tI, .con tI, .con ac, .con aa, .con af, .con ab, .con aa], .cells [.con tI, .con tI, .con ac, .con aa, .con af, .con ab, .con aa], .cells [.omp 3], .mapc tI .bool, .cells [.con ac], .cells [.fn 147 []], .cells [.con aa], .cells [.fn 148 [(2, 0)]], .cells [.con aa], .cells [.fn 148 [(2, 0)]], .cells [.con af], .cells [.fn 149 [(2, 0)]]]⟩, exits := [(.ret, ⟨19, [.con af, .fn 215 [(11, 0), (10, 0)], .any, .any, .var tI, .any, .any, .con tI], [.cells [.con tI, .con tI, .con ac, .con aa, .con af, .con ab, .con aa], .cells [.con tI, .con tI, .con ac, .con aa, .con af, .con ab, .con aa], .cells [.omp 3], .mapc tI .bool, .cells [.con ac], .cells [.fn 147 []], .cells [.con aa], .cells [.fn 148 [(2, 0)]], .cells [.con aa], .cells [.fn 148 [(2, 0)]], .cells [.con af], .cells [.fn 149 [(2, 0)]]]⟩, [tI]), (.exit 0, ⟨19, .con af :: .fn 215 [(11, 0), (10, 0)] :: aN 5 [.con tI], [.cells [.con tI, .con tI, .con ac, .con aa, .con af, .con ab, .con aa], .cells [.con tI, .con tI, .con ac, .con aa, .con af, .con ab, .con aa], .cells [.omp 3], .mapc tI .bool, .cells [.con ac], .cells [.fn 147 []], .cells [.con aa], .cells [.fn 148 [(2, 0)]], .cells [.con aa], .cells [.fn 148 [(2, 0)]], .cells [.con af], .cells [.fn 149 [(2, 0)]]]⟩, [])] }
def zR (ρ : Type) : bP ρ := ⟨[17, 35, 1, 2, 1, 2], 257, 0, Nu, fun (p : Val (.pair af (.pair tI (.pair tI (.pair tI (.pair ac (.pair aa (.pair af (.pair ab (.pair aa (.pair tI (.pair tI (.pair ac (.pair aa (.pair af (.pair ab (.pair aa (.pair aj (.pair ac (.pair aa (.pair aa af))))))))))))))))))))) (v : Val tI) kn kx => dH p.1 p.2.1 p.2.2.2.2.2.2.2.2.2.2.2.2.2.2.2.2.1 p.2.2.2.2.2.2.2.2.2.2.2.2.2.2.2.2.2.2.2.2 v (fun u0 => kn u0) (kx 0) (kx 1)⟩
def Nt : bo := { pin := 14, cs := [af, tI, tI, tI, ac, aa, af, ab, aa, tI, tI, ac, aa, af, ab, aa, aj, ac, aa, aa, af, af], vs := [tI], head := ⟨19, .con af :: .fn 215 [(13, 0), (12, 0)] :: aN 5 [.con tI, .var tI], [.cells [.con tI, .con tI, .con ac, .con aa, .con af, .con ab, .con aa], .cells [.con tI, .con tI, .con ac, .con aa, .con af, .con ab, .con aa], .cells [.omp 3], .mapc tI .bool, .cells [.con ac], .cells [.fn 147 []], .cells [.con aa], .cells [.fn 148 [(2, 0)]], .cells [.con aa], .cells [.fn 148 [(2, 0)]], .cells [.con af], .cells [.fn 149 [(2, 0)]], .cells [.con af], .cells [.fn 149 [(2, 0)]]]⟩, exits := [(.ret, ⟨19, [.con af, .fn 215 [(13, 0), (12, 0)], .any, .any, .var tI, .any, .any, .con tI], [.cells [.con tI, .con tI, .con ac, .con aa, .con af, .con ab, .con aa], .cells [.con tI, .con tI, .con ac, .con aa, .con af, .con ab, .con aa], .cells [.omp 3], .mapc tI .bool, .cells [.con ac], .cells [.fn 147 []], .cells [.con aa], .cells [.fn 148 [(2, 0)]], .cells [.con aa], .cells [.fn 148 [(2, 0)]], .cells [.con af], .cells [.fn 149 [(2, 0)]], .cells [.con af], .cells [.fn 149 [(2, 0)]]]⟩, [tI]), (.exit 0, ⟨19, .con af :: .fn 215 [(13, 0), (12, 0)] :: aN 5 [.con tI], [.cells [.con tI, .con tI, .con ac, .con aa, .con af, .con ab, .con aa], .cells [.con tI, .con tI, .con ac, .con aa, .con af, .con ab, .con aa], .cells [.omp 3], .mapc tI .bool, .cells [.con ac], .cells [.fn 147 []], .cells [.con aa], .cells [.fn 148 [(2, 0)]], .cells [.con aa], .cells [.fn 148 [(2, 0)]], .cells [.con af], .cells [.fn 149 [(2, 0)]], .cells [.con af], .cells [.fn 149 [(2, 0)]]]⟩, [])] }
def zQ (ρ : Type) : bP ρ := ⟨[17, 43, 1, 2, 1, 2], 257, 0, Nt, fun (p : Val (.pair af (.pair tI (.pair tI (.pair tI (.pair ac (.pair aa (.pair af (.pair ab (.pair aa (.pair tI (.pair tI (.pair ac (.pair aa (.pair af (.pair ab (.pair aa (.pair aj (.pair ac (.pair aa (.pair aa (.pair af af)))))))))))))))))))))) (v : Val tI) kn kx => cF p.1 p.2.1 p.2.2.2.2.2.2.2.2.2.2.2.2.2.2.2.2.1 p.2.2.2.2.2.2.2.2.2.2.2.2.2.2.2.2.2.2.2.2.2 v (fun u0 => kn u0) (kx 0) (kx 1)⟩
def Tw : List (Nat × bJ) := [(210, fY), (213, g8), (216, gy)]
def D8 (ρ : Type) : List (bP ρ) := [zZ ρ, zW ρ, zV ρ, zX ρ, zY ρ, zU ρ, zT ρ, zS ρ, zR ρ, zQ ρ]
def fC (ρ : Type) : Env ρ := bM Tw (D8 ρ)
def LI : bJ := ⟨[bg, fW], [.bool, tI], fun (x : Val (.pair bg fW)) => wa x.1 x.2⟩
def NQ : List (Nat × bJ) := [(33, qP), (38, dQ), (39, wK), (77, Vb)]
def wZ (ρ : Type) : List (bP ρ) := []
def Ee (ρ : Type) : Env ρ := bM NQ (wZ ρ)
def GS : bJ := ⟨[bq, tI, tI], [am], fun (x : Val aM) => vk x.1 x.2.1 x.2.2⟩
def Wx : bo := { pin := 0, cs := [tI, tI, tI, tI, ah], vs := [tI, ae], head := ⟨45, .any :: .con tI :: .con tI :: .box 0 0 :: .any :: .any :: .any :: .own 1 :: aN 7 [.con tI, .var tI], [.cells [.con tI, .con ah], .rowv tI]⟩, exits := [(.exit 0, ⟨45, .any :: .con tI :: .con tI :: .box 0 0 :: .any :: .any :: .any :: .own 1 :: aN 7 [.con tI], [.cells [.con tI, .con ah], .rowv tI]⟩, [ae])] }
def L1 (ρ : Type) : bP ρ := ⟨[], 156, 0, Wx, fun (p : Val (.pair tI (.pair tI aG))) (v : Val ax) kn kx => vO p.2.2.1 v.1 v.2 (fun u0 u1 => kn (u0, u1)) (kx 0)⟩
def Wv : bo := { pin := 4, cs := [ae, tI, am, tI, ah], vs := [tI, ae], head := ⟨53, .con ae :: .box 1 0 :: .any :: .any :: .own 4 :: aN 7 [.con tI, .var tI], [.rowc ae, .cells [.con tI, .con ah], .dead, .dead, .rowv tI]⟩, exits := [(.exit 0, ⟨53, .con ae :: .box 1 0 :: .any :: .any :: .own 4 :: aN 7 [.con tI], [.rowc ae, .cells [.con tI, .con ah], .dead, .dead, .rowv tI]⟩, [ae])] }
def LY (ρ : Type) : bP ρ := ⟨[12, 8], 217, 0, Wv, fun (p : Val (.pair ae (.pair tI (.pair am bq)))) (v : Val ax) kn kx => NZ p.2.1 v.1 v.2 (fun u0 u1 => kn (u0, u1)) (kx 0)⟩
def Wu : bo := { pin := 4, cs := [ae, ah, tI, am, tI, ah], vs := [tI, ae], head := ⟨53, .con ae :: .any :: .any :: .any :: .own 4 :: aN 16 [.con ah, .con tI, .var tI], [.rowc ae, .cells [.con tI, .con ah], .dead, .dead, .rowv tI]⟩, exits := [(.exit 2, ⟨53, .con ae :: .any :: .any :: .any :: .own 4 :: aN 16 [.con ah, .con tI], [.rowc ae, .cells [.con tI, .con ah], .dead, .dead, .rowv tI]⟩, [ae])] }
def LX (ρ : Type) : bP ρ := ⟨[12, 8], 217, 2, Wu, fun (p : Val (.pair ae (.pair ah (.pair tI (.pair am bq))))) (v : Val ax) kn kx => Ay p.1 p.2.1 p.2.2.1 v.1 v.2 (fun u0 u1 => kn (u0, u1)) (kx 0)⟩
def Ww : bo := { pin := 0, cs := [tI, tI, ah], vs := [tI, am], head := ⟨45, aN 9 (.own 0 :: .fn 217 [(1, 0)] :: aN 18 [.con tI, .var tI]), [.rowv ae, .cells [.con tI, .con ah]]⟩, exits := [(.exit 2, ⟨45, aN 9 (.own 0 :: .fn 217 [(1, 0)] :: aN 18 [.con tI]), [.rowv ae, .cells [.con tI, .con ah]]⟩, [am])] }
def LZ (ρ : Type) : bP ρ := ⟨[], 156, 2, Ww, fun (p : Val aG) (v : Val (.pair tI am)) kn kx => F5 p.1 p.2.1 p.2.2 v.1 v.2 (fun u0 u1 => kn (u0, u1)) (kx 0)⟩
def aaD : List (Nat × bJ) := []
def Q7 (ρ : Type) : List (bP ρ) := [L1 ρ, LY ρ, LX ρ, LZ ρ]
def CU (ρ : Type) : Env ρ := bM aaD (Q7 ρ)
def Qr : bJ := ⟨[bq], [ae, tI], fun (x : Val bq) => vm x⟩
def KD : bo := { pin := 0, cs := [tI, tI, ah], vs := [tI, aO], head := ⟨93, .any :: .box 0 0 :: aN 6 (.own 1 :: aN 24 [.con tI, .var tI]), [.cells [.con tI, .con ah], .rowv am]⟩, exits := [(.exit 0, ⟨93, .any :: .box 0 0 :: aN 6 (.own 1 :: aN 24 [.con tI]), [.cells [.con tI, .con ah], .rowv am]⟩, [aO])] }
def xf (ρ : Type) : bP ρ := ⟨[], 78, 0, KD, fun (p : Val aG) (v : Val (.pair tI aO)) kn kx => En p.1 p.2.1 p.2.2 v.1 v.2 (fun u0 u1 => kn (u0, u1)) (kx 0)⟩
def Kz : bo := { pin := 3, cs := [tI, am, ah, tI, tI, ah, aO, tI, tI, tI, tI, ah], vs := [tI, tI, tI, ae], head := ⟨73, .any :: .var tI :: .con tI :: .con am :: .fn 157 [] :: .box 3 0 :: aN 5 (.own 4 :: .var tI :: aN 7 [.con ah, .con tI, .var tI]), [.cells [.con tI, .con ah], .rowc am, .cells [.con tI, .con tI, .con tI], .cells [.con tI, .con ah], .rowv tI]⟩, exits := [(.exit 2, ⟨73, .any :: .var tI :: .con tI :: .con am :: .fn 157 [] :: .box 3 0 :: aN 5 (.own 4 :: .var tI :: aN 7 [.con ah, .con tI]), [.cells [.con tI, .con ah], .rowc am, .cells [.con tI, .con tI, .con tI], .cells [.con tI, .con ah], .rowv tI]⟩, [tI, tI, ae])] }
def xb (ρ : Type) : bP ρ := ⟨[22, 10], 158, 2, Kz, fun (p : Val (.pair tI (.pair am (.pair ah (.pair tI (.pair tI (.pair ah (.pair aO (.pair tI (.pair tI aG)))))))))) (v : Val aD) kn kx => Ej p.1 p.2.1 p.2.2.1 p.2.2.2.1 v.1 v.2.1 v.2.2.1 v.2.2.2 (fun u0 u1 u2 u3 => kn (u0, u1, u2, u3)) (kx 0)⟩
def KA : bo := { pin := 3, cs := [am, tI, ah, aO, tI, tI, tI, tI, ah], vs := [tI, tI, tI, ae], head := ⟨73, .any :: .var tI :: .var tI :: .con am :: .fn 157 [] :: .box 3 0 :: aN 5 [.own 4, .var tI], [.cells [.con tI, .con ah], .rowc am, .cells [.con tI, .con tI, .con tI], .cells [.con tI, .con ah], .rowv tI]⟩, exits := [(.exit 0, ⟨73, .any :: .any :: .any :: .con am :: .fn 157 [] :: .box 3 0 :: aN 5 [.own 4], [.cells [.con tI, .con ah], .rowc am, .cells [.con tI, .con tI, .con tI], .cells [.con tI, .con ah], .rowv tI]⟩, [ae])] }
def xc (ρ : Type) : bP ρ := ⟨[22, 10], 158, 0, KA, fun (p : Val (.pair am (.pair tI (.pair ah (.pair aO (.pair tI (.pair tI aG))))))) (v : Val aD) kn kx => Ek p.1 p.2.2.2.2.2.2.2.2 v.1 v.2.1 v.2.2.1 v.2.2.2 (fun u0 u1 u2 u3 => kn (u0, u1, u2, u3)) (kx 0)⟩
def KB : bo := { pin := 0, cs := [tI, ah, tI, tI, ah, aO], vs := [tI], head := ⟨93, .any :: .box 0 0 :: aN 6 (.own 1 :: .any :: .fn 157 [] :: .con tI :: aN 37 [.con ah, .con tI, .var tI]), [.cells [.con tI, .con ah], .rowc am]⟩, exits := [(.exit 2, ⟨93, .any :: .box 0 0 :: aN 6 (.own 1 :: .any :: .fn 157 [] :: .con tI :: aN 37 [.con ah, .con tI]), [.cells [.con tI, .con ah], .rowc am]⟩, []), (.ret, ⟨93, .any :: .box 0 0 :: .own 2 :: .var tI :: aN 4 (.own 1 :: .any :: .fn 157 [] :: .con tI :: aN 37 [.con ah, .con tI]), [.cells [.con tI, .con ah], .rowc am, .rowv tI]⟩, [tI, ae]), (.exit 4, ⟨93, .any :: .box 0 0 :: aN 6 (.own 1 :: .any :: .fn 157 [] :: .con tI :: aN 37 [.con ah, .con tI]), [.cells [.con tI, .con ah], .rowc am]⟩, [])] }
def xd (ρ : Type) : bP ρ := ⟨[], 78, 4, KB, fun (p : Val (.pair tI (.pair ah (.pair tI (.pair tI (.pair ah aO)))))) (v : Val tI) kn kx => El p.1 p.2.1 p.2.2.1 p.2.2.2.1 p.2.2.2.2.1 p.2.2.2.2.2 v (fun u0 => kn u0) (kx 0) (kx 1) (kx 2)⟩
def KC : bo := { pin := 0, cs := [tI, ah, aO], vs := [tI], head := ⟨93, .any :: .box 0 0 :: aN 6 [.own 1, .any, .fn 157 [], .var tI], [.cells [.con tI, .con ah], .rowc am]⟩, exits := [(.exit 2, ⟨93, .any :: .box 0 0 :: aN 6 [.own 1, .any, .fn 157 []], [.cells [.con tI, .con ah], .rowc am]⟩, []), (.ret, ⟨93, .any :: .box 0 0 :: .own 2 :: .var tI :: aN 4 [.own 1, .any, .fn 157 []], [.cells [.con tI, .con ah], .rowc am, .rowv tI]⟩, [tI, ae])] }
def xe (ρ : Type) : bP ρ := ⟨[], 78, 2, KC, fun (p : Val (.pair tI (.pair ah aO))) (v : Val tI) kn kx => Em p.1 p.2.1 p.2.2 v (fun u0 => kn u0) (kx 0) (kx 1)⟩
def Rb : List (Nat × bJ) := [(133, m8), (135, lg), (156, GS)]
def AF (ρ : Type) : List (bP ρ) := [xf ρ, xb ρ, xc ρ, xd ρ, xe ρ]
def jc (ρ : Type) : Env ρ := bM Rb (AF ρ)
def xM : bJ := ⟨[bg, ae], [aa], fun (x : Val (.pair bg ae)) => nH x.1 x.2⟩
def Ff : bo := { pin := 0, cs := [aa, ae, tI], vs := [tI, aa], head := ⟨32, aN 6 (.con aa :: .any :: .own 0 :: aN 8 [.con ae, .con tI, .var tI]), [.rowv bc]⟩, exits := [(.exit 0, ⟨32, aN 6 (.con aa :: .any :: .own 0 :: aN 8 [.con ae, .con tI]), [.rowv bc]⟩, [aa])] }
def sK (ρ : Type) : bP ρ := ⟨[], 80, 0, Ff, fun (p : Val (.pair aa aA)) (v : Val aT) kn kx => kT p.1 p.2.1 p.2.2 v.1 v.2 (fun u0 u1 => kn (u0, u1)) (kx 0)⟩
def J2 : List (Nat × bJ) := [(20, eu)]
def t7 (ρ : Type) : List (bP ρ) := [sK ρ]
def qY (ρ : Type) : Env ρ := bM J2 (t7 ρ)
def Qo : bJ := ⟨[bg], [fW, tI], fun (x : Val bg) => BG x⟩
def Q4 : List (Nat × bJ) := [(20, eu), (78, Qr), (79, m7), (80, xM)]
def Ap (ρ : Type) : List (bP ρ) := []
def Hv (ρ : Type) : Env ρ := bM Q4 (Ap ρ)
def zm : bJ := ⟨[tI], [tI], fun (x : Val tI) => jV x⟩
def Fo : List (Nat × bJ) := []
def p9 (ρ : Type) : List (bP ρ) := []
def uq (ρ : Type) : Env ρ := bM Fo (p9 ρ)
def zl : bJ := ⟨[cw, tI], [ae], fun (x : Val (.pair cw tI)) => gN x.1 x.2⟩
def Fm : List (Nat × bJ) := []
def pU (ρ : Type) : List (bP ρ) := []
def uk (ρ : Type) : Env ρ := bM Fm (pU ρ)
def GP : bJ := ⟨[bg, bc, bc, bp], [.bool, tI], fun (x : Val (.pair bg (.pair bc aU))) => nI x.1 x.2.1 x.2.2.1 x.2.2.2⟩
def fE : bo := { pin := 5, cs := [tI, tI, tI, ac, aa, af, ab, aa, tI, tI, tI, tI, tI, tI, ae, ae, tI, tI, tI, tI, aa], vs := [tI, tI, tI, ac, aa, af, ab, aa], head := ⟨68, .any :: .any :: .box 5 0 :: aN 20 [.own 4, .con tI, .var tI], [.cells [.con tI, .con tI, .con ac, .con aa, .con af, .con ab, .con aa], .cells [.con tI, .con tI], .cells [.con tI, .con tI], .cells [.con tI, .con tI, .con ae, .con ae, .con tI, .con tI, .con tI, .con tI], .rowc bc, .cells [.var tI, .var tI, .var ac, .var aa, .var af, .var ab, .var aa]]⟩, exits := [(.ret, ⟨68, .any :: .any :: .box 5 0 :: .any :: .nilp :: .var tI :: aN 17 [.own 4, .con tI], [.cells [.con tI, .con tI, .con ac, .con aa, .con af, .con ab, .con aa], .cells [.con tI, .con tI], .cells [.con tI, .con tI], .cells [.con tI, .con tI, .con ae, .con ae, .con tI, .con tI, .con tI, .con tI], .rowc bc, .cells [.var tI, .var tI, .var ac, .var aa, .var af, .var ab, .var aa]]⟩, [tI, tI, tI, ac, aa, af, ab, aa]), (.exit 0, ⟨68, .any :: .any :: .box 5 0 :: aN 20 [.own 4, .con tI], [.cells [.con tI, .con tI, .con ac, .con aa, .con af, .con ab, .con aa], .cells [.con tI, .con tI], .cells [.con tI, .con tI], .cells [.con tI, .con tI, .con ae, .con ae, .con tI, .con tI, .con tI, .con tI], .rowc bc, .cells [.var tI, .var tI, .var ac, .var aa, .var af, .var ab, .var aa]]⟩, [tI, tI, ac, aa, af, ab, aa])] }
def lX (ρ : Type) : bP ρ := ⟨[1, 3], 50, 0, fE, fun (p : Val aq) (v : Val az) kn kx => pd p.1 p.2.2.2.2.2.2.2.2.2.2.2.2.2.2.2.2.2.2.2.2 v.1 v.2.1 v.2.2.1 v.2.2.2.1 v.2.2.2.2.1 v.2.2.2.2.2.1 v.2.2.2.2.2.2.1 v.2.2.2.2.2.2.2 (fun u0 u1 u2 u3 u4 u5 u6 u7 => kn (u0, u1, u2, u3, u4, u5, u6, u7)) (kx 0) (kx 1)⟩
def fD : bo := { pin := 12, cs := [ae, tI, tI, tI, ac, aa, af, ab, aa, tI, tI, tI, tI, tI, tI, ae, ae, tI, tI, tI, tI, aa, tI, tI, ac, aa, af, ab, aa, tI, ah, tI, tI, tI, tI, tI, tI, tI, tI, am, am, am], vs := [tI], head := ⟨19, .con ae :: .fn 98 [(8, 0), (2, 0)] :: aN 5 [.con tI, .var tI], [.cells [.con tI, .con tI, .con ac, .con aa, .con af, .con ab, .con aa], .cells [.con tI, .con tI], .cells [.con tI, .con tI], .cells [.con tI, .con tI, .con ae, .con ae, .con tI, .con tI, .con tI, .con tI], .rowc bc, .cells [.con tI, .con tI, .con ac, .con aa, .con af, .con ab, .con aa], .cells [.con tI, .con ah], .dead, .cells [.con tI, .con tI, .con tI, .con tI, .con tI, .con tI, .con tI, .con tI], .rowf ae 0, .rowf ae 0, .rowf ae 0]⟩, exits := [(.ret, ⟨19, [.con ae, .fn 98 [(8, 0), (2, 0)], .any, .any, .var tI, .any, .any, .con tI], [.cells [.con tI, .con tI, .con ac, .con aa, .con af, .con ab, .con aa], .cells [.con tI, .con tI], .cells [.con tI, .con tI], .cells [.con tI, .con tI, .con ae, .con ae, .con tI, .con tI, .con tI, .con tI], .rowc bc, .cells [.con tI, .con tI, .con ac, .con aa, .con af, .con ab, .con aa], .cells [.con tI, .con ah], .dead, .cells [.con tI, .con tI, .con tI, .con tI, .con tI, .con tI, .con tI, .con tI], .rowf ae 0, .rowf ae 0, .rowf ae 0]⟩, [tI]), (.exit 0, ⟨19, .con ae :: .fn 98 [(8, 0), (2, 0)] :: aN 5 [.con tI], [.cells [.con tI, .con tI, .con ac, .con aa, .con af, .con ab, .con aa], .cells [.con tI, .con tI], .cells [.con tI, .con tI], .cells [.con tI, .con tI, .con ae, .con ae, .con tI, .con tI, .con tI, .con tI], .rowc bc, .cells [.con tI, .con tI, .con ac, .con aa, .con af, .con ab, .con aa], .cells [.con tI, .con ah], .dead, .cells [.con tI, .con tI, .con tI, .con tI, .con tI, .con tI, .con tI, .con tI], .rowf ae 0, .rowf ae 0, .rowf ae 0]⟩, [])] }
def lW (ρ : Type) : bP ρ := ⟨[18, 4, 1, 2], 178, 0, fD, fun (p : Val ak) (v : Val tI) kn kx => kU p.1 p.2.1 p.2.2.2.2.2.2.2.2.2.2.2.1 p.2.2.2.2.2.2.2.2.2.2.2.2.1 p.2.2.2.2.2.2.2.2.2.2.2.2.2.2.2.2.2.2.2.2.2.2.2.2.2.2.2.2.2.2.2.1 p.2.2.2.2.2.2.2.2.2.2.2.2.2.2.2.2.2.2.2.2.2.2.2.2.2.2.2.2.2.2.2.2.1 p.2.2.2.2.2.2.2.2.2.2.2.2.2.2.2.2.2.2.2.2.2.2.2.2.2.2.2.2.2.2.2.2.2.1 p.2.2.2.2.2.2.2.2.2.2.2.2.2.2.2.2.2.2.2.2.2.2.2.2.2.2.2.2.2.2.2.2.2.2.1 p.2.2.2.2.2.2.2.2.2.2.2.2.2.2.2.2.2.2.2.2.2.2.2.2.2.2.2.2.2.2.2.2.2.2.2.1 p.2.2.2.2.2.2.2.2.2.2.2.2.2.2.2.2.2.2.2.2.2.2.2.2.2.2.2.2.2.2.2.2.2.2.2.2.1 p.2.2.2.2.2.2.2.2.2.2.2.2.2.2.2.2.2.2.2.2.2.2.2.2.2.2.2.2.2.2.2.2.2.2.2.2.2.1 p.2.2.2.2.2.2.2.2.2.2.2.2.2.2.2.2.2.2.2.2.2.2.2.2.2.2.2.2.2.2.2.2.2.2.2.2.2.2.1 v (fun u0 => kn u0) (kx 0) (kx 1)⟩
def w7 : List (Nat × bJ) := [(20, eu), (38, dQ), (60, gh), (61, kR), (69, xL), (71, Cf), (94, er), (95, qO), (96, zm), (97, zl), (99, oU), (101, oV), (123, dX)]
def nt (ρ : Type) : List (bP ρ) := [lX ρ, lW ρ]
def pb : List Z2 := [⟨[], 42, 0, 4⟩]
def cA (ρ : Type) : Env ρ := { bM w7 (nt ρ) with hint := Dp [(51, 96), (55, 96)] }
def rg (ρ : Type) : Env ρ := { { abH w7 (nt ρ) pb with loops := RI (cA ρ) pb } with hint := Dp [(51, 96), (55, 96)] }
def D1 : bJ := ⟨[], [bg], fun (_ : Unit) => vi⟩
def G8 : List (Nat × bJ) := []
def sI (ρ : Type) : List (bP ρ) := []
def wR (ρ : Type) : Env ρ := bM G8 (sI ρ)
def Qs : bJ := ⟨[bq, tI, tI], [ae, tI], fun (x : Val aM) => vn x.1 x.2.1 x.2.2⟩
def KI : bo := { pin := 3, cs := [am, tI, tI, ah, tI, tI], vs := [tI], head := ⟨19, .con am :: .fn 194 [(1, 0), (2, 0)] :: aN 5 [.con tI, .var tI], [.cells [.con tI, .con ah], .cells [.con tI], .cells [.con tI]]⟩, exits := [(.ret, ⟨19, [.con am, .fn 194 [(1, 0), (2, 0)], .any, .any, .var tI, .any, .any, .con tI], [.cells [.con tI, .con ah], .cells [.con tI], .cells [.con tI]]⟩, [tI]), (.exit 0, ⟨19, .con am :: .fn 194 [(1, 0), (2, 0)] :: aN 5 [.con tI], [.cells [.con tI, .con ah], .cells [.con tI], .cells [.con tI]]⟩, [])] }
def xj (ρ : Type) : bP ρ := ⟨[5, 2], 193, 0, KI, fun (p : Val (.pair am (.pair tI (.pair tI (.pair ah bc))))) (v : Val tI) kn kx => oD p.1 p.2.1 p.2.2.2.2.1 p.2.2.2.2.2 v (fun u0 => kn u0) (kx 0) (kx 1)⟩
def KG : bo := { pin := 3, cs := [tI, am, ah, tI, tI, ah, tI, tI, tI, ah], vs := [tI, tI, tI, ae], head := ⟨73, .any :: .var tI :: .con tI :: .con am :: .fn 195 [(2, 0)] :: .box 3 0 :: aN 5 (.own 4 :: .var tI :: aN 7 [.con ah, .con tI, .var tI]), [.cells [.con tI, .con ah], .cells [.con tI], .cells [.con tI], .cells [.con tI, .con ah], .rowv tI]⟩, exits := [(.exit 2, ⟨73, .any :: .var tI :: .con tI :: .con am :: .fn 195 [(2, 0)] :: .box 3 0 :: aN 5 (.own 4 :: .var tI :: aN 7 [.con ah, .con tI]), [.cells [.con tI, .con ah], .cells [.con tI], .cells [.con tI], .cells [.con tI, .con ah], .rowv tI]⟩, [tI, tI, ae])] }
def xh (ρ : Type) : bP ρ := ⟨[6, 5], 158, 2, KG, fun (p : Val (.pair tI (.pair am (.pair ah (.pair tI (.pair tI (.pair ah (.pair tI aG)))))))) (v : Val aD) kn kx => Eo p.1 p.2.1 p.2.2.1 p.2.2.2.1 p.2.2.2.2.2.2.2.1 v.1 v.2.1 v.2.2.1 v.2.2.2 (fun u0 u1 u2 u3 => kn (u0, u1, u2, u3)) (kx 0)⟩
def KH : bo := { pin := 3, cs := [am, tI, ah, tI, tI, tI, ah], vs := [tI, tI, tI, ae], head := ⟨73, .any :: .var tI :: .var tI :: .con am :: .fn 195 [(2, 0)] :: .box 3 0 :: aN 5 [.own 4, .var tI], [.cells [.con tI, .con ah], .cells [.con tI], .cells [.con tI], .cells [.con tI, .con ah], .rowv tI]⟩, exits := [(.exit 0, ⟨73, .any :: .any :: .any :: .con am :: .fn 195 [(2, 0)] :: .box 3 0 :: aN 5 [.own 4], [.cells [.con tI, .con ah], .cells [.con tI], .cells [.con tI], .cells [.con tI, .con ah], .rowv tI]⟩, [ae])] }
def xi (ρ : Type) : bP ρ := ⟨[6, 5], 158, 0, KH, fun (p : Val (.pair am (.pair tI (.pair ah (.pair tI aG))))) (v : Val aD) kn kx => oC p.1 p.2.2.2.2.1 p.2.2.2.2.2.2 v.1 v.2.1 v.2.2.1 v.2.2.2 (fun u0 u1 u2 u3 => kn (u0, u1, u2, u3)) (kx 0)⟩
def Rd : List (Nat × bJ) := [(89, tN), (156, GS)]
def AJ (ρ : Type) : List (bP ρ) := [xj ρ, xh ρ, xi ρ]
def nu (ρ : Type) : Env ρ := bM Rd (AJ ρ)
def zn : bJ := ⟨[au, aR, (.ptr .bool)], [ae], fun (x : Val (.pair au (.pair aR (.ptr .bool)))) => jX x.1 x.2.1 x.2.2⟩
def Fu : List (Nat × bJ) := [(55, ij), (120, Qs)]
def qf (ρ : Type) : List (bP ρ) := []
def uB (ρ : Type) : Env ρ := bM Fu (qf ρ)
def GR : bJ := ⟨[bg, bc, .bool], [fW, tI], fun (x : Val aV) => se x.1 x.2.1 x.2.2⟩
def Ft : bo := { pin := 5, cs := [tI, tI, tI, ac, aa, af, ab, aa, tI, tI, tI, tI, .bool, tI, aa], vs := [tI, tI, tI, ac, aa, af, ab, aa], head := ⟨68, .any :: .any :: .box 5 0 :: aN 20 [.own 4, .con tI, .var tI], [.cells [.con tI, .con tI, .con ac, .con aa, .con af, .con ab, .con aa], .dead, .dead, .cells [.con tI, .con tI, .nils, .nils, .nils, .nils, .nils, .con tI, .con tI, .con .bool, .con tI, .nils], .rowc bc, .cells [.var tI, .var tI, .var ac, .var aa, .var af, .var ab, .var aa]]⟩, exits := [(.ret, ⟨68, .any :: .any :: .box 5 0 :: .any :: .nilp :: .var tI :: aN 17 [.own 4, .con tI], [.cells [.con tI, .con tI, .con ac, .con aa, .con af, .con ab, .con aa], .dead, .dead, .cells [.con tI, .con tI, .nils, .nils, .nils, .nils, .nils, .con tI, .con tI, .con .bool, .con tI, .nils], .rowc bc, .cells [.var tI, .var tI, .var ac, .var aa, .var af, .var ab, .var aa]]⟩, [tI, tI, tI, ac, aa, af, ab, aa]), (.exit 0, ⟨68, .any :: .any :: .box 5 0 :: aN 20 [.own 4, .con tI], [.cells [.con tI, .con tI, .con ac, .con aa, .con af, .con ab, .con aa], .dead, .dead, .cells [.con tI, .con tI, .nils, .nils, .nils, .nils, .nils, .con tI, .con tI, .con .bool, .con tI, .nils], .rowc bc, .cells [.var tI, .var tI, .var ac, .var aa, .var af, .var ab, .var aa]]⟩, [tI, tI, ac, aa, af, ab, aa])] }
def sT (ρ : Type) : bP ρ := ⟨[1, 3], 50, 0, Ft, fun (p : Val (.pair tI (.pair tI (.pair tI (.pair ac (.pair aa (.pair af (.pair ab (.pair aa (.pair tI (.pair tI (.pair tI (.pair tI (.pair .bool aT)))))))))))))) (v : Val az) kn kx => pl p.1 p.2.2.2.2.2.2.2.2.2.2.2.2.2.2 v.1 v.2.1 v.2.2.1 v.2.2.2.1 v.2.2.2.2.1 v.2.2.2.2.2.1 v.2.2.2.2.2.2.1 v.2.2.2.2.2.2.2 (fun u0 u1 u2 u3 u4 u5 u6 u7 => kn (u0, u1, u2, u3, u4, u5, u6, u7)) (kx 0) (kx 1)⟩
def Fs : bo := { pin := 10, cs := [tI, tI, tI, ac, aa, af, ab, aa, tI, tI, tI, tI, .bool, tI, aa, tI, tI, ac, aa, af, ab, aa, tI, ah, aa, tI, tI, ac, aa, af, ab, aa, tI, tI, ac, aa, af, ab, aa], vs := [tI], head := ⟨68, .any :: .any :: .box 10 0 :: aN 20 [.nils, .con tI, .var tI], [.cells [.con tI, .con tI, .con ac, .con aa, .con af, .con ab, .con aa], .dead, .dead, .cells [.con tI, .con tI, .nils, .nils, .nils, .nils, .nils, .con tI, .con tI, .con .bool, .con tI, .nils], .rowc bc, .cells [.con tI, .con tI, .con ac, .con aa, .con af, .con ab, .con aa], .cells [.con tI, .con ah], .dead, .rowf bc 0, .cells [.con tI, .con tI, .con ac, .con aa, .con af, .con ab, .con aa], .cells [.con tI, .con tI, .con ac, .con aa, .con af, .con ab, .con aa]]⟩, exits := [(.exit 0, ⟨68, .any :: .any :: .box 10 0 :: aN 20 [.nils, .con tI], [.cells [.con tI, .con tI, .con ac, .con aa, .con af, .con ab, .con aa], .dead, .dead, .cells [.con tI, .con tI, .nils, .nils, .nils, .nils, .nils, .con tI, .con tI, .con .bool, .con tI, .nils], .rowc bc, .cells [.con tI, .con tI, .con ac, .con aa, .con af, .con ab, .con aa], .cells [.con tI, .con ah], .dead, .rowf bc 0, .cells [.con tI, .con tI, .con ac, .con aa, .con af, .con ab, .con aa], .cells [.con tI, .con tI, .con ac, .con aa, .con af, .con ab, .con aa]]⟩, [])] }
def sS (ρ : Type) : bP ρ := ⟨[6, 1], 50, 0, Fs, fun (p : Val (.pair tI (.pair tI (.pair tI (.pair ac (.pair aa (.pair af (.pair ab (.pair aa (.pair tI (.pair tI (.pair tI (.pair tI (.pair .bool (.pair tI (.pair aa (.pair tI (.pair tI (.pair ac (.pair aa (.pair af (.pair ab (.pair aa (.pair tI (.pair ah (.pair aa ay)))))))))))))))))))))))))) (v : Val tI) kn kx => pk p.1 v (fun u0 => kn u0) (kx 0)⟩
def Kr : List (Nat × bJ) := [(20, eu), (38, dQ), (60, gh), (61, kR), (79, m7), (80, xM), (119, zn), (121, oW), (122, kh), (123, dX)]
def uA (ρ : Type) : List (bP ρ) := [sT ρ, sS ρ]
def jO (ρ : Type) : Env ρ := { bM Kr (uA ρ) with hint := Dp [(34, 119), (56, 119)] }
def GN : bJ := ⟨[], [.bool], fun (_ : Unit) => gL⟩
def JW : List (Nat × bJ) := [(15, tM), (17, xN), (18, Vc), (25, Qn), (31, Qm), (33, qP), (35, LI), (36, Qo), (42, GP), (48, D1), (49, GR)]
def tS (ρ : Type) : List (bP ρ) := []
def zF (ρ : Type) : Env ρ := bM JW (tS ρ)
def Qj : bJ := ⟨[bg, aa], [bg, .bool], fun (x : Val (.pair bg aa)) => nB x.1 x.2⟩
def JV : bo := { pin := 0, cs := [aa], vs := [tI, tI, tI, ac, aa, af, ab, aa, tI, tI, ac, aa, af, ab, aa], head := ⟨42, [.any, .con aa, .box 0 0, .any, .box 1 0, .any, .var tI], [.cells [.var tI, .var tI, .var ac, .var aa, .var af, .var ab, .var aa], .cells [.var tI, .var tI, .var ac, .var aa, .var af, .var ab, .var aa]]⟩, exits := [(.ret, ⟨42, [.any, .con aa, .box 0 0, .any, .box 1 0, .var .bool], [.cells [.var tI, .var tI, .var ac, .var aa, .var af, .var ab, .var aa], .cells [.var tI, .var tI, .var ac, .var aa, .var af, .var ab, .var aa]]⟩, [.bool, tI, tI, ac, aa, af, ab, aa, tI, tI, ac, aa, af, ab, aa]), (.exit 0, ⟨42, [.any, .con aa, .box 0 0, .any, .box 1 0], [.cells [.var tI, .var tI, .var ac, .var aa, .var af, .var ab, .var aa], .cells [.var tI, .var tI, .var ac, .var aa, .var af, .var ab, .var aa]]⟩, [tI, tI, ac, aa, af, ab, aa, tI, tI, ac, aa, af, ab, aa])] }
def wP (ρ : Type) : bP ρ := ⟨[], 19, 0, JV, fun (p : Val aa) (v : Val (.pair tI ay)) kn kx => lj p v.1 v.2.1 v.2.2.1 v.2.2.2.1 v.2.2.2.2.1 v.2.2.2.2.2.1 v.2.2.2.2.2.2.1 v.2.2.2.2.2.2.2.1 v.2.2.2.2.2.2.2.2.1 v.2.2.2.2.2.2.2.2.2.1 v.2.2.2.2.2.2.2.2.2.2.1 v.2.2.2.2.2.2.2.2.2.2.2.1 v.2.2.2.2.2.2.2.2.2.2.2.2.1 v.2.2.2.2.2.2.2.2.2.2.2.2.2.1 v.2.2.2.2.2.2.2.2.2.2.2.2.2.2 (fun u0 u1 u2 u3 u4 u5 u6 u7 u8 u9 u10 u11 u12 u13 u14 => kn (u0, u1, u2, u3, u4, u5, u6, u7, u8, u9, u10, u11, u12, u13, u14)) (kx 0) (kx 1)⟩
def QO : List (Nat × bJ) := [(60, gh), (61, kR)]
def zD (ρ : Type) : List (bP ρ) := [wP ρ]
def xV (ρ : Type) : Env ρ := bM QO (zD ρ)
def pL : bJ := ⟨[aC, ae], [tI], fun (x : Val (.pair aC ae)) => iH x.1 x.2⟩
def tk : bo := { pin := 0, cs := [ae, tI], vs := [tI], head := ⟨19, .con ae :: .fn 137 [] :: aN 5 [.con tI, .var tI], []⟩, exits := [(.ret, ⟨19, [.con ae, .fn 137 [], .any, .any, .var tI, .any, .any, .con tI], []⟩, [tI]), (.exit 0, ⟨19, .con ae :: .fn 137 [] :: aN 5 [.con tI], []⟩, [])] }
def kd (ρ : Type) : bP ρ := ⟨[1, 10, 1, 2], 178, 0, tk, fun (p : Val aA) (v : Val tI) kn kx => gd p.1 p.2 v (fun u0 => kn u0) (kx 0) (kx 1)⟩
def wB : List (Nat × bJ) := [(126, iA)]
def lz (ρ : Type) : List (bP ρ) := [kd ρ]
def jd (ρ : Type) : Env ρ := bM wB (lz ρ)
def Vd : bJ := ⟨[bq, ae], [.bool, tI], fun (x : Val aS) => Gg x.1 x.2⟩
def N4 : bo := { pin := 1, cs := [ae, tI, tI, ah], vs := [tI], head := ⟨19, .con ae :: .fn 203 [] :: aN 5 [.con tI, .var tI], [.cells [.con tI, .con ah]]⟩, exits := [(.ret, ⟨19, [.con ae, .fn 203 [], .any, .any, .var tI, .any, .any, .con tI], [.cells [.con tI, .con ah]]⟩, [tI]), (.exit 0, ⟨19, .con ae :: .fn 203 [] :: aN 5 [.con tI], [.cells [.con tI, .con ah]]⟩, [])] }
def AD (ρ : Type) : bP ρ := ⟨[4, 7, 1, 2], 178, 0, N4, fun (p : Val (.pair ae aG)) (v : Val tI) kn kx => rB p.1 p.2.1 v (fun u0 => kn u0) (kx 0) (kx 1)⟩
def N3 : bo := { pin := 0, cs := [ae, ah, tI], vs := [tI], head := ⟨53, .any :: .con ae :: aN 26 [.con ah, .con tI, .var tI], []⟩, exits := [(.ret, ⟨53, .any :: .con ae :: .any :: .any :: .var .bool :: .var tI :: aN 22 [.con ah, .con tI], []⟩, [.bool, tI]), (.exit 0, ⟨53, .any :: .con ae :: aN 26 [.con ah, .con tI], []⟩, [])] }
def AC (ρ : Type) : bP ρ := ⟨[], 138, 0, N3, fun (p : Val (.pair ae (.pair ah tI))) (v : Val tI) kn kx => kD p.1 p.2.1 p.2.2 v (fun u0 => kn u0) (kx 0) (kx 1)⟩
def TI : List (Nat × bJ) := [(133, m8)]
def Ei (ρ : Type) : List (bP ρ) := [AD ρ, AC ρ]
def vP (ρ : Type) : Env ρ := bM TI (Ei ρ)
def wO : bJ := ⟨[aC, ae], [.bool], fun (x : Val (.pair aC ae)) => kZ x.1 x.2⟩
def C5 : List (Nat × bJ) := [(138, Vd)]
def oK (ρ : Type) : List (bP ρ) := []
def ta (ρ : Type) : Env ρ := bM C5 (oK ρ)
def Vh : bJ := ⟨[bg, ae], [.bool, tI], fun (x : Val (.pair bg ae)) => mE x.1 x.2⟩
def T2 : List (Nat × bJ) := [(38, dQ), (62, FZ), (67, pL), (68, wO)]
def EJ (ρ : Type) : List (bP ρ) := []
def L6 (ρ : Type) : Env ρ := bM T2 (EJ ρ)
def LF : bJ := ⟨[bg, bc], [tI], fun (x : Val aJ) => qy x.1 x.2⟩
def No : List (Nat × bJ) := [(60, gh)]
def wQ (ρ : Type) : List (bP ρ) := []
def D4 (ρ : Type) : Env ρ := bM No (wQ ρ)
def GO : bJ := ⟨[tI, bc], [.bool], fun (x : Val cw) => nD x.1 x.2⟩
def JY : List (Nat × bJ) := []
def tT (ρ : Type) : List (bP ρ) := []
def zG (ρ : Type) : Env ρ := bM JY (tT ρ)
def Qq : bJ := ⟨[bq, tI, tI], [ae, tI], fun (x : Val aM) => vl x.1 x.2.1 x.2.2⟩
def Q9 : List (Nat × bJ) := [(89, tN), (135, lg)]
def AB (ρ : Type) : List (bP ρ) := []
def HJ (ρ : Type) : Env ρ := bM Q9 (AB ρ)
def GQ : bJ := ⟨[bg, bc, .bool], [ae, tI], fun (x : Val aV) => gO x.1 x.2.1 x.2.2⟩
def Fq : bo := { pin := 3, cs := [tI, tI, tI, ac, aa, af, ab, aa, tI, tI, aa], vs := [tI, tI, tI, ac, aa, af, ab, aa], head := ⟨68, .any :: .any :: .box 3 0 :: aN 20 [.own 2, .con tI, .var tI], [.cells [.con tI, .con tI, .con ac, .con aa, .con af, .con ab, .con aa], .cells [.con tI, .con tI], .rowc bc, .cells [.var tI, .var tI, .var ac, .var aa, .var af, .var ab, .var aa]]⟩, exits := [(.ret, ⟨68, .any :: .any :: .box 3 0 :: .any :: .nilp :: .var tI :: aN 17 [.own 2, .con tI], [.cells [.con tI, .con tI, .con ac, .con aa, .con af, .con ab, .con aa], .cells [.con tI, .con tI], .rowc bc, .cells [.var tI, .var tI, .var ac, .var aa, .var af, .var ab, .var aa]]⟩, [tI, tI, tI, ac, aa, af, ab, aa]), (.exit 0, ⟨68, .any :: .any :: .box 3 0 :: aN 20 [.own 2, .con tI], [.cells [.con tI, .con tI, .con ac, .con aa, .con af, .con ab, .con aa], .cells [.con tI, .con tI], .rowc bc, .cells [.var tI, .var tI, .var ac, .var aa, .var af, .var ab, .var aa]]⟩, [tI, tI, ac, aa, af, ab, aa])] }
def sQ (ρ : Type) : bP ρ := ⟨[1, 3], 50, 0, Fq, fun (p : Val (.pair tI (.pair tI (.pair tI (.pair ac (.pair aa (.pair af (.pair ab (.pair aa aB))))))))) (v : Val az) kn kx => ph p.1 p.2.2.2.2.2.2.2.2.2.2 v.1 v.2.1 v.2.2.1 v.2.2.2.1 v.2.2.2.2.1 v.2.2.2.2.2.1 v.2.2.2.2.2.2.1 v.2.2.2.2.2.2.2 (fun u0 u1 u2 u3 u4 u5 u6 u7 => kn (u0, u1, u2, u3, u4, u5, u6, u7)) (kx 0) (kx 1)⟩
def Kq : List (Nat × bJ) := [(20, eu), (38, dQ), (55, ij), (60, gh), (61, kR), (75, Qq), (123, dX)]
def uw (ρ : Type) : List (bP ρ) := [sQ ρ]
def rk (ρ : Type) : Env ρ := bM Kq (uw ρ)
def jD : bJ := ⟨[bg, bc, bc, ae], [.bool], fun (x : Val (.pair bg (.pair bc (.pair bc ae)))) => nE x.1 x.2.1 x.2.2.1 x.2.2.2⟩
def wq : bo := { pin := 0, cs := [ae, tI, tI, tI, tI, tI, tI, tI, ac, aa, af, ab, aa, tI, tI, tI, tI], vs := [tI], head := ⟨191, [.any, .any, .any, .con ae, .any, .box 0 0, .any, .any, .any, .box 1 0, .any, .box 2 0, .con tI, .box 3 0, .any, .con tI, .con tI, .var tI], [.cells [.con tI, .con tI], .cells [.con tI, .con tI, .con ac, .con aa, .con af, .con ab, .con aa], .cells [.con tI, .con tI], .cells [.con tI, .con tI]]⟩, exits := [(.ret, ⟨191, [.any, .any, .any, .con ae, .any, .box 0 0, .any, .any, .var .bool, .box 1 0, .any, .box 2 0, .con tI, .box 3 0, .any, .con tI, .con tI], [.cells [.con tI, .con tI], .cells [.con tI, .con tI, .con ac, .con aa, .con af, .con ab, .con aa], .cells [.con tI, .con tI], .cells [.con tI, .con tI]]⟩, [.bool]), (.exit 0, ⟨191, [.any, .any, .any, .con ae, .any, .box 0 0, .any, .any, .any, .box 1 0, .any, .box 2 0, .con tI, .box 3 0, .any, .con tI, .con tI], [.cells [.con tI, .con tI], .cells [.con tI, .con tI, .con ac, .con aa, .con af, .con ab, .con aa], .cells [.con tI, .con tI], .cells [.con tI, .con tI]]⟩, [])] }
def md (ρ : Type) : bP ρ := ⟨[], 7, 0, wq, fun (p : Val (.pair ae (.pair tI (.pair tI (.pair tI (.pair tI aF)))))) (v : Val tI) kn kx => ew p.2.1 p.2.2.1 p.2.2.2.2.1 p.2.2.2.2.2.1 p.2.2.2.2.2.2.1 p.2.2.2.2.2.2.2.1 p.2.2.2.2.2.2.2.2.1 p.2.2.2.2.2.2.2.2.2.1 p.2.2.2.2.2.2.2.2.2.2.1 p.2.2.2.2.2.2.2.2.2.2.2.1 p.2.2.2.2.2.2.2.2.2.2.2.2.1 p.2.2.2.2.2.2.2.2.2.2.2.2.2.1 p.2.2.2.2.2.2.2.2.2.2.2.2.2.2.1 v (fun u0 => kn u0) (kx 0) (kx 1)⟩
def zI : List (Nat × bJ) := [(13, U9), (14, GN), (15, tM), (17, xN), (19, Qj), (23, Vh), (27, LF), (28, GO), (32, GQ)]
def nc (ρ : Type) : List (bP ρ) := [md ρ]
def kj (ρ : Type) : Env ρ := bM zI (nc ρ)
end Go.Proofs.ZzM
end
