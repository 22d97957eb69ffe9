/- lemmas -/
import Derived.Test.YthhhehllmdfhiaaGreatAmE
import Derived.KernelRfl
import Derived.Test.YthhhehllmdfhiaaGreatMdTA
import Derived.Test.YthhhehllmdfhiaaGreatProg
set_option linter.all false
set_option linter.unusedSectionVars false
set_option linter.unusedVariables false
set_option linter.unusedSimpArgs false
noncomputable section
set_option maxRecDepth 100000
namespace Go.Proofs.ZzM
open Go Go.Am
def II : Nat → Bool
  | 91 => true
  | 140 => true
  | 229 => true
  | 230 => true
  | 231 => true
  | 232 => true
  | 233 => true
  | _ => false
def RP : Nat → Bool
  | 127 => true
  | _ => false
def ve : Nat → Bool
  | 128 => true
  | _ => false
def isInl : Nat → Bool
  | 2 => true
  | 50 => true
  | 66 => true
  | 74 => true
  | 84 => true
  | 92 => true
  | 93 => true
  | 98 => true
  | 100 => true
  | 124 => true
  | 131 => true
  | 132 => true
  | 136 => true
  | 137 => true
  | 139 => true
  | 141 => true
  | 147 => true
  | 148 => true
  | 149 => true
  | 150 => true
  | 151 => true
  | 152 => true
  | 153 => true
  | 154 => true
  | 155 => true
  | 157 => true
  | 158 => true
  | 159 => true
  | 160 => true
  | 161 => true
  | 165 => true
  | 169 => true
  | 170 => true
  | 175 => true
  | 176 => true
  | 178 => true
  | 193 => true
  | 194 => true
  | 195 => true
  | 196 => true
  | 199 => true
  | 201 => true
  | 202 => true
  | 203 => true
  | 204 => true
  | 206 => true
  | 207 => true
  | 208 => true
  | 209 => true
  | 211 => true
  | 212 => true
  | 214 => true
  | 215 => true
  | 217 => true
  | 218 => true
  | 220 => true
  | 221 => true
  | 222 => true
  | 242 => true
  | 243 => true
  | 244 => true
  | 245 => true
  | 246 => true
  | 247 => true
  | 249 => true
  | 250 => true
  | 253 => true
  | 255 => true
  | 257 => true
  | 261 => true
  | 269 => true
  | 270 => true
  | 272 => true
  | 273 => true
  | 275 => true
  | 276 => true
  | 279 => true
  | 280 => true
  | 286 => true
  | 288 => true
  | 289 => true
  | _ => false
def isFz : Nat → Bool
  | 59 => true
  | 79 => true
  | 94 => true
  | _ => false
def isEat : Nat → Nat → Bool
  | 41, 8 => true
  | 41, 11 => true
  | 49, 4 => true
  | 49, 5 => true
  | 50, 67 => true
  | 176, 25 => true
  | 202, 0 => true
  | _, _ => false
def bL {ρ : Type} (pt : List (Nat × bI)) (tab : List (bQ ρ)) : Env ρ :=
  { P := Tryz.prog, eat := isEat, clone := II, sort := RP, compact := ve, inl := isInl, fz := isFz, pure := WL pt, loops := mr tab }
def abK {ρ : Type} (pt : List (Nat × bI)) (tab : List (bQ ρ)) (us : List Z2) : Env ρ :=
  { P := Tryz.prog, eat := isEat, clone := II, sort := RP, compact := ve, inl := isInl, fz := isFz, pure := WL pt, loops := RG (bL pt tab) us }
end Go.Proofs.ZzM
end

noncomputable section
set_option maxRecDepth 100000
namespace Go.Proofs.ZzM
open Go Go.Am
def xT : bI := ⟨[bg], [ao], fun (x : Val bg) => fW x⟩
def FC : bn := { pin := 0, cs := [ae, tI], vs := [tI, ao], head := ⟨20, .any :: .any :: .any :: .omp 0 :: aN 4 [.con ae, .con tI, .var tI], [.mapv tI br]⟩, exits := [(.exit 0, ⟨20, .any :: .any :: .any :: .omp 0 :: aN 4 [.con ae, .con tI], [.mapv tI br]⟩, [ao])] }
def s7 (ρ : Type) : bQ ρ := ⟨[], 53, 0, FC, fun (p : Val (.pair ae tI)) (v : Val (.pair tI ao)) kn kx => la p.1 p.2 v.1 v.2 (fun u0 u1 => kn (u0, u1)) (kx 0)⟩
def KO : List (Nat × bI) := []
def uJ (ρ : Type) : List (bQ ρ) := [s7 ρ]
def rD (ρ : Type) : Env ρ := bL KO (uJ ρ)
def pJ : bI := ⟨[bc, tI, tI], [.bool], fun (x : Val cg) => fG x.1 x.2.1 x.2.2⟩
def OD : List (Nat × bI) := []
def xv (ρ : Type) : List (bQ ρ) := []
def EC (ρ : Type) : Env ρ := bL OD (xv ρ)
def iB : bI := ⟨[tI, tI, tI], [.bool], fun (x : Val cA) => cF x.1 x.2.1 x.2.2⟩
def Oi : List (Nat × bI) := []
def xp (ρ : Type) : List (bQ ρ) := []
def Ex (ρ : Type) : Env ρ := bL Oi (xp ρ)
def zu : bI := ⟨[tI], [.bool], fun (x : Val tI) => lQ x⟩
def Rv : List (Nat × bI) := [(126, iB)]
def A9 (ρ : Type) : List (bQ ρ) := []
def Iu (ρ : Type) : Env ρ := bL Rv (A9 ρ)
def M4 : bI := ⟨[tI], [(.int .u64)], fun (x : Val tI) => oP x⟩
def TM : List (Nat × bI) := []
def Er (ρ : Type) : List (bQ ρ) := []
def L2 (ρ : Type) : Env ρ := bL TM (Er ρ)
def Tn : bI := ⟨[(.int .u64), (.int .u64)], [(.int .u64)], fun (x : Val aW) => I5 x.1 x.2⟩
def Rf : bn := { pin := 0, cs := [], vs := [(.int .u64), (.int .u64)], head := ⟨12, [.var (.int .u64), .var (.int .u64)], []⟩, exits := [(.exit 0, ⟨12, [.var (.int .u64)], []⟩, [(.int .u64)])] }
def Es (ρ : Type) : bQ ρ := ⟨[], 260, 0, Rf, fun (p : Unit) (v : Val aW) kn kx => vQ v.1 v.2 (fun u0 u1 => kn (u0, u1)) (kx 0)⟩
def Wz : List (Nat × bI) := []
def HZ (ρ : Type) : List (bQ ρ) := [Es ρ]
def H4 (ρ : Type) : Env ρ := bL Wz (HZ ρ)
def zp : bI := ⟨[bc], [.bool], fun (x : Val bc) => qA x⟩
def Ri : List (Nat × bI) := [(259, M4), (260, Tn)]
def AP (ρ : Type) : List (bQ ρ) := []
def H8 (ρ : Type) : Env ρ := bL Ri (AP ρ)
def GO : bI := ⟨[br], [.bool], fun (x : Val br) => sh x⟩
def K3 : List (Nat × bI) := [(82, pJ), (125, zu), (126, iB), (219, zp)]
def uR (ρ : Type) : List (bQ ρ) := []
def A8 (ρ : Type) : Env ρ := bL K3 (uR ρ)
def tN : bI := ⟨[bg], [tI], fun (x : Val bg) => fi x⟩
def wC : bn := { pin := 0, cs := [ae, tI, tI, tI, ae, aa, af, ab, aa], vs := [tI], head := ⟨31, .any :: .box 0 0 :: aN 4 [.con ae, .con tI, .var tI], [.cells [.con tI, .con tI, .con ae, .con aa, .con af, .con ab, .con aa]]⟩, exits := [(.ret, ⟨31, [.any, .box 0 0, .var tI, .any, .any, .any, .con ae, .con tI], [.cells [.con tI, .con tI, .con ae, .con aa, .con af, .con ab, .con aa]]⟩, [tI]), (.exit 0, ⟨31, .any :: .box 0 0 :: aN 4 [.con ae, .con tI], [.cells [.con tI, .con tI, .con ae, .con aa, .con af, .con ab, .con aa]]⟩, [])] }
def mf (ρ : Type) : bQ ρ := ⟨[], 83, 0, wC, fun (p : Val (.pair ae aC)) (v : Val tI) kn kx => ii p.1 p.2.1 p.2.2.2.2.1 v (fun u0 => kn u0) (kx 0) (kx 1)⟩
def Bg : List (Nat × bI) := [(162, GO)]
def nr (ρ : Type) : List (bQ ρ) := [mf ρ]
def kI (ρ : Type) : Env ρ := bL Bg (nr ρ)
def pG : bI := ⟨[ac, tI], [tI], fun (x : Val az) => iI x.1 x.2⟩
def ti : bn := { pin := 0, cs := [ac, tI, tI], vs := [tI], head := ⟨19, .con ac :: .con tI :: aN 5 [.con tI, .var tI], []⟩, exits := [(.ret, ⟨19, [.con ac, .con tI, .any, .any, .var tI, .any, .any, .con tI], []⟩, [tI]), (.exit 0, ⟨19, .con ac :: .con tI :: aN 5 [.con tI], []⟩, [])] }
def ke (ρ : Type) : bQ ρ := ⟨[], 73, 0, ti, fun (p : Val (.pair ac bc)) (v : Val tI) kn kx => gc p.1 p.2.1 p.2.2 v (fun u0 => kn u0) (kx 0) (kx 1)⟩
def wt : List (Nat × bI) := []
def lp (ρ : Type) : List (bQ ρ) := [ke ρ]
def jd (ρ : Type) : Env ρ := bL wt (lp ρ)
def eI : bI := ⟨[ac, tI], [.bool], fun (x : Val az) => cn x.1 x.2⟩
def qV : List (Nat × bI) := [(73, pG)]
def jt (ρ : Type) : List (bQ ρ) := []
def kf (ρ : Type) : Env ρ := bL qV (jt ρ)
def M7 : bI := ⟨[bg, br], [ac], fun (x : Val (.pair bg br)) => mA x.1 x.2⟩
def OI : bn := { pin := 0, cs := [ab, tI, tI, tI, ae, aa, af, ab, aa, tI, tI, tI, tI, tI, tI, tI, tI], vs := [tI, ac], head := ⟨59, .any :: .any :: .box 0 0 :: .box 1 0 :: .any :: .own 2 :: aN 8 [.con ab, .con tI, .var tI], [.cells [.con tI, .con tI, .con ae, .con aa, .con af, .con ab, .con aa], .cells [.con tI, .con tI, .con tI, .con tI, .con tI, .con tI, .con tI, .con tI], .rowv tI]⟩, exits := [(.exit 0, ⟨59, .any :: .any :: .box 0 0 :: .box 1 0 :: .any :: .own 2 :: aN 8 [.con ab, .con tI], [.cells [.con tI, .con tI, .con ae, .con aa, .con af, .con ab, .con aa], .cells [.con tI, .con tI, .con tI, .con tI, .con tI, .con tI, .con tI, .con tI], .rowv tI]⟩, [ac])] }
def Bc (ρ : Type) : bQ ρ := ⟨[], 168, 0, OI, fun (p : Val (.pair ab aH)) (v : Val ax) kn kx => rQ p.1 p.2.1 p.2.2.2.2.2.2.2.2.2.1 v.1 v.2 (fun u0 u1 => kn (u0, u1)) (kx 0)⟩
def OH : bn := { pin := 0, cs := [aa, tI, tI, tI, tI, tI, tI, tI, tI, tI], vs := [tI, ac], head := ⟨59, .any :: .any :: .any :: .box 0 0 :: .any :: .own 1 :: aN 32 [.con aa, .con tI, .var tI], [.cells [.con tI, .con tI, .con tI, .con tI, .con tI, .con tI, .con tI, .con tI], .rowv tI]⟩, exits := [(.exit 2, ⟨59, .any :: .any :: .any :: .box 0 0 :: .any :: .own 1 :: aN 32 [.con aa, .con tI], [.cells [.con tI, .con tI, .con tI, .con tI, .con tI, .con tI, .con tI, .con tI], .rowv tI]⟩, [ac])] }
def Bb (ρ : Type) : bQ ρ := ⟨[], 168, 2, OH, fun (p : Val (.pair aa (.pair tI ar))) (v : Val ax) kn kx => rP p.1 p.2.1 p.2.2.1 v.1 v.2 (fun u0 u1 => kn (u0, u1)) (kx 0)⟩
def T0 : List (Nat × bI) := [(65, eI)]
def EE (ρ : Type) : List (bQ ρ) := [Bc ρ, Bb ρ]
def vT (ρ : Type) : Env ρ := bL T0 (EE ρ)
def zt : bI := ⟨[bg], [aa], fun (x : Val bg) => nH x⟩
def KQ : bn := { pin := 0, cs := [ae, tI, tI, ac, tI, tI, tI, ae, aa, af, ab, aa, tI, tI, tI, tI, tI, tI, tI, tI], vs := [tI, aa], head := ⟨33, .any :: .box 0 0 :: .any :: .own 1 :: .any :: .box 2 0 :: .any :: .any :: .any :: .con ae :: .con tI :: .con tI :: aN 5 [.con ac, .con tI, .var tI], [.cells [.con tI, .con tI, .con ae, .con aa, .con af, .con ab, .con aa], .rowv bc, .cells [.con tI, .con tI, .con tI, .con tI, .con tI, .con tI, .con tI, .con tI]]⟩, exits := [(.exit 2, ⟨33, .any :: .box 0 0 :: .any :: .own 1 :: .any :: .box 2 0 :: .any :: .any :: .any :: .con ae :: .con tI :: .con tI :: aN 5 [.con ac, .con tI], [.cells [.con tI, .con tI, .con ae, .con aa, .con af, .con ab, .con aa], .rowv bc, .cells [.con tI, .con tI, .con tI, .con tI, .con tI, .con tI, .con tI, .con tI]]⟩, [aa])] }
def xq (ρ : Type) : bQ ρ := ⟨[], 85, 2, KQ, fun (p : Val (.pair ae (.pair tI (.pair tI (.pair ac aH))))) (v : Val aA) kn kx => oF p.2.2.2.1 p.2.2.2.2.1 p.2.2.2.2.2.2.2.2.2.2.2.2.1 v.1 v.2 (fun u0 u1 => kn (u0, u1)) (kx 0)⟩
def KR : bn := { pin := 0, cs := [ae, tI, tI, tI, ae, aa, af, ab, aa], vs := [tI, aa], head := ⟨33, .any :: .box 0 0 :: .any :: .own 1 :: aN 5 [.con ae, .con tI, .var tI], [.cells [.con tI, .con tI, .con ae, .con aa, .con af, .con ab, .con aa], .rowv bc]⟩, exits := [(.exit 0, ⟨33, .any :: .box 0 0 :: .any :: .own 1 :: aN 5 [.con ae, .con tI], [.cells [.con tI, .con tI, .con ae, .con aa, .con af, .con ab, .con aa], .rowv bc]⟩, [aa])] }
def xr (ρ : Type) : bQ ρ := ⟨[], 85, 0, KR, fun (p : Val (.pair ae aC)) (v : Val aA) kn kx => oG p.1 p.2.1 p.2.2.1 p.2.2.2.1 p.2.2.2.2.1 p.2.2.2.2.2.1 p.2.2.2.2.2.2.1 p.2.2.2.2.2.2.2.1 p.2.2.2.2.2.2.2.2 v.1 v.2 (fun u0 u1 => kn (u0, u1)) (kx 0)⟩
def Rr : List (Nat × bI) := [(168, M7)]
def AZ (ρ : Type) : List (bQ ρ) := [xq ρ, xr ρ]
def rH (ρ : Type) : Env ρ := bL Rr (AZ ρ)
def kV : bI := ⟨[ao, tI, tI], [tI], fun (x : Val (.pair ao bc)) => gY x.1 x.2.1 x.2.2⟩
def C0 : List (Nat × bI) := []
def oE (ρ : Type) : List (bQ ρ) := []
def s8 (ρ : Type) : Env ρ := bL C0 (oE ρ)
def Tq : bI := ⟨[tI, tI, (.ptr ao)], [tI], fun (x : Val (.pair tI (.pair tI (.ptr ao)))) => dI x.1 x.2.1 x.2.2⟩
def KP : List (Nat × bI) := [(125, zu), (164, kV)]
def uM (ρ : Type) : List (bQ ρ) := []
def AY (ρ : Type) : Env ρ := bL KP (uM ρ)
def M8 : bI := ⟨[bg, ao, tI], [tI], fun (x : Val aX) => fK x.1 x.2.1 x.2.2⟩
def Bf : bn := { pin := 2, cs := [af, tI, tI, tI, ae, aa, af, ab, aa, tI, tI, tI, tI], vs := [tI], head := ⟨19, .con af :: .fn 220 [(1, 0)] :: aN 5 [.con tI, .var tI], [.cells [.con tI, .con tI, .con ae, .con aa, .con af, .con ab, .con aa], .cells [.con tI, .con tI, .con tI, .con tI]]⟩, exits := [(.ret, ⟨19, [.con af, .fn 220 [(1, 0)], .any, .any, .var tI, .any, .any, .con tI], [.cells [.con tI, .con tI, .con ae, .con aa, .con af, .con ab, .con aa], .cells [.con tI, .con tI, .con tI, .con tI]]⟩, [tI]), (.exit 0, ⟨19, .con af :: .fn 220 [(1, 0)] :: aN 5 [.con tI], [.cells [.con tI, .con tI, .con ae, .con aa, .con af, .con ab, .con aa], .cells [.con tI, .con tI, .con tI, .con tI]]⟩, [])] }
def oJ (ρ : Type) : bQ ρ := ⟨[9, 5, 1, 2], 257, 0, Bf, fun (p : Val (.pair af (.pair tI (.pair tI (.pair tI (.pair ae (.pair aa (.pair af (.pair ab (.pair aa (.pair tI cA))))))))))) (v : Val tI) kn kx => i8 p.1 p.2.1 p.2.2.2.2.2.2.2.2.2.1 p.2.2.2.2.2.2.2.2.2.2.1 p.2.2.2.2.2.2.2.2.2.2.2.1 v (fun u0 => kn u0) (kx 0) (kx 1)⟩
def Be : bn := { pin := 2, cs := [aa, tI, tI, tI, ae, aa, af, ab, aa, tI, tI, tI, tI], vs := [tI], head := ⟨19, .con aa :: .fn 221 [(1, 0)] :: aN 5 [.con tI, .var tI], [.cells [.con tI, .con tI, .con ae, .con aa, .con af, .con ab, .con aa], .cells [.con tI, .con tI, .con tI, .con tI]]⟩, exits := [(.ret, ⟨19, [.con aa, .fn 221 [(1, 0)], .any, .any, .var tI, .any, .any, .con tI], [.cells [.con tI, .con tI, .con ae, .con aa, .con af, .con ab, .con aa], .cells [.con tI, .con tI, .con tI, .con tI]]⟩, [tI]), (.exit 0, ⟨19, .con aa :: .fn 221 [(1, 0)] :: aN 5 [.con tI], [.cells [.con tI, .con tI, .con ae, .con aa, .con af, .con ab, .con aa], .cells [.con tI, .con tI, .con tI, .con tI]]⟩, [])] }
def oI (ρ : Type) : bQ ρ := ⟨[9, 10, 1, 2], 255, 0, Be, fun (p : Val (.pair aa (.pair tI (.pair tI (.pair tI (.pair ae (.pair aa (.pair af (.pair ab (.pair aa (.pair tI cA))))))))))) (v : Val tI) kn kx => fF p.1 p.2.1 p.2.2.2.2.2.2.2.2.2.1 p.2.2.2.2.2.2.2.2.2.2.1 p.2.2.2.2.2.2.2.2.2.2.2.1 v (fun u0 => kn u0) (kx 0) (kx 1)⟩
def FH : List (Nat × bI) := [(82, pJ), (126, iB), (164, kV)]
def qn (ρ : Type) : List (bQ ρ) := [oJ ρ, oI ρ]
def jT (ρ : Type) : Env ρ := bL FH (qn ρ)
def vI : bI := ⟨[ac, ac], [ac], fun (x : Val (.pair ac ac)) => eO x.1 x.2⟩
def Oz : bn := { pin := 2, cs := [tI, ac, ac], vs := [tI], head := ⟨19, .own 1 :: .fn 170 [(0, 0)] :: aN 5 [.con tI, .var tI], [.cells [.con ac], .rowc tI]⟩, exits := [(.ret, ⟨19, [.own 1, .fn 170 [(0, 0)], .any, .any, .var tI, .any, .any, .con tI], [.cells [.con ac], .rowc tI]⟩, [tI]), (.exit 0, ⟨19, .own 1 :: .fn 170 [(0, 0)] :: aN 5 [.con tI], [.cells [.con ac], .rowc tI]⟩, [])] }
def A7 (ρ : Type) : bQ ρ := ⟨[1, 3, 1, 2], 178, 0, Oz, fun (p : Val (.pair tI (.pair ac ac))) (v : Val tI) kn kx => rO p.1 p.2.1 p.2.2 v (fun u0 => kn u0) (kx 0) (kx 1)⟩
def Oy : bn := { pin := 2, cs := [ac], vs := [tI, tI, ac], head := ⟨42, [.own 1, .fn 170 [(0, 0)], .any, .any, .any, .var tI, .var tI], [.cells [.con ac], .rowv tI]⟩, exits := [(.exit 0, ⟨42, [.own 1, .fn 170 [(0, 0)], .any, .any, .any, .var tI], [.cells [.con ac], .rowv tI]⟩, [tI, ac])] }
def A6 (ρ : Type) : bQ ρ := ⟨[1, 3], 169, 0, Oy, fun (p : Val ac) (v : Val (.pair tI ax)) kn kx => jk p v.1 v.2.1 v.2.2 (fun u0 u1 u2 => kn (u0, u1, u2)) (kx 0)⟩
def TZ : List (Nat × bI) := [(65, eI)]
def EB (ρ : Type) : List (bQ ρ) := [A7 ρ, A6 ρ]
def vS (ρ : Type) : Env ρ := bL TZ (EB ρ)
def eh : bI := ⟨[am], [ac], fun (x : Val am) => bS x⟩
def qX : bn := { pin := 0, cs := [am, am, tI], vs := [tI, tI], head := ⟨36, .con am :: .any :: .any :: .var tI :: aN 5 [.con am, .con tI, .var tI], []⟩, exits := [(.exit 0, ⟨36, .con am :: .any :: .any :: .var tI :: aN 5 [.con am, .con tI], []⟩, [tI])] }
def jQ (ρ : Type) : bQ ρ := ⟨[], 94, 0, qX, fun (p : Val (.pair am (.pair am tI))) (v : Val bc) kn kx => dn p.2.1 p.2.2 v.1 v.2 (fun u0 u1 => kn (u0, u1)) (kx 0)⟩
def qW : bn := { pin := 0, cs := [am, tI], vs := [tI, ac], head := ⟨36, aN 6 (.own 0 :: aN 18 [.con am, .con tI, .var tI]), [.rowv tI]⟩, exits := [(.exit 2, ⟨36, aN 6 (.own 0 :: aN 18 [.con am, .con tI]), [.rowv tI]⟩, [ac])] }
def jP (ρ : Type) : bQ ρ := ⟨[], 94, 2, qW, fun (p : Val (.pair am tI)) (v : Val ax) kn kx => bW p.1 p.2 v.1 v.2 (fun u0 u1 => kn (u0, u1)) (kx 0)⟩
def tV : List (Nat × bI) := []
def kg (ρ : Type) : List (bQ ρ) := [jQ ρ, jP ρ]
def gd (ρ : Type) : Env ρ := bL tV (kg ρ)
def Ce : bI := ⟨[ac], [.bool], fun (x : Val ac) => kR x⟩
def Iq : bn := { pin := 0, cs := [ac, ac, tI], vs := [tI], head := ⟨32, .con ac :: aN 4 [.con ac, .con tI, .var tI], []⟩, exits := [(.ret, ⟨32, [.con ac, .any, .var .bool, .any, .any, .con ac, .con tI], []⟩, [.bool]), (.exit 0, ⟨32, .con ac :: aN 4 [.con ac, .con tI], []⟩, [])] }
def uP (ρ : Type) : bQ ρ := ⟨[], 198, 0, Iq, fun (p : Val (.pair ac az)) (v : Val tI) kn kx => mq p.1 p.2.1 p.2.2 v (fun u0 => kn u0) (kx 0) (kx 1)⟩
def OB : List (Nat × bI) := [(126, iB)]
def xu (ρ : Type) : List (bQ ρ) := [uP ρ]
def uQ (ρ : Type) : Env ρ := bL OB (xu ρ)
def Vd : bI := ⟨[bg, tI, tI], [dC, .bool], fun (x : Val aI) => wg x.1 x.2.1 x.2.2⟩
def OK : bn := { pin := 4, cs := [af, tI, tI, tI, ae, aa, af, ab, aa, tI, tI, tI, tI, tI, tI], vs := [tI], head := ⟨19, .con af :: .fn 261 [(1, 0), (2, 0)] :: aN 5 [.con tI, .var tI], [.cells [.con tI, .con tI, .con ae, .con aa, .con af, .con ab, .con aa], .cells [.con tI], .cells [.con tI], .cells [.con tI, .con tI, .con tI, .con tI]]⟩, exits := [(.ret, ⟨19, [.con af, .fn 261 [(1, 0), (2, 0)], .any, .any, .var tI, .any, .any, .con tI], [.cells [.con tI, .con tI, .con ae, .con aa, .con af, .con ab, .con aa], .cells [.con tI], .cells [.con tI], .cells [.con tI, .con tI, .con tI, .con tI]]⟩, [tI]), (.exit 0, ⟨19, .con af :: .fn 261 [(1, 0), (2, 0)] :: aN 5 [.con tI], [.cells [.con tI, .con tI, .con ae, .con aa, .con af, .con ab, .con aa], .cells [.con tI], .cells [.con tI], .cells [.con tI, .con tI, .con tI, .con tI]]⟩, [])] }
def Bh (ρ : Type) : bQ ρ := ⟨[1, 3], 257, 0, OK, fun (p : Val (.pair af (.pair tI (.pair tI (.pair tI (.pair ae (.pair aa (.pair af (.pair ab (.pair aa (.pair tI (.pair tI (.pair tI cA))))))))))))) (v : Val tI) kn kx => rS p.1 p.2.1 p.2.2.2.2.2.2.2.2.2.1 p.2.2.2.2.2.2.2.2.2.2.1 v (fun u0 => kn u0) (kx 0) (kx 1)⟩
def T1 : List (Nat × bI) := [(126, iB)]
def EF (ρ : Type) : List (bQ ρ) := [Bh ρ]
def C8 (ρ : Type) : Env ρ := bL T1 (EF ρ)
def E8 : bI := ⟨[bg, ao, tI], [tI], fun (x : Val aX) => dK x.1 x.2.1 x.2.2⟩
def uW : bn := { pin := 2, cs := [ab, tI, tI, tI, ae, aa, af, ab, aa, tI, tI, ac, ac, tI, tI, tI, tI], vs := [tI], head := ⟨19, .con ab :: .fn 222 [(1, 0)] :: aN 5 [.con tI, .var tI], [.cells [.con tI, .con tI, .con ae, .con aa, .con af, .con ab, .con aa], .cells [.con tI, .con tI, .con ac, .con ac, .con tI, .con tI, .con tI, .con tI]]⟩, exits := [(.ret, ⟨19, [.con ab, .fn 222 [(1, 0)], .any, .any, .var tI, .any, .any, .con tI], [.cells [.con tI, .con tI, .con ae, .con aa, .con af, .con ab, .con aa], .cells [.con tI, .con tI, .con ac, .con ac, .con tI, .con tI, .con tI, .con tI]]⟩, [tI]), (.exit 0, ⟨19, .con ab :: .fn 222 [(1, 0)] :: aN 5 [.con tI], [.cells [.con tI, .con tI, .con ae, .con aa, .con af, .con ab, .con aa], .cells [.con tI, .con tI, .con ac, .con ac, .con tI, .con tI, .con tI, .con tI]]⟩, [])] }
def lI (ρ : Type) : bQ ρ := ⟨[4, 5, 1, 2], 207, 0, uW, fun (p : Val (.pair ab (.pair tI (.pair tI (.pair tI (.pair ae (.pair aa (.pair af (.pair ab (.pair aa bq)))))))))) (v : Val tI) kn kx => gK p.1 p.2.1 p.2.2.2.2.2.2.2.2.2.1 v (fun u0 => kn u0) (kx 0) (kx 1)⟩
def uU : bn := { pin := 0, cs := [ao, ac, tI, tI, tI, ac, tI, tI, tI, ae, aa, af, ab, aa, tI, tI, ac, ac, tI, tI, tI, tI, ac], vs := [tI], head := ⟨140, .any :: .con ao :: .any :: .box 0 0 :: .any :: .any :: .any :: .box 1 0 :: .con ac :: .any :: .con tI :: aN 65 [.own 2, .con tI, .con tI, .any, .any, .any, .con ac, .con tI, .var tI], [.cells [.con tI, .con tI, .con ae, .con aa, .con af, .con ab, .con aa], .cells [.con tI, .con tI, .con ac, .con ac, .con tI, .con tI, .con tI, .con tI], .rowc tI]⟩, exits := [(.ret, ⟨140, .any :: .con ao :: .any :: .box 0 0 :: .any :: .any :: .var tI :: .box 1 0 :: .con ac :: .any :: .con tI :: aN 65 [.own 2, .con tI, .con tI, .any, .any, .any, .con ac, .con tI], [.cells [.con tI, .con tI, .con ae, .con aa, .con af, .con ab, .con aa], .cells [.con tI, .con tI, .con ac, .con ac, .con tI, .con tI, .con tI, .con tI], .rowc tI]⟩, [tI]), (.exit 2, ⟨140, .any :: .con ao :: .any :: .box 0 0 :: .any :: .any :: .any :: .box 1 0 :: .con ac :: .any :: .con tI :: aN 65 [.own 2, .con tI, .con tI, .any, .any, .any, .con ac, .con tI], [.cells [.con tI, .con tI, .con ae, .con aa, .con af, .con ab, .con aa], .cells [.con tI, .con tI, .con ac, .con ac, .con tI, .con tI, .con tI, .con tI], .rowc tI]⟩, [])] }
def lG (ρ : Type) : bQ ρ := ⟨[], 167, 2, uU, fun (p : Val (.pair ao (.pair ac (.pair tI (.pair tI (.pair tI (.pair ac (.pair tI (.pair tI (.pair tI (.pair ae (.pair aa (.pair af (.pair ab (.pair aa (.pair tI (.pair tI (.pair ac (.pair ac (.pair tI aD)))))))))))))))))))) (v : Val tI) kn kx => gJ p.1 p.2.2.1 p.2.2.2.2.2.1 p.2.2.2.2.2.2.1 p.2.2.2.2.2.2.2.2.2.2.2.2.2.2.2.1 v (fun u0 => kn u0) (kx 0) (kx 1)⟩
def uV : bn := { pin := 0, cs := [ao, ac, tI, tI, tI, ae, aa, af, ab, aa, tI, tI, ac, ac, tI, tI, tI, tI, ac], vs := [tI], head := ⟨140, .any :: .con ao :: .any :: .box 0 0 :: .any :: .any :: .any :: .box 1 0 :: .con ac :: aN 67 [.own 2, .con tI, .var tI], [.cells [.con tI, .con tI, .con ae, .con aa, .con af, .con ab, .con aa], .cells [.con tI, .con tI, .con ac, .con ac, .con tI, .con tI, .con tI, .con tI], .rowc tI]⟩, exits := [(.ret, ⟨140, .any :: .con ao :: .any :: .box 0 0 :: .any :: .any :: .var tI :: .box 1 0 :: .con ac :: aN 67 [.own 2, .con tI], [.cells [.con tI, .con tI, .con ae, .con aa, .con af, .con ab, .con aa], .cells [.con tI, .con tI, .con ac, .con ac, .con tI, .con tI, .con tI, .con tI], .rowc tI]⟩, [tI]), (.exit 0, ⟨140, .any :: .con ao :: .any :: .box 0 0 :: .any :: .any :: .any :: .box 1 0 :: .con ac :: aN 67 [.own 2, .con tI], [.cells [.con tI, .con tI, .con ae, .con aa, .con af, .con ab, .con aa], .cells [.con tI, .con tI, .con ac, .con ac, .con tI, .con tI, .con tI, .con tI], .rowc tI]⟩, [])] }
def lH (ρ : Type) : bQ ρ := ⟨[], 167, 0, uV, fun (p : Val (.pair ao (.pair ac (.pair tI (.pair tI (.pair tI (.pair ae (.pair aa (.pair af (.pair ab (.pair aa (.pair tI (.pair tI (.pair ac (.pair ac (.pair tI aD)))))))))))))))) (v : Val tI) kn kx => dS p.1 p.2.1 p.2.2.1 p.2.2.2.2.2.2.2.2.2.2.2.1 p.2.2.2.2.2.2.2.2.2.2.2.2.2.2.2.2.2.2 v (fun u0 => kn u0) (kx 0) (kx 1)⟩
def uT : bn := { pin := 0, cs := [ac, tI, tI, tI, ae, aa, af, ab, aa, tI, tI, ac, ac, tI, tI, tI, tI], vs := [tI], head := ⟨140, .any :: .any :: .any :: .box 0 0 :: .any :: .any :: .any :: .box 1 0 :: aN 90 [.con ac, .con tI, .var tI], [.cells [.con tI, .con tI, .con ae, .con aa, .con af, .con ab, .con aa], .cells [.con tI, .con tI, .con ac, .con ac, .con tI, .con tI, .con tI, .con tI]]⟩, exits := [(.ret, ⟨140, .any :: .any :: .any :: .box 0 0 :: .any :: .any :: .var tI :: .box 1 0 :: aN 90 [.con ac, .con tI], [.cells [.con tI, .con tI, .con ae, .con aa, .con af, .con ab, .con aa], .cells [.con tI, .con tI, .con ac, .con ac, .con tI, .con tI, .con tI, .con tI]]⟩, [tI]), (.exit 4, ⟨140, .any :: .any :: .any :: .box 0 0 :: .any :: .any :: .any :: .box 1 0 :: aN 90 [.con ac, .con tI], [.cells [.con tI, .con tI, .con ae, .con aa, .con af, .con ab, .con aa], .cells [.con tI, .con tI, .con ac, .con ac, .con tI, .con tI, .con tI, .con tI]]⟩, [])] }
def lF (ρ : Type) : bQ ρ := ⟨[], 167, 4, uT, fun (p : Val (.pair ac (.pair tI (.pair tI (.pair tI (.pair ae (.pair aa (.pair af (.pair ab (.pair aa bq)))))))))) (v : Val tI) kn kx => dR p.1 p.2.1 p.2.2.1 p.2.2.2.1 p.2.2.2.2.1 p.2.2.2.2.2.1 p.2.2.2.2.2.2.1 p.2.2.2.2.2.2.2.1 p.2.2.2.2.2.2.2.2.1 p.2.2.2.2.2.2.2.2.2.2.1 v (fun u0 => kn u0) (kx 0) (kx 1)⟩
def yD : List (Nat × bI) := [(82, pJ), (88, vI), (94, eh), (125, zu), (126, iB), (164, kV), (198, Ce), (223, Vd)]
def mg (ρ : Type) : List (bQ ρ) := [lI ρ, lG ρ, lH ρ, lF ρ]
def er (ρ : Type) : Env ρ := bL yD (mg ρ)
def dX : bI := ⟨[bg], [tI], fun (x : Val bg) => cd x⟩
def m6 : bI := ⟨[bg, aa, aa], [bg], fun (x : Val (.pair bg (.pair aa aa))) => I4 x.1 x.2.1 x.2.2⟩
noncomputable def QX : bn := { pin := 8, cs := [ac, tI, tI, tI, ae, aa, af, ab, aa, tI, tI, aj, tI, tI], vs := [tI, aj], head := ⟨34, .any :: .any :: .any :: .box 2 0 :: aN 21 [.con ac, .con tI, .var tI], [.cells [.con tI, .con tI, .con ae, .con aa, .con af, .con ab, .con aa], .cells [.con tI, .con tI, .nils, .nils, .nils, .nils, .nils], .cells [.omp 5], .cells [.omp 6], .cells [.nilfn, .fn 159 [(2, 0), (0, 0)], .fn 159 [(2, 0), (0, 0)], .fn 160 [(3, 0), (0, 0), (2, 0)]], .mapv tI .bool, .mapc tI .bool, .cells [.con tI, .con tI]]⟩, exits := [(.exit 0, ⟨34, .any :: .any :: .any :: .box 2 0 :: aN 21 [.con ac, .con tI], [.cells [.con tI, .con tI, .con ae, .con aa, .con af, .con ab, .con aa], .cells [.con tI, .con tI, .nils, .nils, .nils, .nils, .nils], .cells [.omp 5], .cells [.omp 6], .cells [.nilfn, .fn 159 [(2, 0), (0, 0)], .fn 159 [(2, 0), (0, 0)], .fn 160 [(3, 0), (0, 0), (2, 0)]], .mapv tI .bool, .mapc tI .bool, .cells [.con tI, .con tI]]⟩, [aj])] }
noncomputable def Ed (ρ : Type) : bQ ρ := ⟨[7, 5], 160, 0, QX, fun (p : Val (.pair ac (.pair tI (.pair tI (.pair tI (.pair ae (.pair aa (.pair af (.pair ab (.pair aa (.pair tI (.pair tI (.pair aj bc))))))))))))) (v : Val (.pair tI aj)) kn kx => pY p.1 p.2.1 v.1 v.2 (fun u0 u1 => kn (u0, u1)) (kx 0)⟩
noncomputable def QY : bn := { pin := 0, cs := [aa, aa, tI, tI, tI, ae, aa, af, ab, aa, tI, tI], vs := [tI, aj, aj], head := ⟨130, .any :: .any :: .con aa :: .box 0 0 :: .any :: .any :: .box 1 0 :: .box 2 0 :: .box 3 0 :: .any :: .box 4 0 :: aN 19 [.con aa, .con tI, .var tI], [.cells [.con tI, .con tI, .con ae, .con aa, .con af, .con ab, .con aa], .cells [.con tI, .con tI, .nils, .nils, .nils, .nils, .nils], .cells [.omp 5], .cells [.omp 6], .cells [.nilfn, .fn 159 [(2, 0), (0, 0)], .fn 159 [(2, 0), (0, 0)], .fn 160 [(3, 0), (0, 0), (2, 0)]], .mapv tI .bool, .mapv tI .bool]⟩, exits := [(.exit 0, ⟨130, .any :: .any :: .con aa :: .box 0 0 :: .any :: .any :: .box 1 0 :: .box 2 0 :: .box 3 0 :: .any :: .box 4 0 :: aN 19 [.con aa, .con tI], [.cells [.con tI, .con tI, .con ae, .con aa, .con af, .con ab, .con aa], .cells [.con tI, .con tI, .nils, .nils, .nils, .nils, .nils], .cells [.omp 5], .cells [.omp 6], .cells [.nilfn, .fn 159 [(2, 0), (0, 0)], .fn 159 [(2, 0), (0, 0)], .fn 160 [(3, 0), (0, 0), (2, 0)]], .mapv tI .bool, .mapv tI .bool]⟩, [aj, aj])] }
noncomputable def Ee (ρ : Type) : bQ ρ := ⟨[], 79, 0, QY, fun (p : Val (.pair aa (.pair aa (.pair tI (.pair tI (.pair tI (.pair ae (.pair aa (.pair af (.pair ab aT)))))))))) (v : Val (.pair tI (.pair aj aj))) kn kx => vM p.2.1 p.2.2.1 p.2.2.2.2.2.1 p.2.2.2.2.2.2.2.2.1 v.1 v.2.1 v.2.2 (fun u0 u1 u2 => kn (u0, u1, u2)) (kx 0)⟩
noncomputable def QW : bn := { pin := 0, cs := [aa, aa, tI, tI, tI, ae, aa, af, ab, aa, tI, tI, aj], vs := [tI, aj], head := ⟨130, .any :: .any :: .con aa :: .box 0 0 :: .any :: .any :: .box 1 0 :: .box 2 0 :: .box 3 0 :: aN 34 [.con aa, .con tI, .var tI], [.cells [.con tI, .con tI, .con ae, .con aa, .con af, .con ab, .con aa], .cells [.con tI, .con tI, .nils, .nils, .nils, .nils, .nils], .cells [.omp 4], .cells [.omp 5], .mapv tI .bool, .mapc tI .bool]⟩, exits := [(.exit 2, ⟨130, .any :: .any :: .con aa :: .box 0 0 :: .any :: .any :: .box 1 0 :: .box 2 0 :: .box 3 0 :: aN 34 [.con aa, .con tI], [.cells [.con tI, .con tI, .con ae, .con aa, .con af, .con ab, .con aa], .cells [.con tI, .con tI, .nils, .nils, .nils, .nils, .nils], .cells [.omp 4], .cells [.omp 5], .mapv tI .bool, .mapc tI .bool]⟩, [aj])] }
noncomputable def Ec (ρ : Type) : bQ ρ := ⟨[], 79, 2, QW, fun (p : Val (.pair aa (.pair aa (.pair tI (.pair tI (.pair tI (.pair ae (.pair aa (.pair af (.pair ab (.pair aa (.pair tI (.pair tI aj))))))))))))) (v : Val (.pair tI aj)) kn kx => pX p.2.1 p.2.2.1 v.1 v.2 (fun u0 u1 => kn (u0, u1)) (kx 0)⟩
noncomputable def QV : bn := { pin := 0, cs := [aa, tI, tI, tI, ae, aa, af, ab, aa, tI, tI, ae, aa, af, ab, aa, tI, tI, aa, aj, aj, ae], vs := [tI, aa], head := ⟨130, .any :: .any :: .any :: .box 0 0 :: .any :: .any :: .box 1 0 :: .box 2 0 :: .box 3 0 :: aN 6 (.box 4 0 :: aN 52 [.con aa, .con tI, .var tI]), [.cells [.con tI, .con tI, .con ae, .con aa, .con af, .con ab, .con aa], .cells [.con tI, .con tI, .con ae, .con aa, .con af, .con ab, .con aa], .cells [.omp 5], .cells [.omp 6], .cells [.con tI, .con tI, .own 7, .own 8, .nils, .nils, .con aa], .mapc tI .bool, .mapc tI .bool, .rowc br, .rowv bc]⟩, exits := [(.exit 6, ⟨130, .any :: .any :: .any :: .box 0 0 :: .any :: .any :: .box 1 0 :: .box 2 0 :: .box 3 0 :: aN 6 (.box 4 0 :: aN 52 [.con aa, .con tI]), [.cells [.con tI, .con tI, .con ae, .con aa, .con af, .con ab, .con aa], .cells [.con tI, .con tI, .con ae, .con aa, .con af, .con ab, .con aa], .cells [.omp 5], .cells [.omp 6], .cells [.con tI, .con tI, .own 7, .own 8, .nils, .nils, .con aa], .mapc tI .bool, .mapc tI .bool, .rowc br, .rowv bc]⟩, [aa])] }
noncomputable def om (ρ : Type) : bQ ρ := ⟨[], 79, 6, QV, fun (p : Val (.pair aa (.pair tI (.pair tI (.pair tI (.pair ae (.pair aa (.pair af (.pair ab (.pair aa (.pair tI (.pair tI (.pair ae (.pair aa (.pair af (.pair ab (.pair aa (.pair tI (.pair tI (.pair aa (.pair aj (.pair aj ae)))))))))))))))))))))) (v : Val aA) kn kx => pW p.1 p.2.1 p.2.2.2.2.2.2.2.2.2.2.2.2.2.2.2.2.2.2.2.1 v.1 v.2 (fun u0 u1 => kn (u0, u1)) (kx 0)⟩
noncomputable def QU : bn := { pin := 0, cs := [af, tI, tI, tI, ae, aa, af, ab, aa, tI, tI, ae, aa, af, ab, aa, tI, tI, aa, aj, aj, ae, aa], vs := [tI, af], head := ⟨130, .any :: .any :: .any :: .box 0 0 :: .any :: .any :: .box 1 0 :: .box 2 0 :: .box 3 0 :: aN 6 (.box 4 0 :: aN 70 [.con af, .con tI, .var tI]), [.cells [.con tI, .con tI, .con ae, .con aa, .con af, .con ab, .con aa], .cells [.con tI, .con tI, .con ae, .con aa, .con af, .con ab, .con aa], .cells [.omp 5], .cells [.omp 6], .cells [.con tI, .con tI, .own 7, .own 8, .own 9, .nils, .con aa], .mapc tI .bool, .mapc tI .bool, .rowc br, .rowc bc, .rowv dC]⟩, exits := [(.exit 8, ⟨130, .any :: .any :: .any :: .box 0 0 :: .any :: .any :: .box 1 0 :: .box 2 0 :: .box 3 0 :: aN 6 (.box 4 0 :: aN 70 [.con af, .con tI]), [.cells [.con tI, .con tI, .con ae, .con aa, .con af, .con ab, .con aa], .cells [.con tI, .con tI, .con ae, .con aa, .con af, .con ab, .con aa], .cells [.omp 5], .cells [.omp 6], .cells [.con tI, .con tI, .own 7, .own 8, .own 9, .nils, .con aa], .mapc tI .bool, .mapc tI .bool, .rowc br, .rowc bc, .rowv dC]⟩, [af])] }
noncomputable def ol (ρ : Type) : bQ ρ := ⟨[], 79, 8, QU, fun (p : Val (.pair af (.pair tI (.pair tI (.pair tI (.pair ae (.pair aa (.pair af (.pair ab (.pair aa (.pair tI (.pair tI (.pair ae (.pair aa (.pair af (.pair ab (.pair aa (.pair tI (.pair tI (.pair aa (.pair aj (.pair aj (.pair ae aa))))))))))))))))))))))) (v : Val (.pair tI af)) kn kx => pV p.1 p.2.1 p.2.2.2.2.2.2.2.2.2.2.2.2.2.2.2.2.2.2.2.1 v.1 v.2 (fun u0 u1 => kn (u0, u1)) (kx 0)⟩
noncomputable def QT : bn := { pin := 0, cs := [ab, tI, tI, tI, ae, aa, af, ab, aa, tI, tI, aa, aj, ae, aa, af], vs := [tI, ab], head := ⟨130, aN 6 (.box 0 0 :: .any :: .box 1 0 :: aN 6 (.box 2 0 :: aN 88 [.con ab, .con tI, .var tI])), [.cells [.con tI, .con tI, .con ae, .con aa, .con af, .con ab, .con aa], .cells [.omp 3], .cells [.con tI, .con tI, .own 4, .own 5, .own 6, .own 7, .con aa], .mapc tI .bool, .rowc br, .rowc bc, .rowc dC, .rowv bq]⟩, exits := [(.exit 10, ⟨130, aN 6 (.box 0 0 :: .any :: .box 1 0 :: aN 6 (.box 2 0 :: aN 88 [.con ab, .con tI])), [.cells [.con tI, .con tI, .con ae, .con aa, .con af, .con ab, .con aa], .cells [.omp 3], .cells [.con tI, .con tI, .own 4, .own 5, .own 6, .own 7, .con aa], .mapc tI .bool, .rowc br, .rowc bc, .rowc dC, .rowv bq]⟩, [ab])] }
noncomputable def oj (ρ : Type) : bQ ρ := ⟨[], 79, 10, QT, fun (p : Val (.pair ab (.pair tI (.pair tI (.pair tI (.pair ae (.pair aa (.pair af (.pair ab (.pair aa (.pair tI (.pair tI (.pair aa (.pair aj (.pair ae (.pair aa af)))))))))))))))) (v : Val (.pair tI ab)) kn kx => pU p.1 p.2.1 p.2.2.2.2.2.2.2.2.2.2.2.2.1 v.1 v.2 (fun u0 u1 => kn (u0, u1)) (kx 0)⟩
noncomputable def Cw : List (Nat × bI) := [(94, eh)]
noncomputable def yh (ρ : Type) : List (bQ ρ) := [Ed ρ, Ee ρ, Ec ρ, om ρ, ol ρ, oj ρ]
noncomputable def ff (ρ : Type) : Env ρ := bL Cw (yh ρ)
noncomputable def pT : Tpl := ⟨130, .any :: .any :: .any :: .box 0 0 :: .any :: .any :: .box 1 0 :: .box 2 0 :: .box 3 0 :: aN 6 (.box 4 0 :: aN 43 [.fn 218 [(5, 0), (6, 0)]]), [.cells [.var tI, .var tI, .var ae, .var aa, .var af, .var ab, .var aa], .cells [.var tI, .var tI, .var ae, .var aa, .var af, .var ab, .var aa], .cells [.omp 7], .cells [.omp 8], .cells [.con tI, .con tI, .own 9, .nils, .nils, .nils, .con aa], .cells [.var tI, .var tI, .var ae, .var aa, .var af, .var ab, .var aa], .cells [.omp 7], .mapv tI .bool, .mapv tI .bool, .rowv br]⟩
noncomputable def Hg : Tpl := ⟨130, .any :: .any :: .any :: .box 0 0 :: .any :: .any :: .box 1 0 :: .box 2 0 :: .box 3 0 :: aN 6 (.box 4 0 :: .box 10 0 :: aN 42 [.fn 218 [(5, 0), (6, 0)]]), [.cells [.var tI, .var tI, .var ae, .var aa, .var af, .var ab, .var aa], .cells [.var tI, .var tI, .var ae, .var aa, .var af, .var ab, .var aa], .cells [.omp 7], .cells [.omp 8], .cells [.con tI, .con tI, .own 9, .nils, .nils, .nils, .con aa], .cells [.var tI, .var tI, .var ae, .var aa, .var af, .var ab, .var aa], .cells [.omp 7], .mapv tI .bool, .mapv tI .bool, .rowv br, .cells [.var tI, .var tI, .var tI, .var tI, .var tI, .var tI, .var tI, .var tI]]⟩
noncomputable def oh (ρ : Type) : List (bQ ρ) := [om ρ, ol ρ, oj ρ]
noncomputable def cR (ρ : Type) : Env ρ := { bL Cw (oh ρ) with inl := fun _ => false }
noncomputable def nl : Tpl := ⟨130, aN 6 [.box 0 0], [.cells [.var tI, .var tI, .var ae, .var aa, .var af, .var ab, .var aa]]⟩
abbrev iF : List Ty := [tI, tI, ae, aa, af, ab, aa]
noncomputable def ju (y : Val bg) : Val ai := (y.1.1, y.1.2, y.2.1, y.2.2.1, y.2.2.2.1, y.2.2.2.2.1, y.2.2.2.2.2)
noncomputable def cY : Code := (oQ Tryz.prog 79).getD .skip
abbrev gX : List Ty := [tI, tI, aa]
abbrev kF : List Ty := [tI, tI, ae, aa, af, ab, aa, tI, tI, ae, aa, af, ab, aa, tI, tI, ae, aa, af, ab, aa, aj, aj, ae]
abbrev vL : List Ty := [tI, tI, ae, aa, af, ab, aa, tI, tI, ae, aa, af, ab, aa, tI, tI, ae, aa, af, ab, aa, aj, aj, ae, tI, tI, tI, tI, tI, tI, tI, tI]
abbrev bX (v : Val ag) : List (Val br) := v.2.2.2.2.2.2.2.2.2.2.2.2.2.2.2.2.1
abbrev eo (v : Val ag) : List (Int × Bool) := v.2.2.2.2.2.2.2.2.2.2.2.2.2.2.2.2.2.2.2.2.2.1
abbrev rf (v : Val ag) : List (Val br) := v.2.2.2.2.2.2.2.2.2.2.2.2.2.2.2.2.2.2.2.2.2.2.2
noncomputable def cX (v : Val ag) (z : List (Val br)) : Val ag := (v.1, v.2.1, v.2.2.1, v.2.2.2.1, v.2.2.2.2.1, v.2.2.2.2.2.1, v.2.2.2.2.2.2.1, v.2.2.2.2.2.2.2.1, v.2.2.2.2.2.2.2.2.1, v.2.2.2.2.2.2.2.2.2.1, v.2.2.2.2.2.2.2.2.2.2.1, v.2.2.2.2.2.2.2.2.2.2.2.1, v.2.2.2.2.2.2.2.2.2.2.2.2.1, v.2.2.2.2.2.2.2.2.2.2.2.2.2.1, v.2.2.2.2.2.2.2.2.2.2.2.2.2.2.1, v.2.2.2.2.2.2.2.2.2.2.2.2.2.2.2.1, v.2.2.2.2.2.2.2.2.2.2.2.2.2.2.2.2.1, v.2.2.2.2.2.2.2.2.2.2.2.2.2.2.2.2.2.1, v.2.2.2.2.2.2.2.2.2.2.2.2.2.2.2.2.2.2.1, v.2.2.2.2.2.2.2.2.2.2.2.2.2.2.2.2.2.2.2.1, v.2.2.2.2.2.2.2.2.2.2.2.2.2.2.2.2.2.2.2.2.1, v.2.2.2.2.2.2.2.2.2.2.2.2.2.2.2.2.2.2.2.2.2.1, v.2.2.2.2.2.2.2.2.2.2.2.2.2.2.2.2.2.2.2.2.2.2.1, z)
noncomputable def yi (v : Val ag) (x : Val br) : Val (.pair tI (.pair tI (.pair ae (.pair aa (.pair af (.pair ab (.pair aa (.pair tI (.pair tI (.pair ae (.pair aa (.pair af (.pair ab (.pair aa (.pair tI (.pair tI (.pair ae (.pair aa (.pair af (.pair ab (.pair aa (.pair aj (.pair aj (.pair ae ar)))))))))))))))))))))))) := (v.1, v.2.1, v.2.2.1, v.2.2.2.1, v.2.2.2.2.1, v.2.2.2.2.2.1, v.2.2.2.2.2.2.1, v.2.2.2.2.2.2.2.1, v.2.2.2.2.2.2.2.2.1, v.2.2.2.2.2.2.2.2.2.1, v.2.2.2.2.2.2.2.2.2.2.1, v.2.2.2.2.2.2.2.2.2.2.2.1, v.2.2.2.2.2.2.2.2.2.2.2.2.1, v.2.2.2.2.2.2.2.2.2.2.2.2.2.1, v.2.2.2.2.2.2.2.2.2.2.2.2.2.2.1, v.2.2.2.2.2.2.2.2.2.2.2.2.2.2.2.1, v.2.2.2.2.2.2.2.2.2.2.2.2.2.2.2.2.1, v.2.2.2.2.2.2.2.2.2.2.2.2.2.2.2.2.2.1, v.2.2.2.2.2.2.2.2.2.2.2.2.2.2.2.2.2.2.1, v.2.2.2.2.2.2.2.2.2.2.2.2.2.2.2.2.2.2.2.1, v.2.2.2.2.2.2.2.2.2.2.2.2.2.2.2.2.2.2.2.2.1, v.2.2.2.2.2.2.2.2.2.2.2.2.2.2.2.2.2.2.2.2.2.1, v.2.2.2.2.2.2.2.2.2.2.2.2.2.2.2.2.2.2.2.2.2.2.1, v.2.2.2.2.2.2.2.2.2.2.2.2.2.2.2.2.2.2.2.2.2.2.2, x.1, x.2.1, x.2.2.1, x.2.2.2.1.1, x.2.2.2.1.2, x.2.2.2.2.1.1, x.2.2.2.2.1.2, x.2.2.2.2.2)
end Go.Proofs.ZzM
end

noncomputable section
set_option maxRecDepth 100000
namespace Go.Proofs.ZzM
open Go Go.Am
def LI : bI := ⟨[bq], [.bool], fun (x : Val bq) => wa x⟩
def Nq : List (Nat × bI) := []
def wS (ρ : Type) : List (bQ ρ) := []
def D7 (ρ : Type) : Env ρ := bL Nq (wS ρ)
def U8 : bI := ⟨[bg], [.bool], fun (x : Val bg) => Gb x⟩
def No : bn := { pin := 0, cs := [tI, tI, ae, aa, af, ab, aa], vs := [tI], head := ⟨50, [.any, .box 0 0, .any, .var tI], [.cells [.con tI, .con tI, .con ae, .con aa, .con af, .con ab, .con aa]]⟩, exits := [(.ret, ⟨50, [.any, .box 0 0, .var .bool], [.cells [.con tI, .con tI, .con ae, .con aa, .con af, .con ab, .con aa]]⟩, [.bool]), (.exit 0, ⟨50, [.any, .box 0 0], [.cells [.con tI, .con tI, .con ae, .con aa, .con af, .con ab, .con aa]]⟩, [])] }
def zH (ρ : Type) : bQ ρ := ⟨[], 13, 0, No, fun (p : Val ai) (v : Val tI) kn kx => qS p.2.2.2.2.2.1 v (fun u0 => kn u0) (kx 0) (kx 1)⟩
def Tx : List (Nat × bI) := [(29, LI)]
def D6 (ρ : Type) : List (bQ ρ) := [zH ρ]
def Cl (ρ : Type) : Env ρ := bL Tx (D6 ρ)
def Vc : bI := ⟨[bg, br, tI, tI], [tI], fun (x : Val (.pair bg (.pair br bc))) => we x.1 x.2.1 x.2.2.1 x.2.2.2⟩
def Ow : bn := { pin := 0, cs := [tI, tI, af, tI, tI, tI, ae, aa, af, ab, aa, tI, tI, tI, tI, tI, tI, tI, tI], vs := [tI, tI], head := ⟨88, .any :: .any :: .con tI :: .con tI :: .box 0 0 :: .box 1 0 :: .any :: .any :: .any :: .var tI :: aN 7 [.con af, .con tI, .var tI], [.cells [.con tI, .con tI, .con ae, .con aa, .con af, .con ab, .con aa], .cells [.con tI, .con tI, .con tI, .con tI, .con tI, .con tI, .con tI, .con tI]]⟩, exits := [(.exit 0, ⟨88, .any :: .any :: .con tI :: .con tI :: .box 0 0 :: .box 1 0 :: .any :: .any :: .any :: .var tI :: aN 7 [.con af, .con tI], [.cells [.con tI, .con tI, .con ae, .con aa, .con af, .con ab, .con aa], .cells [.con tI, .con tI, .con tI, .con tI, .con tI, .con tI, .con tI, .con tI]]⟩, [tI])] }
def A5 (ρ : Type) : bQ ρ := ⟨[], 54, 0, Ow, fun (p : Val (.pair tI (.pair tI (.pair af aH)))) (v : Val bc) kn kx => rN p.1 p.2.1 p.2.2.1 p.2.2.2.1 p.2.2.2.2.2.2.2.2.2.2.2.1 v.1 v.2 (fun u0 u1 => kn (u0, u1)) (kx 0)⟩
def Ov : bn := { pin := 0, cs := [tI, tI, tI, aa, tI, tI, tI, tI, tI, tI, tI, tI, tI], vs := [tI, ac], head := ⟨88, .any :: .any :: .con tI :: .con tI :: .any :: .box 0 0 :: .any :: .any :: .any :: .con tI :: .any :: .any :: .any :: .own 1 :: aN 39 [.con aa, .con tI, .var tI], [.cells [.con tI, .con tI, .con tI, .con tI, .con tI, .con tI, .con tI, .con tI], .rowv tI]⟩, exits := [(.exit 2, ⟨88, .any :: .any :: .con tI :: .con tI :: .any :: .box 0 0 :: .any :: .any :: .any :: .con tI :: .any :: .any :: .any :: .own 1 :: aN 39 [.con aa, .con tI], [.cells [.con tI, .con tI, .con tI, .con tI, .con tI, .con tI, .con tI, .con tI], .rowv tI]⟩, [ac])] }
def A4 (ρ : Type) : bQ ρ := ⟨[], 54, 2, Ov, fun (p : Val (.pair tI (.pair tI (.pair tI (.pair aa (.pair tI ar)))))) (v : Val ax) kn kx => rM p.1 p.2.1 p.2.2.2.1 p.2.2.2.2.1 p.2.2.2.2.2.1 v.1 v.2 (fun u0 u1 => kn (u0, u1)) (kx 0)⟩
def TY : List (Nat × bI) := [(126, iB)]
def EA (ρ : Type) : List (bQ ρ) := [A5 ρ, A4 ρ]
def vR (ρ : Type) : Env ρ := bL TY (EA ρ)
def eY : bI := ⟨[aa, bc], [tI], fun (x : Val aT) => ca x.1 x.2⟩
def j6 : bn := { pin := 0, cs := [aa, tI, tI, tI], vs := [tI], head := ⟨19, [.con aa, .any, .any, .box 0 0, .any, .any, .any, .con tI, .var tI], [.cells [.con tI, .con tI]]⟩, exits := [(.ret, ⟨19, [.con aa, .any, .any, .box 0 0, .var tI, .any, .any, .con tI], [.cells [.con tI, .con tI]]⟩, [tI]), (.exit 0, ⟨19, [.con aa, .any, .any, .box 0 0, .any, .any, .any, .con tI], [.cells [.con tI, .con tI]]⟩, [])] }
def f0 (ρ : Type) : bQ ρ := ⟨[], 130, 0, j6, fun (p : Val (.pair aa cA)) (v : Val tI) kn kx => dh p.1 p.2.1 p.2.2.1 p.2.2.2 v (fun u0 => kn u0) (kx 0) (kx 1)⟩
def lr : List (Nat × bI) := []
def gn (ρ : Type) : List (bQ ρ) := [f0 ρ]
def eA (ρ : Type) : Env ρ := bL lr (gn ρ)
def tM : bI := ⟨[aB, ac, tI], [tI], fun (x : Val (.pair aB az)) => gE x.1 x.2.1 x.2.2⟩
def Ip : List (Nat × bI) := [(130, eY)]
def ta (ρ : Type) : List (bQ ρ) := []
def xt (ρ : Type) : Env ρ := bL Ip (ta ρ)
def sG : bI := ⟨[ao, ac], [bc], fun (x : Val (.pair ao ac)) => gV x.1 x.2⟩
def yx : List (Nat × bI) := []
def me (ρ : Type) : List (bQ ρ) := []
def oD (ρ : Type) : Env ρ := bL yx (me ρ)
def pH : bI := ⟨[aa], [tI], fun (x : Val aa) => i5 x⟩
def KL : bn := { pin := 0, cs := [aa, tI], vs := [tI], head := ⟨15, aN 5 [.con aa, .con tI, .var tI], []⟩, exits := [(.ret, ⟨15, [.any, .any, .var tI, .any, .any, .con aa, .con tI], []⟩, [tI]), (.exit 0, ⟨15, aN 5 [.con aa, .con tI], []⟩, [])] }
def xo (ρ : Type) : bQ ρ := ⟨[], 227, 0, KL, fun (p : Val (.pair aa tI)) (v : Val tI) kn kx => oB p.1 p.2 v (fun u0 => kn u0) (kx 0) (kx 1)⟩
def Rd : List (Nat × bI) := [(219, zp)]
def AK (ρ : Type) : List (bQ ρ) := [xo ρ]
def yr (ρ : Type) : Env ρ := bL Rd (AK ρ)
def xS : bI := ⟨[tI, tI], [bc, tI], fun (x : Val bc) => nF x.1 x.2⟩
def KM : List (Nat × bI) := [(259, M4), (260, Tn)]
def uI (ρ : Type) : List (bQ ρ) := []
def AM (ρ : Type) : Env ρ := bL KM (uI ρ)
def XU : bI := ⟨[bc, bc], [bc, tI], fun (x : Val cg) => O8 x.1 x.2⟩
def WB : List (Nat × bI) := [(227, pH), (277, xS)]
def Ia (ρ : Type) : List (bQ ρ) := []
def Rj (ρ : Type) : Env ρ := bL WB (Ia ρ)
def zr : bI := ⟨[bc, bc], [bc], fun (x : Val cg) => sg x.1 x.2⟩
def FE : List (Nat × bI) := [(262, XU)]
def ql (ρ : Type) : List (bQ ρ) := []
def uL (ρ : Type) : Env ρ := bL FE (ql ρ)
def Tp : bI := ⟨[bc, bc], [tI], fun (x : Val cg) => I6 x.1 x.2⟩
def WA : List (Nat × bI) := []
def H7 (ρ : Type) : List (bQ ρ) := []
def Rh (ρ : Type) : Env ρ := bL WA (H7 ρ)
def wM : bI := ⟨[cg], [.bool], fun (x : Val cg) => pw x⟩
def CX : List (Nat × bI) := [(227, pH), (287, Tp)]
def oC (ρ : Type) : List (bQ ρ) := []
def sZ (ρ : Type) : Env ρ := bL CX (oC ρ)
def XV : bI := ⟨[bc, bc], [bc, tI], fun (x : Val cg) => I8 x.1 x.2⟩
def WC : List (Nat × bI) := [(227, pH), (277, xS)]
def Ic (ρ : Type) : List (bQ ρ) := []
def Rl (ρ : Type) : Env ρ := bL WC (Ic ρ)
def Qs : bI := ⟨[cg, bc], [cg, tI], fun (x : Val (.pair cg bc)) => I7 x.1 x.2⟩
def Eu : List (Nat × bI) := [(219, zp), (278, wM), (281, XV), (287, Tp)]
def rC (ρ : Type) : List (bQ ρ) := []
def Et : List Z2 := [⟨[3, 2], 279, 0, 4⟩]
def Rk (ρ : Type) : Env ρ := bL Eu (rC ρ)
def yv (ρ : Type) : Env ρ := abK Eu (rC ρ) Et
def zq : bI := ⟨[bc, bc], [cg], fun (x : Val cg) => mz x.1 x.2⟩
def FD : List (Nat × bI) := [(263, Qs)]
def qk (ρ : Type) : List (bQ ρ) := []
def uK (ρ : Type) : Env ρ := bL FD (qk ρ)
def Cf : bI := ⟨[bg, bq], [cg], fun (x : Val aG) => mS x.1 x.2⟩
def OE : List (Nat × bI) := [(53, xT), (88, vI), (224, sG), (225, zr), (226, zq)]
def xw (ρ : Type) : List (bQ ρ) := []
def ED (ρ : Type) : Env ρ := bL OE (xw ρ)
def GP : bI := ⟨[bg, bq], [bc], fun (x : Val aG) => qC x.1 x.2⟩
def Rw : List (Nat × bI) := []
def Ba (ρ : Type) : List (bQ ρ) := []
def Iw (ρ : Type) : Env ρ := bL Rw (Ba ρ)
def GM : bI := ⟨[tI, tI], [tI], fun (x : Val bc) => vn x.1 x.2⟩
def Rg : List (Nat × bI) := []
def AO (ρ : Type) : List (bQ ρ) := []
def H5 (ρ : Type) : Env ρ := bL Rg (AO ρ)
def M5 : bI := ⟨[bc], [tI, tI], fun (x : Val bc) => BH x⟩
def TV : List (Nat × bI) := [(227, pH), (228, GM)]
def Ew (ρ : Type) : List (bQ ρ) := []
def L3 (ρ : Type) : Env ρ := bL TV (Ew ρ)
def GN : bI := ⟨[bc], [tI, tI], fun (x : Val bc) => vo x⟩
def Rm : List (Nat × bI) := [(227, pH), (228, GM)]
def AR (ρ : Type) : List (bQ ρ) := []
def Id (ρ : Type) : Env ρ := bL Rm (AR ρ)
def M6 : bI := ⟨[bg, bq], [bc], fun (x : Val aG) => sf x.1 x.2⟩
def TW : List (Nat × bI) := [(171, Cf), (172, GP), (173, M5), (174, GN)]
def Ey (ρ : Type) : List (bQ ρ) := []
def L4 (ρ : Type) : Env ρ := bL TW (Ey ρ)
def FX : bI := ⟨[bg], [aB], fun (x : Val bg) => wd x⟩
def Oq : bn := { pin := 2, cs := [tI, ac, tI, ae, tI, tI, tI, tI, ae, aa, af, ab, aa, tI, tI, ae, aa, af, ab, aa, aa, tI, tI, tI, tI, tI, tI, tI, tI, tI], vs := [tI, ah, aa], head := ⟨144, .box 1 0 :: .any :: .con tI :: .box 2 0 :: .con ac :: .con tI :: .var tI :: aN 24 [.con ae, .con tI, .con tI], [.cells [.con tI, .con tI, .con ae, .con aa, .con af, .con ab, .con aa], .cells [.con tI, .con tI, .con ae, .con aa, .con af, .con ab, .con aa, .con aa, .con tI, .own 3, .own 4], .cells [.con tI, .con tI, .con tI, .con tI, .con tI, .con tI, .con tI, .con tI], .rowv cA, .rowv bc]⟩, exits := [(.exit 2, ⟨144, .box 1 0 :: .any :: .con tI :: .box 2 0 :: .con ac :: .con tI :: aN 25 [.con ae, .con tI, .con tI], [.cells [.con tI, .con tI, .con ae, .con aa, .con af, .con ab, .con aa], .cells [.con tI, .con tI, .con ae, .con aa, .con af, .con ab, .con aa, .con aa, .con tI, .own 3, .own 4], .cells [.con tI, .con tI, .con tI, .con tI, .con tI, .con tI, .con tI, .con tI], .rowv cA, .rowv bc]⟩, [ah, aa])] }
def A2 (ρ : Type) : bQ ρ := ⟨[2, 1], 132, 2, Oq, fun (p : Val (.pair tI (.pair ac (.pair tI (.pair ae (.pair tI (.pair tI (.pair tI (.pair tI (.pair ae (.pair aa (.pair af (.pair ab (.pair aa (.pair tI (.pair tI (.pair ae (.pair aa (.pair af (.pair ab (.pair aa (.pair aa (.pair tI ar))))))))))))))))))))))) (v : Val (.pair tI yX)) kn kx => rK p.1 p.2.1 p.2.2.1 p.2.2.2.2.2.2.2.2.2.2.2.2.2.1 p.2.2.2.2.2.2.2.2.2.2.2.2.2.2.1 p.2.2.2.2.2.2.2.2.2.2.2.2.2.2.2.1 p.2.2.2.2.2.2.2.2.2.2.2.2.2.2.2.2.1 p.2.2.2.2.2.2.2.2.2.2.2.2.2.2.2.2.2.1 p.2.2.2.2.2.2.2.2.2.2.2.2.2.2.2.2.2.2.1 p.2.2.2.2.2.2.2.2.2.2.2.2.2.2.2.2.2.2.2.1 p.2.2.2.2.2.2.2.2.2.2.2.2.2.2.2.2.2.2.2.2.2.2.1 p.2.2.2.2.2.2.2.2.2.2.2.2.2.2.2.2.2.2.2.2.2.2.2.1 p.2.2.2.2.2.2.2.2.2.2.2.2.2.2.2.2.2.2.2.2.2.2.2.2.1 p.2.2.2.2.2.2.2.2.2.2.2.2.2.2.2.2.2.2.2.2.2.2.2.2.2.1 p.2.2.2.2.2.2.2.2.2.2.2.2.2.2.2.2.2.2.2.2.2.2.2.2.2.2.1 p.2.2.2.2.2.2.2.2.2.2.2.2.2.2.2.2.2.2.2.2.2.2.2.2.2.2.2.1 p.2.2.2.2.2.2.2.2.2.2.2.2.2.2.2.2.2.2.2.2.2.2.2.2.2.2.2.2.1 p.2.2.2.2.2.2.2.2.2.2.2.2.2.2.2.2.2.2.2.2.2.2.2.2.2.2.2.2.2 v.1 v.2.1 v.2.2 (fun u0 u1 u2 => kn (u0, u1, u2)) (kx 0)⟩
def Ot : bn := { pin := 2, cs := [ae, tI, tI, tI, ae, aa, af, ab, aa, tI, tI, ae, aa, af, ab, aa, aa, tI], vs := [tI, ah, aa], head := ⟨144, .box 1 0 :: aN 30 [.con ae, .con tI, .var tI], [.cells [.con tI, .con tI, .con ae, .con aa, .con af, .con ab, .con aa], .cells [.con tI, .con tI, .con ae, .con aa, .con af, .con ab, .con aa, .con aa, .con tI, .own 2, .own 3], .rowv cA, .rowv bc]⟩, exits := [(.exit 0, ⟨144, .box 1 0 :: aN 30 [.con ae, .con tI], [.cells [.con tI, .con tI, .con ae, .con aa, .con af, .con ab, .con aa], .cells [.con tI, .con tI, .con ae, .con aa, .con af, .con ab, .con aa, .con aa, .con tI, .own 2, .own 3], .rowv cA, .rowv bc]⟩, [ah, aa])] }
def A3 (ρ : Type) : bQ ρ := ⟨[2, 1], 132, 0, Ot, fun (p : Val (.pair ae (.pair tI (.pair tI (.pair tI (.pair ae (.pair aa (.pair af (.pair ab (.pair aa (.pair tI (.pair tI (.pair ae (.pair aa (.pair af (.pair ab (.pair aa (.pair aa tI)))))))))))))))))) (v : Val (.pair tI yX)) kn kx => rL p.1 p.2.1 p.2.2.2.2.2.2.2.2.2.1 p.2.2.2.2.2.2.2.2.2.2.1 p.2.2.2.2.2.2.2.2.2.2.2.1 p.2.2.2.2.2.2.2.2.2.2.2.2.1 p.2.2.2.2.2.2.2.2.2.2.2.2.2.1 p.2.2.2.2.2.2.2.2.2.2.2.2.2.2.1 p.2.2.2.2.2.2.2.2.2.2.2.2.2.2.2.1 p.2.2.2.2.2.2.2.2.2.2.2.2.2.2.2.2.1 p.2.2.2.2.2.2.2.2.2.2.2.2.2.2.2.2.2 v.1 v.2.1 v.2.2 (fun u0 u1 u2 => kn (u0, u1, u2)) (kx 0)⟩
def Oo : bn := { pin := 2, cs := [ab, tI, tI, tI, ae, aa, af, ab, aa, tI, tI, ae, aa, af, ab, aa, aa, tI], vs := [tI, ah, aa], head := ⟨144, .box 1 0 :: aN 107 [.con ab, .con tI, .var tI], [.cells [.con tI, .con tI, .con ae, .con aa, .con af, .con ab, .con aa], .cells [.con tI, .con tI, .con ae, .con aa, .con af, .con ab, .con aa, .con aa, .con tI, .own 2, .own 3], .rowv cA, .rowv bc]⟩, exits := [(.exit 4, ⟨144, .box 1 0 :: aN 107 [.con ab, .con tI], [.cells [.con tI, .con tI, .con ae, .con aa, .con af, .con ab, .con aa], .cells [.con tI, .con tI, .con ae, .con aa, .con af, .con ab, .con aa, .con aa, .con tI, .own 2, .own 3], .rowv cA, .rowv bc]⟩, [ah, aa])] }
def A1 (ρ : Type) : bQ ρ := ⟨[2, 1], 132, 4, Oo, fun (p : Val (.pair ab (.pair tI (.pair tI (.pair tI (.pair ae (.pair aa (.pair af (.pair ab (.pair aa (.pair tI (.pair tI (.pair ae (.pair aa (.pair af (.pair ab (.pair aa (.pair aa tI)))))))))))))))))) (v : Val (.pair tI yX)) kn kx => rJ p.1 p.2.1 p.2.2.2.2.2.2.2.2.2.1 p.2.2.2.2.2.2.2.2.2.2.1 p.2.2.2.2.2.2.2.2.2.2.2.1 p.2.2.2.2.2.2.2.2.2.2.2.2.1 p.2.2.2.2.2.2.2.2.2.2.2.2.2.1 p.2.2.2.2.2.2.2.2.2.2.2.2.2.2.1 p.2.2.2.2.2.2.2.2.2.2.2.2.2.2.2.1 p.2.2.2.2.2.2.2.2.2.2.2.2.2.2.2.2.1 p.2.2.2.2.2.2.2.2.2.2.2.2.2.2.2.2.2 v.1 v.2.1 v.2.2 (fun u0 u1 u2 => kn (u0, u1, u2)) (kx 0)⟩
def TX : List (Nat × bI) := [(54, Vc), (85, zt), (87, tM), (88, vI), (168, M7), (200, M6)]
def Ez (ρ : Type) : List (bQ ρ) := [A2 ρ, A3 ρ, A1 ρ]
def qm (ρ : Type) : Env ρ := bL TX (Ez ρ)
def ej : bI := ⟨[bg], [bo, aa, tI], fun (x : Val bg) => df x⟩
def OP : List (Nat × bI) := [(38, dX), (62, FX)]
def xx (ρ : Type) : List (bQ ρ) := []
def EH (ρ : Type) : Env ρ := bL OP (xx ρ)
def gT : bI := ⟨[bg, bc], [tI, tI], fun (x : Val aI) => dg x.1 x.2⟩
def RC : List (Nat × bI) := [(38, dX), (85, zt), (130, eY)]
def Bl (ρ : Type) : List (bQ ρ) := []
def Iz (ρ : Type) : Env ρ := bL RC (Bl ρ)
def jb : bI := ⟨[au, bc], [tI], fun (x : Val aO) => fV x.1 x.2⟩
def J4 : List (Nat × bI) := [(60, gT)]
def t8 (ρ : Type) : List (bQ ρ) := []
def zO (ρ : Type) : Env ρ := bL J4 (t8 ρ)
def FW : bI := ⟨[bo, tI], [.bool], fun (x : Val (.pair bo tI)) => oN x.1 x.2⟩
def TG : List (Nat × bI) := []
def Ei (ρ : Type) : List (bQ ρ) := []
def LW (ρ : Type) : Env ρ := bL TG (Ei ρ)
def m7 : bI := ⟨[bo], [tI, tI], fun (x : Val bo) => j3 x⟩
def KH : bn := { pin := 0, cs := [ah, tI, tI, ah], vs := [tI], head := ⟨57, .any :: .box 0 0 :: aN 17 [.con ah, .con tI, .var tI], [.cells [.con tI, .con ah]]⟩, exits := [(.ret, ⟨57, .any :: .box 0 0 :: .var tI :: .var tI :: aN 15 [.con ah, .con tI], [.cells [.con tI, .con ah]]⟩, [tI, tI]), (.exit 0, ⟨57, .any :: .box 0 0 :: aN 17 [.con ah, .con tI], [.cells [.con tI, .con ah]]⟩, [])] }
def xj (ρ : Type) : bQ ρ := ⟨[], 133, 0, KH, fun (p : Val (.pair ah aF)) (v : Val tI) kn kx => ow p.1 p.2.1 p.2.2.1 p.2.2.2 v (fun u0 => kn u0) (kx 0) (kx 1)⟩
def Ra : List (Nat × bI) := [(134, FW)]
def AF (ρ : Type) : List (bQ ρ) := [xj ρ]
def yq (ρ : Type) : Env ρ := bL Ra (AF ρ)
def nX : bI := ⟨[bo, aj], [ac, .bool], fun (x : Val (.pair bo aj)) => jx x.1 x.2⟩
def CP : bn := { pin := 2, cs := [aj, ah, tI, tI, ah, ac, tI, ah, aw, ac], vs := [tI, tI], head := ⟨140, .any :: .con aj :: .own 1 :: .box 2 0 :: .any :: .any :: .any :: .box 3 0 :: .own 4 :: .own 5 :: .var tI :: aN 14 [.con ah, .con tI, .var tI], [.cells [.con tI, .con ah], .rowc tI, .cells [.con tI, .con ah], .cells [.nils], .rowc .bool, .rowc tI]⟩, exits := [(.exit 0, ⟨140, .any :: .con aj :: .own 1 :: .box 2 0 :: .any :: .any :: .any :: .box 3 0 :: .own 4 :: .own 5 :: .var tI :: aN 14 [.con ah, .con tI], [.cells [.con tI, .con ah], .rowc tI, .cells [.con tI, .con ah], .cells [.nils], .rowc .bool, .rowc tI]⟩, [tI])] }
def qj (ρ : Type) : bQ ρ := ⟨[2, 3], 136, 0, CP, fun (p : Val (.pair aj (.pair ah (.pair tI (.pair tI (.pair ah (.pair ac (.pair tI (.pair ah aJ))))))))) (v : Val bc) kn kx => gr p.2.1 p.2.2.1 v.1 v.2 (fun u0 u1 => kn (u0, u1)) (kx 0)⟩
def CO : bn := { pin := 2, cs := [aj, tI, tI, tI, ah, ac, tI, ah, ac], vs := [tI, aw, ac], head := ⟨140, .any :: .con aj :: .own 1 :: .box 2 0 :: .any :: .any :: .any :: .box 3 0 :: .own 4 :: .own 5 :: .con tI :: aN 27 [.con tI, .var tI], [.cells [.con tI, .con ah], .rowc tI, .cells [.con tI, .con ah], .cells [.own 6], .rowv .bool, .rowc tI, .rowv tI]⟩, exits := [(.exit 2, ⟨140, .any :: .con aj :: .own 1 :: .box 2 0 :: .any :: .any :: .any :: .box 3 0 :: .own 4 :: .own 5 :: .con tI :: aN 27 [.con tI], [.cells [.con tI, .con ah], .rowc tI, .cells [.con tI, .con ah], .cells [.own 6], .rowv .bool, .rowc tI, .rowv tI]⟩, [aw, ac])] }
def qi (ρ : Type) : bQ ρ := ⟨[2, 3], 136, 2, CO, fun (p : Val (.pair aj (.pair tI (.pair tI (.pair tI (.pair ah (.pair ac (.pair tI (.pair ah ac))))))))) (v : Val (.pair tI aJ)) kn kx => d8 p.2.2.1 p.2.2.2.2.2.1 v.1 v.2.1 v.2.2 (fun u0 u1 u2 => kn (u0, u1, u2)) (kx 0)⟩
def CM : bn := { pin := 2, cs := [aj, tI, tI, ah, tI, tI, ah, tI, ah, ac], vs := [tI, ac, aw, ac], head := ⟨140, .any :: .con aj :: .own 1 :: .box 2 0 :: .any :: .any :: .any :: .box 3 0 :: .own 4 :: .own 5 :: .con tI :: .any :: .any :: .any :: .con tI :: aN 62 [.con ah, .con tI, .var tI], [.cells [.con tI, .con ah], .rowv tI, .cells [.con tI, .con ah], .cells [.own 6], .rowv .bool, .rowc tI, .rowv tI]⟩, exits := [(.ret, ⟨140, .any :: .con aj :: .own 1 :: .box 2 0 :: .any :: .any :: .var .bool :: .box 3 0 :: .own 4 :: .own 5 :: .con tI :: .any :: .any :: .any :: .con tI :: aN 62 [.con ah, .con tI], [.cells [.con tI, .con ah], .rowv tI, .cells [.con tI, .con ah], .cells [.own 6], .rowv .bool, .rowc tI, .rowv tI]⟩, [.bool, ac, aw, ac]), (.exit 6, ⟨140, .any :: .con aj :: .own 1 :: .box 2 0 :: .any :: .any :: .any :: .box 3 0 :: .own 4 :: .own 5 :: .con tI :: .any :: .any :: .any :: .con tI :: aN 62 [.con ah, .con tI], [.cells [.con tI, .con ah], .rowv tI, .cells [.con tI, .con ah], .cells [.own 6], .rowv .bool, .rowc tI, .rowv tI]⟩, [ac, aw, ac])] }
def qf (ρ : Type) : bQ ρ := ⟨[2, 3], 136, 6, CM, fun (p : Val (.pair aj (.pair tI (.pair tI (.pair ah (.pair tI (.pair tI (.pair ah (.pair tI (.pair ah ac)))))))))) (v : Val (.pair tI (.pair ac aJ))) kn kx => ip p.1 p.2.1 p.2.2.1 p.2.2.2.1 p.2.2.2.2.1 v.1 v.2.1 v.2.2.1 v.2.2.2 (fun u0 u1 u2 u3 => kn (u0, u1, u2, u3)) (kx 0) (kx 1)⟩
def CN : bn := { pin := 2, cs := [aj, tI, tI, ah, tI, ah], vs := [ac, aw, ac, ac], head := ⟨140, [.any, .con aj, .own 1, .box 2 0, .any, .any, .any, .box 3 0, .own 4, .own 5, .con tI], [.cells [.con tI, .con ah], .rowv tI, .cells [.con tI, .con ah], .cells [.own 6], .rowv .bool, .rowv tI, .rowv tI]⟩, exits := [(.ret, ⟨140, [.any, .con aj, .own 1, .box 2 0, .any, .any, .var .bool, .box 3 0, .own 4, .own 5, .con tI], [.cells [.con tI, .con ah], .rowv tI, .cells [.con tI, .con ah], .cells [.own 6], .rowv .bool, .rowv tI, .rowv tI]⟩, [.bool, ac, aw, ac, ac])] }
def qg (ρ : Type) : bQ ρ := ⟨[2, 3], 136, 4, CN, fun (p : Val (.pair aj aY)) (v : Val aK) kn kx => dl p.1 p.2.1 p.2.2.2.2.1 p.2.2.2.2.2 v.1 v.2.1 v.2.2.1 v.2.2.2 (fun u0 u1 u2 u3 => kn (u0, u1, u2, u3)) (kx 0)⟩
def CL : bn := { pin := 0, cs := [tI, tI], vs := [tI, ac], head := ⟨34, aN 6 (.own 0 :: .con tI :: aN 13 [.con tI, .var tI]), [.rowv tI]⟩, exits := [(.exit 0, ⟨34, aN 6 (.own 0 :: .con tI :: aN 13 [.con tI]), [.rowv tI]⟩, [ac])] }
def qe (ρ : Type) : bQ ρ := ⟨[], 135, 0, CL, fun (p : Val bc) (v : Val ax) kn kx => il p.1 p.2 v.1 v.2 (fun u0 u1 => kn (u0, u1)) (kx 0)⟩
def Ht : List (Nat × bI) := []
def sT (ρ : Type) : List (bQ ρ) := [qj ρ, qi ρ, qf ρ, qg ρ, qe ρ]
def fQ (ρ : Type) : Env ρ := bL Ht (sT ρ)
def zn : bI := ⟨[bo, ac], [tI], fun (x : Val aR) => qz x.1 x.2⟩
def Kw : bn := { pin := 0, cs := [ac, tI, tI, ah], vs := [tI], head := ⟨37, .any :: .any :: .box 0 0 :: aN 16 [.con ac, .con tI, .var tI], [.cells [.con tI, .con ah]]⟩, exits := [(.ret, ⟨37, .any :: .any :: .box 0 0 :: .any :: .var tI :: aN 14 [.con ac, .con tI], [.cells [.con tI, .con ah]]⟩, [tI]), (.exit 0, ⟨37, .any :: .any :: .box 0 0 :: aN 16 [.con ac, .con tI], [.cells [.con tI, .con ah]]⟩, [])] }
def xa (ρ : Type) : bQ ρ := ⟨[], 63, 0, Kw, fun (p : Val (.pair ac aF)) (v : Val tI) kn kx => oq p.1 p.2.1 p.2.2.1 p.2.2.2 v (fun u0 => kn u0) (kx 0) (kx 1)⟩
def Q6 : List (Nat × bI) := [(133, m7), (134, FW), (135, nX)]
def Az (ρ : Type) : List (bQ ρ) := [xa ρ]
def yp (ρ : Type) : Env ρ := bL Q6 (Az ρ)
def vH : bI := ⟨[bo, aj, tI], [ac], fun (x : Val (.pair bo (.pair aj tI))) => kQ x.1 x.2.1 x.2.2⟩
def HA : bn := { pin := 0, cs := [aj, tI, tI, tI, ah], vs := [tI, ac], head := ⟨29, .any :: .con aj :: .con tI :: .box 0 0 :: .any :: .any :: .any :: .own 1 :: aN 5 [.con tI, .var tI], [.cells [.con tI, .con ah], .rowv tI]⟩, exits := [(.exit 0, ⟨29, .any :: .con aj :: .con tI :: .box 0 0 :: .any :: .any :: .any :: .own 1 :: aN 5 [.con tI], [.cells [.con tI, .con ah], .rowv tI]⟩, [ac])] }
def uG (ρ : Type) : bQ ρ := ⟨[], 64, 0, HA, fun (p : Val (.pair aj (.pair tI aF))) (v : Val ax) kn kx => mo p.2.2.1 v.1 v.2 (fun u0 u1 => kn (u0, u1)) (kx 0)⟩
def Hz : bn := { pin := 2, cs := [aj, ah, tI, tI, ah, ac, tI, ah, aw, ac], vs := [tI, tI], head := ⟨140, .any :: .con aj :: .own 1 :: .box 2 0 :: .any :: .any :: .any :: .box 3 0 :: .own 4 :: .own 5 :: .var tI :: aN 14 [.con ah, .con tI, .var tI], [.cells [.con tI, .con ah], .rowc tI, .cells [.con tI, .con ah], .cells [.nils], .rowc .bool, .rowc tI]⟩, exits := [(.exit 0, ⟨140, .any :: .con aj :: .own 1 :: .box 2 0 :: .any :: .any :: .any :: .box 3 0 :: .own 4 :: .own 5 :: .var tI :: aN 14 [.con ah, .con tI], [.cells [.con tI, .con ah], .rowc tI, .cells [.con tI, .con ah], .cells [.nils], .rowc .bool, .rowc tI]⟩, [tI])] }
def uF (ρ : Type) : bQ ρ := ⟨[8, 3], 136, 0, Hz, fun (p : Val (.pair aj (.pair ah (.pair tI (.pair tI (.pair ah (.pair ac (.pair tI (.pair ah aJ))))))))) (v : Val bc) kn kx => rz p.2.1 p.2.2.1 v.1 v.2 (fun u0 u1 => kn (u0, u1)) (kx 0)⟩
def Hy : bn := { pin := 2, cs := [aj, tI, tI, tI, ah, ac, tI, ah, ac], vs := [tI, aw, ac], head := ⟨140, .any :: .con aj :: .own 1 :: .box 2 0 :: .any :: .any :: .any :: .box 3 0 :: .own 4 :: .own 5 :: .con tI :: aN 27 [.con tI, .var tI], [.cells [.con tI, .con ah], .rowc tI, .cells [.con tI, .con ah], .cells [.own 6], .rowv .bool, .rowc tI, .rowv tI]⟩, exits := [(.exit 2, ⟨140, .any :: .con aj :: .own 1 :: .box 2 0 :: .any :: .any :: .any :: .box 3 0 :: .own 4 :: .own 5 :: .con tI :: aN 27 [.con tI], [.cells [.con tI, .con ah], .rowc tI, .cells [.con tI, .con ah], .cells [.own 6], .rowv .bool, .rowc tI, .rowv tI]⟩, [aw, ac])] }
def uE (ρ : Type) : bQ ρ := ⟨[8, 3], 136, 2, Hy, fun (p : Val (.pair aj (.pair tI (.pair tI (.pair tI (.pair ah (.pair ac (.pair tI (.pair ah ac))))))))) (v : Val (.pair tI aJ)) kn kx => ru p.2.2.1 p.2.2.2.2.2.1 v.1 v.2.1 v.2.2 (fun u0 u1 u2 => kn (u0, u1, u2)) (kx 0)⟩
def Hw : bn := { pin := 2, cs := [aj, tI, tI, ah, tI, tI, ah, tI, ah, ac], vs := [tI, ac, aw, ac], head := ⟨140, .any :: .con aj :: .own 1 :: .box 2 0 :: .any :: .any :: .any :: .box 3 0 :: .own 4 :: .own 5 :: .con tI :: .any :: .any :: .any :: .con tI :: aN 62 [.con ah, .con tI, .var tI], [.cells [.con tI, .con ah], .rowv tI, .cells [.con tI, .con ah], .cells [.own 6], .rowv .bool, .rowc tI, .rowv tI]⟩, exits := [(.ret, ⟨140, .any :: .con aj :: .own 1 :: .box 2 0 :: .any :: .any :: .var .bool :: .box 3 0 :: .own 4 :: .own 5 :: .con tI :: .any :: .any :: .any :: .con tI :: aN 62 [.con ah, .con tI], [.cells [.con tI, .con ah], .rowv tI, .cells [.con tI, .con ah], .cells [.own 6], .rowv .bool, .rowc tI, .rowv tI]⟩, [.bool, ac, aw, ac]), (.exit 6, ⟨140, .any :: .con aj :: .own 1 :: .box 2 0 :: .any :: .any :: .any :: .box 3 0 :: .own 4 :: .own 5 :: .con tI :: .any :: .any :: .any :: .con tI :: aN 62 [.con ah, .con tI], [.cells [.con tI, .con ah], .rowv tI, .cells [.con tI, .con ah], .cells [.own 6], .rowv .bool, .rowc tI, .rowv tI]⟩, [ac, aw, ac])] }
def uC (ρ : Type) : bQ ρ := ⟨[8, 3], 136, 6, Hw, fun (p : Val (.pair aj (.pair tI (.pair tI (.pair ah (.pair tI (.pair tI (.pair ah (.pair tI (.pair ah ac)))))))))) (v : Val (.pair tI (.pair ac aJ))) kn kx => Ay p.1 p.2.1 p.2.2.1 p.2.2.2.1 p.2.2.2.2.1 v.1 v.2.1 v.2.2.1 v.2.2.2 (fun u0 u1 u2 u3 => kn (u0, u1, u2, u3)) (kx 0) (kx 1)⟩
def Hx : bn := { pin := 2, cs := [aj, tI, tI, ah, tI, ah], vs := [ac, aw, ac, ac], head := ⟨140, [.any, .con aj, .own 1, .box 2 0, .any, .any, .any, .box 3 0, .own 4, .own 5, .con tI], [.cells [.con tI, .con ah], .rowv tI, .cells [.con tI, .con ah], .cells [.own 6], .rowv .bool, .rowv tI, .rowv tI]⟩, exits := [(.ret, ⟨140, [.any, .con aj, .own 1, .box 2 0, .any, .any, .var .bool, .box 3 0, .own 4, .own 5, .con tI], [.cells [.con tI, .con ah], .rowv tI, .cells [.con tI, .con ah], .cells [.own 6], .rowv .bool, .rowv tI, .rowv tI]⟩, [.bool, ac, aw, ac, ac])] }
def uD (ρ : Type) : bQ ρ := ⟨[8, 3], 136, 4, Hx, fun (p : Val (.pair aj aY)) (v : Val aK) kn kx => rt p.1 p.2.1 p.2.2.2.2.1 p.2.2.2.2.2 v.1 v.2.1 v.2.2.1 v.2.2.2 (fun u0 u1 u2 u3 => kn (u0, u1, u2, u3)) (kx 0)⟩
def NZ : List (Nat × bI) := []
def w9 (ρ : Type) : List (bQ ρ) := [uG ρ, uF ρ, uE ρ, uC ρ, uD ρ]
def iq (ρ : Type) : Env ρ := bL NZ (w9 ρ)
def zo : bI := ⟨[bo, tI, tI], [tI, tI], fun (x : Val aU) => nE x.1 x.2.1 x.2.2⟩
def Rc : List (Nat × bI) := [(63, zn), (64, vH)]
def AJ (ρ : Type) : List (bQ ρ) := []
def HU (ρ : Type) : Env ρ := bL Rc (AJ ρ)
def iT : bI := ⟨[au, tI, tI], [tI], fun (x : Val aO) => cq x.1 x.2.1 x.2.2⟩
def Cr : List (Nat × bI) := [(89, zo)]
def od (ρ : Type) : List (bQ ρ) := []
def sL (ρ : Type) : Env ρ := bL Cr (od ρ)
def oT : bI := ⟨[au, bc], [tI], fun (x : Val aO) => fU x.1 x.2⟩
def Cq : List (Nat × bI) := [(55, jb), (56, iT)]
def oc (ρ : Type) : List (bQ ρ) := []
def sK (ρ : Type) : Env ρ := bL Cq (oc ρ)
def kp : bI := ⟨[au, bc], [tI], fun (x : Val aO) => gw x.1 x.2⟩
def wz : List (Nat × bI) := [(55, jb), (56, iT)]
def lz (ρ : Type) : List (bQ ρ) := []
def nh (ρ : Type) : Env ρ := bL wz (lz ρ)
def iA : bI := ⟨[au, bc], [bc], fun (x : Val aO) => eT x.1 x.2⟩
def wy : List (Nat × bI) := [(121, oT), (122, kp)]
def lv (ρ : Type) : List (bQ ρ) := []
def jg (ρ : Type) : Env ρ := { bL wy (lv ρ) with hint := Dm [(12, 121), (16, 122)] }
def mm : bI := ⟨[bg, bc], [bg, tI], fun (x : Val aI) => fL x.1 x.2⟩
def OS : bn := { pin := 6, cs := [tI, tI, tI, ae, aa, af, ab, aa, tI, tI, tI, tI, tI, tI, ae, aa, af, ab, aa, tI, tI, tI, tI, ab, tI, tI, ae, aa, af, aa], vs := [tI, ab], head := ⟨50, .any :: .box 6 0 :: .box 7 0 :: .own 8 :: aN 21 [.own 8, .con tI, .var tI], [.cells [.con tI, .con tI, .con ae, .con aa, .con af, .con ab, .con aa], .cells [.con tI, .con tI], .cells [.con tI, .con tI, .nils, .nils, .nils, .nils, .nils], .cells [.con tI, .con tI, .con ae, .con aa, .con af, .con ab, .con aa], .cells [.con tI, .con tI, .nils, .nils, .nils, .nils, .nils], .dead, .cells [.con tI, .con tI, .own 9, .own 10, .own 11, .con ab, .own 12], .cells [.con tI, .con tI, .nils, .nils, .nils, .nils, .nils], .rowv bq, .rowc br, .rowc bc, .rowc dC, .rowc bc]⟩, exits := [(.exit 0, ⟨50, .any :: .box 6 0 :: .box 7 0 :: .own 8 :: aN 21 [.own 8, .con tI], [.cells [.con tI, .con tI, .con ae, .con aa, .con af, .con ab, .con aa], .cells [.con tI, .con tI], .cells [.con tI, .con tI, .nils, .nils, .nils, .nils, .nils], .cells [.con tI, .con tI, .con ae, .con aa, .con af, .con ab, .con aa], .cells [.con tI, .con tI, .nils, .nils, .nils, .nils, .nils], .dead, .cells [.con tI, .con tI, .own 9, .own 10, .own 11, .con ab, .own 12], .cells [.con tI, .con tI, .nils, .nils, .nils, .nils, .nils], .rowv bq, .rowc br, .rowc bc, .rowc dC, .rowc bc]⟩, [ab])] }
def Bk (ρ : Type) : bQ ρ := ⟨[1, 2, 4, 1], 175, 0, OS, fun (p : Val (.pair tI (.pair tI (.pair tI (.pair ae (.pair aa (.pair af (.pair ab (.pair aa (.pair tI (.pair tI (.pair tI (.pair tI (.pair tI (.pair tI (.pair ae (.pair aa (.pair af (.pair ab (.pair aa (.pair tI (.pair tI (.pair tI (.pair tI (.pair ab (.pair tI (.pair tI (.pair ae (.pair aa (.pair af aa)))))))))))))))))))))))))))))) (v : Val (.pair tI ab)) kn kx => rV p.1 v.1 v.2 (fun u0 u1 => kn (u0, u1)) (kx 0)⟩
def T4 : List (Nat × bI) := [(38, dX)]
def EJ (ρ : Type) : List (bQ ρ) := [Bk ρ]
def Db (ρ : Type) : Env ρ := bL T4 (EJ ρ)
def eQ : bI := ⟨[bo], [.bool, tI], fun (x : Val bo) => dc x⟩
def CU : List (Nat × bI) := [(133, m7), (135, nX)]
def ov (ρ : Type) : List (bQ ρ) := []
def sW (ρ : Type) : Env ρ := bL CU (ov ρ)
def D3 : bI := ⟨[bg, bc], [bc, tI], fun (x : Val aI) => lP x.1 x.2⟩
def CB : bn := { pin := 4, cs := [tI, tI, tI, ae, aa, af, ab, aa, tI, tI, tI, tI, aa], vs := [tI, tI, tI, ae, aa, af, ab, aa], head := ⟨68, .any :: .any :: .box 4 0 :: aN 20 [.own 3, .con tI, .var tI], [.cells [.con tI, .con tI, .con ae, .con aa, .con af, .con ab, .con aa], .cells [.con tI, .con tI], .cells [.con tI, .con tI], .rowc bc, .cells [.var tI, .var tI, .var ae, .var aa, .var af, .var ab, .var aa]]⟩, exits := [(.ret, ⟨68, .any :: .any :: .box 4 0 :: .any :: .nilp :: .var tI :: aN 17 [.own 3, .con tI], [.cells [.con tI, .con tI, .con ae, .con aa, .con af, .con ab, .con aa], .cells [.con tI, .con tI], .cells [.con tI, .con tI], .rowc bc, .cells [.var tI, .var tI, .var ae, .var aa, .var af, .var ab, .var aa]]⟩, [tI, tI, tI, ae, aa, af, ab, aa]), (.exit 0, ⟨68, .any :: .any :: .box 4 0 :: aN 20 [.own 3, .con tI], [.cells [.con tI, .con tI, .con ae, .con aa, .con af, .con ab, .con aa], .cells [.con tI, .con tI], .cells [.con tI, .con tI], .rowc bc, .cells [.var tI, .var tI, .var ae, .var aa, .var af, .var ab, .var aa]]⟩, [tI, tI, ae, aa, af, ab, aa])] }
def p8 (ρ : Type) : bQ ρ := ⟨[1, 3], 50, 0, CB, fun (p : Val (.pair tI (.pair tI (.pair tI (.pair ae (.pair aa (.pair af (.pair ab (.pair aa (.pair tI (.pair tI aP))))))))))) (v : Val aC) kn kx => cB p.1 p.2.2.2.2.2.2.2.2.2.2.2.2 v.1 v.2.1 v.2.2.1 v.2.2.2.1 v.2.2.2.2.1 v.2.2.2.2.2.1 v.2.2.2.2.2.2.1 v.2.2.2.2.2.2.2 (fun u0 u1 u2 u3 u4 u5 u6 u7 => kn (u0, u1, u2, u3, u4, u5, u6, u7)) (kx 0) (kx 1)⟩
def Ho : List (Nat × bI) := [(20, ej), (38, dX), (51, iA), (60, gT), (61, mm), (123, eQ)]
def sO (ρ : Type) : List (bQ ρ) := [p8 ρ]
def pb (ρ : Type) : Env ρ := bL Ho (sO ρ)
def GJ : bI := ⟨[bg, bc, bc], [bc, tI], fun (x : Val (.pair bg cg)) => se x.1 x.2.1 x.2.2⟩
def Ft : bn := { pin := 5, cs := [tI, tI, tI, ae, aa, af, ab, aa, tI, tI, tI, tI, tI, tI, aa], vs := [tI, tI, tI, ae, aa, af, ab, aa], head := ⟨68, .any :: .any :: .box 5 0 :: aN 20 [.own 4, .con tI, .var tI], [.cells [.con tI, .con tI, .con ae, .con aa, .con af, .con ab, .con aa], .cells [.con tI, .con tI], .cells [.con tI, .con tI], .cells [.con tI, .con tI], .rowc bc, .cells [.var tI, .var tI, .var ae, .var aa, .var af, .var ab, .var aa]]⟩, exits := [(.ret, ⟨68, .any :: .any :: .box 5 0 :: .any :: .nilp :: .var tI :: aN 17 [.own 4, .con tI], [.cells [.con tI, .con tI, .con ae, .con aa, .con af, .con ab, .con aa], .cells [.con tI, .con tI], .cells [.con tI, .con tI], .cells [.con tI, .con tI], .rowc bc, .cells [.var tI, .var tI, .var ae, .var aa, .var af, .var ab, .var aa]]⟩, [tI, tI, tI, ae, aa, af, ab, aa]), (.exit 0, ⟨68, .any :: .any :: .box 5 0 :: aN 20 [.own 4, .con tI], [.cells [.con tI, .con tI, .con ae, .con aa, .con af, .con ab, .con aa], .cells [.con tI, .con tI], .cells [.con tI, .con tI], .cells [.con tI, .con tI], .rowc bc, .cells [.var tI, .var tI, .var ae, .var aa, .var af, .var ab, .var aa]]⟩, [tI, tI, ae, aa, af, ab, aa])] }
def sS (ρ : Type) : bQ ρ := ⟨[1, 4], 50, 0, Ft, fun (p : Val (.pair tI (.pair tI (.pair tI (.pair ae (.pair aa (.pair af (.pair ab (.pair aa (.pair tI (.pair tI (.pair tI (.pair tI aP))))))))))))) (v : Val aC) kn kx => pj p.1 p.2.2.2.2.2.2.2.2.2.2.2.2.2.2 v.1 v.2.1 v.2.2.1 v.2.2.2.1 v.2.2.2.2.1 v.2.2.2.2.2.1 v.2.2.2.2.2.2.1 v.2.2.2.2.2.2.2 (fun u0 u1 u2 u3 u4 u5 u6 u7 => kn (u0, u1, u2, u3, u4, u5, u6, u7)) (kx 0) (kx 1)⟩
def Ks : List (Nat × bI) := [(20, ej), (38, dX), (55, jb), (56, iT), (60, gT), (61, mm), (123, eQ)]
def uz (ρ : Type) : List (bQ ρ) := [sS ρ]
def ro (ρ : Type) : Env ρ := bL Ks (uz ρ)
def Cg : bI := ⟨[ac, ac], [ac, ac, tI], fun (x : Val (.pair ac ac)) => qD x.1 x.2⟩
def OW : List (Nat × bI) := [(88, vI), (198, Ce)]
def xy (ρ : Type) : List (bQ ρ) := []
def EL (ρ : Type) : Env ρ := bL OW (xy ρ)
def U9 : bI := ⟨[ac, tI], [.bool], fun (x : Val az) => Gc x.1 x.2⟩
def Tz : List (Nat × bI) := [(129, Cg)]
def D8 (ρ : Type) : List (bQ ρ) := []
def LV (ρ : Type) : Env ρ := bL Tz (D8 ρ)
def Ql : bI := ⟨[tI], [.bool], fun (x : Val tI) => BA x⟩
def QR : List (Nat × bI) := []
def Aa (ρ : Type) : List (bQ ρ) := []
def Hc (ρ : Type) : Env ρ := bL QR (Aa ρ)
def Qk : bI := ⟨[tI, am], [aa], fun (x : Val (.pair tI am)) => Bz x.1 x.2⟩
def Kf : bn := { pin := 0, cs := [tI, ac, tI], vs := [tI, aa], head := ⟨23, .con tI :: aN 4 [.own 0, .any, .any, .any, .con ac, .con tI, .var tI], [.rowv bc]⟩, exits := [(.exit 0, ⟨23, .con tI :: aN 4 [.own 0, .any, .any, .any, .con ac, .con tI], [.rowv bc]⟩, [aa])] }
def wT (ρ : Type) : bQ ρ := ⟨[], 59, 0, Kf, fun (p : Val (.pair tI az)) (v : Val aA) kn kx => oe p.1 p.2.1 p.2.2 v.1 v.2 (fun u0 u1 => kn (u0, u1)) (kx 0)⟩
def QQ : List (Nat × bI) := [(94, eh)]
def zZ (ρ : Type) : List (bQ ρ) := [wT ρ]
def yg (ρ : Type) : Env ρ := bL QQ (zZ ρ)
def MZ : bI := ⟨[bg, tI, ac], [bc, tI], fun (x : Val (.pair bg ax)) => BB x.1 x.2.1 x.2.2⟩
def NR : bn := { pin := 3, cs := [aa, tI, tI, tI, ae, aa, af, ab, aa, tI, tI, am], vs := [tI, tI, tI, ae, aa, af, ab, aa], head := ⟨68, .any :: .any :: .box 3 0 :: aN 20 [.con aa, .con tI, .var tI], [.cells [.con tI, .con tI, .con ae, .con aa, .con af, .con ab, .con aa], .cells [.con tI, .con tI], .rowf ac 0, .cells [.var tI, .var tI, .var ae, .var aa, .var af, .var ab, .var aa]]⟩, exits := [(.ret, ⟨68, .any :: .any :: .box 3 0 :: .any :: .nilp :: .var tI :: aN 17 [.con aa, .con tI], [.cells [.con tI, .con tI, .con ae, .con aa, .con af, .con ab, .con aa], .cells [.con tI, .con tI], .rowf ac 0, .cells [.var tI, .var tI, .var ae, .var aa, .var af, .var ab, .var aa]]⟩, [tI, tI, tI, ae, aa, af, ab, aa]), (.exit 0, ⟨68, .any :: .any :: .box 3 0 :: aN 20 [.con aa, .con tI], [.cells [.con tI, .con tI, .con ae, .con aa, .con af, .con ab, .con aa], .cells [.con tI, .con tI], .rowf ac 0, .cells [.var tI, .var tI, .var ae, .var aa, .var af, .var ab, .var aa]]⟩, [tI, tI, ae, aa, af, ab, aa])] }
def Aj (ρ : Type) : bQ ρ := ⟨[7, 2], 50, 0, NR, fun (p : Val (.pair aa (.pair tI (.pair tI (.pair tI (.pair ae (.pair aa (.pair af (.pair ab (.pair aa (.pair tI (.pair tI am)))))))))))) (v : Val aC) kn kx => rj p.1 p.2.1 v.1 v.2.1 v.2.2.1 v.2.2.2.1 v.2.2.2.2.1 v.2.2.2.2.2.1 v.2.2.2.2.2.2.1 v.2.2.2.2.2.2.2 (fun u0 u1 u2 u3 u4 u5 u6 u7 => kn (u0, u1, u2, u3, u4, u5, u6, u7)) (kx 0) (kx 1)⟩
def NQ : bn := { pin := 0, cs := [au, aa, tI, tI, tI], vs := [tI, tI, tI], head := ⟨87, aN 6 (.box 0 0 :: .any :: .any :: .any :: .con au :: .any :: .any :: .box 1 0 :: aN 51 [.con aa, .con tI, .var tI]), [.cells [.con tI, .con tI], .cells [.var tI, .var tI]]⟩, exits := [(.exit 0, ⟨87, aN 6 (.box 0 0 :: .any :: .any :: .any :: .con au :: .any :: .any :: .box 1 0 :: aN 51 [.con aa, .con tI]), [.cells [.con tI, .con tI], .cells [.var tI, .var tI]]⟩, [tI, tI])] }
def Ai (ρ : Type) : bQ ρ := ⟨[], 18, 0, NQ, fun (p : Val (.pair au (.pair aa cA))) (v : Val cA) kn kx => ri p.1 p.2.1 p.2.2.1 v.1 v.2.1 v.2.2 (fun u0 u1 u2 => kn (u0, u1, u2)) (kx 0)⟩
def TE : List (Nat × bI) := [(20, ej), (38, dX), (51, iA), (57, U9), (58, Ql), (59, Qk), (60, gT), (61, mm), (123, eQ)]
def Eg (ρ : Type) : List (bQ ρ) := [Aj ρ, Ai ρ]
def vN (ρ : Type) : Env ρ := bL TE (Eg ρ)
def xP : bI := ⟨[bc, bc], [tI], fun (x : Val cg) => nz x.1 x.2⟩
def J2 : List (Nat × bI) := []
def tX (ρ : Type) : List (bQ ρ) := []
def zL (ρ : Type) : Env ρ := bL J2 (tX ρ)
def Qn : bI := ⟨[bg, bc, bc], [tI, tI], fun (x : Val (.pair bg cg)) => BC x.1 x.2.1 x.2.2⟩
def Kq : bn := { pin := 4, cs := [tI, tI, tI, ae, aa, af, ab, aa, tI, tI, tI, tI, aa], vs := [tI, tI, tI, ae, aa, af, ab, aa], head := ⟨68, .any :: .any :: .box 4 0 :: aN 20 [.own 3, .con tI, .var tI], [.cells [.con tI, .con tI, .con ae, .con aa, .con af, .con ab, .con aa], .cells [.con tI, .con tI], .cells [.con tI, .con tI], .rowc bc, .cells [.var tI, .var tI, .var ae, .var aa, .var af, .var ab, .var aa]]⟩, exits := [(.ret, ⟨68, .any :: .any :: .box 4 0 :: .any :: .nilp :: .var tI :: aN 17 [.own 3, .con tI], [.cells [.con tI, .con tI, .con ae, .con aa, .con af, .con ab, .con aa], .cells [.con tI, .con tI], .cells [.con tI, .con tI], .rowc bc, .cells [.var tI, .var tI, .var ae, .var aa, .var af, .var ab, .var aa]]⟩, [tI, tI, tI, ae, aa, af, ab, aa]), (.exit 0, ⟨68, .any :: .any :: .box 4 0 :: aN 20 [.own 3, .con tI], [.cells [.con tI, .con tI, .con ae, .con aa, .con af, .con ab, .con aa], .cells [.con tI, .con tI], .cells [.con tI, .con tI], .rowc bc, .cells [.var tI, .var tI, .var ae, .var aa, .var af, .var ab, .var aa]]⟩, [tI, tI, ae, aa, af, ab, aa])] }
def w8 (ρ : Type) : bQ ρ := ⟨[1, 3], 50, 0, Kq, fun (p : Val (.pair tI (.pair tI (.pair tI (.pair ae (.pair aa (.pair af (.pair ab (.pair aa (.pair tI (.pair tI aP))))))))))) (v : Val aC) kn kx => un p.1 p.2.2.2.2.2.2.2.2.2.2.2.2 v.1 v.2.1 v.2.2.1 v.2.2.2.1 v.2.2.2.2.1 v.2.2.2.2.2.1 v.2.2.2.2.2.2.1 v.2.2.2.2.2.2.2 (fun u0 u1 u2 u3 u4 u5 u6 u7 => kn (u0, u1, u2, u3, u4, u5, u6, u7)) (kx 0) (kx 1)⟩
def Q1 : List (Nat × bI) := [(20, ej), (38, dX), (51, iA), (60, gT), (61, mm), (69, xP), (123, eQ)]
def Ak (ρ : Type) : List (bQ ρ) := [w8 ρ]
def yl (ρ : Type) : Env ρ := bL Q1 (Ak ρ)
def M9 : bI := ⟨[bg, bq], [bg, tI], fun (x : Val aG) => mB x.1 x.2⟩
def OM : bn := { pin := 8, cs := [tI, tI, tI, ae, aa, af, ab, aa, tI, tI, ac, ac, tI, tI, tI, tI, tI, tI, tI, tI, ae, aa, af, ab, aa, tI, tI, tI, tI, ab, tI, tI, ae, aa, af, aa], vs := [tI, ab], head := ⟨50, .any :: .box 8 0 :: .box 9 0 :: .own 10 :: aN 21 [.own 10, .con tI, .var tI], [.cells [.con tI, .con tI, .con ae, .con aa, .con af, .con ab, .con aa], .cells [.con tI, .con tI, .con ac, .con ac, .con tI, .con tI, .con tI, .con tI], .cells [.con tI, .con tI, .nils, .nils, .nils, .nils, .nils], .dead, .dead, .cells [.con tI, .con tI, .con ae, .con aa, .con af, .con ab, .con aa], .cells [.con tI, .con tI, .nils, .nils, .nils, .nils, .nils], .dead, .cells [.con tI, .con tI, .own 11, .own 12, .own 13, .con ab, .own 14], .cells [.con tI, .con tI, .nils, .nils, .nils, .nils, .nils], .rowv bq, .rowc br, .rowc bc, .rowc dC, .rowc bc]⟩, exits := [(.exit 0, ⟨50, .any :: .box 8 0 :: .box 9 0 :: .own 10 :: aN 21 [.own 10, .con tI], [.cells [.con tI, .con tI, .con ae, .con aa, .con af, .con ab, .con aa], .cells [.con tI, .con tI, .con ac, .con ac, .con tI, .con tI, .con tI, .con tI], .cells [.con tI, .con tI, .nils, .nils, .nils, .nils, .nils], .dead, .dead, .cells [.con tI, .con tI, .con ae, .con aa, .con af, .con ab, .con aa], .cells [.con tI, .con tI, .nils, .nils, .nils, .nils, .nils], .dead, .cells [.con tI, .con tI, .own 11, .own 12, .own 13, .con ab, .own 14], .cells [.con tI, .con tI, .nils, .nils, .nils, .nils, .nils], .rowv bq, .rowc br, .rowc bc, .rowc dC, .rowc bc]⟩, [ab])] }
def Bi (ρ : Type) : bQ ρ := ⟨[2, 2, 4, 1], 175, 0, OM, fun (p : Val (.pair tI (.pair tI (.pair tI (.pair ae (.pair aa (.pair af (.pair ab (.pair aa (.pair tI (.pair tI (.pair ac (.pair ac (.pair tI (.pair tI (.pair tI (.pair tI (.pair tI (.pair tI (.pair tI (.pair tI (.pair ae (.pair aa (.pair af (.pair ab (.pair aa (.pair tI (.pair tI (.pair tI (.pair tI (.pair ab (.pair tI (.pair tI (.pair ae (.pair aa (.pair af aa)))))))))))))))))))))))))))))))))))) (v : Val (.pair tI ab)) kn kx => rU p.1 v.1 v.2 (fun u0 u1 => kn (u0, u1)) (kx 0)⟩
def T2 : List (Nat × bI) := [(38, dX)]
def EG (ρ : Type) : List (bQ ρ) := [Bi ρ]
def C9 (ρ : Type) : Env ρ := bL T2 (EG ρ)
def Qu : bI := ⟨[bg, bq, bc], [bc, tI], fun (x : Val (.pair bg (.pair bq bc))) => qB x.1 x.2.1 x.2.2⟩
def Rp : List (Nat × bI) := [(171, Cf), (172, GP), (173, M5), (174, GN)]
def AW (ρ : Type) : List (bQ ρ) := []
def Ih (ρ : Type) : Env ρ := bL Rp (AW ρ)
def GQ : bI := ⟨[bg, bq], [bc, tI], fun (x : Val aG) => si x.1 x.2⟩
def Lb : List (Nat × bI) := [(41, M9), (62, FX), (87, tM), (88, vI), (89, zo), (90, Qu)]
def uX (ρ : Type) : List (bQ ρ) := []
def Bj (ρ : Type) : Env ρ := bL Lb (uX ρ)
def Qt : bI := ⟨[bg, tI], [bq, tI], fun (x : Val aM) => BI x.1 x.2⟩
def Ro : List (Nat × bI) := [(38, dX)]
def AU (ρ : Type) : List (bQ ρ) := []
def If (ρ : Type) : Env ρ := bL Ro (AU ρ)
def Ve : bI := ⟨[bg, tI], [bc, tI], fun (x : Val aM) => Ge x.1 x.2⟩
def T3 : List (Nat × bI) := [(200, M6), (205, Qt)]
def EI (ρ : Type) : List (bQ ρ) := []
def L5 (ρ : Type) : Env ρ := bL T3 (EI ρ)
def D2 : bI := ⟨[ac, au, (.ptr bq)], [tI], fun (x : Val (.pair ac (.pair au (.ptr bq)))) => lO x.1 x.2.1 x.2.2⟩
def Hb : List (Nat × bI) := [(55, jb)]
def sN (ρ : Type) : List (bQ ρ) := []
def wW (ρ : Type) : Env ρ := bL Hb (sN ρ)
def D1 : bI := ⟨[tI, tI, au, (.ptr tI), aQ, (.ptr tI)], [cA], fun (x : Val (.pair tI (.pair tI (.pair au (.pair (.ptr tI) (.pair aQ (.ptr tI))))))) => lN x.1 x.2.1 x.2.2.1 x.2.2.2.1 x.2.2.2.2.1 x.2.2.2.2.2⟩
def Ha : List (Nat × bI) := [(56, iT)]
def sM (ρ : Type) : List (bQ ρ) := []
def wV (ρ : Type) : Env ρ := bL Ha (sM ρ)
def Cd : bI := ⟨[au, bc, bq], [eW, tI], fun (x : Val (.pair au aS)) => qx x.1 x.2.1 x.2.2⟩
def G9 : bn := { pin := 0, cs := [tI, ac, ac, aa, ah, tI, tI, tI, tI, tI, ac, ac, tI, tI, tI, tI, tI, tI, tI, tI, tI, tI, tI, tI, tI, tI, tI, tI, tI, tI, ae, aa, af, ab, aa, tI], vs := [tI, ah], head := ⟨127, aN 4 (.box 0 0 :: .box 1 0 :: .box 2 0 :: .any :: .box 3 0 :: .any :: .any :: .con tI :: .box 4 0 :: .any :: .con ac :: .con ac :: .any :: .any :: .con aa :: .any :: .box 5 0 :: aN 65 [.con ah, .con tI, .var tI]), [.cells [.con tI, .con tI], .cells [.con tI, .con tI, .con ac, .con ac, .con tI, .con tI, .con tI, .con tI], .cells [.con tI, .con tI, .con tI, .con tI, .con tI, .con tI, .con tI, .con tI], .cells [.con tI, .con tI], .cells [.con tI, .con tI], .cells [.con tI, .con tI, .con ae, .con aa, .con af, .con ab, .con aa, .con tI, .own 6], .rowv cA]⟩, exits := [(.exit 0, ⟨127, aN 4 (.box 0 0 :: .box 1 0 :: .box 2 0 :: .any :: .box 3 0 :: .any :: .any :: .con tI :: .box 4 0 :: .any :: .con ac :: .con ac :: .any :: .any :: .con aa :: .any :: .box 5 0 :: aN 65 [.con ah, .con tI]), [.cells [.con tI, .con tI], .cells [.con tI, .con tI, .con ac, .con ac, .con tI, .con tI, .con tI, .con tI], .cells [.con tI, .con tI, .con tI, .con tI, .con tI, .con tI, .con tI, .con tI], .cells [.con tI, .con tI], .cells [.con tI, .con tI], .cells [.con tI, .con tI, .con ae, .con aa, .con af, .con ab, .con aa, .con tI, .own 6], .rowv cA]⟩, [ah])] }
def ud (ρ : Type) : bQ ρ := ⟨[], 71, 0, G9, fun (p : Val (.pair tI (.pair ac (.pair ac (.pair aa (.pair ah (.pair tI (.pair tI (.pair tI (.pair tI (.pair tI (.pair ac (.pair ac (.pair tI (.pair tI (.pair tI (.pair tI (.pair tI (.pair tI (.pair tI (.pair tI (.pair tI (.pair tI (.pair tI (.pair tI (.pair tI (.pair tI (.pair tI (.pair tI (.pair tI (.pair tI (.pair ae (.pair aa (.pair af (.pair ab (.pair aa tI)))))))))))))))))))))))))))))))))))) (v : Val bo) kn kx => jR p.1 p.2.2.2.1 p.2.2.2.2.1 p.2.2.2.2.2.1 v.1 v.2 (fun u0 u1 => kn (u0, u1)) (kx 0)⟩
def NE : List (Nat × bI) := [(20, ej), (40, GQ), (41, M9), (55, jb), (129, Cg), (142, Ve), (143, D2), (144, D1)]
def wU (ρ : Type) : List (bQ ρ) := [ud ρ]
def og (ρ : Type) : Env ρ := { bL NE (wU ρ) with hint := Dm [(110, 143), (113, 143), (120, 144), (123, 144)] }
def qM : bI := ⟨[cA], [ac], fun (x : Val cA) => gN x⟩
def Fk : List (Nat × bI) := []
def pR (ρ : Type) : List (bQ ρ) := []
def ug (ρ : Type) : Env ρ := bL Fk (pR ρ)
def LJ : bI := ⟨[cA, tI], [tI], fun (x : Val (.pair cA tI)) => qy x.1 x.2⟩
def NG : List (Nat × bI) := []
def wX (ρ : Type) : List (bQ ρ) := []
def Ea (ρ : Type) : Env ρ := bL NG (wX ρ)
def oR : bI := ⟨[eW, tI], [bc], fun (x : Val (.pair eW tI)) => dV x.1 x.2⟩
def Cn : List (Nat × bI) := [(177, LJ)]
def oa (ρ : Type) : List (bQ ρ) := []
def sI (ρ : Type) : Env ρ := bL Cn (oa ρ)
def oS : bI := ⟨[eW, ac], [ac], fun (x : Val (.pair eW ac)) => iZ x.1 x.2⟩
def yb : bn := { pin := 0, cs := [tI, ac, tI, tI, tI, tI, tI, tI, tI, tI, tI, tI], vs := [tI, ac], head := ⟨48, .any :: .any :: .box 0 0 :: .any :: .any :: .own 1 :: .any :: .con tI :: .var tI :: aN 7 [.con ac, .con tI, .con tI], [.cells [.con tI, .con tI, .con tI, .con tI, .con tI, .con tI, .con tI, .con tI], .rowv tI]⟩, exits := [(.exit 2, ⟨48, .any :: .any :: .box 0 0 :: .any :: .any :: .own 1 :: .any :: .con tI :: aN 8 [.con ac, .con tI, .con tI], [.cells [.con tI, .con tI, .con tI, .con tI, .con tI, .con tI, .con tI, .con tI], .rowv tI]⟩, [ac])] }
def nf (ρ : Type) : bQ ρ := ⟨[], 101, 2, yb, fun (p : Val (.pair tI (.pair ac (.pair tI (.pair tI ar))))) (v : Val ax) kn kx => gq p.1 p.2.2.2.2.1 p.2.2.2.2.2.1 v.1 v.2 (fun u0 u1 => kn (u0, u1)) (kx 0)⟩
def yc : bn := { pin := 0, cs := [ac, tI, tI, tI, tI, tI, tI, tI, tI, tI], vs := [tI, ac], head := ⟨48, .any :: .any :: .box 0 0 :: .any :: .any :: .own 1 :: aN 10 [.con ac, .con tI, .var tI], [.cells [.con tI, .con tI, .con tI, .con tI, .con tI, .con tI, .con tI, .con tI], .rowv tI]⟩, exits := [(.exit 0, ⟨48, .any :: .any :: .box 0 0 :: .any :: .any :: .own 1 :: aN 10 [.con ac, .con tI], [.cells [.con tI, .con tI, .con tI, .con tI, .con tI, .con tI, .con tI, .con tI], .rowv tI]⟩, [ac])] }
def ng (ρ : Type) : bQ ρ := ⟨[], 101, 0, yc, fun (p : Val (.pair ac (.pair tI ar))) (v : Val ax) kn kx => iE p.1 p.2.1 p.2.2.1 p.2.2.2.1 v.1 v.2 (fun u0 u1 => kn (u0, u1)) (kx 0)⟩
def Co : List (Nat × bI) := []
def ob (ρ : Type) : List (bQ ρ) := [nf ρ, ng ρ]
def i7 (ρ : Type) : Env ρ := bL Co (ob ρ)
def tK : bI := ⟨[eW], [tI], fun (x : Val eW) => jY x⟩
def wu : bn := { pin := 0, cs := [ac, tI, tI, tI, tI, tI, tI, tI, tI, tI], vs := [tI, tI], head := ⟨34, .any :: .box 0 0 :: .any :: .var tI :: aN 12 [.con ac, .con tI, .var tI], [.cells [.con tI, .con tI, .con tI, .con tI, .con tI, .con tI, .con tI, .con tI]]⟩, exits := [(.exit 0, ⟨34, .any :: .box 0 0 :: .any :: .var tI :: aN 12 [.con ac, .con tI], [.cells [.con tI, .con tI, .con tI, .con tI, .con tI, .con tI, .con tI, .con tI]]⟩, [tI])] }
def md (ρ : Type) : bQ ρ := ⟨[], 72, 0, wu, fun (p : Val (.pair ac (.pair tI ar))) (v : Val bc) kn kx => ig p.1 p.2.1 p.2.2.1 p.2.2.2.1 p.2.2.2.2.1 p.2.2.2.2.2.1 p.2.2.2.2.2.2.1 p.2.2.2.2.2.2.2.1 p.2.2.2.2.2.2.2.2.1 p.2.2.2.2.2.2.2.2.2 v.1 v.2 (fun u0 u1 => kn (u0, u1)) (kx 0)⟩
def zI : List (Nat × bI) := [(94, eh), (95, qM), (99, oR), (101, oS)]
def m9 (ρ : Type) : List (bQ ρ) := [md ρ]
def ky (ρ : Type) : Env ρ := bL zI (m9 ρ)
def Qm : bI := ⟨[bg, bc, bq], [tI, tI], fun (x : Val (.pair bg aS)) => vj x.1 x.2.1 x.2.2⟩
def Kl : bn := { pin := 4, cs := [tI, tI, tI, ae, aa, af, ab, aa, tI, tI, tI, tI, ac, ac, tI, tI, tI, tI, aa], vs := [tI, tI, tI, ae, aa, af, ab, aa], head := ⟨68, .any :: .any :: .box 4 0 :: aN 20 [.own 3, .con tI, .var tI], [.cells [.con tI, .con tI, .con ae, .con aa, .con af, .con ab, .con aa], .cells [.con tI, .con tI], .cells [.con tI, .con tI, .con ac, .con ac, .con tI, .con tI, .con tI, .con tI], .rowc bc, .cells [.var tI, .var tI, .var ae, .var aa, .var af, .var ab, .var aa]]⟩, exits := [(.ret, ⟨68, .any :: .any :: .box 4 0 :: .any :: .nilp :: .var tI :: aN 17 [.own 3, .con tI], [.cells [.con tI, .con tI, .con ae, .con aa, .con af, .con ab, .con aa], .cells [.con tI, .con tI], .cells [.con tI, .con tI, .con ac, .con ac, .con tI, .con tI, .con tI, .con tI], .rowc bc, .cells [.var tI, .var tI, .var ae, .var aa, .var af, .var ab, .var aa]]⟩, [tI, tI, tI, ae, aa, af, ab, aa]), (.exit 0, ⟨68, .any :: .any :: .box 4 0 :: aN 20 [.own 3, .con tI], [.cells [.con tI, .con tI, .con ae, .con aa, .con af, .con ab, .con aa], .cells [.con tI, .con tI], .cells [.con tI, .con tI, .con ac, .con ac, .con tI, .con tI, .con tI, .con tI], .rowc bc, .cells [.var tI, .var tI, .var ae, .var aa, .var af, .var ab, .var aa]]⟩, [tI, tI, ae, aa, af, ab, aa])] }
def wY (ρ : Type) : bQ ρ := ⟨[1, 3], 50, 0, Kl, fun (p : Val (.pair tI (.pair tI (.pair tI (.pair ae (.pair aa (.pair af (.pair ab (.pair aa (.pair tI (.pair tI (.pair tI (.pair tI (.pair ac (.pair ac (.pair tI (.pair tI aP))))))))))))))))) (v : Val aC) kn kx => uj p.1 p.2.2.2.2.2.2.2.2.2.2.2.2.2.2.2.2.2.2 v.1 v.2.1 v.2.2.1 v.2.2.2.1 v.2.2.2.2.1 v.2.2.2.2.2.1 v.2.2.2.2.2.2.1 v.2.2.2.2.2.2.2 (fun u0 u1 u2 u3 u4 u5 u6 u7 => kn (u0, u1, u2, u3, u4, u5, u6, u7)) (kx 0) (kx 1)⟩
def QZ : List (Nat × bI) := [(20, ej), (38, dX), (60, gT), (61, mm), (71, Cd), (72, tK), (123, eQ)]
def Ad (ρ : Type) : List (bQ ρ) := [wY ρ]
def yj (ρ : Type) : Env ρ := bL QZ (Ad ρ)
def xR : bI := ⟨[bo, ac], [tI], fun (x : Val aR) => nD x.1 x.2⟩
def Fv : bn := { pin := 1, cs := [ac, tI, tI, ah], vs := [tI], head := ⟨19, .con ac :: .fn 206 [(0, 0)] :: aN 5 [.con tI, .var tI], [.cells [.con tI, .con ah]]⟩, exits := [(.ret, ⟨19, [.con ac, .fn 206 [(0, 0)], .any, .any, .var tI, .any, .any, .con tI], [.cells [.con tI, .con ah]]⟩, [tI]), (.exit 0, ⟨19, .con ac :: .fn 206 [(0, 0)] :: aN 5 [.con tI], [.cells [.con tI, .con ah]]⟩, [])] }
def sU (ρ : Type) : bQ ρ := ⟨[3, 2, 1, 2], 178, 0, Fv, fun (p : Val (.pair ac aF)) (v : Val tI) kn kx => kZ p.1 p.2.1 p.2.2.2 v (fun u0 => kn u0) (kx 0) (kx 1)⟩
def Ku : List (Nat × bI) := []
def uB (ρ : Type) : List (bQ ρ) := [sU ρ]
def rr (ρ : Type) : Env ρ := bL Ku (uB ρ)
def M3 : bI := ⟨[bo, tI, ac], [tI, tI, .bool], fun (x : Val (.pair bo ax)) => BF x.1 x.2.1 x.2.2⟩
def NV : bn := { pin := 0, cs := [ac, tI, tI, ah], vs := [tI, tI, tI], head := ⟨37, .any :: .var tI :: .any :: .box 0 0 :: aN 5 [.var tI, .any, .any, .any, .con ac, .con tI, .var tI], [.cells [.con tI, .con ah]]⟩, exits := [(.ret, ⟨37, .any :: .any :: .any :: .box 0 0 :: .any :: .any :: .var tI :: .var tI :: .var .bool :: aN 4 [.con ac, .con tI], [.cells [.con tI, .con ah]]⟩, [tI, tI, .bool]), (.exit 0, ⟨37, .any :: .var tI :: .any :: .box 0 0 :: aN 5 [.var tI, .any, .any, .any, .con ac, .con tI], [.cells [.con tI, .con ah]]⟩, [tI, tI])] }
def Aq (ρ : Type) : bQ ρ := ⟨[], 146, 0, NV, fun (p : Val (.pair ac aF)) (v : Val cA) kn kx => rq p.1 p.2.1 p.2.2.2 v.1 v.2.1 v.2.2 (fun u0 u1 u2 => kn (u0, u1, u2)) (kx 0) (kx 1)⟩
def TF : List (Nat × bI) := []
def Eh (ρ : Type) : List (bQ ρ) := [Aq ρ]
def CJ (ρ : Type) : Env ρ := bL TF (Eh ρ)
def wL : bI := ⟨[bo, tI, tI, ac], [tI, tI], fun (x : Val (.pair bo (.pair tI ax))) => i0 x.1 x.2.1 x.2.2.1 x.2.2.2⟩
def CW : List (Nat × bI) := [(133, m7), (134, FW), (145, xR), (146, M3)]
def oy (ρ : Type) : List (bQ ρ) := []
def sY (ρ : Type) : Env ρ := bL CW (oy ρ)
def qN : bI := ⟨[fX], [tI], fun (x : Val fX) => j1 x⟩
def Fp : List (Nat × bI) := [(20, ej), (38, dX), (60, gT), (76, wL)]
def p9 (ρ : Type) : List (bQ ρ) := []
def ur (ρ : Type) : Env ρ := bL Fp (p9 ρ)
def wK : bI := ⟨[bo, ac], [tI], fun (x : Val aR) => lf x.1 x.2⟩
def CV : List (Nat × bI) := [(133, m7), (145, xR), (146, M3)]
def ox (ρ : Type) : List (bQ ρ) := []
def sX (ρ : Type) : Env ρ := bL CV (ox ρ)
def wJ : bI := ⟨[fX], [tI], fun (x : Val fX) => ld x⟩
def CC : List (Nat × bI) := [(20, ej), (38, dX), (86, wK)]
def oo (ρ : Type) : List (bQ ρ) := []
def sP (ρ : Type) : Env ρ := bL CC (oo ρ)
def gS : bI := ⟨[ae, br], [tI], fun (x : Val (.pair ae br)) => eF x.1 x.2⟩
def jC : bn := { pin := 0, cs := [ae, tI, tI, tI, tI, tI, tI, tI, tI, tI], vs := [tI], head := ⟨19, [.con ae, .any, .any, .box 0 0, .any, .any, .any, .con tI, .var tI], [.cells [.con tI, .con tI, .con tI, .con tI, .con tI, .con tI, .con tI, .con tI]]⟩, exits := [(.ret, ⟨19, [.con ae, .any, .any, .box 0 0, .var tI, .any, .any, .con tI], [.cells [.con tI, .con tI, .con tI, .con tI, .con tI, .con tI, .con tI, .con tI]]⟩, [tI]), (.exit 0, ⟨19, [.con ae, .any, .any, .box 0 0, .any, .any, .any, .con tI], [.cells [.con tI, .con tI, .con tI, .con tI, .con tI, .con tI, .con tI, .con tI]]⟩, [])] }
def fp (ρ : Type) : bQ ρ := ⟨[], 254, 0, jC, fun (p : Val (.pair ae (.pair tI ar))) (v : Val tI) kn kx => cj p.1 p.2.1 p.2.2.1 p.2.2.2.1 p.2.2.2.2.1 p.2.2.2.2.2.1 p.2.2.2.2.2.2.1 p.2.2.2.2.2.2.2.1 p.2.2.2.2.2.2.2.2.1 p.2.2.2.2.2.2.2.2.2 v (fun u0 => kn u0) (kx 0) (kx 1)⟩
def j8 : List (Nat × bI) := []
def fJ (ρ : Type) : List (bQ ρ) := [fp ρ]
def dQ (ρ : Type) : Env ρ := bL j8 (fJ ρ)
def fZ : bI := ⟨[ae, br], [.bool], fun (x : Val (.pair ae br)) => cW x.1 x.2⟩
def jf : List (Nat × bI) := [(254, gS)]
def eR (ρ : Type) : List (bQ ρ) := []
def ft (ρ : Type) : Env ρ := bL jf (eR ρ)
def iS : bI := ⟨[aa, bc], [tI], fun (x : Val aT) => fT x.1 x.2⟩
def lq : bn := { pin := 0, cs := [aa, tI, tI, tI], vs := [tI], head := ⟨19, [.con aa, .any, .any, .box 0 0, .any, .any, .any, .con tI, .var tI], [.cells [.con tI, .con tI]]⟩, exits := [(.ret, ⟨19, [.con aa, .any, .any, .box 0 0, .var tI, .any, .any, .con tI], [.cells [.con tI, .con tI]]⟩, [tI]), (.exit 0, ⟨19, [.con aa, .any, .any, .box 0 0, .any, .any, .any, .con tI], [.cells [.con tI, .con tI]]⟩, [])] }
def gB (ρ : Type) : bQ ρ := ⟨[], 256, 0, lq, fun (p : Val (.pair aa cA)) (v : Val tI) kn kx => cI p.1 p.2.1 p.2.2.1 p.2.2.2 v (fun u0 => kn u0) (kx 0) (kx 1)⟩
def mn : List (Nat × bI) := []
def gU (ρ : Type) : List (bQ ρ) := [gB ρ]
def eZ (ρ : Type) : Env ρ := bL mn (gU ρ)
def hZ : bI := ⟨[aa, bc], [.bool], fun (x : Val aT) => cN x.1 x.2⟩
def kw : List (Nat × bI) := [(256, iS)]
def f6 (ρ : Type) : List (bQ ρ) := []
def gC (ρ : Type) : Env ρ := bL kw (f6 ρ)
def ik : bI := ⟨[af, dC], [tI], fun (x : Val (.pair af dC)) => fh x.1 x.2⟩
def j7 : bn := { pin := 0, cs := [af, tI, tI, tI, tI, tI], vs := [tI], head := ⟨19, [.con af, .any, .any, .box 0 0, .any, .any, .any, .con tI, .var tI], [.cells [.con tI, .con tI, .con tI, .con tI]]⟩, exits := [(.ret, ⟨19, [.con af, .any, .any, .box 0 0, .var tI, .any, .any, .con tI], [.cells [.con tI, .con tI, .con tI, .con tI]]⟩, [tI]), (.exit 0, ⟨19, [.con af, .any, .any, .box 0 0, .any, .any, .any, .con tI], [.cells [.con tI, .con tI, .con tI, .con tI]]⟩, [])] }
def f5 (ρ : Type) : bQ ρ := ⟨[], 258, 0, j7, fun (p : Val (.pair af (.pair tI (.pair tI cA)))) (v : Val tI) kn kx => cr p.1 p.2.1 p.2.2.1 p.2.2.2.1 p.2.2.2.2.1 p.2.2.2.2.2 v (fun u0 => kn u0) (kx 0) (kx 1)⟩
def lu : List (Nat × bI) := []
def gp (ρ : Type) : List (bQ ρ) := [f5 ρ]
def eD (ρ : Type) : Env ρ := bL lu (gp ρ)
def gA : bI := ⟨[af, dC], [.bool], fun (x : Val (.pair af dC)) => cu x.1 x.2⟩
def jO : List (Nat × bI) := [(258, ik)]
def fq (ρ : Type) : List (bQ ρ) := []
def f7 (ρ : Type) : Env ρ := bL jO (fq ρ)
def Va : bI := ⟨[bg, bg], [.bool], fun (x : Val (.pair bg bg)) => By x.1 x.2⟩
def NB : bn := { pin := 0, cs := [ae, tI, tI, tI, ae, aa, af, ab, aa, tI, tI, ae, aa, af, ab, aa], vs := [tI, aj], head := ⟨87, .any :: .any :: .box 0 0 :: .box 1 0 :: .any :: .box 2 0 :: aN 10 [.con ae, .con tI, .var tI], [.cells [.con tI, .con tI, .con ae, .con aa, .con af, .con ab, .con aa], .cells [.con tI, .con tI, .con ae, .con aa, .con af, .con ab, .con aa], .cells [.omp 3], .mapv tI .bool]⟩, exits := [(.exit 0, ⟨87, .any :: .any :: .box 0 0 :: .box 1 0 :: .any :: .box 2 0 :: aN 10 [.con ae, .con tI], [.cells [.con tI, .con tI, .con ae, .con aa, .con af, .con ab, .con aa], .cells [.con tI, .con tI, .con ae, .con aa, .con af, .con ab, .con aa], .cells [.omp 3], .mapv tI .bool]⟩, [aj])] }
def zY (ρ : Type) : bQ ρ := ⟨[], 77, 0, NB, fun (p : Val (.pair ae (.pair tI ay))) (v : Val (.pair tI aj)) kn kx => rc p.1 p.2.1 v.1 v.2 (fun u0 u1 => kn (u0, u1)) (kx 0)⟩
def Ny : bn := { pin := 6, cs := [ac, ac, tI, tI, tI, ae, aa, af, ab, aa, tI, tI, ae, aa, af, ab, aa, aj, tI, tI, ac, ac, tI, tI, tI, tI, tI, tI, ac, ac, tI, tI, tI, tI], vs := [tI], head := ⟨26, .con ac :: .con ac :: aN 10 [.con tI, .var tI], [.cells [.con tI, .con tI, .con ae, .con aa, .con af, .con ab, .con aa], .cells [.con tI, .con tI, .con ae, .con aa, .con af, .con ab, .con aa], .cells [.omp 3], .mapc tI .bool, .cells [.con tI, .con tI, .con ac, .con ac, .con tI, .con tI, .con tI, .con tI], .cells [.con tI, .con tI, .con ac, .con ac, .con tI, .con tI, .con tI, .con tI]]⟩, exits := [(.ret, ⟨26, .con ac :: .con ac :: .any :: .any :: .var .bool :: aN 7 [.con tI], [.cells [.con tI, .con tI, .con ae, .con aa, .con af, .con ab, .con aa], .cells [.con tI, .con tI, .con ae, .con aa, .con af, .con ab, .con aa], .cells [.omp 3], .mapc tI .bool, .cells [.con tI, .con tI, .con ac, .con ac, .con tI, .con tI, .con tI, .con tI], .cells [.con tI, .con tI, .con ac, .con ac, .con tI, .con tI, .con tI, .con tI]]⟩, [.bool]), (.exit 0, ⟨26, .con ac :: .con ac :: aN 10 [.con tI], [.cells [.con tI, .con tI, .con ae, .con aa, .con af, .con ab, .con aa], .cells [.con tI, .con tI, .con ae, .con aa, .con af, .con ab, .con aa], .cells [.omp 3], .mapc tI .bool, .cells [.con tI, .con tI, .con ac, .con ac, .con tI, .con tI, .con tI, .con tI], .cells [.con tI, .con tI, .con ac, .con ac, .con tI, .con tI, .con tI, .con tI]]⟩, [])] }
def zV (ρ : Type) : bQ ρ := ⟨[14, 3, 1, 2, 4, 5, 1, 38], 151, 0, Ny, fun (p : Val (.pair ac (.pair ac (.pair tI (.pair tI (.pair tI (.pair ae (.pair aa (.pair af (.pair ab (.pair aa (.pair tI (.pair tI (.pair ae (.pair aa (.pair af (.pair ab (.pair aa (.pair aj (.pair tI (.pair tI (.pair ac (.pair ac (.pair tI (.pair tI (.pair tI (.pair tI bq))))))))))))))))))))))))))) (v : Val tI) kn kx => kE p.1 p.2.1 p.2.2.1 v (fun u0 => kn u0) (kx 0) (kx 1)⟩
def Nx : bn := { pin := 6, cs := [ac, ac, tI, tI, tI, ae, aa, af, ab, aa, tI, tI, ae, aa, af, ab, aa, aj, tI, tI, ac, ac, tI, tI, tI, tI, tI, tI, ac, ac, tI, tI, tI, tI], vs := [tI], head := ⟨26, .con ac :: .con ac :: aN 10 [.con tI, .var tI], [.cells [.con tI, .con tI, .con ae, .con aa, .con af, .con ab, .con aa], .cells [.con tI, .con tI, .con ae, .con aa, .con af, .con ab, .con aa], .cells [.omp 3], .mapc tI .bool, .cells [.con tI, .con tI, .con ac, .con ac, .con tI, .con tI, .con tI, .con tI], .cells [.con tI, .con tI, .con ac, .con ac, .con tI, .con tI, .con tI, .con tI]]⟩, exits := [(.ret, ⟨26, .con ac :: .con ac :: .any :: .any :: .var .bool :: aN 7 [.con tI], [.cells [.con tI, .con tI, .con ae, .con aa, .con af, .con ab, .con aa], .cells [.con tI, .con tI, .con ae, .con aa, .con af, .con ab, .con aa], .cells [.omp 3], .mapc tI .bool, .cells [.con tI, .con tI, .con ac, .con ac, .con tI, .con tI, .con tI, .con tI], .cells [.con tI, .con tI, .con ac, .con ac, .con tI, .con tI, .con tI, .con tI]]⟩, [.bool]), (.exit 0, ⟨26, .con ac :: .con ac :: aN 10 [.con tI], [.cells [.con tI, .con tI, .con ae, .con aa, .con af, .con ab, .con aa], .cells [.con tI, .con tI, .con ae, .con aa, .con af, .con ab, .con aa], .cells [.omp 3], .mapc tI .bool, .cells [.con tI, .con tI, .con ac, .con ac, .con tI, .con tI, .con tI, .con tI], .cells [.con tI, .con tI, .con ac, .con ac, .con tI, .con tI, .con tI, .con tI]]⟩, [])] }
def zU (ρ : Type) : bQ ρ := ⟨[14, 3, 1, 2, 4, 5, 1, 45], 151, 0, Nx, fun (p : Val (.pair ac (.pair ac (.pair tI (.pair tI (.pair tI (.pair ae (.pair aa (.pair af (.pair ab (.pair aa (.pair tI (.pair tI (.pair ae (.pair aa (.pair af (.pair ab (.pair aa (.pair aj (.pair tI (.pair tI (.pair ac (.pair ac (.pair tI (.pair tI (.pair tI (.pair tI bq))))))))))))))))))))))))))) (v : Val tI) kn kx => qZ p.1 p.2.1 p.2.2.1 v (fun u0 => kn u0) (kx 0) (kx 1)⟩
def Nz : bn := { pin := 5, cs := [ab, tI, tI, tI, ae, aa, af, ab, aa, tI, tI, ae, aa, af, ab, aa, aj, tI, tI, ac, ac, tI, tI, tI, tI], vs := [tI], head := ⟨19, .con ab :: .fn 150 [(4, 0)] :: aN 5 [.con tI, .var tI], [.cells [.con tI, .con tI, .con ae, .con aa, .con af, .con ab, .con aa], .cells [.con tI, .con tI, .con ae, .con aa, .con af, .con ab, .con aa], .cells [.omp 3], .mapc tI .bool, .cells [.con tI, .con tI, .con ac, .con ac, .con tI, .con tI, .con tI, .con tI]]⟩, exits := [(.ret, ⟨19, [.con ab, .fn 150 [(4, 0)], .any, .any, .var tI, .any, .any, .con tI], [.cells [.con tI, .con tI, .con ae, .con aa, .con af, .con ab, .con aa], .cells [.con tI, .con tI, .con ae, .con aa, .con af, .con ab, .con aa], .cells [.omp 3], .mapc tI .bool, .cells [.con tI, .con tI, .con ac, .con ac, .con tI, .con tI, .con tI, .con tI]]⟩, [tI]), (.exit 0, ⟨19, .con ab :: .fn 150 [(4, 0)] :: aN 5 [.con tI], [.cells [.con tI, .con tI, .con ae, .con aa, .con af, .con ab, .con aa], .cells [.con tI, .con tI, .con ae, .con aa, .con af, .con ab, .con aa], .cells [.omp 3], .mapc tI .bool, .cells [.con tI, .con tI, .con ac, .con ac, .con tI, .con tI, .con tI, .con tI]]⟩, [])] }
def zW (ρ : Type) : bQ ρ := ⟨[14, 3, 1, 2], 207, 0, Nz, fun (p : Val (.pair ab (.pair tI (.pair tI (.pair tI (.pair ae (.pair aa (.pair af (.pair ab (.pair aa (.pair tI (.pair tI (.pair ae (.pair aa (.pair af (.pair ab (.pair aa (.pair aj bq)))))))))))))))))) (v : Val tI) kn kx => nj p.1 p.2.1 p.2.2.2.2.2.2.2.2.2.2.2.2.2.2.2.2.2.1 p.2.2.2.2.2.2.2.2.2.2.2.2.2.2.2.2.2.2.1 p.2.2.2.2.2.2.2.2.2.2.2.2.2.2.2.2.2.2.2.1 p.2.2.2.2.2.2.2.2.2.2.2.2.2.2.2.2.2.2.2.2.1 p.2.2.2.2.2.2.2.2.2.2.2.2.2.2.2.2.2.2.2.2.2.1 p.2.2.2.2.2.2.2.2.2.2.2.2.2.2.2.2.2.2.2.2.2.2.1 p.2.2.2.2.2.2.2.2.2.2.2.2.2.2.2.2.2.2.2.2.2.2.2.1 p.2.2.2.2.2.2.2.2.2.2.2.2.2.2.2.2.2.2.2.2.2.2.2.2 v (fun u0 => kn u0) (kx 0) (kx 1)⟩
def NA : bn := { pin := 0, cs := [ab, tI, tI, tI, ae, aa, af, ab, aa, tI, tI, ae, aa, af, ab, aa, aj], vs := [tI], head := ⟨87, .any :: .any :: .box 0 0 :: .box 1 0 :: aN 4 (.fn 147 [] :: .fn 148 [(2, 0)] :: .fn 149 [(2, 0)] :: aN 18 [.con ab, .con tI, .var tI]), [.cells [.con tI, .con tI, .con ae, .con aa, .con af, .con ab, .con aa], .cells [.con tI, .con tI, .con ae, .con aa, .con af, .con ab, .con aa], .cells [.omp 3], .mapc tI .bool]⟩, exits := [(.ret, ⟨87, .any :: .any :: .box 0 0 :: .box 1 0 :: .var .bool :: .any :: .any :: .any :: .fn 147 [] :: .fn 148 [(2, 0)] :: .fn 149 [(2, 0)] :: aN 18 [.con ab, .con tI], [.cells [.con tI, .con tI, .con ae, .con aa, .con af, .con ab, .con aa], .cells [.con tI, .con tI, .con ae, .con aa, .con af, .con ab, .con aa], .cells [.omp 3], .mapc tI .bool]⟩, [.bool]), (.exit 2, ⟨87, .any :: .any :: .box 0 0 :: .box 1 0 :: aN 4 (.fn 147 [] :: .fn 148 [(2, 0)] :: .fn 149 [(2, 0)] :: aN 18 [.con ab, .con tI]), [.cells [.con tI, .con tI, .con ae, .con aa, .con af, .con ab, .con aa], .cells [.con tI, .con tI, .con ae, .con aa, .con af, .con ab, .con aa], .cells [.omp 3], .mapc tI .bool]⟩, [])] }
def zX (ρ : Type) : bQ ρ := ⟨[], 77, 2, NA, fun (p : Val (.pair ab (.pair tI (.pair tI (.pair tI (.pair ae (.pair aa (.pair af (.pair ab (.pair aa (.pair tI (.pair tI (.pair ae (.pair aa (.pair af (.pair ab (.pair aa aj))))))))))))))))) (v : Val tI) kn kx => nk p.1 p.2.1 p.2.2.2.2.2.2.2.2.2.2.2.2.2.2.1 v (fun u0 => kn u0) (kx 0) (kx 1)⟩
def Nw : bn := { pin := 6, cs := [ae, tI, tI, tI, ae, aa, af, ab, aa, tI, tI, ae, aa, af, ab, aa, aj, ae], vs := [tI], head := ⟨19, .con ae :: .fn 209 [(5, 0), (4, 0)] :: aN 5 [.con tI, .var tI], [.cells [.con tI, .con tI, .con ae, .con aa, .con af, .con ab, .con aa], .cells [.con tI, .con tI, .con ae, .con aa, .con af, .con ab, .con aa], .cells [.omp 3], .mapc tI .bool, .cells [.con ae], .cells [.fn 147 []]]⟩, exits := [(.ret, ⟨19, [.con ae, .fn 209 [(5, 0), (4, 0)], .any, .any, .var tI, .any, .any, .con tI], [.cells [.con tI, .con tI, .con ae, .con aa, .con af, .con ab, .con aa], .cells [.con tI, .con tI, .con ae, .con aa, .con af, .con ab, .con aa], .cells [.omp 3], .mapc tI .bool, .cells [.con ae], .cells [.fn 147 []]]⟩, [tI]), (.exit 0, ⟨19, .con ae :: .fn 209 [(5, 0), (4, 0)] :: aN 5 [.con tI], [.cells [.con tI, .con tI, .con ae, .con aa, .con af, .con ab, .con aa], .cells [.con tI, .con tI, .con ae, .con aa, .con af, .con ab, .con aa], .cells [.omp 3], .mapc tI .bool, .cells [.con ae], .cells [.fn 147 []]]⟩, [])] }
def zT (ρ : Type) : bQ ρ := ⟨[17, 11, 1, 2, 1, 2], 253, 0, Nw, fun (p : Val (.pair ae (.pair tI (.pair tI (.pair tI (.pair ae (.pair aa (.pair af (.pair ab (.pair aa (.pair tI (.pair tI (.pair ae (.pair aa (.pair af (.pair ab (.pair aa (.pair aj ae)))))))))))))))))) (v : Val tI) kn kx => ni p.1 p.2.1 p.2.2.2.2.2.2.2.2.2.2.2.2.2.2.2.2.2 v (fun u0 => kn u0) (kx 0) (kx 1)⟩
def Nv : bn := { pin := 8, cs := [aa, tI, tI, tI, ae, aa, af, ab, aa, tI, tI, ae, aa, af, ab, aa, aj, ae, aa], vs := [tI], head := ⟨19, .con aa :: .fn 212 [(7, 0), (6, 0)] :: aN 5 [.con tI, .var tI], [.cells [.con tI, .con tI, .con ae, .con aa, .con af, .con ab, .con aa], .cells [.con tI, .con tI, .con ae, .con aa, .con af, .con ab, .con aa], .cells [.omp 3], .mapc tI .bool, .cells [.con ae], .cells [.fn 147 []], .cells [.con aa], .cells [.fn 148 [(2, 0)]]]⟩, exits := [(.ret, ⟨19, [.con aa, .fn 212 [(7, 0), (6, 0)], .any, .any, .var tI, .any, .any, .con tI], [.cells [.con tI, .con tI, .con ae, .con aa, .con af, .con ab, .con aa], .cells [.con tI, .con tI, .con ae, .con aa, .con af, .con ab, .con aa], .cells [.omp 3], .mapc tI .bool, .cells [.con ae], .cells [.fn 147 []], .cells [.con aa], .cells [.fn 148 [(2, 0)]]]⟩, [tI]), (.exit 0, ⟨19, .con aa :: .fn 212 [(7, 0), (6, 0)] :: aN 5 [.con tI], [.cells [.con tI, .con tI, .con ae, .con aa, .con af, .con ab, .con aa], .cells [.con tI, .con tI, .con ae, .con aa, .con af, .con ab, .con aa], .cells [.omp 3], .mapc tI .bool, .cells [.con ae], .cells [.fn 147 []], .cells [.con aa], .cells [.fn 148 [(2, 0)]]]⟩, [])] }
def zS (ρ : Type) : bQ ρ := ⟨[17, 19, 1, 2, 1, 2], 255, 0, Nv, fun (p : Val (.pair aa (.pair tI (.pair tI (.pair tI (.pair ae (.pair aa (.pair af (.pair ab (.pair aa (.pair tI (.pair tI (.pair ae (.pair aa (.pair af (.pair ab (.pair aa (.pair aj (.pair ae aa))))))))))))))))))) (v : Val tI) kn kx => jh p.1 p.2.1 p.2.2.2.2.2.2.2.2.2.2.2.2.2.2.2.2.1 p.2.2.2.2.2.2.2.2.2.2.2.2.2.2.2.2.2.2 v (fun u0 => kn u0) (kx 0) (kx 1)⟩
def Nu : bn := { pin := 10, cs := [aa, tI, tI, tI, ae, aa, af, ab, aa, tI, tI, ae, aa, af, ab, aa, aj, ae, aa, aa], vs := [tI], head := ⟨19, .con aa :: .fn 212 [(9, 0), (8, 0)] :: aN 5 [.con tI, .var tI], [.cells [.con tI, .con tI, .con ae, .con aa, .con af, .con ab, .con aa], .cells [.con tI, .con tI, .con ae, .con aa, .con af, .con ab, .con aa], .cells [.omp 3], .mapc tI .bool, .cells [.con ae], .cells [.fn 147 []], .cells [.con aa], .cells [.fn 148 [(2, 0)]], .cells [.con aa], .cells [.fn 148 [(2, 0)]]]⟩, exits := [(.ret, ⟨19, [.con aa, .fn 212 [(9, 0), (8, 0)], .any, .any, .var tI, .any, .any, .con tI], [.cells [.con tI, .con tI, .con ae, .con aa, .con af, .con ab, .con aa], .cells [.con tI, .con tI, .con ae, .con aa, .con af, .con ab, .con aa], .cells [.omp 3], .mapc tI .bool, .cells [.con ae], .cells [.fn 147 []], .cells [.con aa], .cells [.fn 148 [(2, 0)]], .cells [.con aa], .cells [.fn 148 [(2, 0)]]]⟩, [tI]), (.exit 0, ⟨19, .con aa :: .fn 212 [(9, 0), (8, 0)] :: aN 5 [.con tI], [.cells [.con tI, .con tI, .con ae, .con aa, .con af, .con ab, .con aa], .cells [.con tI, .con tI, .con ae, .con aa, .con af, .con ab, .con aa], .cells [.omp 3], .mapc tI .bool, .cells [.con ae], .cells [.fn 147 []], .cells [.con aa], .cells [.fn 148 [(2, 0)]], .cells [.con aa], .cells [.fn 148 [(2, 0)]]]⟩, [])] }
def zR (ρ : Type) : bQ ρ := ⟨[17, 27, 1, 2, 1, 2], 255, 0, Nu, fun (p : Val (.pair aa (.pair tI (.pair tI (.pair tI (.pair ae (.pair aa (.pair af (.pair ab (.pair aa (.pair tI (.pair tI (.pair ae (.pair aa (.pair af (.pair ab (.pair aa (.pair aj (.pair ae (.pair aa aa)))))))))))))))))))) (v : Val tI) kn kx => kD p.1 p.2.1 p.2.2.2.2.2.2.2.2.2.2.2.2.2.2.2.2.1 p.2.2.2.2.2.2.2.2.2.2.2.2.2.2.2.2.2.2.2 v (fun u0 => kn u0) (kx 0) (kx 1)⟩
def Nt : bn := { pin := 12, cs := [af, tI, tI, tI, ae, aa, af, ab, aa, tI, tI, ae, aa, af, ab, aa, aj, ae, aa, aa, af], vs := [tI], head := ⟨19, .con af :: .fn 215 [(11, 0), (10, 0)] :: aN 5 [.con tI, .var tI], [.cells [.con tI, .con tI, .con ae, .con aa, .con af, .con ab, .con aa], .cells [.con tI, .con tI, .con ae, .con aa, .con af, .con ab, .con aa], .cells [.omp 3], .mapc tI .bool, .cells [.con ae], .cells [.fn 147 []], .cells [.con aa], .cells [.fn 148 [(2, 0)]], .cells [.con aa], .cells [.fn 148 [(2, 0)]], .cells [.con af], .cells [.fn 149 [(2, 0)]]]⟩, exits := [(.ret, ⟨19, [.con af, .fn 215 [(11, 0), (10, 0)], .any, .any, .var tI, .any, .any, .con tI], [.cells [.con tI, .con tI, .con ae, .con aa, .con af, .con ab, .con aa], .cells [.con tI, .con tI, .con ae, .con aa, .con af, .con ab, .con aa], .cells [.omp 3], .mapc tI .bool, .cells [.con ae], .cells [.fn 147 []], .cells [.con aa], .cells [.fn 148 [(2, 0)]], .cells [.con aa], .cells [.fn 148 [(2, 0)]], .cells [.con af], .cells [.fn 149 [(2, 0)]]]⟩, [tI]), (.exit 0, ⟨19, .con af :: .fn 215 [(11, 0), (10, 0)] :: aN 5 [.con tI], [.cells [.con tI, .con tI, .con ae, .con aa, .con af, .con ab, .con aa], .cells [.con tI, .con tI, .con ae, .con aa, .con af, .con ab, .con aa], .cells [.omp 3], .mapc tI .bool, .cells [.con ae], .cells [.fn 147 []], .cells [.con aa], .cells [.fn 148 [(2, 0)]], .cells [.con aa], .cells [.fn 148 [(2, 0)]], .cells [.con af], .cells [.fn 149 [(2, 0)]]]⟩, [])] }
def zQ (ρ : Type) : bQ ρ := ⟨[17, 35, 1, 2, 1, 2], 257, 0, Nt, fun (p : Val (.pair af (.pair tI (.pair tI (.pair tI (.pair ae (.pair aa (.pair af (.pair ab (.pair aa (.pair tI (.pair tI (.pair ae (.pair aa (.pair af (.pair ab (.pair aa (.pair aj (.pair ae (.pair aa (.pair aa af))))))))))))))))))))) (v : Val tI) kn kx => dF p.1 p.2.1 p.2.2.2.2.2.2.2.2.2.2.2.2.2.2.2.2.1 p.2.2.2.2.2.2.2.2.2.2.2.2.2.2.2.2.2.2.2.2 v (fun u0 => kn u0) (kx 0) (kx 1)⟩
def Ns : bn := { pin := 14, cs := [af, tI, tI, tI, ae, aa, af, ab, aa, tI, tI, ae, aa, af, ab, aa, aj, ae, aa, aa, af, af], vs := [tI], head := ⟨19, .con af :: .fn 215 [(13, 0), (12, 0)] :: aN 5 [.con tI, .var tI], [.cells [.con tI, .con tI, .con ae, .con aa, .con af, .con ab, .con aa], .cells [.con tI, .con tI, .con ae, .con aa, .con af, .con ab, .con aa], .cells [.omp 3], .mapc tI .bool, .cells [.con ae], .cells [.fn 147 []], .cells [.con aa], .cells [.fn 148 [(2, 0)]], .cells [.con aa], .cells [.fn 148 [(2, 0)]], .cells [.con af], .cells [.fn 149 [(2, 0)]], .cells [.con af], .cells [.fn 149 [(2, 0)]]]⟩, exits := [(.ret, ⟨19, [.con af, .fn 215 [(13, 0), (12, 0)], .any, .any, .var tI, .any, .any, .con tI], [.cells [.con tI, .con tI, .con ae, .con aa, .con af, .con ab, .con aa], .cells [.con tI, .con tI, .con ae, .con aa, .con af, .con ab, .con aa], .cells [.omp 3], .mapc tI .bool, .cells [.con ae], .cells [.fn 147 []], .cells [.con aa], .cells [.fn 148 [(2, 0)]], .cells [.con aa], .cells [.fn 148 [(2, 0)]], .cells [.con af], .cells [.fn 149 [(2, 0)]], .cells [.con af], .cells [.fn 149 [(2, 0)]]]⟩, [tI]), (.exit 0, ⟨19, .con af :: .fn 215 [(13, 0), (12, 0)] :: aN 5 [.con tI], [.cells [.con tI, .con tI, .con ae, .con aa, .con af, .con ab, .con aa], .cells [.con tI, .con tI, .con ae, .con aa, .con af, .con ab, .con aa], .cells [.omp 3], .mapc tI .bool, .cells [.con ae], .cells [.fn 147 []], .cells [.con aa], .cells [.fn 148 [(2, 0)]], .cells [.con aa], .cells [.fn 148 [(2, 0)]], .cells [.con af], .cells [.fn 149 [(2, 0)]], .cells [.con af], .cells [.fn 149 [(2, 0)]]]⟩, [])] }
def zP (ρ : Type) : bQ ρ := ⟨[17, 43, 1, 2, 1, 2], 257, 0, Ns, fun (p : Val (.pair af (.pair tI (.pair tI (.pair tI (.pair ae (.pair aa (.pair af (.pair ab (.pair aa (.pair tI (.pair tI (.pair ae (.pair aa (.pair af (.pair ab (.pair aa (.pair aj (.pair ae (.pair aa (.pair aa (.pair af af)))))))))))))))))))))) (v : Val tI) kn kx => cG p.1 p.2.1 p.2.2.2.2.2.2.2.2.2.2.2.2.2.2.2.2.1 p.2.2.2.2.2.2.2.2.2.2.2.2.2.2.2.2.2.2.2.2.2 v (fun u0 => kn u0) (kx 0) (kx 1)⟩
def TA : List (Nat × bI) := [(210, fZ), (213, hZ), (216, gA)]
def D9 (ρ : Type) : List (bQ ρ) := [zY ρ, zV ρ, zU ρ, zW ρ, zX ρ, zT ρ, zS ρ, zR ρ, zQ ρ, zP ρ]
def fC (ρ : Type) : Env ρ := bL TA (D9 ρ)
def LK : bI := ⟨[bg, fX], [.bool, tI], fun (x : Val (.pair bg fX)) => wc x.1 x.2⟩
def NP : List (Nat × bI) := [(33, qN), (38, dX), (39, wJ), (77, Va)]
def wZ (ρ : Type) : List (bQ ρ) := []
def Ef (ρ : Type) : Env ρ := bL NP (wZ ρ)
def GK : bI := ⟨[bo, tI, tI], [am], fun (x : Val aU) => vk x.1 x.2.1 x.2.2⟩
def Wy : bn := { pin := 0, cs := [tI, tI, tI, tI, ah], vs := [tI, ac], head := ⟨45, .any :: .con tI :: .con tI :: .box 0 0 :: .any :: .any :: .any :: .own 1 :: aN 7 [.con tI, .var tI], [.cells [.con tI, .con ah], .rowv tI]⟩, exits := [(.exit 0, ⟨45, .any :: .con tI :: .con tI :: .box 0 0 :: .any :: .any :: .any :: .own 1 :: aN 7 [.con tI], [.cells [.con tI, .con ah], .rowv tI]⟩, [ac])] }
def L1 (ρ : Type) : bQ ρ := ⟨[], 156, 0, Wy, fun (p : Val (.pair tI (.pair tI aF))) (v : Val ax) kn kx => vO p.2.2.1 v.1 v.2 (fun u0 u1 => kn (u0, u1)) (kx 0)⟩
def Ww : bn := { pin := 4, cs := [ac, tI, am, tI, ah], vs := [tI, ac], head := ⟨53, .con ac :: .box 1 0 :: .any :: .any :: .own 4 :: aN 7 [.con tI, .var tI], [.rowc ac, .cells [.con tI, .con ah], .dead, .dead, .rowv tI]⟩, exits := [(.exit 0, ⟨53, .con ac :: .box 1 0 :: .any :: .any :: .own 4 :: aN 7 [.con tI], [.rowc ac, .cells [.con tI, .con ah], .dead, .dead, .rowv tI]⟩, [ac])] }
def LY (ρ : Type) : bQ ρ := ⟨[12, 8], 217, 0, Ww, fun (p : Val (.pair ac (.pair tI (.pair am bo)))) (v : Val ax) kn kx => NY p.2.1 v.1 v.2 (fun u0 u1 => kn (u0, u1)) (kx 0)⟩
def Wv : bn := { pin := 4, cs := [ac, ah, tI, am, tI, ah], vs := [tI, ac], head := ⟨53, .con ac :: .any :: .any :: .any :: .own 4 :: aN 16 [.con ah, .con tI, .var tI], [.rowc ac, .cells [.con tI, .con ah], .dead, .dead, .rowv tI]⟩, exits := [(.exit 2, ⟨53, .con ac :: .any :: .any :: .any :: .own 4 :: aN 16 [.con ah, .con tI], [.rowc ac, .cells [.con tI, .con ah], .dead, .dead, .rowv tI]⟩, [ac])] }
def LX (ρ : Type) : bQ ρ := ⟨[12, 8], 217, 2, Wv, fun (p : Val (.pair ac (.pair ah (.pair tI (.pair am bo))))) (v : Val ax) kn kx => Ax p.1 p.2.1 p.2.2.1 v.1 v.2 (fun u0 u1 => kn (u0, u1)) (kx 0)⟩
def Wx : bn := { pin := 0, cs := [tI, tI, ah], vs := [tI, am], head := ⟨45, aN 9 (.own 0 :: .fn 217 [(1, 0)] :: aN 18 [.con tI, .var tI]), [.rowv ac, .cells [.con tI, .con ah]]⟩, exits := [(.exit 2, ⟨45, aN 9 (.own 0 :: .fn 217 [(1, 0)] :: aN 18 [.con tI]), [.rowv ac, .cells [.con tI, .con ah]]⟩, [am])] }
def LZ (ρ : Type) : bQ ρ := ⟨[], 156, 2, Wx, fun (p : Val aF) (v : Val (.pair tI am)) kn kx => F3 p.1 p.2.1 p.2.2 v.1 v.2 (fun u0 u1 => kn (u0, u1)) (kx 0)⟩
def aaF : List (Nat × bI) := []
def Q5 (ρ : Type) : List (bQ ρ) := [L1 ρ, LY ρ, LX ρ, LZ ρ]
def CS (ρ : Type) : Env ρ := bL aaF (Q5 ρ)
def Qq : bI := ⟨[bo], [ac, tI], fun (x : Val bo) => vl x⟩
def KG : bn := { pin := 0, cs := [tI, tI, ah], vs := [tI, aL], head := ⟨93, .any :: .box 0 0 :: aN 6 (.own 1 :: aN 24 [.con tI, .var tI]), [.cells [.con tI, .con ah], .rowv am]⟩, exits := [(.exit 0, ⟨93, .any :: .box 0 0 :: aN 6 (.own 1 :: aN 24 [.con tI]), [.cells [.con tI, .con ah], .rowv am]⟩, [aL])] }
def xi (ρ : Type) : bQ ρ := ⟨[], 78, 0, KG, fun (p : Val aF) (v : Val (.pair tI aL)) kn kx => Eo p.1 p.2.1 p.2.2 v.1 v.2 (fun u0 u1 => kn (u0, u1)) (kx 0)⟩
def KB : bn := { pin := 3, cs := [tI, am, ah, tI, tI, ah, aL, tI, tI, tI, tI, ah], vs := [tI, tI, tI, ac], head := ⟨73, .any :: .var tI :: .con tI :: .con am :: .fn 157 [] :: .box 3 0 :: aN 5 (.own 4 :: .var tI :: aN 7 [.con ah, .con tI, .var tI]), [.cells [.con tI, .con ah], .rowc am, .cells [.con tI, .con tI, .con tI], .cells [.con tI, .con ah], .rowv tI]⟩, exits := [(.exit 2, ⟨73, .any :: .var tI :: .con tI :: .con am :: .fn 157 [] :: .box 3 0 :: aN 5 (.own 4 :: .var tI :: aN 7 [.con ah, .con tI]), [.cells [.con tI, .con ah], .rowc am, .cells [.con tI, .con tI, .con tI], .cells [.con tI, .con ah], .rowv tI]⟩, [tI, tI, ac])] }
def xe (ρ : Type) : bQ ρ := ⟨[22, 10], 158, 2, KB, fun (p : Val (.pair tI (.pair am (.pair ah (.pair tI (.pair tI (.pair ah (.pair aL (.pair tI (.pair tI aF)))))))))) (v : Val aD) kn kx => Ek p.1 p.2.1 p.2.2.1 p.2.2.2.1 v.1 v.2.1 v.2.2.1 v.2.2.2 (fun u0 u1 u2 u3 => kn (u0, u1, u2, u3)) (kx 0)⟩
def KC : bn := { pin := 3, cs := [am, tI, ah, aL, tI, tI, tI, tI, ah], vs := [tI, tI, tI, ac], head := ⟨73, .any :: .var tI :: .var tI :: .con am :: .fn 157 [] :: .box 3 0 :: aN 5 [.own 4, .var tI], [.cells [.con tI, .con ah], .rowc am, .cells [.con tI, .con tI, .con tI], .cells [.con tI, .con ah], .rowv tI]⟩, exits := [(.exit 0, ⟨73, .any :: .any :: .any :: .con am :: .fn 157 [] :: .box 3 0 :: aN 5 [.own 4], [.cells [.con tI, .con ah], .rowc am, .cells [.con tI, .con tI, .con tI], .cells [.con tI, .con ah], .rowv tI]⟩, [ac])] }
def xf (ρ : Type) : bQ ρ := ⟨[22, 10], 158, 0, KC, fun (p : Val (.pair am (.pair tI (.pair ah (.pair aL (.pair tI (.pair tI aF))))))) (v : Val aD) kn kx => El p.1 p.2.2.2.2.2.2.2.2 v.1 v.2.1 v.2.2.1 v.2.2.2 (fun u0 u1 u2 u3 => kn (u0, u1, u2, u3)) (kx 0)⟩
def KD : bn := { pin := 0, cs := [tI, ah, tI, tI, ah, aL], vs := [tI], head := ⟨93, .any :: .box 0 0 :: aN 6 (.own 1 :: .any :: .fn 157 [] :: .con tI :: aN 37 [.con ah, .con tI, .var tI]), [.cells [.con tI, .con ah], .rowc am]⟩, exits := [(.exit 2, ⟨93, .any :: .box 0 0 :: aN 6 (.own 1 :: .any :: .fn 157 [] :: .con tI :: aN 37 [.con ah, .con tI]), [.cells [.con tI, .con ah], .rowc am]⟩, []), (.ret, ⟨93, .any :: .box 0 0 :: .own 2 :: .var tI :: aN 4 (.own 1 :: .any :: .fn 157 [] :: .con tI :: aN 37 [.con ah, .con tI]), [.cells [.con tI, .con ah], .rowc am, .rowv tI]⟩, [tI, ac]), (.exit 4, ⟨93, .any :: .box 0 0 :: aN 6 (.own 1 :: .any :: .fn 157 [] :: .con tI :: aN 37 [.con ah, .con tI]), [.cells [.con tI, .con ah], .rowc am]⟩, [])] }
def xg (ρ : Type) : bQ ρ := ⟨[], 78, 4, KD, fun (p : Val (.pair tI (.pair ah (.pair tI (.pair tI (.pair ah aL)))))) (v : Val tI) kn kx => Em p.1 p.2.1 p.2.2.1 p.2.2.2.1 p.2.2.2.2.1 p.2.2.2.2.2 v (fun u0 => kn u0) (kx 0) (kx 1) (kx 2)⟩
def KE : bn := { pin := 0, cs := [tI, ah, aL], vs := [tI], head := ⟨93, .any :: .box 0 0 :: aN 6 [.own 1, .any, .fn 157 [], .var tI], [.cells [.con tI, .con ah], .rowc am]⟩, exits := [(.exit 2, ⟨93, .any :: .box 0 0 :: aN 6 [.own 1, .any, .fn 157 []], [.cells [.con tI, .con ah], .rowc am]⟩, []), (.ret, ⟨93, .any :: .box 0 0 :: .own 2 :: .var tI :: aN 4 [.own 1, .any, .fn 157 []], [.cells [.con tI, .con ah], .rowc am, .rowv tI]⟩, [tI, ac])] }
def xh (ρ : Type) : bQ ρ := ⟨[], 78, 2, KE, fun (p : Val (.pair tI (.pair ah aL))) (v : Val tI) kn kx => En p.1 p.2.1 p.2.2 v (fun u0 => kn u0) (kx 0) (kx 1)⟩
def Q9 : List (Nat × bI) := [(133, m7), (135, nX), (156, GK)]
def AE (ρ : Type) : List (bQ ρ) := [xi ρ, xe ρ, xf ρ, xg ρ, xh ρ]
def ji (ρ : Type) : Env ρ := bL Q9 (AE ρ)
def xQ : bI := ⟨[bg, ac], [aa], fun (x : Val (.pair bg ac)) => nA x.1 x.2⟩
def Fe : bn := { pin := 0, cs := [aa, ac, tI], vs := [tI, aa], head := ⟨32, aN 6 (.con aa :: .any :: .own 0 :: aN 8 [.con ac, .con tI, .var tI]), [.rowv bc]⟩, exits := [(.exit 0, ⟨32, aN 6 (.con aa :: .any :: .own 0 :: aN 8 [.con ac, .con tI]), [.rowv bc]⟩, [aa])] }
def sJ (ρ : Type) : bQ ρ := ⟨[], 80, 0, Fe, fun (p : Val (.pair aa az)) (v : Val aA) kn kx => kX p.1 p.2.1 p.2.2 v.1 v.2 (fun u0 u1 => kn (u0, u1)) (kx 0)⟩
def J3 : List (Nat × bI) := [(20, ej)]
def tY (ρ : Type) : List (bQ ρ) := [sJ ρ]
def qY (ρ : Type) : Env ρ := bL J3 (tY ρ)
def Qo : bI := ⟨[bg], [fX, tI], fun (x : Val bg) => BD x⟩
def Q2 : List (Nat × bI) := [(20, ej), (78, Qq), (79, m6), (80, xQ)]
def Ao (ρ : Type) : List (bQ ρ) := []
def Hp (ρ : Type) : Env ρ := bL Q2 (Ao ρ)
def zl : bI := ⟨[tI], [tI], fun (x : Val tI) => jZ x⟩
def Fm : List (Nat × bI) := []
def pZ (ρ : Type) : List (bQ ρ) := []
def uk (ρ : Type) : Env ρ := bL Fm (pZ ρ)
def zk : bI := ⟨[cA, tI], [ac], fun (x : Val (.pair cA tI)) => gO x.1 x.2⟩
def Fl : List (Nat × bI) := []
def pS (ρ : Type) : List (bQ ρ) := []
def uh (ρ : Type) : Env ρ := bL Fl (pS ρ)
def GH : bI := ⟨[bg, bc, bc, bq], [.bool, tI], fun (x : Val (.pair bg (.pair bc aS))) => nB x.1 x.2.1 x.2.2.1 x.2.2.2⟩
def fE : bn := { pin := 5, cs := [tI, tI, tI, ae, aa, af, ab, aa, tI, tI, tI, tI, tI, tI, ac, ac, tI, tI, tI, tI, aa], vs := [tI, tI, tI, ae, aa, af, ab, aa], head := ⟨68, .any :: .any :: .box 5 0 :: aN 20 [.own 4, .con tI, .var tI], [.cells [.con tI, .con tI, .con ae, .con aa, .con af, .con ab, .con aa], .cells [.con tI, .con tI], .cells [.con tI, .con tI], .cells [.con tI, .con tI, .con ac, .con ac, .con tI, .con tI, .con tI, .con tI], .rowc bc, .cells [.var tI, .var tI, .var ae, .var aa, .var af, .var ab, .var aa]]⟩, exits := [(.ret, ⟨68, .any :: .any :: .box 5 0 :: .any :: .nilp :: .var tI :: aN 17 [.own 4, .con tI], [.cells [.con tI, .con tI, .con ae, .con aa, .con af, .con ab, .con aa], .cells [.con tI, .con tI], .cells [.con tI, .con tI], .cells [.con tI, .con tI, .con ac, .con ac, .con tI, .con tI, .con tI, .con tI], .rowc bc, .cells [.var tI, .var tI, .var ae, .var aa, .var af, .var ab, .var aa]]⟩, [tI, tI, tI, ae, aa, af, ab, aa]), (.exit 0, ⟨68, .any :: .any :: .box 5 0 :: aN 20 [.own 4, .con tI], [.cells [.con tI, .con tI, .con ae, .con aa, .con af, .con ab, .con aa], .cells [.con tI, .con tI], .cells [.con tI, .con tI], .cells [.con tI, .con tI, .con ac, .con ac, .con tI, .con tI, .con tI, .con tI], .rowc bc, .cells [.var tI, .var tI, .var ae, .var aa, .var af, .var ab, .var aa]]⟩, [tI, tI, ae, aa, af, ab, aa])] }
def lZ (ρ : Type) : bQ ρ := ⟨[1, 3], 50, 0, fE, fun (p : Val aq) (v : Val aC) kn kx => o9 p.1 p.2.2.2.2.2.2.2.2.2.2.2.2.2.2.2.2.2.2.2.2 v.1 v.2.1 v.2.2.1 v.2.2.2.1 v.2.2.2.2.1 v.2.2.2.2.2.1 v.2.2.2.2.2.2.1 v.2.2.2.2.2.2.2 (fun u0 u1 u2 u3 u4 u5 u6 u7 => kn (u0, u1, u2, u3, u4, u5, u6, u7)) (kx 0) (kx 1)⟩
def fD : bn := { pin := 12, cs := [ac, tI, tI, tI, ae, aa, af, ab, aa, tI, tI, tI, tI, tI, tI, ac, ac, tI, tI, tI, tI, aa, tI, tI, ae, aa, af, ab, aa, tI, ah, tI, tI, tI, tI, tI, tI, tI, tI, am, am, am], vs := [tI], head := ⟨19, .con ac :: .fn 98 [(8, 0), (2, 0)] :: aN 5 [.con tI, .var tI], [.cells [.con tI, .con tI, .con ae, .con aa, .con af, .con ab, .con aa], .cells [.con tI, .con tI], .cells [.con tI, .con tI], .cells [.con tI, .con tI, .con ac, .con ac, .con tI, .con tI, .con tI, .con tI], .rowc bc, .cells [.con tI, .con tI, .con ae, .con aa, .con af, .con ab, .con aa], .cells [.con tI, .con ah], .dead, .cells [.con tI, .con tI, .con tI, .con tI, .con tI, .con tI, .con tI, .con tI], .rowf ac 0, .rowf ac 0, .rowf ac 0]⟩, exits := [(.ret, ⟨19, [.con ac, .fn 98 [(8, 0), (2, 0)], .any, .any, .var tI, .any, .any, .con tI], [.cells [.con tI, .con tI, .con ae, .con aa, .con af, .con ab, .con aa], .cells [.con tI, .con tI], .cells [.con tI, .con tI], .cells [.con tI, .con tI, .con ac, .con ac, .con tI, .con tI, .con tI, .con tI], .rowc bc, .cells [.con tI, .con tI, .con ae, .con aa, .con af, .con ab, .con aa], .cells [.con tI, .con ah], .dead, .cells [.con tI, .con tI, .con tI, .con tI, .con tI, .con tI, .con tI, .con tI], .rowf ac 0, .rowf ac 0, .rowf ac 0]⟩, [tI]), (.exit 0, ⟨19, .con ac :: .fn 98 [(8, 0), (2, 0)] :: aN 5 [.con tI], [.cells [.con tI, .con tI, .con ae, .con aa, .con af, .con ab, .con aa], .cells [.con tI, .con tI], .cells [.con tI, .con tI], .cells [.con tI, .con tI, .con ac, .con ac, .con tI, .con tI, .con tI, .con tI], .rowc bc, .cells [.con tI, .con tI, .con ae, .con aa, .con af, .con ab, .con aa], .cells [.con tI, .con ah], .dead, .cells [.con tI, .con tI, .con tI, .con tI, .con tI, .con tI, .con tI, .con tI], .rowf ac 0, .rowf ac 0, .rowf ac 0]⟩, [])] }
def lY (ρ : Type) : bQ ρ := ⟨[18, 4, 1, 2], 178, 0, fD, fun (p : Val ak) (v : Val tI) kn kx => kY p.1 p.2.1 p.2.2.2.2.2.2.2.2.2.2.2.1 p.2.2.2.2.2.2.2.2.2.2.2.2.1 p.2.2.2.2.2.2.2.2.2.2.2.2.2.2.2.2.2.2.2.2.2.2.2.2.2.2.2.2.2.2.2.1 p.2.2.2.2.2.2.2.2.2.2.2.2.2.2.2.2.2.2.2.2.2.2.2.2.2.2.2.2.2.2.2.2.1 p.2.2.2.2.2.2.2.2.2.2.2.2.2.2.2.2.2.2.2.2.2.2.2.2.2.2.2.2.2.2.2.2.2.1 p.2.2.2.2.2.2.2.2.2.2.2.2.2.2.2.2.2.2.2.2.2.2.2.2.2.2.2.2.2.2.2.2.2.2.1 p.2.2.2.2.2.2.2.2.2.2.2.2.2.2.2.2.2.2.2.2.2.2.2.2.2.2.2.2.2.2.2.2.2.2.2.1 p.2.2.2.2.2.2.2.2.2.2.2.2.2.2.2.2.2.2.2.2.2.2.2.2.2.2.2.2.2.2.2.2.2.2.2.2.1 p.2.2.2.2.2.2.2.2.2.2.2.2.2.2.2.2.2.2.2.2.2.2.2.2.2.2.2.2.2.2.2.2.2.2.2.2.2.1 p.2.2.2.2.2.2.2.2.2.2.2.2.2.2.2.2.2.2.2.2.2.2.2.2.2.2.2.2.2.2.2.2.2.2.2.2.2.2.1 v (fun u0 => kn u0) (kx 0) (kx 1)⟩
def w7 : List (Nat × bI) := [(20, ej), (38, dX), (60, gT), (61, mm), (69, xP), (71, Cd), (94, eh), (95, qM), (96, zl), (97, zk), (99, oR), (101, oS), (123, eQ)]
def np (ρ : Type) : List (bQ ρ) := [lZ ρ, lY ρ]
def o8 : List Z2 := [⟨[], 42, 0, 4⟩]
def cD (ρ : Type) : Env ρ := { bL w7 (np ρ) with hint := Dm [(51, 96), (55, 96)] }
def rg (ρ : Type) : Env ρ := { { abK w7 (np ρ) o8 with loops := RG (cD ρ) o8 } with hint := Dm [(51, 96), (55, 96)] }
def D0 : bI := ⟨[], [bg], fun (_ : Unit) => vi⟩
def G3 : List (Nat × bI) := []
def sH (ρ : Type) : List (bQ ρ) := []
def wR (ρ : Type) : Env ρ := bL G3 (sH ρ)
def Qr : bI := ⟨[bo, tI, tI], [ac, tI], fun (x : Val aU) => vm x.1 x.2.1 x.2.2⟩
def KK : bn := { pin := 3, cs := [am, tI, tI, ah, tI, tI], vs := [tI], head := ⟨19, .con am :: .fn 194 [(1, 0), (2, 0)] :: aN 5 [.con tI, .var tI], [.cells [.con tI, .con ah], .cells [.con tI], .cells [.con tI]]⟩, exits := [(.ret, ⟨19, [.con am, .fn 194 [(1, 0), (2, 0)], .any, .any, .var tI, .any, .any, .con tI], [.cells [.con tI, .con ah], .cells [.con tI], .cells [.con tI]]⟩, [tI]), (.exit 0, ⟨19, .con am :: .fn 194 [(1, 0), (2, 0)] :: aN 5 [.con tI], [.cells [.con tI, .con ah], .cells [.con tI], .cells [.con tI]]⟩, [])] }
def xn (ρ : Type) : bQ ρ := ⟨[5, 2], 193, 0, KK, fun (p : Val (.pair am (.pair tI (.pair tI (.pair ah bc))))) (v : Val tI) kn kx => oA p.1 p.2.1 p.2.2.2.2.1 p.2.2.2.2.2 v (fun u0 => kn u0) (kx 0) (kx 1)⟩
def KI : bn := { pin := 3, cs := [tI, am, ah, tI, tI, ah, tI, tI, tI, ah], vs := [tI, tI, tI, ac], head := ⟨73, .any :: .var tI :: .con tI :: .con am :: .fn 195 [(2, 0)] :: .box 3 0 :: aN 5 (.own 4 :: .var tI :: aN 7 [.con ah, .con tI, .var tI]), [.cells [.con tI, .con ah], .cells [.con tI], .cells [.con tI], .cells [.con tI, .con ah], .rowv tI]⟩, exits := [(.exit 2, ⟨73, .any :: .var tI :: .con tI :: .con am :: .fn 195 [(2, 0)] :: .box 3 0 :: aN 5 (.own 4 :: .var tI :: aN 7 [.con ah, .con tI]), [.cells [.con tI, .con ah], .cells [.con tI], .cells [.con tI], .cells [.con tI, .con ah], .rowv tI]⟩, [tI, tI, ac])] }
def xl (ρ : Type) : bQ ρ := ⟨[6, 5], 158, 2, KI, fun (p : Val (.pair tI (.pair am (.pair ah (.pair tI (.pair tI (.pair ah (.pair tI aF)))))))) (v : Val aD) kn kx => Ep p.1 p.2.1 p.2.2.1 p.2.2.2.1 p.2.2.2.2.2.2.2.1 v.1 v.2.1 v.2.2.1 v.2.2.2 (fun u0 u1 u2 u3 => kn (u0, u1, u2, u3)) (kx 0)⟩
def KJ : bn := { pin := 3, cs := [am, tI, ah, tI, tI, tI, ah], vs := [tI, tI, tI, ac], head := ⟨73, .any :: .var tI :: .var tI :: .con am :: .fn 195 [(2, 0)] :: .box 3 0 :: aN 5 [.own 4, .var tI], [.cells [.con tI, .con ah], .cells [.con tI], .cells [.con tI], .cells [.con tI, .con ah], .rowv tI]⟩, exits := [(.exit 0, ⟨73, .any :: .any :: .any :: .con am :: .fn 195 [(2, 0)] :: .box 3 0 :: aN 5 [.own 4], [.cells [.con tI, .con ah], .cells [.con tI], .cells [.con tI], .cells [.con tI, .con ah], .rowv tI]⟩, [ac])] }
def xm (ρ : Type) : bQ ρ := ⟨[6, 5], 158, 0, KJ, fun (p : Val (.pair am (.pair tI (.pair ah (.pair tI aF))))) (v : Val aD) kn kx => oz p.1 p.2.2.2.2.1 p.2.2.2.2.2.2 v.1 v.2.1 v.2.2.1 v.2.2.2 (fun u0 u1 u2 u3 => kn (u0, u1, u2, u3)) (kx 0)⟩
def Rb : List (Nat × bI) := [(89, zo), (156, GK)]
def AI (ρ : Type) : List (bQ ρ) := [xn ρ, xl ρ, xm ρ]
def nq (ρ : Type) : Env ρ := bL Rb (AI ρ)
def zm : bI := ⟨[au, aQ, (.ptr .bool)], [ac], fun (x : Val (.pair au (.pair aQ (.ptr .bool)))) => j2 x.1 x.2.1 x.2.2⟩
def Fs : List (Nat × bI) := [(55, jb), (120, Qr)]
def qd (ρ : Type) : List (bQ ρ) := []
def uw (ρ : Type) : Env ρ := bL Fs (qd ρ)
def GI : bI := ⟨[bg, bc, .bool], [fX, tI], fun (x : Val (.pair bg (.pair bc .bool))) => sd x.1 x.2.1 x.2.2⟩
def Fr : bn := { pin := 5, cs := [tI, tI, tI, ae, aa, af, ab, aa, tI, tI, tI, tI, .bool, tI, aa], vs := [tI, tI, tI, ae, aa, af, ab, aa], head := ⟨68, .any :: .any :: .box 5 0 :: aN 20 [.own 4, .con tI, .var tI], [.cells [.con tI, .con tI, .con ae, .con aa, .con af, .con ab, .con aa], .dead, .dead, .cells [.con tI, .con tI, .nils, .nils, .nils, .nils, .nils, .con tI, .con tI, .con .bool, .con tI, .nils], .rowc bc, .cells [.var tI, .var tI, .var ae, .var aa, .var af, .var ab, .var aa]]⟩, exits := [(.ret, ⟨68, .any :: .any :: .box 5 0 :: .any :: .nilp :: .var tI :: aN 17 [.own 4, .con tI], [.cells [.con tI, .con tI, .con ae, .con aa, .con af, .con ab, .con aa], .dead, .dead, .cells [.con tI, .con tI, .nils, .nils, .nils, .nils, .nils, .con tI, .con tI, .con .bool, .con tI, .nils], .rowc bc, .cells [.var tI, .var tI, .var ae, .var aa, .var af, .var ab, .var aa]]⟩, [tI, tI, tI, ae, aa, af, ab, aa]), (.exit 0, ⟨68, .any :: .any :: .box 5 0 :: aN 20 [.own 4, .con tI], [.cells [.con tI, .con tI, .con ae, .con aa, .con af, .con ab, .con aa], .dead, .dead, .cells [.con tI, .con tI, .nils, .nils, .nils, .nils, .nils, .con tI, .con tI, .con .bool, .con tI, .nils], .rowc bc, .cells [.var tI, .var tI, .var ae, .var aa, .var af, .var ab, .var aa]]⟩, [tI, tI, ae, aa, af, ab, aa])] }
def sR (ρ : Type) : bQ ρ := ⟨[1, 3], 50, 0, Fr, fun (p : Val (.pair tI (.pair tI (.pair tI (.pair ae (.pair aa (.pair af (.pair ab (.pair aa (.pair tI (.pair tI (.pair tI (.pair tI (.pair .bool aA)))))))))))))) (v : Val aC) kn kx => ph p.1 p.2.2.2.2.2.2.2.2.2.2.2.2.2.2 v.1 v.2.1 v.2.2.1 v.2.2.2.1 v.2.2.2.2.1 v.2.2.2.2.2.1 v.2.2.2.2.2.2.1 v.2.2.2.2.2.2.2 (fun u0 u1 u2 u3 u4 u5 u6 u7 => kn (u0, u1, u2, u3, u4, u5, u6, u7)) (kx 0) (kx 1)⟩
def Fq : bn := { pin := 10, cs := [tI, tI, tI, ae, aa, af, ab, aa, tI, tI, tI, tI, .bool, tI, aa, tI, tI, ae, aa, af, ab, aa, tI, ah, aa, tI, tI, ae, aa, af, ab, aa, tI, tI, ae, aa, af, ab, aa], vs := [tI], head := ⟨68, .any :: .any :: .box 10 0 :: aN 20 [.nils, .con tI, .var tI], [.cells [.con tI, .con tI, .con ae, .con aa, .con af, .con ab, .con aa], .dead, .dead, .cells [.con tI, .con tI, .nils, .nils, .nils, .nils, .nils, .con tI, .con tI, .con .bool, .con tI, .nils], .rowc bc, .cells [.con tI, .con tI, .con ae, .con aa, .con af, .con ab, .con aa], .cells [.con tI, .con ah], .dead, .rowf bc 0, .cells [.con tI, .con tI, .con ae, .con aa, .con af, .con ab, .con aa], .cells [.con tI, .con tI, .con ae, .con aa, .con af, .con ab, .con aa]]⟩, exits := [(.exit 0, ⟨68, .any :: .any :: .box 10 0 :: aN 20 [.nils, .con tI], [.cells [.con tI, .con tI, .con ae, .con aa, .con af, .con ab, .con aa], .dead, .dead, .cells [.con tI, .con tI, .nils, .nils, .nils, .nils, .nils, .con tI, .con tI, .con .bool, .con tI, .nils], .rowc bc, .cells [.con tI, .con tI, .con ae, .con aa, .con af, .con ab, .con aa], .cells [.con tI, .con ah], .dead, .rowf bc 0, .cells [.con tI, .con tI, .con ae, .con aa, .con af, .con ab, .con aa], .cells [.con tI, .con tI, .con ae, .con aa, .con af, .con ab, .con aa]]⟩, [])] }
def sQ (ρ : Type) : bQ ρ := ⟨[6, 1], 50, 0, Fq, fun (p : Val (.pair tI (.pair tI (.pair tI (.pair ae (.pair aa (.pair af (.pair ab (.pair aa (.pair tI (.pair tI (.pair tI (.pair tI (.pair .bool (.pair tI (.pair aa (.pair tI (.pair tI (.pair ae (.pair aa (.pair af (.pair ab (.pair aa (.pair tI (.pair ah (.pair aa ay)))))))))))))))))))))))))) (v : Val tI) kn kx => pf p.1 v (fun u0 => kn u0) (kx 0)⟩
def Kr : List (Nat × bI) := [(20, ej), (38, dX), (60, gT), (61, mm), (79, m6), (80, xQ), (119, zm), (121, oT), (122, kp), (123, eQ)]
def ut (ρ : Type) : List (bQ ρ) := [sR ρ, sQ ρ]
def jS (ρ : Type) : Env ρ := { bL Kr (ut ρ) with hint := Dm [(34, 119), (56, 119)] }
def GG : bI := ⟨[], [.bool], fun (_ : Unit) => jn⟩
def JY : List (Nat × bI) := [(15, D3), (17, GJ), (18, MZ), (25, Qn), (31, Qm), (33, qN), (35, LK), (36, Qo), (42, GH), (48, D0), (49, GI)]
def tS (ρ : Type) : List (bQ ρ) := []
def zG (ρ : Type) : Env ρ := bL JY (tS ρ)
def Qj : bI := ⟨[bg, aa], [bg, .bool], fun (x : Val (.pair bg aa)) => ny x.1 x.2⟩
def JW : bn := { pin := 0, cs := [aa], vs := [tI, tI, tI, ae, aa, af, ab, aa, tI, tI, ae, aa, af, ab, aa], head := ⟨42, [.any, .con aa, .box 0 0, .any, .box 1 0, .any, .var tI], [.cells [.var tI, .var tI, .var ae, .var aa, .var af, .var ab, .var aa], .cells [.var tI, .var tI, .var ae, .var aa, .var af, .var ab, .var aa]]⟩, exits := [(.ret, ⟨42, [.any, .con aa, .box 0 0, .any, .box 1 0, .var .bool], [.cells [.var tI, .var tI, .var ae, .var aa, .var af, .var ab, .var aa], .cells [.var tI, .var tI, .var ae, .var aa, .var af, .var ab, .var aa]]⟩, [.bool, tI, tI, ae, aa, af, ab, aa, tI, tI, ae, aa, af, ab, aa]), (.exit 0, ⟨42, [.any, .con aa, .box 0 0, .any, .box 1 0], [.cells [.var tI, .var tI, .var ae, .var aa, .var af, .var ab, .var aa], .cells [.var tI, .var tI, .var ae, .var aa, .var af, .var ab, .var aa]]⟩, [tI, tI, ae, aa, af, ab, aa, tI, tI, ae, aa, af, ab, aa])] }
def wO (ρ : Type) : bQ ρ := ⟨[], 19, 0, JW, fun (p : Val aa) (v : Val (.pair tI ay)) kn kx => ln p v.1 v.2.1 v.2.2.1 v.2.2.2.1 v.2.2.2.2.1 v.2.2.2.2.2.1 v.2.2.2.2.2.2.1 v.2.2.2.2.2.2.2.1 v.2.2.2.2.2.2.2.2.1 v.2.2.2.2.2.2.2.2.2.1 v.2.2.2.2.2.2.2.2.2.2.1 v.2.2.2.2.2.2.2.2.2.2.2.1 v.2.2.2.2.2.2.2.2.2.2.2.2.1 v.2.2.2.2.2.2.2.2.2.2.2.2.2.1 v.2.2.2.2.2.2.2.2.2.2.2.2.2.2 (fun u0 u1 u2 u3 u4 u5 u6 u7 u8 u9 u10 u11 u12 u13 u14 => kn (u0, u1, u2, u3, u4, u5, u6, u7, u8, u9, u10, u11, u12, u13, u14)) (kx 0) (kx 1)⟩
def QM : List (Nat × bI) := [(60, gT), (61, mm)]
def zE (ρ : Type) : List (bQ ρ) := [wO ρ]
def xY (ρ : Type) : Env ρ := bL QM (zE ρ)
def D4 : bI := ⟨[bo], [ac, tI], fun (x : Val bo) => oO x⟩
def HG : List (Nat × bI) := [(63, zn), (64, vH), (65, eI)]
def sV (ρ : Type) : List (bQ ρ) := []
def xd (ρ : Type) : Env ρ := bL HG (sV ρ)
def Qp : bI := ⟨[bo], [ac, tI], fun (x : Val bo) => BG x⟩
def Ky : bn := { pin := 1, cs := [ac, tI, tI, ah, tI, ah], vs := [tI, ac], head := ⟨28, .any :: .box 1 0 :: .any :: .any :: .con ac :: .own 2 :: aN 7 [.con tI, .var tI], [.cells [.con tI, .con ah], .cells [.con tI, .con ah], .rowv tI]⟩, exits := [(.exit 0, ⟨28, .any :: .box 1 0 :: .any :: .any :: .con ac :: .own 2 :: aN 7 [.con tI], [.cells [.con tI, .con ah], .cells [.con tI, .con ah], .rowv tI]⟩, [ac])] }
def xc (ρ : Type) : bQ ρ := ⟨[4, 1], 66, 0, Ky, fun (p : Val (.pair ac aY)) (v : Val ax) kn kx => ou p.2.1 p.2.2.2.2.1 p.2.2.2.2.2 v.1 v.2 (fun u0 u1 => kn (u0, u1)) (kx 0)⟩
def Kx : bn := { pin := 0, cs := [tI], vs := [tI, ac], head := ⟨35, aN 6 (.own 0 :: aN 14 [.con tI, .var tI]), [.rowv tI]⟩, exits := [(.exit 0, ⟨35, aN 6 (.own 0 :: aN 14 [.con tI]), [.rowv tI]⟩, [ac])] }
def xb (ρ : Type) : bQ ρ := ⟨[], 22, 0, Kx, fun (p : Val tI) (v : Val ax) kn kx => ot p v.1 v.2 (fun u0 u1 => kn (u0, u1)) (kx 0)⟩
def Q7 : List (Nat × bI) := [(63, zn), (64, vH), (65, eI)]
def AA (ρ : Type) : List (bQ ρ) := [xc ρ, xb ρ]
def rA (ρ : Type) : Env ρ := bL Q7 (AA ρ)
def pI : bI := ⟨[aB, ac], [tI], fun (x : Val (.pair aB ac)) => iJ x.1 x.2⟩
def tk : bn := { pin := 0, cs := [ac, tI], vs := [tI], head := ⟨19, .con ac :: .fn 137 [] :: aN 5 [.con tI, .var tI], []⟩, exits := [(.ret, ⟨19, [.con ac, .fn 137 [], .any, .any, .var tI, .any, .any, .con tI], []⟩, [tI]), (.exit 0, ⟨19, .con ac :: .fn 137 [] :: aN 5 [.con tI], []⟩, [])] }
def kh (ρ : Type) : bQ ρ := ⟨[1, 10, 1, 2], 178, 0, tk, fun (p : Val az) (v : Val tI) kn kx => gg p.1 p.2 v (fun u0 => kn u0) (kx 0) (kx 1)⟩
def wB : List (Nat × bI) := [(126, iB)]
def lE (ρ : Type) : List (bQ ρ) := [kh ρ]
def jj (ρ : Type) : Env ρ := bL wB (lE ρ)
def Vb : bI := ⟨[bo, ac], [.bool, tI], fun (x : Val aR) => Gd x.1 x.2⟩
def N3 : bn := { pin := 1, cs := [ac, tI, tI, ah], vs := [tI], head := ⟨19, .con ac :: .fn 203 [] :: aN 5 [.con tI, .var tI], [.cells [.con tI, .con ah]]⟩, exits := [(.ret, ⟨19, [.con ac, .fn 203 [], .any, .any, .var tI, .any, .any, .con tI], [.cells [.con tI, .con ah]]⟩, [tI]), (.exit 0, ⟨19, .con ac :: .fn 203 [] :: aN 5 [.con tI], [.cells [.con tI, .con ah]]⟩, [])] }
def AC (ρ : Type) : bQ ρ := ⟨[4, 7, 1, 2], 178, 0, N3, fun (p : Val (.pair ac aF)) (v : Val tI) kn kx => rB p.1 p.2.1 v (fun u0 => kn u0) (kx 0) (kx 1)⟩
def N2 : bn := { pin := 0, cs := [ac, ah, tI], vs := [tI], head := ⟨53, .any :: .con ac :: aN 26 [.con ah, .con tI, .var tI], []⟩, exits := [(.ret, ⟨53, .any :: .con ac :: .any :: .any :: .var .bool :: .var tI :: aN 22 [.con ah, .con tI], []⟩, [.bool, tI]), (.exit 0, ⟨53, .any :: .con ac :: aN 26 [.con ah, .con tI], []⟩, [])] }
def AB (ρ : Type) : bQ ρ := ⟨[], 138, 0, N2, fun (p : Val (.pair ac (.pair ah tI))) (v : Val tI) kn kx => kG p.1 p.2.1 p.2.2 v (fun u0 => kn u0) (kx 0) (kx 1)⟩
def TL : List (Nat × bI) := [(133, m7)]
def Ej (ρ : Type) : List (bQ ρ) := [AC ρ, AB ρ]
def vP (ρ : Type) : Env ρ := bL TL (Ej ρ)
def wN : bI := ⟨[aB, ac], [.bool], fun (x : Val (.pair aB ac)) => lg x.1 x.2⟩
def C3 : List (Nat × bI) := [(138, Vb)]
def oH (ρ : Type) : List (bQ ρ) := []
def s9 (ρ : Type) : Env ρ := bL C3 (oH ρ)
def Vf : bI := ⟨[bg, ac], [.bool, tI], fun (x : Val (.pair bg ac)) => BJ x.1 x.2⟩
def T5 : List (Nat × bI) := [(38, dX), (62, FX), (67, pI), (68, wN)]
def EK (ρ : Type) : List (bQ ρ) := []
def L6 (ρ : Type) : Env ρ := bL T5 (EK ρ)
def LH : bI := ⟨[bg, bc], [tI], fun (x : Val aI) => mR x.1 x.2⟩
def Nn : List (Nat × bI) := [(60, gT)]
def wQ (ρ : Type) : List (bQ ρ) := []
def D5 (ρ : Type) : Env ρ := bL Nn (wQ ρ)
def LG : bI := ⟨[bg, aa, ac, .bool], [tI, .bool], fun (x : Val (.pair bg (.pair aa (.pair ac .bool)))) => qw x.1 x.2.1 x.2.2.1 x.2.2.2⟩
def G1 : bn := { pin := 0, cs := [aa, ac, tI, tI, ae, aa, af, ab, aa], vs := [tI, tI], head := ⟨54, .any :: .con aa :: .con ac :: .any :: .box 0 0 :: aN 6 [.var tI, .var tI], [.cells [.con tI, .con tI, .con ae, .con aa, .con af, .con ab, .con aa]]⟩, exits := [(.ret, ⟨54, [.any, .con aa, .con ac, .any, .box 0 0, .any, .any, .any, .var tI, .var .bool], [.cells [.con tI, .con tI, .con ae, .con aa, .con af, .con ab, .con aa]]⟩, [tI, .bool]), (.exit 0, ⟨54, .any :: .con aa :: .con ac :: .any :: .box 0 0 :: aN 6 [.var tI], [.cells [.con tI, .con tI, .con ae, .con aa, .con af, .con ab, .con aa]]⟩, [tI])] }
def tQ (ρ : Type) : bQ ρ := ⟨[], 24, 0, G1, fun (p : Val (.pair aa (.pair ac ai))) (v : Val bc) kn kx => iD p.1 p.2.1 p.2.2.1 p.2.2.2.1 p.2.2.2.2.1 p.2.2.2.2.2.1 p.2.2.2.2.2.2.1 p.2.2.2.2.2.2.2.1 p.2.2.2.2.2.2.2.2 v.1 v.2 (fun u0 u1 => kn (u0, u1)) (kx 0) (kx 1)⟩
def Nm : List (Nat × bI) := [(27, LH)]
def wP (ρ : Type) : List (bQ ρ) := [tQ ρ]
def tR (ρ : Type) : Env ρ := bL Nm (wP ρ)
def f9 : bI := ⟨[bg, tI, ac], [.bool], fun (x : Val (.pair bg ax)) => iR x.1 x.2.1 x.2.2⟩
def oV : bn := { pin := 0, cs := [tI, ac, tI, tI, ae, aa, af, ab, aa, tI, tI], vs := [tI, aa], head := ⟨171, [.any, .con tI, .con ac, .box 0 0, .any, .any, .any, .box 1 0, .any, .own 2, .var tI], [.cells [.con tI, .con tI, .con ae, .con aa, .con af, .con ab, .con aa], .cells [.con tI, .con tI], .rowv bc]⟩, exits := [(.exit 0, ⟨171, [.any, .con tI, .con ac, .box 0 0, .any, .any, .any, .box 1 0, .any, .own 2], [.cells [.con tI, .con tI, .con ae, .con aa, .con af, .con ab, .con aa], .cells [.con tI, .con tI], .rowv bc]⟩, [aa])] }
def iW (ρ : Type) : bQ ρ := ⟨[], 4, 0, oV, fun (p : Val (.pair tI (.pair ac (.pair tI (.pair tI (.pair ae (.pair aa (.pair af (.pair ab aT))))))))) (v : Val aA) kn kx => dE p.1 p.2.1 v.1 v.2 (fun u0 u1 => kn (u0, u1)) (kx 0)⟩
def qT : List (Nat × bI) := [(13, U8), (14, GG), (18, MZ), (19, Qj), (20, ej), (21, D4), (22, Qp), (23, Vf), (24, LG)]
def jr (ρ : Type) : List (bQ ρ) := [iW ρ]
def g8 (ρ : Type) : Env ρ := bL qT (jr ρ)
end Go.Proofs.ZzM
end
