/- lemmas -/
import Derived.Test.YthhhehllmdfhiaaGreatAmE
import Derived.KernelRfl
import Derived.Test.YthhhehllmdfhiaaGreatMdTA
import Derived.Test.YthhhehllmdfhiaaGreatProg
set_option linter.all false
set_option linter.unusedSectionVars false
set_option linter.unusedVariables false
set_option linter.unusedSimpArgs false
noncomputable section
set_option maxRecDepth 100000
namespace Go.Proofs.ZzM
open Go Go.Am
def Hv : Nat → Bool
  | 91 => true
  | 140 => true
  | 229 => true
  | 230 => true
  | 231 => true
  | 232 => true
  | 233 => true
  | _ => false
def Qo : Nat → Bool
  | 127 => true
  | _ => false
def uj : Nat → Bool
  | 128 => true
  | _ => false
def isInl : Nat → Bool
  | 2 => true
  | 50 => true
  | 66 => true
  | 74 => true
  | 84 => true
  | 92 => true
  | 93 => true
  | 98 => true
  | 100 => true
  | 124 => true
  | 131 => true
  | 132 => true
  | 136 => true
  | 137 => true
  | 139 => true
  | 141 => true
  | 147 => true
  | 148 => true
  | 149 => true
  | 150 => true
  | 151 => true
  | 152 => true
  | 153 => true
  | 154 => true
  | 155 => true
  | 157 => true
  | 158 => true
  | 159 => true
  | 160 => true
  | 161 => true
  | 165 => true
  | 169 => true
  | 170 => true
  | 175 => true
  | 176 => true
  | 178 => true
  | 193 => true
  | 194 => true
  | 195 => true
  | 196 => true
  | 199 => true
  | 201 => true
  | 202 => true
  | 203 => true
  | 204 => true
  | 206 => true
  | 207 => true
  | 208 => true
  | 209 => true
  | 211 => true
  | 212 => true
  | 214 => true
  | 215 => true
  | 217 => true
  | 218 => true
  | 220 => true
  | 221 => true
  | 222 => true
  | 242 => true
  | 243 => true
  | 244 => true
  | 245 => true
  | 246 => true
  | 247 => true
  | 249 => true
  | 250 => true
  | 253 => true
  | 255 => true
  | 257 => true
  | 261 => true
  | 269 => true
  | 270 => true
  | 272 => true
  | 273 => true
  | 275 => true
  | 276 => true
  | 279 => true
  | 280 => true
  | 286 => true
  | 288 => true
  | 289 => true
  | _ => false
def isFz : Nat → Bool
  | 59 => true
  | 79 => true
  | 94 => true
  | _ => false
def isEat : Nat → Nat → Bool
  | 41, 8 => true
  | 41, 11 => true
  | 49, 4 => true
  | 49, 5 => true
  | 50, 67 => true
  | 176, 25 => true
  | 202, 0 => true
  | _, _ => false
def bJ {ρ : Type} (pt : List (Nat × bD)) (tab : List (bP ρ)) : Env ρ :=
  { P := Tryz.prog, eat := isEat, clone := Hv, sort := Qo, compact := uj, inl := isInl, fz := isFz, pure := U4 pt, loops := l7 tab }
def ZZ {ρ : Type} (pt : List (Nat × bD)) (tab : List (bP ρ)) (us : List Yo) : Env ρ :=
  { P := Tryz.prog, eat := isEat, clone := Hv, sort := Qo, compact := uj, inl := isInl, fz := isFz, pure := U4 pt, loops := Qf (bJ pt tab) us }
end Go.Proofs.ZzM
end

noncomputable section
set_option maxRecDepth 100000
namespace Go.Proofs.ZzM
open Go Go.Am
def mI : bD := ⟨[ba], [ao], fun (x : Val ba) => df x⟩
def Ex : bi := { pin := 0, cs := [ac, tI], vs := [tI, ao], head := ⟨20, .any :: .any :: .any :: .omp 0 :: aN 4 [.con ac, .con tI, .var tI], [.mapv tI bj]⟩, exits := [(.exit 0, ⟨20, .any :: .any :: .any :: .omp 0 :: aN 4 [.con ac, .con tI], [.mapv tI bj]⟩, [ao])] }
def si (ρ : Type) : bP ρ := ⟨[], 53, 0, Ex, fun (p : Val (.pair ac tI)) (v : Val (.pair tI ao)) kn kx => kL p.1 p.2 v.1 v.2 (fun u0 u1 => kn (u0, u1)) (kx 0)⟩
def Jy : List (Nat × bD) := []
def tQ (ρ : Type) : List (bP ρ) := [si ρ]
def qQ (ρ : Type) : Env ρ := bJ Jy (tQ ρ)
def pk : bD := ⟨[aY, tI, tI], [.bool], fun (x : Val cd) => fu x.1 x.2.1 x.2.2⟩
def Nc : List (Nat × bD) := []
def wC (ρ : Type) : List (bP ρ) := []
def DD (ρ : Type) : Env ρ := bJ Nc (wC ρ)
def i7 : bD := ⟨[tI, tI, tI], [.bool], fun (x : Val ci) => cM x.1 x.2.1 x.2.2⟩
def MS : List (Nat × bD) := []
def wx (ρ : Type) : List (bP ρ) := []
def Dy (ρ : Type) : Env ρ := bJ MS (wx ρ)
def sV : bD := ⟨[tI], [.bool], fun (x : Val tI) => jK x⟩
def P3 : List (Nat × bD) := [(126, i7)]
def Ab (ρ : Type) : List (bP ρ) := []
def He (ρ : Type) : Env ρ := bJ P3 (Ab ρ)
def LJ : bD := ⟨[tI], [(.int .u64)], fun (x : Val tI) => oq x⟩
def RY : List (Nat × bD) := []
def Dt (ρ : Type) : List (bP ρ) := []
def KH (ρ : Type) : Env ρ := bJ RY (Dt ρ)
def RB : bD := ⟨[(.int .u64), (.int .u64)], [(.int .u64)], fun (x : Val aT) => HO x.1 x.2⟩
def PN : bi := { pin := 0, cs := [], vs := [(.int .u64), (.int .u64)], head := ⟨12, [.var (.int .u64), .var (.int .u64)], []⟩, exits := [(.exit 0, ⟨12, [.var (.int .u64)], []⟩, [(.int .u64)])] }
def Du (ρ : Type) : bP ρ := ⟨[], 260, 0, PN, fun (p : Unit) (v : Val aT) kn kx => vg v.1 v.2 (fun u0 u1 => kn (u0, u1)) (kx 0)⟩
def UU : List (Nat × bD) := []
def GP (ρ : Type) : List (bP ρ) := [Du ρ]
def GQ (ρ : Type) : Env ρ := bJ UU (GP ρ)
def yw : bD := ⟨[aY], [.bool], fun (x : Val aY) => pZ x⟩
def PQ : List (Nat × bD) := [(259, LJ), (260, RB)]
def zL (ρ : Type) : List (bP ρ) := []
def GU (ρ : Type) : Env ρ := bJ PQ (zL ρ)
def FO : bD := ⟨[bj], [.bool], fun (x : Val bj) => rr x⟩
def JK : List (Nat × bD) := [(82, pk), (125, sV), (126, i7), (219, yw)]
def tX (ρ : Type) : List (bP ρ) := []
def Aa (ρ : Type) : Env ρ := bJ JK (tX ρ)
def sW : bD := ⟨[ba], [tI], fun (x : Val ba) => eZ x⟩
def vK : bi := { pin := 0, cs := [ac, tI, tI, tI, ac, aa, af, ab, aa], vs := [tI], head := ⟨31, .any :: .box 0 0 :: aN 4 [.con ac, .con tI, .var tI], [.cells [.con tI, .con tI, .con ac, .con aa, .con af, .con ab, .con aa]]⟩, exits := [(.ret, ⟨31, [.any, .box 0 0, .var tI, .any, .any, .any, .con ac, .con tI], [.cells [.con tI, .con tI, .con ac, .con aa, .con af, .con ab, .con aa]]⟩, [tI]), (.exit 0, ⟨31, .any :: .box 0 0 :: aN 4 [.con ac, .con tI], [.cells [.con tI, .con tI, .con ac, .con aa, .con af, .con ab, .con aa]]⟩, [])] }
def lR (ρ : Type) : bP ρ := ⟨[], 83, 0, vK, fun (p : Val (.pair ac ay)) (v : Val tI) kn kx => gV p.1 p.2.1 p.2.2.2.2.1 v (fun u0 => kn u0) (kx 0) (kx 1)⟩
def Ah : List (Nat × bD) := [(162, FO)]
def mY (ρ : Type) : List (bP ρ) := [lR ρ]
def kq (ρ : Type) : Env ρ := bJ Ah (mY ρ)
def pf : bD := ⟨[ae, tI], [tI], fun (x : Val aB) => iu x.1 x.2⟩
def sq : bi := { pin := 0, cs := [ae, tI, tI], vs := [tI], head := ⟨19, .con ae :: .con tI :: aN 5 [.con tI, .var tI], []⟩, exits := [(.ret, ⟨19, [.con ae, .con tI, .any, .any, .var tI, .any, .any, .con tI], []⟩, [tI]), (.exit 0, ⟨19, .con ae :: .con tI :: aN 5 [.con tI], []⟩, [])] }
def jW (ρ : Type) : bP ρ := ⟨[], 73, 0, sq, fun (p : Val (.pair ae aY)) (v : Val tI) kn kx => fS p.1 p.2.1 p.2.2 v (fun u0 => kn u0) (kx 0) (kx 1)⟩
def vD : List (Nat × bD) := []
def kU (ρ : Type) : List (bP ρ) := [jW ρ]
def iU (ρ : Type) : Env ρ := bJ vD (kU ρ)
def iy : bD := ⟨[ae, tI], [.bool], fun (x : Val aB) => cY x.1 x.2⟩
def qu : List (Nat × bD) := [(73, pf)]
def ja (ρ : Type) : List (bP ρ) := []
def jX (ρ : Type) : Env ρ := bJ qu (ja ρ)
def LO : bD := ⟨[ba, bj], [ae], fun (x : Val (.pair ba bj)) => me x.1 x.2⟩
def Ni : bi := { pin := 0, cs := [ab, tI, tI, tI, ac, aa, af, ab, aa, tI, tI, tI, tI, tI, tI, tI, tI], vs := [tI, ae], head := ⟨59, .any :: .any :: .box 0 0 :: .box 1 0 :: .any :: .own 2 :: aN 8 [.con ab, .con tI, .var tI], [.cells [.con tI, .con tI, .con ac, .con aa, .con af, .con ab, .con aa], .cells [.con tI, .con tI, .con tI, .con tI, .con tI, .con tI, .con tI, .con tI], .rowv tI]⟩, exits := [(.exit 0, ⟨59, .any :: .any :: .box 0 0 :: .box 1 0 :: .any :: .own 2 :: aN 8 [.con ab, .con tI], [.cells [.con tI, .con tI, .con ac, .con aa, .con af, .con ab, .con aa], .cells [.con tI, .con tI, .con tI, .con tI, .con tI, .con tI, .con tI, .con tI], .rowv tI]⟩, [ae])] }
def Ae (ρ : Type) : bP ρ := ⟨[], 168, 0, Ni, fun (p : Val (.pair ab aE)) (v : Val ax) kn kx => rd p.1 p.2.1 p.2.2.2.2.2.2.2.2.2.1 v.1 v.2 (fun u0 u1 => kn (u0, u1)) (kx 0)⟩
def Nh : bi := { pin := 0, cs := [aa, tI, tI, tI, tI, tI, tI, tI, tI, tI], vs := [tI, ae], head := ⟨59, .any :: .any :: .any :: .box 0 0 :: .any :: .own 1 :: aN 32 [.con aa, .con tI, .var tI], [.cells [.con tI, .con tI, .con tI, .con tI, .con tI, .con tI, .con tI, .con tI], .rowv tI]⟩, exits := [(.exit 2, ⟨59, .any :: .any :: .any :: .box 0 0 :: .any :: .own 1 :: aN 32 [.con aa, .con tI], [.cells [.con tI, .con tI, .con tI, .con tI, .con tI, .con tI, .con tI, .con tI], .rowv tI]⟩, [ae])] }
def Ad (ρ : Type) : bP ρ := ⟨[], 168, 2, Nh, fun (p : Val (.pair aa (.pair tI ar))) (v : Val ax) kn kx => rc p.1 p.2.1 p.2.2.1 v.1 v.2 (fun u0 u1 => kn (u0, u1)) (kx 0)⟩
def Se : List (Nat × bD) := [(65, iy)]
def DF (ρ : Type) : List (bP ρ) := [Ae ρ, Ad ρ]
def vj (ρ : Type) : Env ρ := bJ Se (DF ρ)
def yz : bD := ⟨[ba], [aa], fun (x : Val ba) => nm x⟩
def JA : bi := { pin := 0, cs := [ac, tI, tI, ae, tI, tI, tI, ac, aa, af, ab, aa, tI, tI, tI, tI, tI, tI, tI, tI], vs := [tI, aa], head := ⟨33, .any :: .box 0 0 :: .any :: .own 1 :: .any :: .box 2 0 :: .any :: .any :: .any :: .con ac :: .con tI :: .con tI :: aN 5 [.con ae, .con tI, .var tI], [.cells [.con tI, .con tI, .con ac, .con aa, .con af, .con ab, .con aa], .rowv aY, .cells [.con tI, .con tI, .con tI, .con tI, .con tI, .con tI, .con tI, .con tI]]⟩, exits := [(.exit 2, ⟨33, .any :: .box 0 0 :: .any :: .own 1 :: .any :: .box 2 0 :: .any :: .any :: .any :: .con ac :: .con tI :: .con tI :: aN 5 [.con ae, .con tI], [.cells [.con tI, .con tI, .con ac, .con aa, .con af, .con ab, .con aa], .rowv aY, .cells [.con tI, .con tI, .con tI, .con tI, .con tI, .con tI, .con tI, .con tI]]⟩, [aa])] }
def wy (ρ : Type) : bP ρ := ⟨[], 85, 2, JA, fun (p : Val (.pair ac (.pair tI (.pair tI (.pair ae aE))))) (v : Val az) kn kx => og p.2.2.2.1 p.2.2.2.2.1 p.2.2.2.2.2.2.2.2.2.2.2.2.1 v.1 v.2 (fun u0 u1 => kn (u0, u1)) (kx 0)⟩
def JB : bi := { pin := 0, cs := [ac, tI, tI, tI, ac, aa, af, ab, aa], vs := [tI, aa], head := ⟨33, .any :: .box 0 0 :: .any :: .own 1 :: aN 5 [.con ac, .con tI, .var tI], [.cells [.con tI, .con tI, .con ac, .con aa, .con af, .con ab, .con aa], .rowv aY]⟩, exits := [(.exit 0, ⟨33, .any :: .box 0 0 :: .any :: .own 1 :: aN 5 [.con ac, .con tI], [.cells [.con tI, .con tI, .con ac, .con aa, .con af, .con ab, .con aa], .rowv aY]⟩, [aa])] }
def wz (ρ : Type) : bP ρ := ⟨[], 85, 0, JB, fun (p : Val (.pair ac ay)) (v : Val az) kn kx => oh p.1 p.2.1 p.2.2.1 p.2.2.2.1 p.2.2.2.2.1 p.2.2.2.2.2.1 p.2.2.2.2.2.2.1 p.2.2.2.2.2.2.2.1 p.2.2.2.2.2.2.2.2 v.1 v.2 (fun u0 u1 => kn (u0, u1)) (kx 0)⟩
def PZ : List (Nat × bD) := [(168, LO)]
def zS (ρ : Type) : List (bP ρ) := [wy ρ, wz ρ]
def qT (ρ : Type) : Env ρ := bJ PZ (zS ρ)
def kG : bD := ⟨[ao, tI, tI], [tI], fun (x : Val (.pair ao aY)) => gM x.1 x.2.1 x.2.2⟩
def Ca : List (Nat × bD) := []
def oe (ρ : Type) : List (bP ρ) := []
def sj (ρ : Type) : Env ρ := bJ Ca (oe ρ)
def RD : bD := ⟨[tI, tI, (.ptr ao)], [tI], fun (x : Val (.pair tI (.pair tI (.ptr ao)))) => dw x.1 x.2.1 x.2.2⟩
def Jz : List (Nat × bD) := [(125, sV), (164, kG)]
def tT (ρ : Type) : List (bP ρ) := []
def zR (ρ : Type) : Env ρ := bJ Jz (tT ρ)
def LP : bD := ⟨[ba, ao, tI], [tI], fun (x : Val aV) => fB x.1 x.2.1 x.2.2⟩
def Ag : bi := { pin := 2, cs := [af, tI, tI, tI, ac, aa, af, ab, aa, tI, tI, tI, tI], vs := [tI], head := ⟨19, .con af :: .fn 220 [(1, 0)] :: aN 5 [.con tI, .var tI], [.cells [.con tI, .con tI, .con ac, .con aa, .con af, .con ab, .con aa], .cells [.con tI, .con tI, .con tI, .con tI]]⟩, exits := [(.ret, ⟨19, [.con af, .fn 220 [(1, 0)], .any, .any, .var tI, .any, .any, .con tI], [.cells [.con tI, .con tI, .con ac, .con aa, .con af, .con ab, .con aa], .cells [.con tI, .con tI, .con tI, .con tI]]⟩, [tI]), (.exit 0, ⟨19, .con af :: .fn 220 [(1, 0)] :: aN 5 [.con tI], [.cells [.con tI, .con tI, .con ac, .con aa, .con af, .con ab, .con aa], .cells [.con tI, .con tI, .con tI, .con tI]]⟩, [])] }
def oj (ρ : Type) : bP ρ := ⟨[9, 5, 1, 2], 257, 0, Ag, fun (p : Val (.pair af (.pair tI (.pair tI (.pair tI (.pair ac (.pair aa (.pair af (.pair ab (.pair aa (.pair tI ci))))))))))) (v : Val tI) kn kx => iO p.1 p.2.1 p.2.2.2.2.2.2.2.2.2.1 p.2.2.2.2.2.2.2.2.2.2.1 p.2.2.2.2.2.2.2.2.2.2.2.1 v (fun u0 => kn u0) (kx 0) (kx 1)⟩
def Af : bi := { pin := 2, cs := [aa, tI, tI, tI, ac, aa, af, ab, aa, tI, tI, tI, tI], vs := [tI], head := ⟨19, .con aa :: .fn 221 [(1, 0)] :: aN 5 [.con tI, .var tI], [.cells [.con tI, .con tI, .con ac, .con aa, .con af, .con ab, .con aa], .cells [.con tI, .con tI, .con tI, .con tI]]⟩, exits := [(.ret, ⟨19, [.con aa, .fn 221 [(1, 0)], .any, .any, .var tI, .any, .any, .con tI], [.cells [.con tI, .con tI, .con ac, .con aa, .con af, .con ab, .con aa], .cells [.con tI, .con tI, .con tI, .con tI]]⟩, [tI]), (.exit 0, ⟨19, .con aa :: .fn 221 [(1, 0)] :: aN 5 [.con tI], [.cells [.con tI, .con tI, .con ac, .con aa, .con af, .con ab, .con aa], .cells [.con tI, .con tI, .con tI, .con tI]]⟩, [])] }
def oi (ρ : Type) : bP ρ := ⟨[9, 10, 1, 2], 255, 0, Af, fun (p : Val (.pair aa (.pair tI (.pair tI (.pair tI (.pair ac (.pair aa (.pair af (.pair ab (.pair aa (.pair tI ci))))))))))) (v : Val tI) kn kx => ft p.1 p.2.1 p.2.2.2.2.2.2.2.2.2.1 p.2.2.2.2.2.2.2.2.2.2.1 p.2.2.2.2.2.2.2.2.2.2.2.1 v (fun u0 => kn u0) (kx 0) (kx 1)⟩
def EC : List (Nat × bD) := [(82, pk), (126, i7), (164, kG)]
def pP (ρ : Type) : List (bP ρ) := [oj ρ, oi ρ]
def jC (ρ : Type) : Env ρ := bJ EC (pP ρ)
def uX : bD := ⟨[ae, ae], [ae], fun (x : Val (.pair ae ae)) => eA x.1 x.2⟩
def M8 : bi := { pin := 2, cs := [tI, ae, ae], vs := [tI], head := ⟨19, .own 1 :: .fn 170 [(0, 0)] :: aN 5 [.con tI, .var tI], [.cells [.con ae], .rowc tI]⟩, exits := [(.ret, ⟨19, [.own 1, .fn 170 [(0, 0)], .any, .any, .var tI, .any, .any, .con tI], [.cells [.con ae], .rowc tI]⟩, [tI]), (.exit 0, ⟨19, .own 1 :: .fn 170 [(0, 0)] :: aN 5 [.con tI], [.cells [.con ae], .rowc tI]⟩, [])] }
def zZ (ρ : Type) : bP ρ := ⟨[1, 3, 1, 2], 178, 0, M8, fun (p : Val (.pair tI (.pair ae ae))) (v : Val tI) kn kx => qZ p.1 p.2.1 p.2.2 v (fun u0 => kn u0) (kx 0) (kx 1)⟩
def M7 : bi := { pin := 2, cs := [ae], vs := [tI, tI, ae], head := ⟨42, [.own 1, .fn 170 [(0, 0)], .any, .any, .any, .var tI, .var tI], [.cells [.con ae], .rowv tI]⟩, exits := [(.exit 0, ⟨42, [.own 1, .fn 170 [(0, 0)], .any, .any, .any, .var tI], [.cells [.con ae], .rowv tI]⟩, [tI, ae])] }
def zY (ρ : Type) : bP ρ := ⟨[1, 3], 169, 0, M7, fun (p : Val ae) (v : Val (.pair tI ax)) kn kx => i0 p v.1 v.2.1 v.2.2 (fun u0 u1 u2 => kn (u0, u1, u2)) (kx 0)⟩
def Sd : List (Nat × bD) := [(65, iy)]
def DC (ρ : Type) : List (bP ρ) := [zZ ρ, zY ρ]
def vi (ρ : Type) : Env ρ := bJ Sd (DC ρ)
def dX : bD := ⟨[am], [ae], fun (x : Val am) => bL x⟩
def qw : bi := { pin := 0, cs := [am, am, tI], vs := [tI, tI], head := ⟨36, .con am :: .any :: .any :: .var tI :: aN 5 [.con am, .con tI, .var tI], []⟩, exits := [(.exit 0, ⟨36, .con am :: .any :: .any :: .var tI :: aN 5 [.con am, .con tI], []⟩, [tI])] }
def jz (ρ : Type) : bP ρ := ⟨[], 94, 0, qw, fun (p : Val (.pair am (.pair am tI))) (v : Val aY) kn kx => dh p.2.1 p.2.2 v.1 v.2 (fun u0 u1 => kn (u0, u1)) (kx 0)⟩
def qv : bi := { pin := 0, cs := [am, tI], vs := [tI, ae], head := ⟨36, aN 6 (.own 0 :: aN 18 [.con am, .con tI, .var tI]), [.rowv tI]⟩, exits := [(.exit 2, ⟨36, aN 6 (.own 0 :: aN 18 [.con am, .con tI]), [.rowv tI]⟩, [ae])] }
def jy (ρ : Type) : bP ρ := ⟨[], 94, 2, qv, fun (p : Val (.pair am tI)) (v : Val ax) kn kx => bQ p.1 p.2 v.1 v.2 (fun u0 u1 => kn (u0, u1)) (kx 0)⟩
def s9 : List (Nat × bD) := []
def jY (ρ : Type) : List (bP ρ) := [jz ρ, jy ρ]
def fT (ρ : Type) : Env ρ := bJ s9 (jY ρ)
def Bn : bD := ⟨[ae], [.bool], fun (x : Val ae) => ky x⟩
def Hb : bi := { pin := 0, cs := [ae, ae, tI], vs := [tI], head := ⟨32, .con ae :: aN 4 [.con ae, .con tI, .var tI], []⟩, exits := [(.ret, ⟨32, [.con ae, .any, .var .bool, .any, .any, .con ae, .con tI], []⟩, [.bool]), (.exit 0, ⟨32, .con ae :: aN 4 [.con ae, .con tI], []⟩, [])] }
def tV (ρ : Type) : bP ρ := ⟨[], 198, 0, Hb, fun (p : Val (.pair ae aB)) (v : Val tI) kn kx => l6 p.1 p.2.1 p.2.2 v (fun u0 => kn u0) (kx 0) (kx 1)⟩
def Na : List (Nat × bD) := [(126, i7)]
def wB (ρ : Type) : List (bP ρ) := [tV ρ]
def tW (ρ : Type) : Env ρ := bJ Na (wB ρ)
def Tx : bD := ⟨[ba, tI, tI], [dr, .bool], fun (x : Val aK) => vr x.1 x.2.1 x.2.2⟩
def Nk : bi := { pin := 4, cs := [af, tI, tI, tI, ac, aa, af, ab, aa, tI, tI, tI, tI, tI, tI], vs := [tI], head := ⟨19, .con af :: .fn 261 [(1, 0), (2, 0)] :: aN 5 [.con tI, .var tI], [.cells [.con tI, .con tI, .con ac, .con aa, .con af, .con ab, .con aa], .cells [.con tI], .cells [.con tI], .cells [.con tI, .con tI, .con tI, .con tI]]⟩, exits := [(.ret, ⟨19, [.con af, .fn 261 [(1, 0), (2, 0)], .any, .any, .var tI, .any, .any, .con tI], [.cells [.con tI, .con tI, .con ac, .con aa, .con af, .con ab, .con aa], .cells [.con tI], .cells [.con tI], .cells [.con tI, .con tI, .con tI, .con tI]]⟩, [tI]), (.exit 0, ⟨19, .con af :: .fn 261 [(1, 0), (2, 0)] :: aN 5 [.con tI], [.cells [.con tI, .con tI, .con ac, .con aa, .con af, .con ab, .con aa], .cells [.con tI], .cells [.con tI], .cells [.con tI, .con tI, .con tI, .con tI]]⟩, [])] }
def Ai (ρ : Type) : bP ρ := ⟨[1, 3], 257, 0, Nk, fun (p : Val (.pair af (.pair tI (.pair tI (.pair tI (.pair ac (.pair aa (.pair af (.pair ab (.pair aa (.pair tI (.pair tI (.pair tI ci))))))))))))) (v : Val tI) kn kx => rf p.1 p.2.1 p.2.2.2.2.2.2.2.2.2.1 p.2.2.2.2.2.2.2.2.2.2.1 v (fun u0 => kn u0) (kx 0) (kx 1)⟩
def Sf : List (Nat × bD) := [(126, i7)]
def DG (ρ : Type) : List (bP ρ) := [Ai ρ]
def Ch (ρ : Type) : Env ρ := bJ Sf (DG ρ)
def D8 : bD := ⟨[ba, ao, tI], [tI], fun (x : Val aV) => dC x.1 x.2.1 x.2.2⟩
def ud : bi := { pin := 2, cs := [ab, tI, tI, tI, ac, aa, af, ab, aa, tI, tI, ae, ae, tI, tI, tI, tI], vs := [tI], head := ⟨19, .con ab :: .fn 222 [(1, 0)] :: aN 5 [.con tI, .var tI], [.cells [.con tI, .con tI, .con ac, .con aa, .con af, .con ab, .con aa], .cells [.con tI, .con tI, .con ae, .con ae, .con tI, .con tI, .con tI, .con tI]]⟩, exits := [(.ret, ⟨19, [.con ab, .fn 222 [(1, 0)], .any, .any, .var tI, .any, .any, .con tI], [.cells [.con tI, .con tI, .con ac, .con aa, .con af, .con ab, .con aa], .cells [.con tI, .con tI, .con ae, .con ae, .con tI, .con tI, .con tI, .con tI]]⟩, [tI]), (.exit 0, ⟨19, .con ab :: .fn 222 [(1, 0)] :: aN 5 [.con tI], [.cells [.con tI, .con tI, .con ac, .con aa, .con af, .con ab, .con aa], .cells [.con tI, .con tI, .con ae, .con ae, .con tI, .con tI, .con tI, .con tI]]⟩, [])] }
def lh (ρ : Type) : bP ρ := ⟨[4, 5, 1, 2], 207, 0, ud, fun (p : Val (.pair ab (.pair tI (.pair tI (.pair tI (.pair ac (.pair aa (.pair af (.pair ab (.pair aa bm)))))))))) (v : Val tI) kn kx => gx p.1 p.2.1 p.2.2.2.2.2.2.2.2.2.1 v (fun u0 => kn u0) (kx 0) (kx 1)⟩
def t7 : bi := { pin := 0, cs := [ao, ae, tI, tI, tI, ae, tI, tI, tI, ac, aa, af, ab, aa, tI, tI, ae, ae, tI, tI, tI, tI, ae], vs := [tI], head := ⟨140, .any :: .con ao :: .any :: .box 0 0 :: .any :: .any :: .any :: .box 1 0 :: .con ae :: .any :: .con tI :: aN 65 [.own 2, .con tI, .con tI, .any, .any, .any, .con ae, .con tI, .var tI], [.cells [.con tI, .con tI, .con ac, .con aa, .con af, .con ab, .con aa], .cells [.con tI, .con tI, .con ae, .con ae, .con tI, .con tI, .con tI, .con tI], .rowc tI]⟩, exits := [(.ret, ⟨140, .any :: .con ao :: .any :: .box 0 0 :: .any :: .any :: .var tI :: .box 1 0 :: .con ae :: .any :: .con tI :: aN 65 [.own 2, .con tI, .con tI, .any, .any, .any, .con ae, .con tI], [.cells [.con tI, .con tI, .con ac, .con aa, .con af, .con ab, .con aa], .cells [.con tI, .con tI, .con ae, .con ae, .con tI, .con tI, .con tI, .con tI], .rowc tI]⟩, [tI]), (.exit 2, ⟨140, .any :: .con ao :: .any :: .box 0 0 :: .any :: .any :: .any :: .box 1 0 :: .con ae :: .any :: .con tI :: aN 65 [.own 2, .con tI, .con tI, .any, .any, .any, .con ae, .con tI], [.cells [.con tI, .con tI, .con ac, .con aa, .con af, .con ab, .con aa], .cells [.con tI, .con tI, .con ae, .con ae, .con tI, .con tI, .con tI, .con tI], .rowc tI]⟩, [])] }
def lf (ρ : Type) : bP ρ := ⟨[], 167, 2, t7, fun (p : Val (.pair ao (.pair ae (.pair tI (.pair tI (.pair tI (.pair ae (.pair tI (.pair tI (.pair tI (.pair ac (.pair aa (.pair af (.pair ab (.pair aa (.pair tI (.pair tI (.pair ae (.pair ae (.pair tI aA)))))))))))))))))))) (v : Val tI) kn kx => gw p.1 p.2.2.1 p.2.2.2.2.2.1 p.2.2.2.2.2.2.1 p.2.2.2.2.2.2.2.2.2.2.2.2.2.2.2.1 v (fun u0 => kn u0) (kx 0) (kx 1)⟩
def t8 : bi := { pin := 0, cs := [ao, ae, tI, tI, tI, ac, aa, af, ab, aa, tI, tI, ae, ae, tI, tI, tI, tI, ae], vs := [tI], head := ⟨140, .any :: .con ao :: .any :: .box 0 0 :: .any :: .any :: .any :: .box 1 0 :: .con ae :: aN 67 [.own 2, .con tI, .var tI], [.cells [.con tI, .con tI, .con ac, .con aa, .con af, .con ab, .con aa], .cells [.con tI, .con tI, .con ae, .con ae, .con tI, .con tI, .con tI, .con tI], .rowc tI]⟩, exits := [(.ret, ⟨140, .any :: .con ao :: .any :: .box 0 0 :: .any :: .any :: .var tI :: .box 1 0 :: .con ae :: aN 67 [.own 2, .con tI], [.cells [.con tI, .con tI, .con ac, .con aa, .con af, .con ab, .con aa], .cells [.con tI, .con tI, .con ae, .con ae, .con tI, .con tI, .con tI, .con tI], .rowc tI]⟩, [tI]), (.exit 0, ⟨140, .any :: .con ao :: .any :: .box 0 0 :: .any :: .any :: .any :: .box 1 0 :: .con ae :: aN 67 [.own 2, .con tI], [.cells [.con tI, .con tI, .con ac, .con aa, .con af, .con ab, .con aa], .cells [.con tI, .con tI, .con ae, .con ae, .con tI, .con tI, .con tI, .con tI], .rowc tI]⟩, [])] }
def lg (ρ : Type) : bP ρ := ⟨[], 167, 0, t8, fun (p : Val (.pair ao (.pair ae (.pair tI (.pair tI (.pair tI (.pair ac (.pair aa (.pair af (.pair ab (.pair aa (.pair tI (.pair tI (.pair ae (.pair ae (.pair tI aA)))))))))))))))) (v : Val tI) kn kx => dM p.1 p.2.1 p.2.2.1 p.2.2.2.2.2.2.2.2.2.2.2.1 p.2.2.2.2.2.2.2.2.2.2.2.2.2.2.2.2.2.2 v (fun u0 => kn u0) (kx 0) (kx 1)⟩
def tZ : bi := { pin := 0, cs := [ae, tI, tI, tI, ac, aa, af, ab, aa, tI, tI, ae, ae, tI, tI, tI, tI], vs := [tI], head := ⟨140, .any :: .any :: .any :: .box 0 0 :: .any :: .any :: .any :: .box 1 0 :: aN 90 [.con ae, .con tI, .var tI], [.cells [.con tI, .con tI, .con ac, .con aa, .con af, .con ab, .con aa], .cells [.con tI, .con tI, .con ae, .con ae, .con tI, .con tI, .con tI, .con tI]]⟩, exits := [(.ret, ⟨140, .any :: .any :: .any :: .box 0 0 :: .any :: .any :: .var tI :: .box 1 0 :: aN 90 [.con ae, .con tI], [.cells [.con tI, .con tI, .con ac, .con aa, .con af, .con ab, .con aa], .cells [.con tI, .con tI, .con ae, .con ae, .con tI, .con tI, .con tI, .con tI]]⟩, [tI]), (.exit 4, ⟨140, .any :: .any :: .any :: .box 0 0 :: .any :: .any :: .any :: .box 1 0 :: aN 90 [.con ae, .con tI], [.cells [.con tI, .con tI, .con ac, .con aa, .con af, .con ab, .con aa], .cells [.con tI, .con tI, .con ae, .con ae, .con tI, .con tI, .con tI, .con tI]]⟩, [])] }
def ld (ρ : Type) : bP ρ := ⟨[], 167, 4, tZ, fun (p : Val (.pair ae (.pair tI (.pair tI (.pair tI (.pair ac (.pair aa (.pair af (.pair ab (.pair aa bm)))))))))) (v : Val tI) kn kx => dL p.1 p.2.1 p.2.2.1 p.2.2.2.1 p.2.2.2.2.1 p.2.2.2.2.2.1 p.2.2.2.2.2.2.1 p.2.2.2.2.2.2.2.1 p.2.2.2.2.2.2.2.2.1 p.2.2.2.2.2.2.2.2.2.2.1 v (fun u0 => kn u0) (kx 0) (kx 1)⟩
def xJ : List (Nat × bD) := [(82, pk), (88, uX), (94, dX), (125, sV), (126, i7), (164, kG), (198, Bn), (223, Tx)]
def lS (ρ : Type) : List (bP ρ) := [lh ρ, lf ρ, lg ρ, ld ρ]
def dZ (ρ : Type) : Env ρ := bJ xJ (lS ρ)
def dQ : bD := ⟨[ba], [tI], fun (x : Val ba) => bZ x⟩
def mH : bD := ⟨[ba, aa, aa], [ba], fun (x : Val (.pair ba (.pair aa aa))) => HN x.1 x.2.1 x.2.2⟩
noncomputable def Px : bi := { pin := 8, cs := [ae, tI, tI, tI, ac, aa, af, ab, aa, tI, tI, aj, tI, tI], vs := [tI, aj], head := ⟨34, .any :: .any :: .any :: .box 2 0 :: aN 21 [.con ae, .con tI, .var tI], [.cells [.con tI, .con tI, .con ac, .con aa, .con af, .con ab, .con aa], .cells [.con tI, .con tI, .nils, .nils, .nils, .nils, .nils], .cells [.omp 5], .cells [.omp 6], .cells [.nilfn, .fn 159 [(2, 0), (0, 0)], .fn 159 [(2, 0), (0, 0)], .fn 160 [(3, 0), (0, 0), (2, 0)]], .mapv tI .bool, .mapc tI .bool, .cells [.con tI, .con tI]]⟩, exits := [(.exit 0, ⟨34, .any :: .any :: .any :: .box 2 0 :: aN 21 [.con ae, .con tI], [.cells [.con tI, .con tI, .con ac, .con aa, .con af, .con ab, .con aa], .cells [.con tI, .con tI, .nils, .nils, .nils, .nils, .nils], .cells [.omp 5], .cells [.omp 6], .cells [.nilfn, .fn 159 [(2, 0), (0, 0)], .fn 159 [(2, 0), (0, 0)], .fn 160 [(3, 0), (0, 0), (2, 0)]], .mapv tI .bool, .mapc tI .bool, .cells [.con tI, .con tI]]⟩, [aj])] }
noncomputable def Dg (ρ : Type) : bP ρ := ⟨[7, 5], 160, 0, Px, fun (p : Val (.pair ae (.pair tI (.pair tI (.pair tI (.pair ac (.pair aa (.pair af (.pair ab (.pair aa (.pair tI (.pair tI (.pair aj aY))))))))))))) (v : Val (.pair tI aj)) kn kx => pC p.1 p.2.1 v.1 v.2 (fun u0 u1 => kn (u0, u1)) (kx 0)⟩
noncomputable def Py : bi := { pin := 0, cs := [aa, aa, tI, tI, tI, ac, aa, af, ab, aa, tI, tI], vs := [tI, aj, aj], head := ⟨130, .any :: .any :: .con aa :: .box 0 0 :: .any :: .any :: .box 1 0 :: .box 2 0 :: .box 3 0 :: .any :: .box 4 0 :: aN 19 [.con aa, .con tI, .var tI], [.cells [.con tI, .con tI, .con ac, .con aa, .con af, .con ab, .con aa], .cells [.con tI, .con tI, .nils, .nils, .nils, .nils, .nils], .cells [.omp 5], .cells [.omp 6], .cells [.nilfn, .fn 159 [(2, 0), (0, 0)], .fn 159 [(2, 0), (0, 0)], .fn 160 [(3, 0), (0, 0), (2, 0)]], .mapv tI .bool, .mapv tI .bool]⟩, exits := [(.exit 0, ⟨130, .any :: .any :: .con aa :: .box 0 0 :: .any :: .any :: .box 1 0 :: .box 2 0 :: .box 3 0 :: .any :: .box 4 0 :: aN 19 [.con aa, .con tI], [.cells [.con tI, .con tI, .con ac, .con aa, .con af, .con ab, .con aa], .cells [.con tI, .con tI, .nils, .nils, .nils, .nils, .nils], .cells [.omp 5], .cells [.omp 6], .cells [.nilfn, .fn 159 [(2, 0), (0, 0)], .fn 159 [(2, 0), (0, 0)], .fn 160 [(3, 0), (0, 0), (2, 0)]], .mapv tI .bool, .mapv tI .bool]⟩, [aj, aj])] }
noncomputable def Dh (ρ : Type) : bP ρ := ⟨[], 79, 0, Py, fun (p : Val (.pair aa (.pair aa (.pair tI (.pair tI (.pair tI (.pair ac (.pair aa (.pair af (.pair ab aS)))))))))) (v : Val (.pair tI (.pair aj aj))) kn kx => vd p.2.1 p.2.2.1 p.2.2.2.2.2.1 p.2.2.2.2.2.2.2.2.1 v.1 v.2.1 v.2.2 (fun u0 u1 u2 => kn (u0, u1, u2)) (kx 0)⟩
noncomputable def Pw : bi := { pin := 0, cs := [aa, aa, tI, tI, tI, ac, aa, af, ab, aa, tI, tI, aj], vs := [tI, aj], head := ⟨130, .any :: .any :: .con aa :: .box 0 0 :: .any :: .any :: .box 1 0 :: .box 2 0 :: .box 3 0 :: aN 34 [.con aa, .con tI, .var tI], [.cells [.con tI, .con tI, .con ac, .con aa, .con af, .con ab, .con aa], .cells [.con tI, .con tI, .nils, .nils, .nils, .nils, .nils], .cells [.omp 4], .cells [.omp 5], .mapv tI .bool, .mapc tI .bool]⟩, exits := [(.exit 2, ⟨130, .any :: .any :: .con aa :: .box 0 0 :: .any :: .any :: .box 1 0 :: .box 2 0 :: .box 3 0 :: aN 34 [.con aa, .con tI], [.cells [.con tI, .con tI, .con ac, .con aa, .con af, .con ab, .con aa], .cells [.con tI, .con tI, .nils, .nils, .nils, .nils, .nils], .cells [.omp 4], .cells [.omp 5], .mapv tI .bool, .mapc tI .bool]⟩, [aj])] }
noncomputable def Df (ρ : Type) : bP ρ := ⟨[], 79, 2, Pw, fun (p : Val (.pair aa (.pair aa (.pair tI (.pair tI (.pair tI (.pair ac (.pair aa (.pair af (.pair ab (.pair aa (.pair tI (.pair tI aj))))))))))))) (v : Val (.pair tI aj)) kn kx => pB p.2.1 p.2.2.1 v.1 v.2 (fun u0 u1 => kn (u0, u1)) (kx 0)⟩
noncomputable def Pv : bi := { pin := 0, cs := [aa, tI, tI, tI, ac, aa, af, ab, aa, tI, tI, ac, aa, af, ab, aa, tI, tI, aa, aj, aj, ac], vs := [tI, aa], head := ⟨130, .any :: .any :: .any :: .box 0 0 :: .any :: .any :: .box 1 0 :: .box 2 0 :: .box 3 0 :: aN 6 (.box 4 0 :: aN 52 [.con aa, .con tI, .var tI]), [.cells [.con tI, .con tI, .con ac, .con aa, .con af, .con ab, .con aa], .cells [.con tI, .con tI, .con ac, .con aa, .con af, .con ab, .con aa], .cells [.omp 5], .cells [.omp 6], .cells [.con tI, .con tI, .own 7, .own 8, .nils, .nils, .con aa], .mapc tI .bool, .mapc tI .bool, .rowc bj, .rowv aY]⟩, exits := [(.exit 6, ⟨130, .any :: .any :: .any :: .box 0 0 :: .any :: .any :: .box 1 0 :: .box 2 0 :: .box 3 0 :: aN 6 (.box 4 0 :: aN 52 [.con aa, .con tI]), [.cells [.con tI, .con tI, .con ac, .con aa, .con af, .con ab, .con aa], .cells [.con tI, .con tI, .con ac, .con aa, .con af, .con ab, .con aa], .cells [.omp 5], .cells [.omp 6], .cells [.con tI, .con tI, .own 7, .own 8, .nils, .nils, .con aa], .mapc tI .bool, .mapc tI .bool, .rowc bj, .rowv aY]⟩, [aa])] }
noncomputable def nS (ρ : Type) : bP ρ := ⟨[], 79, 6, Pv, fun (p : Val (.pair aa (.pair tI (.pair tI (.pair tI (.pair ac (.pair aa (.pair af (.pair ab (.pair aa (.pair tI (.pair tI (.pair ac (.pair aa (.pair af (.pair ab (.pair aa (.pair tI (.pair tI (.pair aa (.pair aj (.pair aj ac)))))))))))))))))))))) (v : Val az) kn kx => pA p.1 p.2.1 p.2.2.2.2.2.2.2.2.2.2.2.2.2.2.2.2.2.2.2.1 v.1 v.2 (fun u0 u1 => kn (u0, u1)) (kx 0)⟩
noncomputable def Pu : bi := { pin := 0, cs := [af, tI, tI, tI, ac, aa, af, ab, aa, tI, tI, ac, aa, af, ab, aa, tI, tI, aa, aj, aj, ac, aa], vs := [tI, af], head := ⟨130, .any :: .any :: .any :: .box 0 0 :: .any :: .any :: .box 1 0 :: .box 2 0 :: .box 3 0 :: aN 6 (.box 4 0 :: aN 70 [.con af, .con tI, .var tI]), [.cells [.con tI, .con tI, .con ac, .con aa, .con af, .con ab, .con aa], .cells [.con tI, .con tI, .con ac, .con aa, .con af, .con ab, .con aa], .cells [.omp 5], .cells [.omp 6], .cells [.con tI, .con tI, .own 7, .own 8, .own 9, .nils, .con aa], .mapc tI .bool, .mapc tI .bool, .rowc bj, .rowc aY, .rowv dr]⟩, exits := [(.exit 8, ⟨130, .any :: .any :: .any :: .box 0 0 :: .any :: .any :: .box 1 0 :: .box 2 0 :: .box 3 0 :: aN 6 (.box 4 0 :: aN 70 [.con af, .con tI]), [.cells [.con tI, .con tI, .con ac, .con aa, .con af, .con ab, .con aa], .cells [.con tI, .con tI, .con ac, .con aa, .con af, .con ab, .con aa], .cells [.omp 5], .cells [.omp 6], .cells [.con tI, .con tI, .own 7, .own 8, .own 9, .nils, .con aa], .mapc tI .bool, .mapc tI .bool, .rowc bj, .rowc aY, .rowv dr]⟩, [af])] }
noncomputable def nR (ρ : Type) : bP ρ := ⟨[], 79, 8, Pu, fun (p : Val (.pair af (.pair tI (.pair tI (.pair tI (.pair ac (.pair aa (.pair af (.pair ab (.pair aa (.pair tI (.pair tI (.pair ac (.pair aa (.pair af (.pair ab (.pair aa (.pair tI (.pair tI (.pair aa (.pair aj (.pair aj (.pair ac aa))))))))))))))))))))))) (v : Val (.pair tI af)) kn kx => pz p.1 p.2.1 p.2.2.2.2.2.2.2.2.2.2.2.2.2.2.2.2.2.2.2.1 v.1 v.2 (fun u0 u1 => kn (u0, u1)) (kx 0)⟩
noncomputable def Ps : bi := { pin := 0, cs := [ab, tI, tI, tI, ac, aa, af, ab, aa, tI, tI, aa, aj, ac, aa, af], vs := [tI, ab], head := ⟨130, aN 6 (.box 0 0 :: .any :: .box 1 0 :: aN 6 (.box 2 0 :: aN 88 [.con ab, .con tI, .var tI])), [.cells [.con tI, .con tI, .con ac, .con aa, .con af, .con ab, .con aa], .cells [.omp 3], .cells [.con tI, .con tI, .own 4, .own 5, .own 6, .own 7, .con aa], .mapc tI .bool, .rowc bj, .rowc aY, .rowc dr, .rowv bm]⟩, exits := [(.exit 10, ⟨130, aN 6 (.box 0 0 :: .any :: .box 1 0 :: aN 6 (.box 2 0 :: aN 88 [.con ab, .con tI])), [.cells [.con tI, .con tI, .con ac, .con aa, .con af, .con ab, .con aa], .cells [.omp 3], .cells [.con tI, .con tI, .own 4, .own 5, .own 6, .own 7, .con aa], .mapc tI .bool, .rowc bj, .rowc aY, .rowc dr, .rowv bm]⟩, [ab])] }
noncomputable def nQ (ρ : Type) : bP ρ := ⟨[], 79, 10, Ps, fun (p : Val (.pair ab (.pair tI (.pair tI (.pair tI (.pair ac (.pair aa (.pair af (.pair ab (.pair aa (.pair tI (.pair tI (.pair aa (.pair aj (.pair ac (.pair aa af)))))))))))))))) (v : Val (.pair tI ab)) kn kx => pw p.1 p.2.1 p.2.2.2.2.2.2.2.2.2.2.2.2.1 v.1 v.2 (fun u0 u1 => kn (u0, u1)) (kx 0)⟩
noncomputable def BD : List (Nat × bD) := [(94, dX)]
noncomputable def xo (ρ : Type) : List (bP ρ) := [Dg ρ, Dh ρ, Df ρ, nS ρ, nR ρ, nQ ρ]
noncomputable def eX (ρ : Type) : Env ρ := bJ BD (xo ρ)
noncomputable def pv : Tpl := ⟨130, .any :: .any :: .any :: .box 0 0 :: .any :: .any :: .box 1 0 :: .box 2 0 :: .box 3 0 :: aN 6 (.box 4 0 :: aN 43 [.fn 218 [(5, 0), (6, 0)]]), [.cells [.var tI, .var tI, .var ac, .var aa, .var af, .var ab, .var aa], .cells [.var tI, .var tI, .var ac, .var aa, .var af, .var ab, .var aa], .cells [.omp 7], .cells [.omp 8], .cells [.con tI, .con tI, .own 9, .nils, .nils, .nils, .con aa], .cells [.var tI, .var tI, .var ac, .var aa, .var af, .var ab, .var aa], .cells [.omp 7], .mapv tI .bool, .mapv tI .bool, .rowv bj]⟩
noncomputable def Gb : Tpl := ⟨130, .any :: .any :: .any :: .box 0 0 :: .any :: .any :: .box 1 0 :: .box 2 0 :: .box 3 0 :: aN 6 (.box 4 0 :: .box 10 0 :: aN 42 [.fn 218 [(5, 0), (6, 0)]]), [.cells [.var tI, .var tI, .var ac, .var aa, .var af, .var ab, .var aa], .cells [.var tI, .var tI, .var ac, .var aa, .var af, .var ab, .var aa], .cells [.omp 7], .cells [.omp 8], .cells [.con tI, .con tI, .own 9, .nils, .nils, .nils, .con aa], .cells [.var tI, .var tI, .var ac, .var aa, .var af, .var ab, .var aa], .cells [.omp 7], .mapv tI .bool, .mapv tI .bool, .rowv bj, .cells [.var tI, .var tI, .var tI, .var tI, .var tI, .var tI, .var tI, .var tI]]⟩
noncomputable def nO (ρ : Type) : List (bP ρ) := [nS ρ, nR ρ, nQ ρ]
noncomputable def cJ (ρ : Type) : Env ρ := { bJ BD (nO ρ) with inl := fun _ => false }
noncomputable def mV : Tpl := ⟨130, aN 6 [.box 0 0], [.cells [.var tI, .var tI, .var ac, .var aa, .var af, .var ab, .var aa]]⟩
abbrev il : List Ty := [tI, tI, ac, aa, af, ab, aa]
noncomputable def jb (y : Val ba) : Val ai := (y.1.1, y.1.2, y.2.1, y.2.2.1, y.2.2.2.1, y.2.2.2.2.1, y.2.2.2.2.2)
noncomputable def cQ : Code := (ov Tryz.prog 79).getD .skip
abbrev gL : List Ty := [tI, tI, aa]
abbrev kp : List Ty := [tI, tI, ac, aa, af, ab, aa, tI, tI, ac, aa, af, ab, aa, tI, tI, ac, aa, af, ab, aa, aj, aj, ac]
abbrev vc : List Ty := [tI, tI, ac, aa, af, ab, aa, tI, tI, ac, aa, af, ab, aa, tI, tI, ac, aa, af, ab, aa, aj, aj, ac, tI, tI, tI, tI, tI, tI, tI, tI]
abbrev bR (v : Val ag) : List (Val bj) := v.2.2.2.2.2.2.2.2.2.2.2.2.2.2.2.2.1
abbrev dY (v : Val ag) : List (Int × Bool) := v.2.2.2.2.2.2.2.2.2.2.2.2.2.2.2.2.2.2.2.2.2.1
abbrev qC (v : Val ag) : List (Val bj) := v.2.2.2.2.2.2.2.2.2.2.2.2.2.2.2.2.2.2.2.2.2.2.2
noncomputable def cO (v : Val ag) (z : List (Val bj)) : Val ag := (v.1, v.2.1, v.2.2.1, v.2.2.2.1, v.2.2.2.2.1, v.2.2.2.2.2.1, v.2.2.2.2.2.2.1, v.2.2.2.2.2.2.2.1, v.2.2.2.2.2.2.2.2.1, v.2.2.2.2.2.2.2.2.2.1, v.2.2.2.2.2.2.2.2.2.2.1, v.2.2.2.2.2.2.2.2.2.2.2.1, v.2.2.2.2.2.2.2.2.2.2.2.2.1, v.2.2.2.2.2.2.2.2.2.2.2.2.2.1, v.2.2.2.2.2.2.2.2.2.2.2.2.2.2.1, v.2.2.2.2.2.2.2.2.2.2.2.2.2.2.2.1, v.2.2.2.2.2.2.2.2.2.2.2.2.2.2.2.2.1, v.2.2.2.2.2.2.2.2.2.2.2.2.2.2.2.2.2.1, v.2.2.2.2.2.2.2.2.2.2.2.2.2.2.2.2.2.2.1, v.2.2.2.2.2.2.2.2.2.2.2.2.2.2.2.2.2.2.2.1, v.2.2.2.2.2.2.2.2.2.2.2.2.2.2.2.2.2.2.2.2.1, v.2.2.2.2.2.2.2.2.2.2.2.2.2.2.2.2.2.2.2.2.2.1, v.2.2.2.2.2.2.2.2.2.2.2.2.2.2.2.2.2.2.2.2.2.2.1, z)
noncomputable def xp (v : Val ag) (x : Val bj) : Val (.pair tI (.pair tI (.pair ac (.pair aa (.pair af (.pair ab (.pair aa (.pair tI (.pair tI (.pair ac (.pair aa (.pair af (.pair ab (.pair aa (.pair tI (.pair tI (.pair ac (.pair aa (.pair af (.pair ab (.pair aa (.pair aj (.pair aj (.pair ac ar)))))))))))))))))))))))) := (v.1, v.2.1, v.2.2.1, v.2.2.2.1, v.2.2.2.2.1, v.2.2.2.2.2.1, v.2.2.2.2.2.2.1, v.2.2.2.2.2.2.2.1, v.2.2.2.2.2.2.2.2.1, v.2.2.2.2.2.2.2.2.2.1, v.2.2.2.2.2.2.2.2.2.2.1, v.2.2.2.2.2.2.2.2.2.2.2.1, v.2.2.2.2.2.2.2.2.2.2.2.2.1, v.2.2.2.2.2.2.2.2.2.2.2.2.2.1, v.2.2.2.2.2.2.2.2.2.2.2.2.2.2.1, v.2.2.2.2.2.2.2.2.2.2.2.2.2.2.2.1, v.2.2.2.2.2.2.2.2.2.2.2.2.2.2.2.2.1, v.2.2.2.2.2.2.2.2.2.2.2.2.2.2.2.2.2.1, v.2.2.2.2.2.2.2.2.2.2.2.2.2.2.2.2.2.2.1, v.2.2.2.2.2.2.2.2.2.2.2.2.2.2.2.2.2.2.2.1, v.2.2.2.2.2.2.2.2.2.2.2.2.2.2.2.2.2.2.2.2.1, v.2.2.2.2.2.2.2.2.2.2.2.2.2.2.2.2.2.2.2.2.2.1, v.2.2.2.2.2.2.2.2.2.2.2.2.2.2.2.2.2.2.2.2.2.2.1, v.2.2.2.2.2.2.2.2.2.2.2.2.2.2.2.2.2.2.2.2.2.2.2, x.1, x.2.1, x.2.2.1, x.2.2.2.1.1, x.2.2.2.1.2, x.2.2.2.2.1.1, x.2.2.2.2.1.2, x.2.2.2.2.2)
end Go.Proofs.ZzM
end

noncomputable section
set_option maxRecDepth 100000
namespace Go.Proofs.ZzM
open Go Go.Am
def Kk : bD := ⟨[bm], [.bool], fun (x : Val bm) => vo x⟩
def L4 : List (Nat × bD) := []
def vW (ρ : Type) : List (bP ρ) := []
def C9 (ρ : Type) : Env ρ := bJ L4 (vW ρ)
def Tt : bD := ⟨[ba], [.bool], fun (x : Val ba) => E8 x⟩
def L2 : bi := { pin := 0, cs := [tI, tI, ac, aa, af, ab, aa], vs := [tI], head := ⟨50, [.any, .box 0 0, .any, .var tI], [.cells [.con tI, .con tI, .con ac, .con aa, .con af, .con ab, .con aa]]⟩, exits := [(.ret, ⟨50, [.any, .box 0 0, .var .bool], [.cells [.con tI, .con tI, .con ac, .con aa, .con af, .con ab, .con aa]]⟩, [.bool]), (.exit 0, ⟨50, [.any, .box 0 0], [.cells [.con tI, .con tI, .con ac, .con aa, .con af, .con ab, .con aa]]⟩, [])] }
def yJ (ρ : Type) : bP ρ := ⟨[], 13, 0, L2, fun (p : Val ai) (v : Val tI) kn kx => qr p.2.2.2.2.2.1 v (fun u0 => kn u0) (kx 0) (kx 1)⟩
def RK : List (Nat × bD) := [(29, Kk)]
def C8 (ρ : Type) : List (bP ρ) := [yJ ρ]
def Bs (ρ : Type) : Env ρ := bJ RK (C8 ρ)
def LN : bD := ⟨[ba, bj, tI, tI], [tI], fun (x : Val (.pair ba (.pair bj aY))) => ot x.1 x.2.1 x.2.2.1 x.2.2.2⟩
def M5 : bi := { pin := 0, cs := [tI, tI, af, tI, tI, tI, ac, aa, af, ab, aa, tI, tI, tI, tI, tI, tI, tI, tI], vs := [tI, tI], head := ⟨88, .any :: .any :: .con tI :: .con tI :: .box 0 0 :: .box 1 0 :: .any :: .any :: .any :: .var tI :: aN 7 [.con af, .con tI, .var tI], [.cells [.con tI, .con tI, .con ac, .con aa, .con af, .con ab, .con aa], .cells [.con tI, .con tI, .con tI, .con tI, .con tI, .con tI, .con tI, .con tI]]⟩, exits := [(.exit 0, ⟨88, .any :: .any :: .con tI :: .con tI :: .box 0 0 :: .box 1 0 :: .any :: .any :: .any :: .var tI :: aN 7 [.con af, .con tI], [.cells [.con tI, .con tI, .con ac, .con aa, .con af, .con ab, .con aa], .cells [.con tI, .con tI, .con tI, .con tI, .con tI, .con tI, .con tI, .con tI]]⟩, [tI])] }
def zX (ρ : Type) : bP ρ := ⟨[], 54, 0, M5, fun (p : Val (.pair tI (.pair tI (.pair af aE)))) (v : Val aY) kn kx => qY p.1 p.2.1 p.2.2.1 p.2.2.2.1 p.2.2.2.2.2.2.2.2.2.2.2.1 v.1 v.2 (fun u0 u1 => kn (u0, u1)) (kx 0)⟩
def M4 : bi := { pin := 0, cs := [tI, tI, tI, aa, tI, tI, tI, tI, tI, tI, tI, tI, tI], vs := [tI, ae], head := ⟨88, .any :: .any :: .con tI :: .con tI :: .any :: .box 0 0 :: .any :: .any :: .any :: .con tI :: .any :: .any :: .any :: .own 1 :: aN 39 [.con aa, .con tI, .var tI], [.cells [.con tI, .con tI, .con tI, .con tI, .con tI, .con tI, .con tI, .con tI], .rowv tI]⟩, exits := [(.exit 2, ⟨88, .any :: .any :: .con tI :: .con tI :: .any :: .box 0 0 :: .any :: .any :: .any :: .con tI :: .any :: .any :: .any :: .own 1 :: aN 39 [.con aa, .con tI], [.cells [.con tI, .con tI, .con tI, .con tI, .con tI, .con tI, .con tI, .con tI], .rowv tI]⟩, [ae])] }
def zW (ρ : Type) : bP ρ := ⟨[], 54, 2, M4, fun (p : Val (.pair tI (.pair tI (.pair tI (.pair aa (.pair tI ar)))))) (v : Val ax) kn kx => qX p.1 p.2.1 p.2.2.2.1 p.2.2.2.2.1 p.2.2.2.2.2.1 v.1 v.2 (fun u0 u1 => kn (u0, u1)) (kx 0)⟩
def Sb : List (Nat × bD) := [(126, i7)]
def DB (ρ : Type) : List (bP ρ) := [zX ρ, zW ρ]
def vh (ρ : Type) : Env ρ := bJ Sb (DB ρ)
def eR : bD := ⟨[aa, aY], [tI], fun (x : Val aS) => bY x.1 x.2⟩
def jQ : bi := { pin := 0, cs := [aa, tI, tI, tI], vs := [tI], head := ⟨19, [.con aa, .any, .any, .box 0 0, .any, .any, .any, .con tI, .var tI], [.cells [.con tI, .con tI]]⟩, exits := [(.ret, ⟨19, [.con aa, .any, .any, .box 0 0, .var tI, .any, .any, .con tI], [.cells [.con tI, .con tI]]⟩, [tI]), (.exit 0, ⟨19, [.con aa, .any, .any, .box 0 0, .any, .any, .any, .con tI], [.cells [.con tI, .con tI]]⟩, [])] }
def fN (ρ : Type) : bP ρ := ⟨[], 130, 0, jQ, fun (p : Val (.pair aa ci)) (v : Val tI) kn kx => cZ p.1 p.2.1 p.2.2.1 p.2.2.2 v (fun u0 => kn u0) (kx 0) (kx 1)⟩
def kW : List (Nat × bD) := []
def fW (ρ : Type) : List (bP ρ) := [fN ρ]
def ee (ρ : Type) : Env ρ := bJ kW (fW ρ)
def sU : bD := ⟨[aO, ae, tI], [tI], fun (x : Val (.pair aO aB)) => gn x.1 x.2.1 x.2.2⟩
def Ha : List (Nat × bD) := [(130, eR)]
def sk (ρ : Type) : List (bP ρ) := []
def wA (ρ : Type) : Env ρ := bJ Ha (sk ρ)
def rN : bD := ⟨[ao, ae], [aY], fun (x : Val (.pair ao ae)) => gK x.1 x.2⟩
def xD : List (Nat × bD) := []
def lQ (ρ : Type) : List (bP ρ) := []
def od (ρ : Type) : Env ρ := bJ xD (lQ ρ)
def pj : bD := ⟨[aa], [tI], fun (x : Val aa) => iK x⟩
def Ju : bi := { pin := 0, cs := [aa, tI], vs := [tI], head := ⟨15, aN 5 [.con aa, .con tI, .var tI], []⟩, exits := [(.ret, ⟨15, [.any, .any, .var tI, .any, .any, .con aa, .con tI], []⟩, [tI]), (.exit 0, ⟨15, aN 5 [.con aa, .con tI], []⟩, [])] }
def ww (ρ : Type) : bP ρ := ⟨[], 227, 0, Ju, fun (p : Val (.pair aa tI)) (v : Val tI) kn kx => ob p.1 p.2 v (fun u0 => kn u0) (kx 0) (kx 1)⟩
def PL : List (Nat × bD) := [(219, yw)]
def zI (ρ : Type) : List (bP ρ) := [ww ρ]
def xz (ρ : Type) : Env ρ := bJ PL (zI ρ)
def w9 : bD := ⟨[tI, tI], [aY, tI], fun (x : Val aY) => nl x.1 x.2⟩
def Jv : List (Nat × bD) := [(259, LJ), (260, RB)]
def tP (ρ : Type) : List (bP ρ) := []
def zJ (ρ : Type) : Env ρ := bJ Jv (tP ρ)
def Wb : bD := ⟨[aY, aY], [aY, tI], fun (x : Val cd) => NH x.1 x.2⟩
def UW : List (Nat × bD) := [(227, pj), (277, w9)]
def GW (ρ : Type) : List (bP ρ) := []
def PR (ρ : Type) : Env ρ := bJ UW (GW ρ)
def yy : bD := ⟨[aY, aY], [aY], fun (x : Val cd) => rq x.1 x.2⟩
def Ez : List (Nat × bD) := [(262, Wb)]
def pN (ρ : Type) : List (bP ρ) := []
def tS (ρ : Type) : Env ρ := bJ Ez (pN ρ)
def RC : bD := ⟨[aY, aY], [tI], fun (x : Val cd) => HP x.1 x.2⟩
def UV : List (Nat × bD) := []
def GT (ρ : Type) : List (bP ρ) := []
def PP (ρ : Type) : Env ρ := bJ UV (GT ρ)
def vU : bD := ⟨[cd], [.bool], fun (x : Val cd) => oU x⟩
def B7 : List (Nat × bD) := [(227, pj), (287, RC)]
def oc (ρ : Type) : List (bP ρ) := []
def sh (ρ : Type) : Env ρ := bJ B7 (oc ρ)
def Wc : bD := ⟨[aY, aY], [aY, tI], fun (x : Val cd) => HS x.1 x.2⟩
def UX : List (Nat × bD) := [(227, pj), (277, w9)]
def GY (ρ : Type) : List (bP ρ) := []
def PT (ρ : Type) : Env ρ := bJ UX (GY ρ)
def O2 : bD := ⟨[cd, aY], [cd, tI], fun (x : Val (.pair cd aY)) => HQ x.1 x.2⟩
def Dw : List (Nat × bD) := [(219, yw), (278, vU), (281, Wc), (287, RC)]
def qP (ρ : Type) : List (bP ρ) := []
def Dv : List Yo := [⟨[3, 2], 279, 0, 4⟩]
def PS (ρ : Type) : Env ρ := bJ Dw (qP ρ)
def xB (ρ : Type) : Env ρ := ZZ Dw (qP ρ) Dv
def yx : bD := ⟨[aY, aY], [cd], fun (x : Val cd) => md x.1 x.2⟩
def Ey : List (Nat × bD) := [(263, O2)]
def pM (ρ : Type) : List (bP ρ) := []
def tR (ρ : Type) : Env ρ := bJ Ey (pM ρ)
def Bo : bD := ⟨[ba, bm], [cd], fun (x : Val aC) => mz x.1 x.2⟩
def Nf : List (Nat × bD) := [(53, mI), (88, uX), (224, rN), (225, yy), (226, yx)]
def wD (ρ : Type) : List (bP ρ) := []
def DE (ρ : Type) : Env ρ := bJ Nf (wD ρ)
def FP : bD := ⟨[ba, bm], [aY], fun (x : Val aC) => p9 x.1 x.2⟩
def P4 : List (Nat × bD) := []
def Ac (ρ : Type) : List (bP ρ) := []
def Hg (ρ : Type) : Env ρ := bJ P4 (Ac ρ)
def FM : bD := ⟨[tI, tI], [tI], fun (x : Val aY) => uC x.1 x.2⟩
def PO : List (Nat × bD) := []
def zK (ρ : Type) : List (bP ρ) := []
def GR (ρ : Type) : Env ρ := bJ PO (zK ρ)
def LK : bD := ⟨[aY], [tI, tI], fun (x : Val aY) => AK x⟩
def R7 : List (Nat × bD) := [(227, pj), (228, FM)]
def Dx (ρ : Type) : List (bP ρ) := []
def KI (ρ : Type) : Env ρ := bJ R7 (Dx ρ)
def FN : bD := ⟨[aY], [tI, tI], fun (x : Val aY) => uD x⟩
def PU : List (Nat × bD) := [(227, pj), (228, FM)]
def zN (ρ : Type) : List (bP ρ) := []
def GZ (ρ : Type) : Env ρ := bJ PU (zN ρ)
def LL : bD := ⟨[ba, bm], [aY], fun (x : Val aC) => ro x.1 x.2⟩
def R8 : List (Nat × bD) := [(171, Bo), (172, FP), (173, LK), (174, FN)]
def Dz (ρ : Type) : List (bP ρ) := []
def KJ (ρ : Type) : Env ρ := bJ R8 (Dz ρ)
def LM : bD := ⟨[ba], [aO], fun (x : Val ba) => AO x⟩
def MY : bi := { pin := 2, cs := [tI, ae, tI, ac, tI, tI, tI, tI, ac, aa, af, ab, aa, tI, tI, ac, aa, af, ab, aa, aa, tI, tI, tI, tI, tI, tI, tI, tI, tI], vs := [tI, ah, aa], head := ⟨144, .box 1 0 :: .any :: .con tI :: .box 2 0 :: .con ae :: .con tI :: .var tI :: aN 24 [.con ac, .con tI, .con tI], [.cells [.con tI, .con tI, .con ac, .con aa, .con af, .con ab, .con aa], .cells [.con tI, .con tI, .con ac, .con aa, .con af, .con ab, .con aa, .con aa, .con tI, .own 3, .own 4], .cells [.con tI, .con tI, .con tI, .con tI, .con tI, .con tI, .con tI, .con tI], .rowv ci, .rowv aY]⟩, exits := [(.exit 2, ⟨144, .box 1 0 :: .any :: .con tI :: .box 2 0 :: .con ae :: .con tI :: aN 25 [.con ac, .con tI, .con tI], [.cells [.con tI, .con tI, .con ac, .con aa, .con af, .con ab, .con aa], .cells [.con tI, .con tI, .con ac, .con aa, .con af, .con ab, .con aa, .con aa, .con tI, .own 3, .own 4], .cells [.con tI, .con tI, .con tI, .con tI, .con tI, .con tI, .con tI, .con tI], .rowv ci, .rowv aY]⟩, [ah, aa])] }
def zU (ρ : Type) : bP ρ := ⟨[2, 1], 132, 2, MY, fun (p : Val (.pair tI (.pair ae (.pair tI (.pair ac (.pair tI (.pair tI (.pair tI (.pair tI (.pair ac (.pair aa (.pair af (.pair ab (.pair aa (.pair tI (.pair tI (.pair ac (.pair aa (.pair af (.pair ab (.pair aa (.pair aa (.pair tI ar))))))))))))))))))))))) (v : Val (.pair tI ye)) kn kx => qV p.1 p.2.1 p.2.2.1 p.2.2.2.2.2.2.2.2.2.2.2.2.2.1 p.2.2.2.2.2.2.2.2.2.2.2.2.2.2.1 p.2.2.2.2.2.2.2.2.2.2.2.2.2.2.2.1 p.2.2.2.2.2.2.2.2.2.2.2.2.2.2.2.2.1 p.2.2.2.2.2.2.2.2.2.2.2.2.2.2.2.2.2.1 p.2.2.2.2.2.2.2.2.2.2.2.2.2.2.2.2.2.2.1 p.2.2.2.2.2.2.2.2.2.2.2.2.2.2.2.2.2.2.2.1 p.2.2.2.2.2.2.2.2.2.2.2.2.2.2.2.2.2.2.2.2.2.2.1 p.2.2.2.2.2.2.2.2.2.2.2.2.2.2.2.2.2.2.2.2.2.2.2.1 p.2.2.2.2.2.2.2.2.2.2.2.2.2.2.2.2.2.2.2.2.2.2.2.2.1 p.2.2.2.2.2.2.2.2.2.2.2.2.2.2.2.2.2.2.2.2.2.2.2.2.2.1 p.2.2.2.2.2.2.2.2.2.2.2.2.2.2.2.2.2.2.2.2.2.2.2.2.2.2.1 p.2.2.2.2.2.2.2.2.2.2.2.2.2.2.2.2.2.2.2.2.2.2.2.2.2.2.2.1 p.2.2.2.2.2.2.2.2.2.2.2.2.2.2.2.2.2.2.2.2.2.2.2.2.2.2.2.2.1 p.2.2.2.2.2.2.2.2.2.2.2.2.2.2.2.2.2.2.2.2.2.2.2.2.2.2.2.2.2 v.1 v.2.1 v.2.2 (fun u0 u1 u2 => kn (u0, u1, u2)) (kx 0)⟩
def MZ : bi := { pin := 2, cs := [ac, tI, tI, tI, ac, aa, af, ab, aa, tI, tI, ac, aa, af, ab, aa, aa, tI], vs := [tI, ah, aa], head := ⟨144, .box 1 0 :: aN 30 [.con ac, .con tI, .var tI], [.cells [.con tI, .con tI, .con ac, .con aa, .con af, .con ab, .con aa], .cells [.con tI, .con tI, .con ac, .con aa, .con af, .con ab, .con aa, .con aa, .con tI, .own 2, .own 3], .rowv ci, .rowv aY]⟩, exits := [(.exit 0, ⟨144, .box 1 0 :: aN 30 [.con ac, .con tI], [.cells [.con tI, .con tI, .con ac, .con aa, .con af, .con ab, .con aa], .cells [.con tI, .con tI, .con ac, .con aa, .con af, .con ab, .con aa, .con aa, .con tI, .own 2, .own 3], .rowv ci, .rowv aY]⟩, [ah, aa])] }
def zV (ρ : Type) : bP ρ := ⟨[2, 1], 132, 0, MZ, fun (p : Val (.pair ac (.pair tI (.pair tI (.pair tI (.pair ac (.pair aa (.pair af (.pair ab (.pair aa (.pair tI (.pair tI (.pair ac (.pair aa (.pair af (.pair ab (.pair aa (.pair aa tI)))))))))))))))))) (v : Val (.pair tI ye)) kn kx => qW p.1 p.2.1 p.2.2.2.2.2.2.2.2.2.1 p.2.2.2.2.2.2.2.2.2.2.1 p.2.2.2.2.2.2.2.2.2.2.2.1 p.2.2.2.2.2.2.2.2.2.2.2.2.1 p.2.2.2.2.2.2.2.2.2.2.2.2.2.1 p.2.2.2.2.2.2.2.2.2.2.2.2.2.2.1 p.2.2.2.2.2.2.2.2.2.2.2.2.2.2.2.1 p.2.2.2.2.2.2.2.2.2.2.2.2.2.2.2.2.1 p.2.2.2.2.2.2.2.2.2.2.2.2.2.2.2.2.2 v.1 v.2.1 v.2.2 (fun u0 u1 u2 => kn (u0, u1, u2)) (kx 0)⟩
def MX : bi := { pin := 2, cs := [ab, tI, tI, tI, ac, aa, af, ab, aa, tI, tI, ac, aa, af, ab, aa, aa, tI], vs := [tI, ah, aa], head := ⟨144, .box 1 0 :: aN 107 [.con ab, .con tI, .var tI], [.cells [.con tI, .con tI, .con ac, .con aa, .con af, .con ab, .con aa], .cells [.con tI, .con tI, .con ac, .con aa, .con af, .con ab, .con aa, .con aa, .con tI, .own 2, .own 3], .rowv ci, .rowv aY]⟩, exits := [(.exit 4, ⟨144, .box 1 0 :: aN 107 [.con ab, .con tI], [.cells [.con tI, .con tI, .con ac, .con aa, .con af, .con ab, .con aa], .cells [.con tI, .con tI, .con ac, .con aa, .con af, .con ab, .con aa, .con aa, .con tI, .own 2, .own 3], .rowv ci, .rowv aY]⟩, [ah, aa])] }
def zT (ρ : Type) : bP ρ := ⟨[2, 1], 132, 4, MX, fun (p : Val (.pair ab (.pair tI (.pair tI (.pair tI (.pair ac (.pair aa (.pair af (.pair ab (.pair aa (.pair tI (.pair tI (.pair ac (.pair aa (.pair af (.pair ab (.pair aa (.pair aa tI)))))))))))))))))) (v : Val (.pair tI ye)) kn kx => qU p.1 p.2.1 p.2.2.2.2.2.2.2.2.2.1 p.2.2.2.2.2.2.2.2.2.2.1 p.2.2.2.2.2.2.2.2.2.2.2.1 p.2.2.2.2.2.2.2.2.2.2.2.2.1 p.2.2.2.2.2.2.2.2.2.2.2.2.2.1 p.2.2.2.2.2.2.2.2.2.2.2.2.2.2.1 p.2.2.2.2.2.2.2.2.2.2.2.2.2.2.2.1 p.2.2.2.2.2.2.2.2.2.2.2.2.2.2.2.2.1 p.2.2.2.2.2.2.2.2.2.2.2.2.2.2.2.2.2 v.1 v.2.1 v.2.2 (fun u0 u1 u2 => kn (u0, u1, u2)) (kx 0)⟩
def R9 : List (Nat × bD) := [(54, LN), (85, yz), (87, sU), (88, uX), (168, LO), (200, LL)]
def DA (ρ : Type) : List (bP ρ) := [zU ρ, zV ρ, zT ρ]
def pO (ρ : Type) : Env ρ := bJ R9 (DA ρ)
def eI : bD := ⟨[ba], [bo, aa, tI], fun (x : Val ba) => dc x⟩
def Np : List (Nat × bD) := [(38, dQ), (62, LM)]
def wF (ρ : Type) : List (bP ρ) := []
def DI (ρ : Type) : Env ρ := bJ Np (wF ρ)
def iE : bD := ⟨[ba, aY], [tI, tI], fun (x : Val aK) => er x.1 x.2⟩
def Qc : List (Nat × bD) := [(38, dQ), (85, yz), (130, eR)]
def Ap (ρ : Type) : List (bP ρ) := []
def Hn (ρ : Type) : Env ρ := bJ Qc (Ap ρ)
def iS : bD := ⟨[au, aY], [tI], fun (x : Val aJ) => fJ x.1 x.2⟩
def IT : List (Nat × bD) := [(60, iE)]
def ti (ρ : Type) : List (bP ρ) := []
def yR (ρ : Type) : Env ρ := bJ IT (ti ρ)
def ER : bD := ⟨[bo, tI], [.bool], fun (x : Val (.pair bo tI)) => oo x.1 x.2⟩
def RT : List (Nat × bD) := []
def Dl (ρ : Type) : List (bP ρ) := []
def KB (ρ : Type) : Env ρ := bJ RT (Dl ρ)
def ph : bD := ⟨[bo], [tI, tI], fun (x : Val bo) => lr x⟩
def Jq : bi := { pin := 0, cs := [ah, tI, tI, ah], vs := [tI], head := ⟨57, .any :: .box 0 0 :: aN 17 [.con ah, .con tI, .var tI], [.cells [.con tI, .con ah]]⟩, exits := [(.ret, ⟨57, .any :: .box 0 0 :: .var tI :: .var tI :: aN 15 [.con ah, .con tI], [.cells [.con tI, .con ah]]⟩, [tI, tI]), (.exit 0, ⟨57, .any :: .box 0 0 :: aN 17 [.con ah, .con tI], [.cells [.con tI, .con ah]]⟩, [])] }
def wp (ρ : Type) : bP ρ := ⟨[], 133, 0, Jq, fun (p : Val (.pair ah aD)) (v : Val tI) kn kx => nX p.1 p.2.1 p.2.2.1 p.2.2.2 v (fun u0 => kn u0) (kx 0) (kx 1)⟩
def PI : List (Nat × bD) := [(134, ER)]
def zD (ρ : Type) : List (bP ρ) := [wp ρ]
def xy (ρ : Type) : Env ρ := bJ PI (zD ρ)
def nz : bD := ⟨[bo, aj], [ae, .bool], fun (x : Val (.pair bo aj)) => jf x.1 x.2⟩
def BW : bi := { pin := 2, cs := [aj, ah, tI, tI, ah, ae, tI, ah, aw, ae], vs := [tI, tI], head := ⟨140, .any :: .con aj :: .own 1 :: .box 2 0 :: .any :: .any :: .any :: .box 3 0 :: .own 4 :: .own 5 :: .var tI :: aN 14 [.con ah, .con tI, .var tI], [.cells [.con tI, .con ah], .rowc tI, .cells [.con tI, .con ah], .cells [.nils], .rowc .bool, .rowc tI]⟩, exits := [(.exit 0, ⟨140, .any :: .con aj :: .own 1 :: .box 2 0 :: .any :: .any :: .any :: .box 3 0 :: .own 4 :: .own 5 :: .var tI :: aN 14 [.con ah, .con tI], [.cells [.con tI, .con ah], .rowc tI, .cells [.con tI, .con ah], .cells [.nils], .rowc .bool, .rowc tI]⟩, [tI])] }
def pL (ρ : Type) : bP ρ := ⟨[2, 3], 136, 0, BW, fun (p : Val (.pair aj (.pair ah (.pair tI (.pair tI (.pair ah (.pair ae (.pair tI (.pair ah aF))))))))) (v : Val aY) kn kx => fZ p.2.1 p.2.2.1 v.1 v.2 (fun u0 u1 => kn (u0, u1)) (kx 0)⟩
def BV : bi := { pin := 2, cs := [aj, tI, tI, tI, ah, ae, tI, ah, ae], vs := [tI, aw, ae], head := ⟨140, .any :: .con aj :: .own 1 :: .box 2 0 :: .any :: .any :: .any :: .box 3 0 :: .own 4 :: .own 5 :: .con tI :: aN 27 [.con tI, .var tI], [.cells [.con tI, .con ah], .rowc tI, .cells [.con tI, .con ah], .cells [.own 6], .rowv .bool, .rowc tI, .rowv tI]⟩, exits := [(.exit 2, ⟨140, .any :: .con aj :: .own 1 :: .box 2 0 :: .any :: .any :: .any :: .box 3 0 :: .own 4 :: .own 5 :: .con tI :: aN 27 [.con tI], [.cells [.con tI, .con ah], .rowc tI, .cells [.con tI, .con ah], .cells [.own 6], .rowv .bool, .rowc tI, .rowv tI]⟩, [aw, ae])] }
def pK (ρ : Type) : bP ρ := ⟨[2, 3], 136, 2, BV, fun (p : Val (.pair aj (.pair tI (.pair tI (.pair tI (.pair ah (.pair ae (.pair tI (.pair ah ae))))))))) (v : Val (.pair tI aF)) kn kx => dS p.2.2.1 p.2.2.2.2.2.1 v.1 v.2.1 v.2.2 (fun u0 u1 u2 => kn (u0, u1, u2)) (kx 0)⟩
def BT : bi := { pin := 2, cs := [aj, tI, tI, ah, tI, tI, ah, tI, ah, ae], vs := [tI, ae, aw, ae], head := ⟨140, .any :: .con aj :: .own 1 :: .box 2 0 :: .any :: .any :: .any :: .box 3 0 :: .own 4 :: .own 5 :: .con tI :: .any :: .any :: .any :: .con tI :: aN 62 [.con ah, .con tI, .var tI], [.cells [.con tI, .con ah], .rowv tI, .cells [.con tI, .con ah], .cells [.own 6], .rowv .bool, .rowc tI, .rowv tI]⟩, exits := [(.ret, ⟨140, .any :: .con aj :: .own 1 :: .box 2 0 :: .any :: .any :: .var .bool :: .box 3 0 :: .own 4 :: .own 5 :: .con tI :: .any :: .any :: .any :: .con tI :: aN 62 [.con ah, .con tI], [.cells [.con tI, .con ah], .rowv tI, .cells [.con tI, .con ah], .cells [.own 6], .rowv .bool, .rowc tI, .rowv tI]⟩, [.bool, ae, aw, ae]), (.exit 6, ⟨140, .any :: .con aj :: .own 1 :: .box 2 0 :: .any :: .any :: .any :: .box 3 0 :: .own 4 :: .own 5 :: .con tI :: .any :: .any :: .any :: .con tI :: aN 62 [.con ah, .con tI], [.cells [.con tI, .con ah], .rowv tI, .cells [.con tI, .con ah], .cells [.own 6], .rowv .bool, .rowc tI, .rowv tI]⟩, [ae, aw, ae])] }
def pI (ρ : Type) : bP ρ := ⟨[2, 3], 136, 6, BT, fun (p : Val (.pair aj (.pair tI (.pair tI (.pair ah (.pair tI (.pair tI (.pair ah (.pair tI (.pair ah ae)))))))))) (v : Val (.pair tI (.pair ae aF))) kn kx => g8 p.1 p.2.1 p.2.2.1 p.2.2.2.1 p.2.2.2.2.1 v.1 v.2.1 v.2.2.1 v.2.2.2 (fun u0 u1 u2 u3 => kn (u0, u1, u2, u3)) (kx 0) (kx 1)⟩
def BU : bi := { pin := 2, cs := [aj, tI, tI, ah, tI, ah], vs := [ae, aw, ae, ae], head := ⟨140, [.any, .con aj, .own 1, .box 2 0, .any, .any, .any, .box 3 0, .own 4, .own 5, .con tI], [.cells [.con tI, .con ah], .rowv tI, .cells [.con tI, .con ah], .cells [.own 6], .rowv .bool, .rowv tI, .rowv tI]⟩, exits := [(.ret, ⟨140, [.any, .con aj, .own 1, .box 2 0, .any, .any, .var .bool, .box 3 0, .own 4, .own 5, .con tI], [.cells [.con tI, .con ah], .rowv tI, .cells [.con tI, .con ah], .cells [.own 6], .rowv .bool, .rowv tI, .rowv tI]⟩, [.bool, ae, aw, ae, ae])] }
def pJ (ρ : Type) : bP ρ := ⟨[2, 3], 136, 4, BU, fun (p : Val (.pair aj (.pair tI (.pair tI (.pair ah bo))))) (v : Val aG) kn kx => de p.1 p.2.1 p.2.2.2.2.1 p.2.2.2.2.2 v.1 v.2.1 v.2.2.1 v.2.2.2 (fun u0 u1 u2 u3 => kn (u0, u1, u2, u3)) (kx 0)⟩
def BS : bi := { pin := 0, cs := [tI, tI], vs := [tI, ae], head := ⟨34, aN 6 (.own 0 :: .con tI :: aN 13 [.con tI, .var tI]), [.rowv tI]⟩, exits := [(.exit 0, ⟨34, aN 6 (.own 0 :: .con tI :: aN 13 [.con tI]), [.rowv tI]⟩, [ae])] }
def pH (ρ : Type) : bP ρ := ⟨[], 135, 0, BS, fun (p : Val aY) (v : Val ax) kn kx => gZ p.1 p.2 v.1 v.2 (fun u0 u1 => kn (u0, u1)) (kx 0)⟩
def Gm : List (Nat × bD) := []
def sc (ρ : Type) : List (bP ρ) := [pL ρ, pK ρ, pI ρ, pJ ρ, pH ρ]
def fF (ρ : Type) : Env ρ := bJ Gm (sc ρ)
def OZ : bD := ⟨[bo, ae], [tI], fun (x : Val aU) => AJ x.1 x.2⟩
def Jk : bi := { pin := 0, cs := [ae, tI, tI, ah], vs := [tI], head := ⟨37, .any :: .any :: .box 0 0 :: aN 16 [.con ae, .con tI, .var tI], [.cells [.con tI, .con ah]]⟩, exits := [(.ret, ⟨37, .any :: .any :: .box 0 0 :: .any :: .var tI :: aN 14 [.con ae, .con tI], [.cells [.con tI, .con ah]]⟩, [tI]), (.exit 0, ⟨37, .any :: .any :: .box 0 0 :: aN 16 [.con ae, .con tI], [.cells [.con tI, .con ah]]⟩, [])] }
def wj (ρ : Type) : bP ρ := ⟨[], 63, 0, Jk, fun (p : Val (.pair ae aD)) (v : Val tI) kn kx => nV p.1 p.2.1 p.2.2.1 p.2.2.2 v (fun u0 => kn u0) (kx 0) (kx 1)⟩
def PG : List (Nat × bD) := [(133, ph), (134, ER), (135, nz)]
def zA (ρ : Type) : List (bP ρ) := [wj ρ]
def xx (ρ : Type) : Env ρ := bJ PG (zA ρ)
def Kn : bD := ⟨[bo, aj, tI], [ae], fun (x : Val (.pair bo (.pair aj tI))) => vq x.1 x.2.1 x.2.2⟩
def Gu : bi := { pin := 0, cs := [aj, tI, tI, tI, ah], vs := [tI, ae], head := ⟨29, .any :: .con aj :: .con tI :: .box 0 0 :: .any :: .any :: .any :: .own 1 :: aN 5 [.con tI, .var tI], [.cells [.con tI, .con ah], .rowv tI]⟩, exits := [(.exit 0, ⟨29, .any :: .con aj :: .con tI :: .box 0 0 :: .any :: .any :: .any :: .own 1 :: aN 5 [.con tI], [.cells [.con tI, .con ah], .rowv tI]⟩, [ae])] }
def tO (ρ : Type) : bP ρ := ⟨[], 64, 0, Gu, fun (p : Val (.pair aj (.pair tI aD))) (v : Val ax) kn kx => l5 p.2.2.1 v.1 v.2 (fun u0 u1 => kn (u0, u1)) (kx 0)⟩
def Gt : bi := { pin := 2, cs := [aj, ah, tI, tI, ah, ae, tI, ah, aw, ae], vs := [tI, tI], head := ⟨140, .any :: .con aj :: .own 1 :: .box 2 0 :: .any :: .any :: .any :: .box 3 0 :: .own 4 :: .own 5 :: .var tI :: aN 14 [.con ah, .con tI, .var tI], [.cells [.con tI, .con ah], .rowc tI, .cells [.con tI, .con ah], .cells [.nils], .rowc .bool, .rowc tI]⟩, exits := [(.exit 0, ⟨140, .any :: .con aj :: .own 1 :: .box 2 0 :: .any :: .any :: .any :: .box 3 0 :: .own 4 :: .own 5 :: .var tI :: aN 14 [.con ah, .con tI], [.cells [.con tI, .con ah], .rowc tI, .cells [.con tI, .con ah], .cells [.nils], .rowc .bool, .rowc tI]⟩, [tI])] }
def tN (ρ : Type) : bP ρ := ⟨[8, 3], 136, 0, Gt, fun (p : Val (.pair aj (.pair ah (.pair tI (.pair tI (.pair ah (.pair ae (.pair tI (.pair ah aF))))))))) (v : Val aY) kn kx => qO p.2.1 p.2.2.1 v.1 v.2 (fun u0 u1 => kn (u0, u1)) (kx 0)⟩
def Gs : bi := { pin := 2, cs := [aj, tI, tI, tI, ah, ae, tI, ah, ae], vs := [tI, aw, ae], head := ⟨140, .any :: .con aj :: .own 1 :: .box 2 0 :: .any :: .any :: .any :: .box 3 0 :: .own 4 :: .own 5 :: .con tI :: aN 27 [.con tI, .var tI], [.cells [.con tI, .con ah], .rowc tI, .cells [.con tI, .con ah], .cells [.own 6], .rowv .bool, .rowc tI, .rowv tI]⟩, exits := [(.exit 2, ⟨140, .any :: .con aj :: .own 1 :: .box 2 0 :: .any :: .any :: .any :: .box 3 0 :: .own 4 :: .own 5 :: .con tI :: aN 27 [.con tI], [.cells [.con tI, .con ah], .rowc tI, .cells [.con tI, .con ah], .cells [.own 6], .rowv .bool, .rowc tI, .rowv tI]⟩, [aw, ae])] }
def tM (ρ : Type) : bP ρ := ⟨[8, 3], 136, 2, Gs, fun (p : Val (.pair aj (.pair tI (.pair tI (.pair tI (.pair ah (.pair ae (.pair tI (.pair ah ae))))))))) (v : Val (.pair tI aF)) kn kx => qN p.2.2.1 p.2.2.2.2.2.1 v.1 v.2.1 v.2.2 (fun u0 u1 u2 => kn (u0, u1, u2)) (kx 0)⟩
def Gq : bi := { pin := 2, cs := [aj, tI, tI, ah, tI, tI, ah, tI, ah, ae], vs := [tI, ae, aw, ae], head := ⟨140, .any :: .con aj :: .own 1 :: .box 2 0 :: .any :: .any :: .any :: .box 3 0 :: .own 4 :: .own 5 :: .con tI :: .any :: .any :: .any :: .con tI :: aN 62 [.con ah, .con tI, .var tI], [.cells [.con tI, .con ah], .rowv tI, .cells [.con tI, .con ah], .cells [.own 6], .rowv .bool, .rowc tI, .rowv tI]⟩, exits := [(.ret, ⟨140, .any :: .con aj :: .own 1 :: .box 2 0 :: .any :: .any :: .var .bool :: .box 3 0 :: .own 4 :: .own 5 :: .con tI :: .any :: .any :: .any :: .con tI :: aN 62 [.con ah, .con tI], [.cells [.con tI, .con ah], .rowv tI, .cells [.con tI, .con ah], .cells [.own 6], .rowv .bool, .rowc tI, .rowv tI]⟩, [.bool, ae, aw, ae]), (.exit 6, ⟨140, .any :: .con aj :: .own 1 :: .box 2 0 :: .any :: .any :: .any :: .box 3 0 :: .own 4 :: .own 5 :: .con tI :: .any :: .any :: .any :: .con tI :: aN 62 [.con ah, .con tI], [.cells [.con tI, .con ah], .rowv tI, .cells [.con tI, .con ah], .cells [.own 6], .rowv .bool, .rowc tI, .rowv tI]⟩, [ae, aw, ae])] }
def tJ (ρ : Type) : bP ρ := ⟨[8, 3], 136, 6, Gq, fun (p : Val (.pair aj (.pair tI (.pair tI (.pair ah (.pair tI (.pair tI (.pair ah (.pair tI (.pair ah ae)))))))))) (v : Val (.pair tI (.pair ae aF))) kn kx => zz p.1 p.2.1 p.2.2.1 p.2.2.2.1 p.2.2.2.2.1 v.1 v.2.1 v.2.2.1 v.2.2.2 (fun u0 u1 u2 u3 => kn (u0, u1, u2, u3)) (kx 0) (kx 1)⟩
def Gr : bi := { pin := 2, cs := [aj, tI, tI, ah, tI, ah], vs := [ae, aw, ae, ae], head := ⟨140, [.any, .con aj, .own 1, .box 2 0, .any, .any, .any, .box 3 0, .own 4, .own 5, .con tI], [.cells [.con tI, .con ah], .rowv tI, .cells [.con tI, .con ah], .cells [.own 6], .rowv .bool, .rowv tI, .rowv tI]⟩, exits := [(.ret, ⟨140, [.any, .con aj, .own 1, .box 2 0, .any, .any, .var .bool, .box 3 0, .own 4, .own 5, .con tI], [.cells [.con tI, .con ah], .rowv tI, .cells [.con tI, .con ah], .cells [.own 6], .rowv .bool, .rowv tI, .rowv tI]⟩, [.bool, ae, aw, ae, ae])] }
def tK (ρ : Type) : bP ρ := ⟨[8, 3], 136, 4, Gr, fun (p : Val (.pair aj (.pair tI (.pair tI (.pair ah bo))))) (v : Val aG) kn kx => qM p.1 p.2.1 p.2.2.2.2.1 p.2.2.2.2.2 v.1 v.2.1 v.2.2.1 v.2.2.2 (fun u0 u1 u2 u3 => kn (u0, u1, u2, u3)) (kx 0)⟩
def ME : List (Nat × bD) := []
def wi (ρ : Type) : List (bP ρ) := [tO ρ, tN ρ, tM ρ, tJ ρ, tK ρ]
def g9 (ρ : Type) : Env ρ := bJ ME (wi ρ)
def yv : bD := ⟨[bo, tI, tI], [tI, tI], fun (x : Val aR) => nk x.1 x.2.1 x.2.2⟩
def PK : List (Nat × bD) := [(63, OZ), (64, Kn)]
def zH (ρ : Type) : List (bP ρ) := []
def GJ (ρ : Type) : Env ρ := bJ PK (zH ρ)
def iD : bD := ⟨[au, tI, tI], [tI], fun (x : Val aJ) => cg x.1 x.2.1 x.2.2⟩
def By : List (Nat × bD) := [(89, yv)]
def nJ (ρ : Type) : List (bP ρ) := []
def rS (ρ : Type) : Env ρ := bJ By (nJ ρ)
def oy : bD := ⟨[au, aY], [tI], fun (x : Val aJ) => fI x.1 x.2⟩
def Bx : List (Nat × bD) := [(55, iS), (56, iD)]
def nI (ρ : Type) : List (bP ρ) := []
def rR (ρ : Type) : Env ρ := bJ Bx (nI ρ)
def j7 : bD := ⟨[au, aY], [tI], fun (x : Val aJ) => f7 x.1 x.2⟩
def vI : List (Nat × bD) := [(55, iS), (56, iD)]
def kZ (ρ : Type) : List (bP ρ) := []
def mR (ρ : Type) : Env ρ := bJ vI (kZ ρ)
def ii : bD := ⟨[au, aY], [aY], fun (x : Val aJ) => eM x.1 x.2⟩
def vH : List (Nat × bD) := [(121, oy), (122, j7)]
def kY (ρ : Type) : List (bP ρ) := []
def iX (ρ : Type) : Env ρ := { bJ vH (kY ρ) with hint := Cu [(12, 121), (16, 122)] }
def nA : bD := ⟨[ba, aY], [ba, tI], fun (x : Val aK) => iP x.1 x.2⟩
def Ns : bi := { pin := 6, cs := [tI, tI, tI, ac, aa, af, ab, aa, tI, tI, tI, tI, tI, tI, ac, aa, af, ab, aa, tI, tI, tI, tI, ab, tI, tI, ac, aa, af, aa], vs := [tI, ab], head := ⟨50, .any :: .box 6 0 :: .box 7 0 :: .own 8 :: aN 21 [.own 8, .con tI, .var tI], [.cells [.con tI, .con tI, .con ac, .con aa, .con af, .con ab, .con aa], .cells [.con tI, .con tI], .cells [.con tI, .con tI, .nils, .nils, .nils, .nils, .nils], .cells [.con tI, .con tI, .con ac, .con aa, .con af, .con ab, .con aa], .cells [.con tI, .con tI, .nils, .nils, .nils, .nils, .nils], .dead, .cells [.con tI, .con tI, .own 9, .own 10, .own 11, .con ab, .own 12], .cells [.con tI, .con tI, .nils, .nils, .nils, .nils, .nils], .rowv bm, .rowc bj, .rowc aY, .rowc dr, .rowc aY]⟩, exits := [(.exit 0, ⟨50, .any :: .box 6 0 :: .box 7 0 :: .own 8 :: aN 21 [.own 8, .con tI], [.cells [.con tI, .con tI, .con ac, .con aa, .con af, .con ab, .con aa], .cells [.con tI, .con tI], .cells [.con tI, .con tI, .nils, .nils, .nils, .nils, .nils], .cells [.con tI, .con tI, .con ac, .con aa, .con af, .con ab, .con aa], .cells [.con tI, .con tI, .nils, .nils, .nils, .nils, .nils], .dead, .cells [.con tI, .con tI, .own 9, .own 10, .own 11, .con ab, .own 12], .cells [.con tI, .con tI, .nils, .nils, .nils, .nils, .nils], .rowv bm, .rowc bj, .rowc aY, .rowc dr, .rowc aY]⟩, [ab])] }
def Ao (ρ : Type) : bP ρ := ⟨[1, 2, 4, 1], 175, 0, Ns, fun (p : Val (.pair tI (.pair tI (.pair tI (.pair ac (.pair aa (.pair af (.pair ab (.pair aa (.pair tI (.pair tI (.pair tI (.pair tI (.pair tI (.pair tI (.pair ac (.pair aa (.pair af (.pair ab (.pair aa (.pair tI (.pair tI (.pair tI (.pair tI (.pair ab (.pair tI (.pair tI (.pair ac (.pair aa (.pair af aa)))))))))))))))))))))))))))))) (v : Val (.pair tI ab)) kn kx => rh p.1 v.1 v.2 (fun u0 u1 => kn (u0, u1)) (kx 0)⟩
def Sj : List (Nat × bD) := [(38, dQ)]
def DL (ρ : Type) : List (bP ρ) := [Ao ρ]
def Ck (ρ : Type) : Env ρ := bJ Sj (DL ρ)
def eE : bD := ⟨[bo], [.bool, tI], fun (x : Val bo) => cR x⟩
def B4 : List (Nat × bD) := [(133, ph), (135, nz)]
def nW (ρ : Type) : List (bP ρ) := []
def se (ρ : Type) : Env ρ := bJ B4 (nW ρ)
def sT : bD := ⟨[ba, aY], [aY, tI], fun (x : Val aK) => gk x.1 x.2⟩
def BJ : bi := { pin := 4, cs := [tI, tI, tI, ac, aa, af, ab, aa, tI, tI, tI, tI, aa], vs := [tI, tI, tI, ac, aa, af, ab, aa], head := ⟨68, .any :: .any :: .box 4 0 :: aN 20 [.own 3, .con tI, .var tI], [.cells [.con tI, .con tI, .con ac, .con aa, .con af, .con ab, .con aa], .cells [.con tI, .con tI], .cells [.con tI, .con tI], .rowc aY, .cells [.var tI, .var tI, .var ac, .var aa, .var af, .var ab, .var aa]]⟩, exits := [(.ret, ⟨68, .any :: .any :: .box 4 0 :: .any :: .nilp :: .var tI :: aN 17 [.own 3, .con tI], [.cells [.con tI, .con tI, .con ac, .con aa, .con af, .con ab, .con aa], .cells [.con tI, .con tI], .cells [.con tI, .con tI], .rowc aY, .cells [.var tI, .var tI, .var ac, .var aa, .var af, .var ab, .var aa]]⟩, [tI, tI, tI, ac, aa, af, ab, aa]), (.exit 0, ⟨68, .any :: .any :: .box 4 0 :: aN 20 [.own 3, .con tI], [.cells [.con tI, .con tI, .con ac, .con aa, .con af, .con ab, .con aa], .cells [.con tI, .con tI], .cells [.con tI, .con tI], .rowc aY, .cells [.var tI, .var tI, .var ac, .var aa, .var af, .var ab, .var aa]]⟩, [tI, tI, ac, aa, af, ab, aa])] }
def pE (ρ : Type) : bP ρ := ⟨[1, 3], 50, 0, BJ, fun (p : Val (.pair tI (.pair tI (.pair tI (.pair ac (.pair aa (.pair af (.pair ab (.pair aa (.pair tI (.pair tI aL))))))))))) (v : Val ay) kn kx => cr p.1 p.2.2.2.2.2.2.2.2.2.2.2.2 v.1 v.2.1 v.2.2.1 v.2.2.2.1 v.2.2.2.2.1 v.2.2.2.2.2.1 v.2.2.2.2.2.2.1 v.2.2.2.2.2.2.2 (fun u0 u1 u2 u3 u4 u5 u6 u7 => kn (u0, u1, u2, u3, u4, u5, u6, u7)) (kx 0) (kx 1)⟩
def Gh : List (Nat × bD) := [(20, eI), (38, dQ), (51, ii), (60, iE), (61, nA), (123, eE)]
def rW (ρ : Type) : List (bP ρ) := [pE ρ]
def oG (ρ : Type) : Env ρ := bJ Gh (rW ρ)
def w7 : bD := ⟨[ba, aY, aY], [aY, tI], fun (x : Val (.pair ba cd)) => ni x.1 x.2.1 x.2.2⟩
def En : bi := { pin := 5, cs := [tI, tI, tI, ac, aa, af, ab, aa, tI, tI, tI, tI, tI, tI, aa], vs := [tI, tI, tI, ac, aa, af, ab, aa], head := ⟨68, .any :: .any :: .box 5 0 :: aN 20 [.own 4, .con tI, .var tI], [.cells [.con tI, .con tI, .con ac, .con aa, .con af, .con ab, .con aa], .cells [.con tI, .con tI], .cells [.con tI, .con tI], .cells [.con tI, .con tI], .rowc aY, .cells [.var tI, .var tI, .var ac, .var aa, .var af, .var ab, .var aa]]⟩, exits := [(.ret, ⟨68, .any :: .any :: .box 5 0 :: .any :: .nilp :: .var tI :: aN 17 [.own 4, .con tI], [.cells [.con tI, .con tI, .con ac, .con aa, .con af, .con ab, .con aa], .cells [.con tI, .con tI], .cells [.con tI, .con tI], .cells [.con tI, .con tI], .rowc aY, .cells [.var tI, .var tI, .var ac, .var aa, .var af, .var ab, .var aa]]⟩, [tI, tI, tI, ac, aa, af, ab, aa]), (.exit 0, ⟨68, .any :: .any :: .box 5 0 :: aN 20 [.own 4, .con tI], [.cells [.con tI, .con tI, .con ac, .con aa, .con af, .con ab, .con aa], .cells [.con tI, .con tI], .cells [.con tI, .con tI], .cells [.con tI, .con tI], .rowc aY, .cells [.var tI, .var tI, .var ac, .var aa, .var af, .var ab, .var aa]]⟩, [tI, tI, ac, aa, af, ab, aa])] }
def sa (ρ : Type) : bP ρ := ⟨[1, 4], 50, 0, En, fun (p : Val (.pair tI (.pair tI (.pair tI (.pair ac (.pair aa (.pair af (.pair ab (.pair aa (.pair tI (.pair tI (.pair tI (.pair tI aL))))))))))))) (v : Val ay) kn kx => oK p.1 p.2.2.2.2.2.2.2.2.2.2.2.2.2.2 v.1 v.2.1 v.2.2.1 v.2.2.2.1 v.2.2.2.2.1 v.2.2.2.2.2.1 v.2.2.2.2.2.2.1 v.2.2.2.2.2.2.2 (fun u0 u1 u2 u3 u4 u5 u6 u7 => kn (u0, u1, u2, u3, u4, u5, u6, u7)) (kx 0) (kx 1)⟩
def Jg : List (Nat × bD) := [(20, eI), (38, dQ), (55, iS), (56, iD), (60, iE), (61, nA), (123, eE)]
def tE (ρ : Type) : List (bP ρ) := [sa ρ]
def qJ (ρ : Type) : Env ρ := bJ Jg (tE ρ)
def Bp : bD := ⟨[ae, ae], [ae, ae, tI], fun (x : Val (.pair ae ae)) => qd x.1 x.2⟩
def Nv : List (Nat × bD) := [(88, uX), (198, Bn)]
def wG (ρ : Type) : List (bP ρ) := []
def DM (ρ : Type) : Env ρ := bJ Nv (wG ρ)
def Tu : bD := ⟨[ae, tI], [.bool], fun (x : Val aB) => E9 x.1 x.2⟩
def RL : List (Nat × bD) := [(129, Bp)]
def Da (ρ : Type) : List (bP ρ) := []
def KA (ρ : Type) : Env ρ := bJ RL (Da ρ)
def OV : bD := ⟨[tI], [.bool], fun (x : Val tI) => AF x⟩
def Pq : List (Nat × bD) := []
def zc (ρ : Type) : List (bP ρ) := []
def F8 (ρ : Type) : Env ρ := bJ Pq (zc ρ)
def OU : bD := ⟨[tI, am], [aa], fun (x : Val (.pair tI am)) => AE x.1 x.2⟩
def I4 : bi := { pin := 0, cs := [tI, ae, tI], vs := [tI, aa], head := ⟨23, .con tI :: aN 4 [.own 0, .any, .any, .any, .con ae, .con tI, .var tI], [.rowv aY]⟩, exits := [(.exit 0, ⟨23, .con tI :: aN 4 [.own 0, .any, .any, .any, .con ae, .con tI], [.rowv aY]⟩, [aa])] }
def vX (ρ : Type) : bP ρ := ⟨[], 59, 0, I4, fun (p : Val (.pair tI aB)) (v : Val az) kn kx => nM p.1 p.2.1 p.2.2 v.1 v.2 (fun u0 u1 => kn (u0, u1)) (kx 0)⟩
def Pp : List (Nat × bD) := [(94, dX)]
def zb (ρ : Type) : List (bP ρ) := [vX ρ]
def xn (ρ : Type) : Env ρ := bJ Pp (zb ρ)
def Tw : bD := ⟨[ba, tI, ae], [aY, tI], fun (x : Val (.pair ba ax)) => Fc x.1 x.2.1 x.2.2⟩
def Mw : bi := { pin := 3, cs := [aa, tI, tI, tI, ac, aa, af, ab, aa, tI, tI, am], vs := [tI, tI, tI, ac, aa, af, ab, aa], head := ⟨68, .any :: .any :: .box 3 0 :: aN 20 [.con aa, .con tI, .var tI], [.cells [.con tI, .con tI, .con ac, .con aa, .con af, .con ab, .con aa], .cells [.con tI, .con tI], .rowf ae 0, .cells [.var tI, .var tI, .var ac, .var aa, .var af, .var ab, .var aa]]⟩, exits := [(.ret, ⟨68, .any :: .any :: .box 3 0 :: .any :: .nilp :: .var tI :: aN 17 [.con aa, .con tI], [.cells [.con tI, .con tI, .con ac, .con aa, .con af, .con ab, .con aa], .cells [.con tI, .con tI], .rowf ae 0, .cells [.var tI, .var tI, .var ac, .var aa, .var af, .var ab, .var aa]]⟩, [tI, tI, tI, ac, aa, af, ab, aa]), (.exit 0, ⟨68, .any :: .any :: .box 3 0 :: aN 20 [.con aa, .con tI], [.cells [.con tI, .con tI, .con ac, .con aa, .con af, .con ab, .con aa], .cells [.con tI, .con tI], .rowf ae 0, .cells [.var tI, .var tI, .var ac, .var aa, .var af, .var ab, .var aa]]⟩, [tI, tI, ac, aa, af, ab, aa])] }
def zl (ρ : Type) : bP ρ := ⟨[7, 2], 50, 0, Mw, fun (p : Val (.pair aa (.pair tI (.pair tI (.pair tI (.pair ac (.pair aa (.pair af (.pair ab (.pair aa (.pair tI (.pair tI am)))))))))))) (v : Val ay) kn kx => qG p.1 p.2.1 v.1 v.2.1 v.2.2.1 v.2.2.2.1 v.2.2.2.2.1 v.2.2.2.2.2.1 v.2.2.2.2.2.2.1 v.2.2.2.2.2.2.2 (fun u0 u1 u2 u3 u4 u5 u6 u7 => kn (u0, u1, u2, u3, u4, u5, u6, u7)) (kx 0) (kx 1)⟩
def Mv : bi := { pin := 0, cs := [au, aa, tI, tI, tI], vs := [tI, tI, tI], head := ⟨87, aN 6 (.box 0 0 :: .any :: .any :: .any :: .con au :: .any :: .any :: .box 1 0 :: aN 51 [.con aa, .con tI, .var tI]), [.cells [.con tI, .con tI], .cells [.var tI, .var tI]]⟩, exits := [(.exit 0, ⟨87, aN 6 (.box 0 0 :: .any :: .any :: .any :: .con au :: .any :: .any :: .box 1 0 :: aN 51 [.con aa, .con tI]), [.cells [.con tI, .con tI], .cells [.var tI, .var tI]]⟩, [tI, tI])] }
def zk (ρ : Type) : bP ρ := ⟨[], 18, 0, Mv, fun (p : Val (.pair au (.pair aa ci))) (v : Val ci) kn kx => qF p.1 p.2.1 p.2.2.1 v.1 v.2.1 v.2.2 (fun u0 u1 u2 => kn (u0, u1, u2)) (kx 0)⟩
def RQ : List (Nat × bD) := [(20, eI), (38, dQ), (51, ii), (57, Tu), (58, OV), (59, OU), (60, iE), (61, nA), (123, eE)]
def Dj (ρ : Type) : List (bP ρ) := [zl ρ, zk ρ]
def ve (ρ : Type) : Env ρ := bJ RQ (Dj ρ)
def wY : bD := ⟨[aY, aY], [tI], fun (x : Val cd) => nf x.1 x.2⟩
def IQ : List (Nat × bD) := []
def tc (ρ : Type) : List (bP ρ) := []
def yO (ρ : Type) : Env ρ := bJ IQ (tc ρ)
def OX : bD := ⟨[ba, aY, aY], [tI, tI], fun (x : Val (.pair ba cd)) => AG x.1 x.2.1 x.2.2⟩
def Je : bi := { pin := 4, cs := [tI, tI, tI, ac, aa, af, ab, aa, tI, tI, tI, tI, aa], vs := [tI, tI, tI, ac, aa, af, ab, aa], head := ⟨68, .any :: .any :: .box 4 0 :: aN 20 [.own 3, .con tI, .var tI], [.cells [.con tI, .con tI, .con ac, .con aa, .con af, .con ab, .con aa], .cells [.con tI, .con tI], .cells [.con tI, .con tI], .rowc aY, .cells [.var tI, .var tI, .var ac, .var aa, .var af, .var ab, .var aa]]⟩, exits := [(.ret, ⟨68, .any :: .any :: .box 4 0 :: .any :: .nilp :: .var tI :: aN 17 [.own 3, .con tI], [.cells [.con tI, .con tI, .con ac, .con aa, .con af, .con ab, .con aa], .cells [.con tI, .con tI], .cells [.con tI, .con tI], .rowc aY, .cells [.var tI, .var tI, .var ac, .var aa, .var af, .var ab, .var aa]]⟩, [tI, tI, tI, ac, aa, af, ab, aa]), (.exit 0, ⟨68, .any :: .any :: .box 4 0 :: aN 20 [.own 3, .con tI], [.cells [.con tI, .con tI, .con ac, .con aa, .con af, .con ab, .con aa], .cells [.con tI, .con tI], .cells [.con tI, .con tI], .rowc aY, .cells [.var tI, .var tI, .var ac, .var aa, .var af, .var ab, .var aa]]⟩, [tI, tI, ac, aa, af, ab, aa])] }
def wh (ρ : Type) : bP ρ := ⟨[1, 3], 50, 0, Je, fun (p : Val (.pair tI (.pair tI (.pair tI (.pair ac (.pair aa (.pair af (.pair ab (.pair aa (.pair tI (.pair tI aL))))))))))) (v : Val ay) kn kx => tx p.1 p.2.2.2.2.2.2.2.2.2.2.2.2 v.1 v.2.1 v.2.2.1 v.2.2.2.1 v.2.2.2.2.1 v.2.2.2.2.2.1 v.2.2.2.2.2.2.1 v.2.2.2.2.2.2.2 (fun u0 u1 u2 u3 u4 u5 u6 u7 => kn (u0, u1, u2, u3, u4, u5, u6, u7)) (kx 0) (kx 1)⟩
def PB : List (Nat × bD) := [(20, eI), (38, dQ), (51, ii), (60, iE), (61, nA), (69, wY), (123, eE)]
def zm (ρ : Type) : List (bP ρ) := [wh ρ]
def xt (ρ : Type) : Env ρ := bJ PB (zm ρ)
def LQ : bD := ⟨[ba, bm], [ba, tI], fun (x : Val aC) => mf x.1 x.2⟩
def Nn : bi := { pin := 8, cs := [tI, tI, tI, ac, aa, af, ab, aa, tI, tI, ae, ae, tI, tI, tI, tI, tI, tI, tI, tI, ac, aa, af, ab, aa, tI, tI, tI, tI, ab, tI, tI, ac, aa, af, aa], vs := [tI, ab], head := ⟨50, .any :: .box 8 0 :: .box 9 0 :: .own 10 :: aN 21 [.own 10, .con tI, .var tI], [.cells [.con tI, .con tI, .con ac, .con aa, .con af, .con ab, .con aa], .cells [.con tI, .con tI, .con ae, .con ae, .con tI, .con tI, .con tI, .con tI], .cells [.con tI, .con tI, .nils, .nils, .nils, .nils, .nils], .dead, .dead, .cells [.con tI, .con tI, .con ac, .con aa, .con af, .con ab, .con aa], .cells [.con tI, .con tI, .nils, .nils, .nils, .nils, .nils], .dead, .cells [.con tI, .con tI, .own 11, .own 12, .own 13, .con ab, .own 14], .cells [.con tI, .con tI, .nils, .nils, .nils, .nils, .nils], .rowv bm, .rowc bj, .rowc aY, .rowc dr, .rowc aY]⟩, exits := [(.exit 0, ⟨50, .any :: .box 8 0 :: .box 9 0 :: .own 10 :: aN 21 [.own 10, .con tI], [.cells [.con tI, .con tI, .con ac, .con aa, .con af, .con ab, .con aa], .cells [.con tI, .con tI, .con ae, .con ae, .con tI, .con tI, .con tI, .con tI], .cells [.con tI, .con tI, .nils, .nils, .nils, .nils, .nils], .dead, .dead, .cells [.con tI, .con tI, .con ac, .con aa, .con af, .con ab, .con aa], .cells [.con tI, .con tI, .nils, .nils, .nils, .nils, .nils], .dead, .cells [.con tI, .con tI, .own 11, .own 12, .own 13, .con ab, .own 14], .cells [.con tI, .con tI, .nils, .nils, .nils, .nils, .nils], .rowv bm, .rowc bj, .rowc aY, .rowc dr, .rowc aY]⟩, [ab])] }
def Ak (ρ : Type) : bP ρ := ⟨[2, 2, 4, 1], 175, 0, Nn, fun (p : Val (.pair tI (.pair tI (.pair tI (.pair ac (.pair aa (.pair af (.pair ab (.pair aa (.pair tI (.pair tI (.pair ae (.pair ae (.pair tI (.pair tI (.pair tI (.pair tI (.pair tI (.pair tI (.pair tI (.pair tI (.pair ac (.pair aa (.pair af (.pair ab (.pair aa (.pair tI (.pair tI (.pair tI (.pair tI (.pair ab (.pair tI (.pair tI (.pair ac (.pair aa (.pair af aa)))))))))))))))))))))))))))))))))))) (v : Val (.pair tI ab)) kn kx => rg p.1 v.1 v.2 (fun u0 u1 => kn (u0, u1)) (kx 0)⟩
def Sg : List (Nat × bD) := [(38, dQ)]
def DH (ρ : Type) : List (bP ρ) := [Ak ρ]
def Ci (ρ : Type) : Env ρ := bJ Sg (DH ρ)
def O4 : bD := ⟨[ba, bm, aY], [aY, tI], fun (x : Val (.pair ba (.pair bm aY))) => p8 x.1 x.2.1 x.2.2⟩
def PX : List (Nat × bD) := [(171, Bo), (172, FP), (173, LK), (174, FN)]
def zP (ρ : Type) : List (bP ρ) := []
def G3 (ρ : Type) : Env ρ := bJ PX (zP ρ)
def FQ : bD := ⟨[ba, bm], [aY, tI], fun (x : Val aC) => rt x.1 x.2⟩
def JT : List (Nat × bD) := [(41, LQ), (62, LM), (87, sU), (88, uX), (89, yv), (90, O4)]
def ue (ρ : Type) : List (bP ρ) := []
def Al (ρ : Type) : Env ρ := bJ JT (ue ρ)
def O3 : bD := ⟨[ba, tI], [bm, tI], fun (x : Val aI) => AM x.1 x.2⟩
def PW : List (Nat × bD) := [(38, dQ)]
def zO (ρ : Type) : List (bP ρ) := []
def G1 (ρ : Type) : Env ρ := bJ PW (zO ρ)
def Tz : bD := ⟨[ba, tI], [aY, tI], fun (x : Val aI) => Fd x.1 x.2⟩
def Sh : List (Nat × bD) := [(200, LL), (205, O3)]
def DJ (ρ : Type) : List (bP ρ) := []
def KK (ρ : Type) : Env ρ := bJ Sh (DJ ρ)
def C7 : bD := ⟨[ae, au, (.ptr bm)], [tI], fun (x : Val (.pair ae (.pair au (.ptr bm)))) => lq x.1 x.2.1 x.2.2⟩
def F7 : List (Nat × bD) := [(55, iS)]
def rV (ρ : Type) : List (bP ρ) := []
def wa (ρ : Type) : Env ρ := bJ F7 (rV ρ)
def C6 : bD := ⟨[tI, tI, au, (.ptr tI), aM, (.ptr tI)], [ci], fun (x : Val (.pair tI (.pair tI (.pair au (.pair (.ptr tI) (.pair aM (.ptr tI))))))) => lp x.1 x.2.1 x.2.2.1 x.2.2.2.1 x.2.2.2.2.1 x.2.2.2.2.2⟩
def F6 : List (Nat × bD) := [(56, iD)]
def rU (ρ : Type) : List (bP ρ) := []
def vZ (ρ : Type) : Env ρ := bJ F6 (rU ρ)
def Bm : bD := ⟨[au, aY, bm], [eP, tI], fun (x : Val (.pair au aQ)) => pX x.1 x.2.1 x.2.2⟩
def F5 : bi := { pin := 0, cs := [tI, ae, ae, aa, ah, tI, tI, tI, tI, tI, ae, ae, tI, tI, tI, tI, tI, tI, tI, tI, tI, tI, tI, tI, tI, tI, tI, tI, tI, tI, ac, aa, af, ab, aa, tI], vs := [tI, ah], head := ⟨127, aN 4 (.box 0 0 :: .box 1 0 :: .box 2 0 :: .any :: .box 3 0 :: .any :: .any :: .con tI :: .box 4 0 :: .any :: .con ae :: .con ae :: .any :: .any :: .con aa :: .any :: .box 5 0 :: aN 65 [.con ah, .con tI, .var tI]), [.cells [.con tI, .con tI], .cells [.con tI, .con tI, .con ae, .con ae, .con tI, .con tI, .con tI, .con tI], .cells [.con tI, .con tI, .con tI, .con tI, .con tI, .con tI, .con tI, .con tI], .cells [.con tI, .con tI], .cells [.con tI, .con tI], .cells [.con tI, .con tI, .con ac, .con aa, .con af, .con ab, .con aa, .con tI, .own 6], .rowv ci]⟩, exits := [(.exit 0, ⟨127, aN 4 (.box 0 0 :: .box 1 0 :: .box 2 0 :: .any :: .box 3 0 :: .any :: .any :: .con tI :: .box 4 0 :: .any :: .con ae :: .con ae :: .any :: .any :: .con aa :: .any :: .box 5 0 :: aN 65 [.con ah, .con tI]), [.cells [.con tI, .con tI], .cells [.con tI, .con tI, .con ae, .con ae, .con tI, .con tI, .con tI, .con tI], .cells [.con tI, .con tI, .con tI, .con tI, .con tI, .con tI, .con tI, .con tI], .cells [.con tI, .con tI], .cells [.con tI, .con tI], .cells [.con tI, .con tI, .con ac, .con aa, .con af, .con ab, .con aa, .con tI, .own 6], .rowv ci]⟩, [ah])] }
def tj (ρ : Type) : bP ρ := ⟨[], 71, 0, F5, fun (p : Val (.pair tI (.pair ae (.pair ae (.pair aa (.pair ah (.pair tI (.pair tI (.pair tI (.pair tI (.pair tI (.pair ae (.pair ae (.pair tI (.pair tI (.pair tI (.pair tI (.pair tI (.pair tI (.pair tI (.pair tI (.pair tI (.pair tI (.pair tI (.pair tI (.pair tI (.pair tI (.pair tI (.pair tI (.pair tI (.pair tI (.pair ac (.pair aa (.pair af (.pair ab (.pair aa tI)))))))))))))))))))))))))))))))))))) (v : Val bo) kn kx => jA p.1 p.2.2.2.1 p.2.2.2.2.1 p.2.2.2.2.2.1 v.1 v.2 (fun u0 u1 => kn (u0, u1)) (kx 0)⟩
def Mj : List (Nat × bD) := [(20, eI), (40, FQ), (41, LQ), (55, iS), (129, Bp), (142, Tz), (143, C7), (144, C6)]
def vY (ρ : Type) : List (bP ρ) := [tj ρ]
def nN (ρ : Type) : Env ρ := { bJ Mj (vY ρ) with hint := Cu [(110, 143), (113, 143), (120, 144), (123, 144)] }
def ql : bD := ⟨[ci], [ae], fun (x : Val ci) => gC x⟩
def Ef : List (Nat × bD) := []
def pr (ρ : Type) : List (bP ρ) := []
def tp (ρ : Type) : Env ρ := bJ Ef (pr ρ)
def Kl : bD := ⟨[ci, tI], [tI], fun (x : Val (.pair ci tI)) => pY x.1 x.2⟩
def Ml : List (Nat × bD) := []
def wc (ρ : Type) : List (bP ρ) := []
def Dc (ρ : Type) : Env ρ := bJ Ml (wc ρ)
def ow : bD := ⟨[eP, tI], [aY], fun (x : Val (.pair eP tI)) => dO x.1 x.2⟩
def Bu : List (Nat × bD) := [(177, Kl)]
def nF (ρ : Type) : List (bP ρ) := []
def rP (ρ : Type) : Env ρ := bJ Bu (nF ρ)
def ox : bD := ⟨[eP, ae], [ae], fun (x : Val (.pair eP ae)) => iI x.1 x.2⟩
def xh : bi := { pin := 0, cs := [tI, ae, tI, tI, tI, tI, tI, tI, tI, tI, tI, tI], vs := [tI, ae], head := ⟨48, .any :: .any :: .box 0 0 :: .any :: .any :: .own 1 :: .any :: .con tI :: .var tI :: aN 7 [.con ae, .con tI, .con tI], [.cells [.con tI, .con tI, .con tI, .con tI, .con tI, .con tI, .con tI, .con tI], .rowv tI]⟩, exits := [(.exit 2, ⟨48, .any :: .any :: .box 0 0 :: .any :: .any :: .own 1 :: .any :: .con tI :: aN 8 [.con ae, .con tI, .con tI], [.cells [.con tI, .con tI, .con tI, .con tI, .con tI, .con tI, .con tI, .con tI], .rowv tI]⟩, [ae])] }
def mP (ρ : Type) : bP ρ := ⟨[], 101, 2, xh, fun (p : Val (.pair tI (.pair ae (.pair tI (.pair tI ar))))) (v : Val ax) kn kx => fY p.1 p.2.2.2.2.1 p.2.2.2.2.2.1 v.1 v.2 (fun u0 u1 => kn (u0, u1)) (kx 0)⟩
def xi : bi := { pin := 0, cs := [ae, tI, tI, tI, tI, tI, tI, tI, tI, tI], vs := [tI, ae], head := ⟨48, .any :: .any :: .box 0 0 :: .any :: .any :: .own 1 :: aN 10 [.con ae, .con tI, .var tI], [.cells [.con tI, .con tI, .con tI, .con tI, .con tI, .con tI, .con tI, .con tI], .rowv tI]⟩, exits := [(.exit 0, ⟨48, .any :: .any :: .box 0 0 :: .any :: .any :: .own 1 :: aN 10 [.con ae, .con tI], [.cells [.con tI, .con tI, .con tI, .con tI, .con tI, .con tI, .con tI, .con tI], .rowv tI]⟩, [ae])] }
def mQ (ρ : Type) : bP ρ := ⟨[], 101, 0, xi, fun (p : Val (.pair ae (.pair tI ar))) (v : Val ax) kn kx => ik p.1 p.2.1 p.2.2.1 p.2.2.2.1 v.1 v.2 (fun u0 u1 => kn (u0, u1)) (kx 0)⟩
def Bv : List (Nat × bD) := []
def nH (ρ : Type) : List (bP ρ) := [mP ρ, mQ ρ]
def iN (ρ : Type) : Env ρ := bJ Bv (nH ρ)
def sS : bD := ⟨[eP], [tI], fun (x : Val eP) => jG x⟩
def vE : bi := { pin := 0, cs := [ae, tI, tI, tI, tI, tI, tI, tI, tI, tI], vs := [tI, tI], head := ⟨34, .any :: .box 0 0 :: .any :: .var tI :: aN 12 [.con ae, .con tI, .var tI], [.cells [.con tI, .con tI, .con tI, .con tI, .con tI, .con tI, .con tI, .con tI]]⟩, exits := [(.exit 0, ⟨34, .any :: .box 0 0 :: .any :: .var tI :: aN 12 [.con ae, .con tI], [.cells [.con tI, .con tI, .con tI, .con tI, .con tI, .con tI, .con tI, .con tI]]⟩, [tI])] }
def lP (ρ : Type) : bP ρ := ⟨[], 72, 0, vE, fun (p : Val (.pair ae (.pair tI ar))) (v : Val aY) kn kx => gU p.1 p.2.1 p.2.2.1 p.2.2.2.1 p.2.2.2.2.1 p.2.2.2.2.2.1 p.2.2.2.2.2.2.1 p.2.2.2.2.2.2.2.1 p.2.2.2.2.2.2.2.2.1 p.2.2.2.2.2.2.2.2.2 v.1 v.2 (fun u0 u1 => kn (u0, u1)) (kx 0)⟩
def yL : List (Nat × bD) := [(94, dX), (95, ql), (99, ow), (101, ox)]
def mN (ρ : Type) : List (bP ρ) := [lP ρ]
def kg (ρ : Type) : Env ρ := bJ yL (mN ρ)
def OW : bD := ⟨[ba, aY, bm], [tI, tI], fun (x : Val (.pair ba aQ)) => uw x.1 x.2.1 x.2.2⟩
def Ja : bi := { pin := 4, cs := [tI, tI, tI, ac, aa, af, ab, aa, tI, tI, tI, tI, ae, ae, tI, tI, tI, tI, aa], vs := [tI, tI, tI, ac, aa, af, ab, aa], head := ⟨68, .any :: .any :: .box 4 0 :: aN 20 [.own 3, .con tI, .var tI], [.cells [.con tI, .con tI, .con ac, .con aa, .con af, .con ab, .con aa], .cells [.con tI, .con tI], .cells [.con tI, .con tI, .con ae, .con ae, .con tI, .con tI, .con tI, .con tI], .rowc aY, .cells [.var tI, .var tI, .var ac, .var aa, .var af, .var ab, .var aa]]⟩, exits := [(.ret, ⟨68, .any :: .any :: .box 4 0 :: .any :: .nilp :: .var tI :: aN 17 [.own 3, .con tI], [.cells [.con tI, .con tI, .con ac, .con aa, .con af, .con ab, .con aa], .cells [.con tI, .con tI], .cells [.con tI, .con tI, .con ae, .con ae, .con tI, .con tI, .con tI, .con tI], .rowc aY, .cells [.var tI, .var tI, .var ac, .var aa, .var af, .var ab, .var aa]]⟩, [tI, tI, tI, ac, aa, af, ab, aa]), (.exit 0, ⟨68, .any :: .any :: .box 4 0 :: aN 20 [.own 3, .con tI], [.cells [.con tI, .con tI, .con ac, .con aa, .con af, .con ab, .con aa], .cells [.con tI, .con tI], .cells [.con tI, .con tI, .con ae, .con ae, .con tI, .con tI, .con tI, .con tI], .rowc aY, .cells [.var tI, .var tI, .var ac, .var aa, .var af, .var ab, .var aa]]⟩, [tI, tI, ac, aa, af, ab, aa])] }
def wd (ρ : Type) : bP ρ := ⟨[1, 3], 50, 0, Ja, fun (p : Val (.pair tI (.pair tI (.pair tI (.pair ac (.pair aa (.pair af (.pair ab (.pair aa (.pair tI (.pair tI (.pair tI (.pair tI (.pair ae (.pair ae (.pair tI (.pair tI aL))))))))))))))))) (v : Val ay) kn kx => tr p.1 p.2.2.2.2.2.2.2.2.2.2.2.2.2.2.2.2.2.2 v.1 v.2.1 v.2.2.1 v.2.2.2.1 v.2.2.2.2.1 v.2.2.2.2.2.1 v.2.2.2.2.2.2.1 v.2.2.2.2.2.2.2 (fun u0 u1 u2 u3 u4 u5 u6 u7 => kn (u0, u1, u2, u3, u4, u5, u6, u7)) (kx 0) (kx 1)⟩
def Pz : List (Nat × bD) := [(20, eI), (38, dQ), (60, iE), (61, nA), (71, Bm), (72, sS), (123, eE)]
def zf (ρ : Type) : List (bP ρ) := [wd ρ]
def xq (ρ : Type) : Env ρ := bJ Pz (zf ρ)
def w8 : bD := ⟨[bo, ae], [tI], fun (x : Val aU) => nj x.1 x.2⟩
def Ep : bi := { pin := 1, cs := [ae, tI, tI, ah], vs := [tI], head := ⟨19, .con ae :: .fn 206 [(0, 0)] :: aN 5 [.con tI, .var tI], [.cells [.con tI, .con ah]]⟩, exits := [(.ret, ⟨19, [.con ae, .fn 206 [(0, 0)], .any, .any, .var tI, .any, .any, .con tI], [.cells [.con tI, .con ah]]⟩, [tI]), (.exit 0, ⟨19, .con ae :: .fn 206 [(0, 0)] :: aN 5 [.con tI], [.cells [.con tI, .con ah]]⟩, [])] }
def sd (ρ : Type) : bP ρ := ⟨[3, 2, 1, 2], 178, 0, Ep, fun (p : Val (.pair ae aD)) (v : Val tI) kn kx => kK p.1 p.2.1 p.2.2.2 v (fun u0 => kn u0) (kx 0) (kx 1)⟩
def Ji : List (Nat × bD) := []
def tG (ρ : Type) : List (bP ρ) := [sd ρ]
def qL (ρ : Type) : Env ρ := bJ Ji (tG ρ)
def LI : bD := ⟨[bo, tI, ae], [tI, tI, .bool], fun (x : Val (.pair bo ax)) => AI x.1 x.2.1 x.2.2⟩
def MA : bi := { pin := 0, cs := [ae, tI, tI, ah], vs := [tI, tI, tI], head := ⟨37, .any :: .var tI :: .any :: .box 0 0 :: aN 5 [.var tI, .any, .any, .any, .con ae, .con tI, .var tI], [.cells [.con tI, .con ah]]⟩, exits := [(.ret, ⟨37, .any :: .any :: .any :: .box 0 0 :: .any :: .any :: .var tI :: .var tI :: .var .bool :: aN 4 [.con ae, .con tI], [.cells [.con tI, .con ah]]⟩, [tI, tI, .bool]), (.exit 0, ⟨37, .any :: .var tI :: .any :: .box 0 0 :: aN 5 [.var tI, .any, .any, .any, .con ae, .con tI], [.cells [.con tI, .con ah]]⟩, [tI, tI])] }
def zq (ρ : Type) : bP ρ := ⟨[], 146, 0, MA, fun (p : Val (.pair ae aD)) (v : Val ci) kn kx => qK p.1 p.2.1 p.2.2.2 v.1 v.2.1 v.2.2 (fun u0 u1 u2 => kn (u0, u1, u2)) (kx 0) (kx 1)⟩
def RS : List (Nat × bD) := []
def Dk (ρ : Type) : List (bP ρ) := [zq ρ]
def BQ (ρ : Type) : Env ρ := bJ RS (Dk ρ)
def vT : bD := ⟨[bo, tI, tI, ae], [tI, tI], fun (x : Val (.pair bo (.pair tI ax))) => iJ x.1 x.2.1 x.2.2.1 x.2.2.2⟩
def B6 : List (Nat × bD) := [(133, ph), (134, ER), (145, w8), (146, LI)]
def nZ (ρ : Type) : List (bP ρ) := []
def sg (ρ : Type) : Env ρ := bJ B6 (nZ ρ)
def qm : bD := ⟨[fK], [tI], fun (x : Val fK) => jI x⟩
def Ej : List (Nat × bD) := [(20, eI), (38, dQ), (60, iE), (76, vT)]
def pF (ρ : Type) : List (bP ρ) := []
def tB (ρ : Type) : Env ρ := bJ Ej (pF ρ)
def vS : bD := ⟨[bo, ae], [tI], fun (x : Val aU) => kO x.1 x.2⟩
def B5 : List (Nat × bD) := [(133, ph), (145, w8), (146, LI)]
def nY (ρ : Type) : List (bP ρ) := []
def sf (ρ : Type) : Env ρ := bJ B5 (nY ρ)
def vR : bD := ⟨[fK], [tI], fun (x : Val fK) => kM x⟩
def BK : List (Nat × bD) := [(20, eI), (38, dQ), (86, vS)]
def nT (ρ : Type) : List (bP ρ) := []
def rX (ρ : Type) : Env ρ := bJ BK (nT ρ)
def gH : bD := ⟨[ac, bj], [tI], fun (x : Val (.pair ac bj)) => eo x.1 x.2⟩
def ji : bi := { pin := 0, cs := [ac, tI, tI, tI, tI, tI, tI, tI, tI, tI], vs := [tI], head := ⟨19, [.con ac, .any, .any, .box 0 0, .any, .any, .any, .con tI, .var tI], [.cells [.con tI, .con tI, .con tI, .con tI, .con tI, .con tI, .con tI, .con tI]]⟩, exits := [(.ret, ⟨19, [.con ac, .any, .any, .box 0 0, .var tI, .any, .any, .con tI], [.cells [.con tI, .con tI, .con tI, .con tI, .con tI, .con tI, .con tI, .con tI]]⟩, [tI]), (.exit 0, ⟨19, [.con ac, .any, .any, .box 0 0, .any, .any, .any, .con tI], [.cells [.con tI, .con tI, .con tI, .con tI, .con tI, .con tI, .con tI, .con tI]]⟩, [])] }
def fh (ρ : Type) : bP ρ := ⟨[], 254, 0, ji, fun (p : Val (.pair ac (.pair tI ar))) (v : Val tI) kn kx => cf p.1 p.2.1 p.2.2.1 p.2.2.2.1 p.2.2.2.2.1 p.2.2.2.2.2.1 p.2.2.2.2.2.2.1 p.2.2.2.2.2.2.2.1 p.2.2.2.2.2.2.2.2.1 p.2.2.2.2.2.2.2.2.2 v (fun u0 => kn u0) (kx 0) (kx 1)⟩
def jS : List (Nat × bD) := []
def fA (ρ : Type) : List (bP ρ) := [fh ρ]
def dK (ρ : Type) : Env ρ := bJ jS (fA ρ)
def fM : bD := ⟨[ac, bj], [.bool], fun (x : Val (.pair ac bj)) => cN x.1 x.2⟩
def iW : List (Nat × bD) := [(254, gH)]
def eF (ρ : Type) : List (bP ρ) := []
def fj (ρ : Type) : Env ρ := bJ iW (eF ρ)
def iC : bD := ⟨[aa, aY], [tI], fun (x : Val aS) => fH x.1 x.2⟩
def kV : bi := { pin := 0, cs := [aa, tI, tI, tI], vs := [tI], head := ⟨19, [.con aa, .any, .any, .box 0 0, .any, .any, .any, .con tI, .var tI], [.cells [.con tI, .con tI]]⟩, exits := [(.ret, ⟨19, [.con aa, .any, .any, .box 0 0, .var tI, .any, .any, .con tI], [.cells [.con tI, .con tI]]⟩, [tI]), (.exit 0, ⟨19, [.con aa, .any, .any, .box 0 0, .any, .any, .any, .con tI], [.cells [.con tI, .con tI]]⟩, [])] }
def gh (ρ : Type) : bP ρ := ⟨[], 256, 0, kV, fun (p : Val (.pair aa ci)) (v : Val tI) kn kx => cB p.1 p.2.1 p.2.2.1 p.2.2.2 v (fun u0 => kn u0) (kx 0) (kx 1)⟩
def lZ : List (Nat × bD) := []
def gJ (ρ : Type) : List (bP ρ) := [gh ρ]
def eT (ρ : Type) : Env ρ := bJ lZ (gJ ρ)
def gS : bD := ⟨[aa, aY], [.bool], fun (x : Val aS) => cG x.1 x.2⟩
def kf : List (Nat × bD) := [(256, iC)]
def fP (ρ : Type) : List (bP ρ) := []
def gi (ρ : Type) : Env ρ := bJ kf (fP ρ)
def gY : bD := ⟨[af, dr], [tI], fun (x : Val (.pair af dr)) => eY x.1 x.2⟩
def jR : bi := { pin := 0, cs := [af, tI, tI, tI, tI, tI], vs := [tI], head := ⟨19, [.con af, .any, .any, .box 0 0, .any, .any, .any, .con tI, .var tI], [.cells [.con tI, .con tI, .con tI, .con tI]]⟩, exits := [(.ret, ⟨19, [.con af, .any, .any, .box 0 0, .var tI, .any, .any, .con tI], [.cells [.con tI, .con tI, .con tI, .con tI]]⟩, [tI]), (.exit 0, ⟨19, [.con af, .any, .any, .box 0 0, .any, .any, .any, .con tI], [.cells [.con tI, .con tI, .con tI, .con tI]]⟩, [])] }
def fO (ρ : Type) : bP ρ := ⟨[], 258, 0, jR, fun (p : Val (.pair af (.pair tI (.pair tI ci)))) (v : Val tI) kn kx => cm p.1 p.2.1 p.2.2.1 p.2.2.2.1 p.2.2.2.2.1 p.2.2.2.2.2 v (fun u0 => kn u0) (kx 0) (kx 1)⟩
def kX : List (Nat × bD) := []
def fX (ρ : Type) : List (bP ρ) := [fO ρ]
def eh (ρ : Type) : Env ρ := bJ kX (fX ρ)
def gd : bD := ⟨[af, dr], [.bool], fun (x : Val (.pair af dr)) => cn x.1 x.2⟩
def jx : List (Nat × bD) := [(258, gY)]
def fi (ρ : Type) : List (bP ρ) := []
def fQ (ρ : Type) : Env ρ := bJ jx (fi ρ)
def Tv : bD := ⟨[ba, ba], [.bool], fun (x : Val (.pair ba ba)) => AD x.1 x.2⟩
def Mg : bi := { pin := 0, cs := [ac, tI, tI, tI, ac, aa, af, ab, aa, tI, tI, ac, aa, af, ab, aa], vs := [tI, aj], head := ⟨87, .any :: .any :: .box 0 0 :: .box 1 0 :: .any :: .box 2 0 :: aN 10 [.con ac, .con tI, .var tI], [.cells [.con tI, .con tI, .con ac, .con aa, .con af, .con ab, .con aa], .cells [.con tI, .con tI, .con ac, .con aa, .con af, .con ab, .con aa], .cells [.omp 3], .mapv tI .bool]⟩, exits := [(.exit 0, ⟨87, .any :: .any :: .box 0 0 :: .box 1 0 :: .any :: .box 2 0 :: aN 10 [.con ac, .con tI], [.cells [.con tI, .con tI, .con ac, .con aa, .con af, .con ab, .con aa], .cells [.con tI, .con tI, .con ac, .con aa, .con af, .con ab, .con aa], .cells [.omp 3], .mapv tI .bool]⟩, [aj])] }
def za (ρ : Type) : bP ρ := ⟨[], 77, 0, Mg, fun (p : Val (.pair ac (.pair tI (.pair tI (.pair tI (.pair ac (.pair aa (.pair af (.pair ab (.pair aa ai)))))))))) (v : Val (.pair tI aj)) kn kx => qz p.1 p.2.1 v.1 v.2 (fun u0 u1 => kn (u0, u1)) (kx 0)⟩
def Mc : bi := { pin := 6, cs := [ae, ae, tI, tI, tI, ac, aa, af, ab, aa, tI, tI, ac, aa, af, ab, aa, aj, tI, tI, ae, ae, tI, tI, tI, tI, tI, tI, ae, ae, tI, tI, tI, tI], vs := [tI], head := ⟨26, .con ae :: .con ae :: aN 10 [.con tI, .var tI], [.cells [.con tI, .con tI, .con ac, .con aa, .con af, .con ab, .con aa], .cells [.con tI, .con tI, .con ac, .con aa, .con af, .con ab, .con aa], .cells [.omp 3], .mapc tI .bool, .cells [.con tI, .con tI, .con ae, .con ae, .con tI, .con tI, .con tI, .con tI], .cells [.con tI, .con tI, .con ae, .con ae, .con tI, .con tI, .con tI, .con tI]]⟩, exits := [(.ret, ⟨26, .con ae :: .con ae :: .any :: .any :: .var .bool :: aN 7 [.con tI], [.cells [.con tI, .con tI, .con ac, .con aa, .con af, .con ab, .con aa], .cells [.con tI, .con tI, .con ac, .con aa, .con af, .con ab, .con aa], .cells [.omp 3], .mapc tI .bool, .cells [.con tI, .con tI, .con ae, .con ae, .con tI, .con tI, .con tI, .con tI], .cells [.con tI, .con tI, .con ae, .con ae, .con tI, .con tI, .con tI, .con tI]]⟩, [.bool]), (.exit 0, ⟨26, .con ae :: .con ae :: aN 10 [.con tI], [.cells [.con tI, .con tI, .con ac, .con aa, .con af, .con ab, .con aa], .cells [.con tI, .con tI, .con ac, .con aa, .con af, .con ab, .con aa], .cells [.omp 3], .mapc tI .bool, .cells [.con tI, .con tI, .con ae, .con ae, .con tI, .con tI, .con tI, .con tI], .cells [.con tI, .con tI, .con ae, .con ae, .con tI, .con tI, .con tI, .con tI]]⟩, [])] }
def yY (ρ : Type) : bP ρ := ⟨[14, 3, 1, 2, 4, 5, 1, 38], 151, 0, Mc, fun (p : Val (.pair ae (.pair ae (.pair tI (.pair tI (.pair tI (.pair ac (.pair aa (.pair af (.pair ab (.pair aa (.pair tI (.pair tI (.pair ac (.pair aa (.pair af (.pair ab (.pair aa (.pair aj (.pair tI (.pair tI (.pair ae (.pair ae (.pair tI (.pair tI (.pair tI (.pair tI bm))))))))))))))))))))))))))) (v : Val tI) kn kx => km p.1 p.2.1 p.2.2.1 v (fun u0 => kn u0) (kx 0) (kx 1)⟩
def Mb : bi := { pin := 6, cs := [ae, ae, tI, tI, tI, ac, aa, af, ab, aa, tI, tI, ac, aa, af, ab, aa, aj, tI, tI, ae, ae, tI, tI, tI, tI, tI, tI, ae, ae, tI, tI, tI, tI], vs := [tI], head := ⟨26, .con ae :: .con ae :: aN 10 [.con tI, .var tI], [.cells [.con tI, .con tI, .con ac, .con aa, .con af, .con ab, .con aa], .cells [.con tI, .con tI, .con ac, .con aa, .con af, .con ab, .con aa], .cells [.omp 3], .mapc tI .bool, .cells [.con tI, .con tI, .con ae, .con ae, .con tI, .con tI, .con tI, .con tI], .cells [.con tI, .con tI, .con ae, .con ae, .con tI, .con tI, .con tI, .con tI]]⟩, exits := [(.ret, ⟨26, .con ae :: .con ae :: .any :: .any :: .var .bool :: aN 7 [.con tI], [.cells [.con tI, .con tI, .con ac, .con aa, .con af, .con ab, .con aa], .cells [.con tI, .con tI, .con ac, .con aa, .con af, .con ab, .con aa], .cells [.omp 3], .mapc tI .bool, .cells [.con tI, .con tI, .con ae, .con ae, .con tI, .con tI, .con tI, .con tI], .cells [.con tI, .con tI, .con ae, .con ae, .con tI, .con tI, .con tI, .con tI]]⟩, [.bool]), (.exit 0, ⟨26, .con ae :: .con ae :: aN 10 [.con tI], [.cells [.con tI, .con tI, .con ac, .con aa, .con af, .con ab, .con aa], .cells [.con tI, .con tI, .con ac, .con aa, .con af, .con ab, .con aa], .cells [.omp 3], .mapc tI .bool, .cells [.con tI, .con tI, .con ae, .con ae, .con tI, .con tI, .con tI, .con tI], .cells [.con tI, .con tI, .con ae, .con ae, .con tI, .con tI, .con tI, .con tI]]⟩, [])] }
def yX (ρ : Type) : bP ρ := ⟨[14, 3, 1, 2, 4, 5, 1, 45], 151, 0, Mb, fun (p : Val (.pair ae (.pair ae (.pair tI (.pair tI (.pair tI (.pair ac (.pair aa (.pair af (.pair ab (.pair aa (.pair tI (.pair tI (.pair ac (.pair aa (.pair af (.pair ab (.pair aa (.pair aj (.pair tI (.pair tI (.pair ae (.pair ae (.pair tI (.pair tI (.pair tI (.pair tI bm))))))))))))))))))))))))))) (v : Val tI) kn kx => qy p.1 p.2.1 p.2.2.1 v (fun u0 => kn u0) (kx 0) (kx 1)⟩
def Md : bi := { pin := 5, cs := [ab, tI, tI, tI, ac, aa, af, ab, aa, tI, tI, ac, aa, af, ab, aa, aj, tI, tI, ae, ae, tI, tI, tI, tI], vs := [tI], head := ⟨19, .con ab :: .fn 150 [(4, 0)] :: aN 5 [.con tI, .var tI], [.cells [.con tI, .con tI, .con ac, .con aa, .con af, .con ab, .con aa], .cells [.con tI, .con tI, .con ac, .con aa, .con af, .con ab, .con aa], .cells [.omp 3], .mapc tI .bool, .cells [.con tI, .con tI, .con ae, .con ae, .con tI, .con tI, .con tI, .con tI]]⟩, exits := [(.ret, ⟨19, [.con ab, .fn 150 [(4, 0)], .any, .any, .var tI, .any, .any, .con tI], [.cells [.con tI, .con tI, .con ac, .con aa, .con af, .con ab, .con aa], .cells [.con tI, .con tI, .con ac, .con aa, .con af, .con ab, .con aa], .cells [.omp 3], .mapc tI .bool, .cells [.con tI, .con tI, .con ae, .con ae, .con tI, .con tI, .con tI, .con tI]]⟩, [tI]), (.exit 0, ⟨19, .con ab :: .fn 150 [(4, 0)] :: aN 5 [.con tI], [.cells [.con tI, .con tI, .con ac, .con aa, .con af, .con ab, .con aa], .cells [.con tI, .con tI, .con ac, .con aa, .con af, .con ab, .con aa], .cells [.omp 3], .mapc tI .bool, .cells [.con tI, .con tI, .con ae, .con ae, .con tI, .con tI, .con tI, .con tI]]⟩, [])] }
def yZ (ρ : Type) : bP ρ := ⟨[14, 3, 1, 2], 207, 0, Md, fun (p : Val (.pair ab (.pair tI (.pair tI (.pair tI (.pair ac (.pair aa (.pair af (.pair ab (.pair aa (.pair tI (.pair tI (.pair ac (.pair aa (.pair af (.pair ab (.pair aa (.pair aj bm)))))))))))))))))) (v : Val tI) kn kx => mT p.1 p.2.1 p.2.2.2.2.2.2.2.2.2.2.2.2.2.2.2.2.2.1 p.2.2.2.2.2.2.2.2.2.2.2.2.2.2.2.2.2.2.1 p.2.2.2.2.2.2.2.2.2.2.2.2.2.2.2.2.2.2.2.1 p.2.2.2.2.2.2.2.2.2.2.2.2.2.2.2.2.2.2.2.2.1 p.2.2.2.2.2.2.2.2.2.2.2.2.2.2.2.2.2.2.2.2.2.1 p.2.2.2.2.2.2.2.2.2.2.2.2.2.2.2.2.2.2.2.2.2.2.1 p.2.2.2.2.2.2.2.2.2.2.2.2.2.2.2.2.2.2.2.2.2.2.2.1 p.2.2.2.2.2.2.2.2.2.2.2.2.2.2.2.2.2.2.2.2.2.2.2.2 v (fun u0 => kn u0) (kx 0) (kx 1)⟩
def Me : bi := { pin := 0, cs := [ab, tI, tI, tI, ac, aa, af, ab, aa, tI, tI, ac, aa, af, ab, aa, aj], vs := [tI], head := ⟨87, .any :: .any :: .box 0 0 :: .box 1 0 :: aN 4 (.fn 147 [] :: .fn 148 [(2, 0)] :: .fn 149 [(2, 0)] :: aN 18 [.con ab, .con tI, .var tI]), [.cells [.con tI, .con tI, .con ac, .con aa, .con af, .con ab, .con aa], .cells [.con tI, .con tI, .con ac, .con aa, .con af, .con ab, .con aa], .cells [.omp 3], .mapc tI .bool]⟩, exits := [(.ret, ⟨87, .any :: .any :: .box 0 0 :: .box 1 0 :: .var .bool :: .any :: .any :: .any :: .fn 147 [] :: .fn 148 [(2, 0)] :: .fn 149 [(2, 0)] :: aN 18 [.con ab, .con tI], [.cells [.con tI, .con tI, .con ac, .con aa, .con af, .con ab, .con aa], .cells [.con tI, .con tI, .con ac, .con aa, .con af, .con ab, .con aa], .cells [.omp 3], .mapc tI .bool]⟩, [.bool]), (.exit 2, ⟨87, .any :: .any :: .box 0 0 :: .box 1 0 :: aN 4 (.fn 147 [] :: .fn 148 [(2, 0)] :: .fn 149 [(2, 0)] :: aN 18 [.con ab, .con tI]), [.cells [.con tI, .con tI, .con ac, .con aa, .con af, .con ab, .con aa], .cells [.con tI, .con tI, .con ac, .con aa, .con af, .con ab, .con aa], .cells [.omp 3], .mapc tI .bool]⟩, [])] }
def y0 (ρ : Type) : bP ρ := ⟨[], 77, 2, Me, fun (p : Val (.pair ab (.pair tI (.pair tI (.pair tI (.pair ac (.pair aa (.pair af (.pair ab (.pair aa (.pair tI (.pair tI (.pair ac (.pair aa (.pair af (.pair ab (.pair aa aj))))))))))))))))) (v : Val tI) kn kx => mU p.1 p.2.1 p.2.2.2.2.2.2.2.2.2.2.2.2.2.2.1 v (fun u0 => kn u0) (kx 0) (kx 1)⟩
def Ma : bi := { pin := 6, cs := [ac, tI, tI, tI, ac, aa, af, ab, aa, tI, tI, ac, aa, af, ab, aa, aj, ac], vs := [tI], head := ⟨19, .con ac :: .fn 209 [(5, 0), (4, 0)] :: aN 5 [.con tI, .var tI], [.cells [.con tI, .con tI, .con ac, .con aa, .con af, .con ab, .con aa], .cells [.con tI, .con tI, .con ac, .con aa, .con af, .con ab, .con aa], .cells [.omp 3], .mapc tI .bool, .cells [.con ac], .cells [.fn 147 []]]⟩, exits := [(.ret, ⟨19, [.con ac, .fn 209 [(5, 0), (4, 0)], .any, .any, .var tI, .any, .any, .con tI], [.cells [.con tI, .con tI, .con ac, .con aa, .con af, .con ab, .con aa], .cells [.con tI, .con tI, .con ac, .con aa, .con af, .con ab, .con aa], .cells [.omp 3], .mapc tI .bool, .cells [.con ac], .cells [.fn 147 []]]⟩, [tI]), (.exit 0, ⟨19, .con ac :: .fn 209 [(5, 0), (4, 0)] :: aN 5 [.con tI], [.cells [.con tI, .con tI, .con ac, .con aa, .con af, .con ab, .con aa], .cells [.con tI, .con tI, .con ac, .con aa, .con af, .con ab, .con aa], .cells [.omp 3], .mapc tI .bool, .cells [.con ac], .cells [.fn 147 []]]⟩, [])] }
def yW (ρ : Type) : bP ρ := ⟨[17, 11, 1, 2, 1, 2], 253, 0, Ma, fun (p : Val (.pair ac (.pair tI (.pair tI (.pair tI (.pair ac (.pair aa (.pair af (.pair ab (.pair aa (.pair tI (.pair tI (.pair ac (.pair aa (.pair af (.pair ab (.pair aa (.pair aj ac)))))))))))))))))) (v : Val tI) kn kx => mS p.1 p.2.1 p.2.2.2.2.2.2.2.2.2.2.2.2.2.2.2.2.2 v (fun u0 => kn u0) (kx 0) (kx 1)⟩
def L9 : bi := { pin := 8, cs := [aa, tI, tI, tI, ac, aa, af, ab, aa, tI, tI, ac, aa, af, ab, aa, aj, ac, aa], vs := [tI], head := ⟨19, .con aa :: .fn 212 [(7, 0), (6, 0)] :: aN 5 [.con tI, .var tI], [.cells [.con tI, .con tI, .con ac, .con aa, .con af, .con ab, .con aa], .cells [.con tI, .con tI, .con ac, .con aa, .con af, .con ab, .con aa], .cells [.omp 3], .mapc tI .bool, .cells [.con ac], .cells [.fn 147 []], .cells [.con aa], .cells [.fn 148 [(2, 0)]]]⟩, exits := [(.ret, ⟨19, [.con aa, .fn 212 [(7, 0), (6, 0)], .any, .any, .var tI, .any, .any, .con tI], [.cells [.con tI, .con tI, .con ac, .con aa, .con af, .con ab, .con aa], .cells [.con tI, .con tI, .con ac, .con aa, .con af, .con ab, .con aa], .cells [.omp 3], .mapc tI .bool, .cells [.con ac], .cells [.fn 147 []], .cells [.con aa], .cells [.fn 148 [(2, 0)]]]⟩, [tI]), (.exit 0, ⟨19, .con aa :: .fn 212 [(7, 0), (6, 0)] :: aN 5 [.con tI], [.cells [.con tI, .con tI, .con ac, .con aa, .con af, .con ab, .con aa], .cells [.con tI, .con tI, .con ac, .con aa, .con af, .con ab, .con aa], .cells [.omp 3], .mapc tI .bool, .cells [.con ac], .cells [.fn 147 []], .cells [.con aa], .cells [.fn 148 [(2, 0)]]]⟩, [])] }
def yV (ρ : Type) : bP ρ := ⟨[17, 19, 1, 2, 1, 2], 255, 0, L9, fun (p : Val (.pair aa (.pair tI (.pair tI (.pair tI (.pair ac (.pair aa (.pair af (.pair ab (.pair aa (.pair tI (.pair tI (.pair ac (.pair aa (.pair af (.pair ab (.pair aa (.pair aj (.pair ac aa))))))))))))))))))) (v : Val tI) kn kx => iY p.1 p.2.1 p.2.2.2.2.2.2.2.2.2.2.2.2.2.2.2.2.1 p.2.2.2.2.2.2.2.2.2.2.2.2.2.2.2.2.2.2 v (fun u0 => kn u0) (kx 0) (kx 1)⟩
def L8 : bi := { pin := 10, cs := [aa, tI, tI, tI, ac, aa, af, ab, aa, tI, tI, ac, aa, af, ab, aa, aj, ac, aa, aa], vs := [tI], head := ⟨19, .con aa :: .fn 212 [(9, 0), (8, 0)] :: aN 5 [.con tI, .var tI], [.cells [.con tI, .con tI, .con ac, .con aa, .con af, .con ab, .con aa], .cells [.con tI, .con tI, .con ac, .con aa, .con af, .con ab, .con aa], .cells [.omp 3], .mapc tI .bool, .cells [.con ac], .cells [.fn 147 []], .cells [.con aa], .cells [.fn 148 [(2, 0)]], .cells [.con aa], .cells [.fn 148 [(2, 0)]]]⟩, exits := [(.ret, ⟨19, [.con aa, .fn 212 [(9, 0), (8, 0)], .any, .any, .var tI, .any, .any, .con tI], [.cells [.con tI, .con tI, .con ac, .con aa, .con af, .con ab, .con aa], .cells [.con tI, .con tI, .con ac, .con aa, .con af, .con ab, .con aa], .cells [.omp 3], .mapc tI .bool, .cells [.con ac], .cells [.fn 147 []], .cells [.con aa], .cells [.fn 148 [(2, 0)]], .cells [.con aa], .cells [.fn 148 [(2, 0)]]]⟩, [tI]), (.exit 0, ⟨19, .con aa :: .fn 212 [(9, 0), (8, 0)] :: aN 5 [.con tI], [.cells [.con tI, .con tI, .con ac, .con aa, .con af, .con ab, .con aa], .cells [.con tI, .con tI, .con ac, .con aa, .con af, .con ab, .con aa], .cells [.omp 3], .mapc tI .bool, .cells [.con ac], .cells [.fn 147 []], .cells [.con aa], .cells [.fn 148 [(2, 0)]], .cells [.con aa], .cells [.fn 148 [(2, 0)]]]⟩, [])] }
def yU (ρ : Type) : bP ρ := ⟨[17, 27, 1, 2, 1, 2], 255, 0, L8, fun (p : Val (.pair aa (.pair tI (.pair tI (.pair tI (.pair ac (.pair aa (.pair af (.pair ab (.pair aa (.pair tI (.pair tI (.pair ac (.pair aa (.pair af (.pair ab (.pair aa (.pair aj (.pair ac (.pair aa aa)))))))))))))))))))) (v : Val tI) kn kx => kj p.1 p.2.1 p.2.2.2.2.2.2.2.2.2.2.2.2.2.2.2.2.1 p.2.2.2.2.2.2.2.2.2.2.2.2.2.2.2.2.2.2.2 v (fun u0 => kn u0) (kx 0) (kx 1)⟩
def L7 : bi := { pin := 12, cs := [af, tI, tI, tI, ac, aa, af, ab, aa, tI, tI, ac, aa, af, ab, aa, aj, ac, aa, aa, af], vs := [tI], head := ⟨19, .con af :: .fn 215 [(11, 0), (10, 0)] :: aN 5 [.con tI, .var tI], [.cells [.con tI, .con tI, .con ac, .con aa, .con af, .con ab, .con aa], .cells [.con tI, .con tI, .con ac, .con aa, .con af, .con ab, .con aa], .cells [.omp 3], .mapc tI .bool, .cells [.con ac], .cells [.fn 147 []], .cells [.con aa], .cells [.fn 148 [(2, 0)]], .cells [.con aa], .cells [.fn 148 [(2, 0)]], .cells [.con af], .cells [.fn 149 [(2, 0)]]]⟩, exits := [(.ret, ⟨19, [.con af, .fn 215 [(11, 0), (10, 0)], .any, .any, .var tI, .any, .any, .con tI], [.cells [.con tI, .con tI, .con ac, .con aa, .con af, .con ab, .con aa], .cells [.con tI, .con tI, .con ac, .con aa, .con af, .con ab, .con aa], .cells [.omp 3], .mapc tI .bool, .cells [.con ac], .cells [.fn 147 []], .cells [.con aa], .cells [.fn 148 [(2, 0)]], .cells [.con aa], .cells [.fn 148 [(2, 0)]], .cells [.con af], .cells [.fn 149 [(2, 0)]]]⟩, [tI]), (.exit 0, ⟨19, .con af :: .fn 215 [(11, 0), (10, 0)] :: aN 5 [.con tI], [.cells [.con tI, .con tI, .con ac, .con aa, .con af, .con ab, .con aa], .cells [.con tI, .con tI, .con ac, .con aa, .con af, .con ab, .con aa], .cells [.omp 3], .mapc tI .bool, .cells [.con ac], .cells [.fn 147 []], .cells [.con aa], .cells [.fn 148 [(2, 0)]], .cells [.con aa], .cells [.fn 148 [(2, 0)]], .cells [.con af], .cells [.fn 149 [(2, 0)]]]⟩, [])] }
def yT (ρ : Type) : bP ρ := ⟨[17, 35, 1, 2, 1, 2], 257, 0, L7, fun (p : Val (.pair af (.pair tI (.pair tI (.pair tI (.pair ac (.pair aa (.pair af (.pair ab (.pair aa (.pair tI (.pair tI (.pair ac (.pair aa (.pair af (.pair ab (.pair aa (.pair aj (.pair ac (.pair aa (.pair aa af))))))))))))))))))))) (v : Val tI) kn kx => du p.1 p.2.1 p.2.2.2.2.2.2.2.2.2.2.2.2.2.2.2.2.1 p.2.2.2.2.2.2.2.2.2.2.2.2.2.2.2.2.2.2.2.2 v (fun u0 => kn u0) (kx 0) (kx 1)⟩
def L6 : bi := { pin := 14, cs := [af, tI, tI, tI, ac, aa, af, ab, aa, tI, tI, ac, aa, af, ab, aa, aj, ac, aa, aa, af, af], vs := [tI], head := ⟨19, .con af :: .fn 215 [(13, 0), (12, 0)] :: aN 5 [.con tI, .var tI], [.cells [.con tI, .con tI, .con ac, .con aa, .con af, .con ab, .con aa], .cells [.con tI, .con tI, .con ac, .con aa, .con af, .con ab, .con aa], .cells [.omp 3], .mapc tI .bool, .cells [.con ac], .cells [.fn 147 []], .cells [.con aa], .cells [.fn 148 [(2, 0)]], .cells [.con aa], .cells [.fn 148 [(2, 0)]], .cells [.con af], .cells [.fn 149 [(2, 0)]], .cells [.con af], .cells [.fn 149 [(2, 0)]]]⟩, exits := [(.ret, ⟨19, [.con af, .fn 215 [(13, 0), (12, 0)], .any, .any, .var tI, .any, .any, .con tI], [.cells [.con tI, .con tI, .con ac, .con aa, .con af, .con ab, .con aa], .cells [.con tI, .con tI, .con ac, .con aa, .con af, .con ab, .con aa], .cells [.omp 3], .mapc tI .bool, .cells [.con ac], .cells [.fn 147 []], .cells [.con aa], .cells [.fn 148 [(2, 0)]], .cells [.con aa], .cells [.fn 148 [(2, 0)]], .cells [.con af], .cells [.fn 149 [(2, 0)]], .cells [.con af], .cells [.fn 149 [(2, 0)]]]⟩, [tI]), (.exit 0, ⟨19, .con af :: .fn 215 [(13, 0), (12, 0)] :: aN 5 [.con tI], [.cells [.con tI, .con tI, .con ac, .con aa, .con af, .con ab, .con aa], .cells [.con tI, .con tI, .con ac, .con aa, .con af, .con ab, .con aa], .cells [.omp 3], .mapc tI .bool, .cells [.con ac], .cells [.fn 147 []], .cells [.con aa], .cells [.fn 148 [(2, 0)]], .cells [.con aa], .cells [.fn 148 [(2, 0)]], .cells [.con af], .cells [.fn 149 [(2, 0)]], .cells [.con af], .cells [.fn 149 [(2, 0)]]]⟩, [])] }
def yS (ρ : Type) : bP ρ := ⟨[17, 43, 1, 2, 1, 2], 257, 0, L6, fun (p : Val (.pair af (.pair tI (.pair tI (.pair tI (.pair ac (.pair aa (.pair af (.pair ab (.pair aa (.pair tI (.pair tI (.pair ac (.pair aa (.pair af (.pair ab (.pair aa (.pair aj (.pair ac (.pair aa (.pair aa (.pair af af)))))))))))))))))))))) (v : Val tI) kn kx => cz p.1 p.2.1 p.2.2.2.2.2.2.2.2.2.2.2.2.2.2.2.2.1 p.2.2.2.2.2.2.2.2.2.2.2.2.2.2.2.2.2.2.2.2.2 v (fun u0 => kn u0) (kx 0) (kx 1)⟩
def RM : List (Nat × bD) := [(210, fM), (213, gS), (216, gd)]
def Db (ρ : Type) : List (bP ρ) := [za ρ, yY ρ, yX ρ, yZ ρ, y0 ρ, yW ρ, yV ρ, yU ρ, yT ρ, yS ρ]
def fo (ρ : Type) : Env ρ := bJ RM (Db ρ)
def Km : bD := ⟨[ba, fK], [.bool, tI], fun (x : Val (.pair ba fK)) => vp x.1 x.2⟩
def Mu : List (Nat × bD) := [(33, qm), (38, dQ), (39, vR), (77, Tv)]
def we (ρ : Type) : List (bP ρ) := []
def Di (ρ : Type) : Env ρ := bJ Mu (we ρ)
def FL : bD := ⟨[bo, tI, tI], [am], fun (x : Val aR) => uz x.1 x.2.1 x.2.2⟩
def UT : bi := { pin := 0, cs := [tI, tI, tI, tI, ah], vs := [tI, ae], head := ⟨45, .any :: .con tI :: .con tI :: .box 0 0 :: .any :: .any :: .any :: .own 1 :: aN 7 [.con tI, .var tI], [.cells [.con tI, .con ah], .rowv tI]⟩, exits := [(.exit 0, ⟨45, .any :: .con tI :: .con tI :: .box 0 0 :: .any :: .any :: .any :: .own 1 :: aN 7 [.con tI], [.cells [.con tI, .con ah], .rowv tI]⟩, [ae])] }
def KG (ρ : Type) : bP ρ := ⟨[], 156, 0, UT, fun (p : Val (.pair tI (.pair tI aD))) (v : Val ax) kn kx => vf p.2.2.1 v.1 v.2 (fun u0 u1 => kn (u0, u1)) (kx 0)⟩
def UR : bi := { pin := 4, cs := [ae, tI, am, tI, ah], vs := [tI, ae], head := ⟨53, .con ae :: .box 1 0 :: .any :: .any :: .own 4 :: aN 7 [.con tI, .var tI], [.rowc ae, .cells [.con tI, .con ah], .dead, .dead, .rowv tI]⟩, exits := [(.exit 0, ⟨53, .con ae :: .box 1 0 :: .any :: .any :: .own 4 :: aN 7 [.con tI], [.rowc ae, .cells [.con tI, .con ah], .dead, .dead, .rowv tI]⟩, [ae])] }
def KD (ρ : Type) : bP ρ := ⟨[12, 8], 217, 0, UR, fun (p : Val (.pair ae (.pair tI (.pair am bo)))) (v : Val ax) kn kx => MD p.2.1 v.1 v.2 (fun u0 u1 => kn (u0, u1)) (kx 0)⟩
def UQ : bi := { pin := 4, cs := [ae, ah, tI, am, tI, ah], vs := [tI, ae], head := ⟨53, .con ae :: .any :: .any :: .any :: .own 4 :: aN 16 [.con ah, .con tI, .var tI], [.rowc ae, .cells [.con tI, .con ah], .dead, .dead, .rowv tI]⟩, exits := [(.exit 2, ⟨53, .con ae :: .any :: .any :: .any :: .own 4 :: aN 16 [.con ah, .con tI], [.rowc ae, .cells [.con tI, .con ah], .dead, .dead, .rowv tI]⟩, [ae])] }
def KC (ρ : Type) : bP ρ := ⟨[12, 8], 217, 2, UQ, fun (p : Val (.pair ae (.pair ah (.pair tI (.pair am bo))))) (v : Val ax) kn kx => zy p.1 p.2.1 p.2.2.1 v.1 v.2 (fun u0 u1 => kn (u0, u1)) (kx 0)⟩
def US : bi := { pin := 0, cs := [tI, tI, ah], vs := [tI, am], head := ⟨45, aN 9 (.own 0 :: .fn 217 [(1, 0)] :: aN 18 [.con tI, .var tI]), [.rowv ae, .cells [.con tI, .con ah]]⟩, exits := [(.exit 2, ⟨45, aN 9 (.own 0 :: .fn 217 [(1, 0)] :: aN 18 [.con tI]), [.rowv ae, .cells [.con tI, .con ah]]⟩, [am])] }
def KE (ρ : Type) : bP ρ := ⟨[], 156, 2, US, fun (p : Val aD) (v : Val (.pair tI am)) kn kx => EX p.1 p.2.1 p.2.2 v.1 v.2 (fun u0 u1 => kn (u0, u1)) (kx 0)⟩
def YW : List (Nat × bD) := []
def PF (ρ : Type) : List (bP ρ) := [KG ρ, KD ρ, KC ρ, KE ρ]
def BZ (ρ : Type) : Env ρ := bJ YW (PF ρ)
def O0 : bD := ⟨[bo], [ae, tI], fun (x : Val bo) => uA x⟩
def Jp : bi := { pin := 0, cs := [tI, tI, ah], vs := [tI, aH], head := ⟨93, .any :: .box 0 0 :: aN 6 (.own 1 :: aN 24 [.con tI, .var tI]), [.cells [.con tI, .con ah], .rowv am]⟩, exits := [(.exit 0, ⟨93, .any :: .box 0 0 :: aN 6 (.own 1 :: aN 24 [.con tI]), [.cells [.con tI, .con ah], .rowv am]⟩, [aH])] }
def wo (ρ : Type) : bP ρ := ⟨[], 78, 0, Jp, fun (p : Val aD) (v : Val (.pair tI aH)) kn kx => Dr p.1 p.2.1 p.2.2 v.1 v.2 (fun u0 u1 => kn (u0, u1)) (kx 0)⟩
def Jl : bi := { pin := 3, cs := [tI, am, ah, tI, tI, ah, aH, tI, tI, tI, tI, ah], vs := [tI, tI, tI, ae], head := ⟨73, .any :: .var tI :: .con tI :: .con am :: .fn 157 [] :: .box 3 0 :: aN 5 (.own 4 :: .var tI :: aN 7 [.con ah, .con tI, .var tI]), [.cells [.con tI, .con ah], .rowc am, .cells [.con tI, .con tI, .con tI], .cells [.con tI, .con ah], .rowv tI]⟩, exits := [(.exit 2, ⟨73, .any :: .var tI :: .con tI :: .con am :: .fn 157 [] :: .box 3 0 :: aN 5 (.own 4 :: .var tI :: aN 7 [.con ah, .con tI]), [.cells [.con tI, .con ah], .rowc am, .cells [.con tI, .con tI, .con tI], .cells [.con tI, .con ah], .rowv tI]⟩, [tI, tI, ae])] }
def wk (ρ : Type) : bP ρ := ⟨[22, 10], 158, 2, Jl, fun (p : Val (.pair tI (.pair am (.pair ah (.pair tI (.pair tI (.pair ah (.pair aH (.pair tI (.pair tI aD)))))))))) (v : Val aA) kn kx => Dm p.1 p.2.1 p.2.2.1 p.2.2.2.1 v.1 v.2.1 v.2.2.1 v.2.2.2 (fun u0 u1 u2 u3 => kn (u0, u1, u2, u3)) (kx 0)⟩
def Jm : bi := { pin := 3, cs := [am, tI, ah, aH, tI, tI, tI, tI, ah], vs := [tI, tI, tI, ae], head := ⟨73, .any :: .var tI :: .var tI :: .con am :: .fn 157 [] :: .box 3 0 :: aN 5 [.own 4, .var tI], [.cells [.con tI, .con ah], .rowc am, .cells [.con tI, .con tI, .con tI], .cells [.con tI, .con ah], .rowv tI]⟩, exits := [(.exit 0, ⟨73, .any :: .any :: .any :: .con am :: .fn 157 [] :: .box 3 0 :: aN 5 [.own 4], [.cells [.con tI, .con ah], .rowc am, .cells [.con tI, .con tI, .con tI], .cells [.con tI, .con ah], .rowv tI]⟩, [ae])] }
def wl (ρ : Type) : bP ρ := ⟨[22, 10], 158, 0, Jm, fun (p : Val (.pair am (.pair tI (.pair ah (.pair aH (.pair tI (.pair tI aD))))))) (v : Val aA) kn kx => Dn p.1 p.2.2.2.2.2.2.2.2 v.1 v.2.1 v.2.2.1 v.2.2.2 (fun u0 u1 u2 u3 => kn (u0, u1, u2, u3)) (kx 0)⟩
def Jn : bi := { pin := 0, cs := [tI, ah, tI, tI, ah, aH], vs := [tI], head := ⟨93, .any :: .box 0 0 :: aN 6 (.own 1 :: .any :: .fn 157 [] :: .con tI :: aN 37 [.con ah, .con tI, .var tI]), [.cells [.con tI, .con ah], .rowc am]⟩, exits := [(.exit 2, ⟨93, .any :: .box 0 0 :: aN 6 (.own 1 :: .any :: .fn 157 [] :: .con tI :: aN 37 [.con ah, .con tI]), [.cells [.con tI, .con ah], .rowc am]⟩, []), (.ret, ⟨93, .any :: .box 0 0 :: .own 2 :: .var tI :: aN 4 (.own 1 :: .any :: .fn 157 [] :: .con tI :: aN 37 [.con ah, .con tI]), [.cells [.con tI, .con ah], .rowc am, .rowv tI]⟩, [tI, ae]), (.exit 4, ⟨93, .any :: .box 0 0 :: aN 6 (.own 1 :: .any :: .fn 157 [] :: .con tI :: aN 37 [.con ah, .con tI]), [.cells [.con tI, .con ah], .rowc am]⟩, [])] }
def wm (ρ : Type) : bP ρ := ⟨[], 78, 4, Jn, fun (p : Val (.pair tI (.pair ah (.pair tI (.pair tI (.pair ah aH)))))) (v : Val tI) kn kx => Dp p.1 p.2.1 p.2.2.1 p.2.2.2.1 p.2.2.2.2.1 p.2.2.2.2.2 v (fun u0 => kn u0) (kx 0) (kx 1) (kx 2)⟩
def Jo : bi := { pin := 0, cs := [tI, ah, aH], vs := [tI], head := ⟨93, .any :: .box 0 0 :: aN 6 [.own 1, .any, .fn 157 [], .var tI], [.cells [.con tI, .con ah], .rowc am]⟩, exits := [(.exit 2, ⟨93, .any :: .box 0 0 :: aN 6 [.own 1, .any, .fn 157 []], [.cells [.con tI, .con ah], .rowc am]⟩, []), (.ret, ⟨93, .any :: .box 0 0 :: .own 2 :: .var tI :: aN 4 [.own 1, .any, .fn 157 []], [.cells [.con tI, .con ah], .rowc am, .rowv tI]⟩, [tI, ae])] }
def wn (ρ : Type) : bP ρ := ⟨[], 78, 2, Jo, fun (p : Val (.pair tI (.pair ah aH))) (v : Val tI) kn kx => Dq p.1 p.2.1 p.2.2 v (fun u0 => kn u0) (kx 0) (kx 1)⟩
def PH : List (Nat × bD) := [(133, ph), (135, nz), (156, FL)]
def zC (ρ : Type) : List (bP ρ) := [wo ρ, wk ρ, wl ρ, wm ρ, wn ρ]
def iZ (ρ : Type) : Env ρ := bJ PH (zC ρ)
def wZ : bD := ⟨[ba, ae], [aa], fun (x : Val (.pair ba ae)) => ng x.1 x.2⟩
def Eb : bi := { pin := 0, cs := [aa, ae, tI], vs := [tI, aa], head := ⟨32, aN 6 (.con aa :: .any :: .own 0 :: aN 8 [.con ae, .con tI, .var tI]), [.rowv aY]⟩, exits := [(.exit 0, ⟨32, aN 6 (.con aa :: .any :: .own 0 :: aN 8 [.con ae, .con tI]), [.rowv aY]⟩, [aa])] }
def rQ (ρ : Type) : bP ρ := ⟨[], 80, 0, Eb, fun (p : Val (.pair aa aB)) (v : Val az) kn kx => kI p.1 p.2.1 p.2.2 v.1 v.2 (fun u0 u1 => kn (u0, u1)) (kx 0)⟩
def IR : List (Nat × bD) := [(20, eI)]
def td (ρ : Type) : List (bP ρ) := [rQ ρ]
def qx (ρ : Type) : Env ρ := bJ IR (td ρ)
def OY : bD := ⟨[ba], [fK, tI], fun (x : Val ba) => AH x⟩
def PC : List (Nat × bD) := [(20, eI), (78, O0), (79, mH), (80, wZ)]
def zo (ρ : Type) : List (bP ρ) := []
def Gi (ρ : Type) : Env ρ := bJ PC (zo ρ)
def yr : bD := ⟨[tI], [tI], fun (x : Val tI) => jH x⟩
def Eh : List (Nat × bD) := []
def pD (ρ : Type) : List (bP ρ) := []
def tv (ρ : Type) : Env ρ := bJ Eh (pD ρ)
def yq : bD := ⟨[ci, tI], [ae], fun (x : Val (.pair ci tI)) => gD x.1 x.2⟩
def Eg : List (Nat × bD) := []
def pu (ρ : Type) : List (bP ρ) := []
def tq (ρ : Type) : Env ρ := bJ Eg (pu ρ)
def FJ : bD := ⟨[ba, aY, aY, bm], [.bool, tI], fun (x : Val (.pair ba (.pair aY aQ))) => nh x.1 x.2.1 x.2.2.1 x.2.2.2⟩
def fq : bi := { pin := 5, cs := [tI, tI, tI, ac, aa, af, ab, aa, tI, tI, tI, tI, tI, tI, ae, ae, tI, tI, tI, tI, aa], vs := [tI, tI, tI, ac, aa, af, ab, aa], head := ⟨68, .any :: .any :: .box 5 0 :: aN 20 [.own 4, .con tI, .var tI], [.cells [.con tI, .con tI, .con ac, .con aa, .con af, .con ab, .con aa], .cells [.con tI, .con tI], .cells [.con tI, .con tI], .cells [.con tI, .con tI, .con ae, .con ae, .con tI, .con tI, .con tI, .con tI], .rowc aY, .cells [.var tI, .var tI, .var ac, .var aa, .var af, .var ab, .var aa]]⟩, exits := [(.ret, ⟨68, .any :: .any :: .box 5 0 :: .any :: .nilp :: .var tI :: aN 17 [.own 4, .con tI], [.cells [.con tI, .con tI, .con ac, .con aa, .con af, .con ab, .con aa], .cells [.con tI, .con tI], .cells [.con tI, .con tI], .cells [.con tI, .con tI, .con ae, .con ae, .con tI, .con tI, .con tI, .con tI], .rowc aY, .cells [.var tI, .var tI, .var ac, .var aa, .var af, .var ab, .var aa]]⟩, [tI, tI, tI, ac, aa, af, ab, aa]), (.exit 0, ⟨68, .any :: .any :: .box 5 0 :: aN 20 [.own 4, .con tI], [.cells [.con tI, .con tI, .con ac, .con aa, .con af, .con ab, .con aa], .cells [.con tI, .con tI], .cells [.con tI, .con tI], .cells [.con tI, .con tI, .con ae, .con ae, .con tI, .con tI, .con tI, .con tI], .rowc aY, .cells [.var tI, .var tI, .var ac, .var aa, .var af, .var ab, .var aa]]⟩, [tI, tI, ac, aa, af, ab, aa])] }
def lH (ρ : Type) : bP ρ := ⟨[1, 3], 50, 0, fq, fun (p : Val aq) (v : Val ay) kn kx => oF p.1 p.2.2.2.2.2.2.2.2.2.2.2.2.2.2.2.2.2.2.2.2 v.1 v.2.1 v.2.2.1 v.2.2.2.1 v.2.2.2.2.1 v.2.2.2.2.2.1 v.2.2.2.2.2.2.1 v.2.2.2.2.2.2.2 (fun u0 u1 u2 u3 u4 u5 u6 u7 => kn (u0, u1, u2, u3, u4, u5, u6, u7)) (kx 0) (kx 1)⟩
def fp : bi := { pin := 12, cs := [ae, tI, tI, tI, ac, aa, af, ab, aa, tI, tI, tI, tI, tI, tI, ae, ae, tI, tI, tI, tI, aa, tI, tI, ac, aa, af, ab, aa, tI, ah, tI, tI, tI, tI, tI, tI, tI, tI, am, am, am], vs := [tI], head := ⟨19, .con ae :: .fn 98 [(8, 0), (2, 0)] :: aN 5 [.con tI, .var tI], [.cells [.con tI, .con tI, .con ac, .con aa, .con af, .con ab, .con aa], .cells [.con tI, .con tI], .cells [.con tI, .con tI], .cells [.con tI, .con tI, .con ae, .con ae, .con tI, .con tI, .con tI, .con tI], .rowc aY, .cells [.con tI, .con tI, .con ac, .con aa, .con af, .con ab, .con aa], .cells [.con tI, .con ah], .dead, .cells [.con tI, .con tI, .con tI, .con tI, .con tI, .con tI, .con tI, .con tI], .rowf ae 0, .rowf ae 0, .rowf ae 0]⟩, exits := [(.ret, ⟨19, [.con ae, .fn 98 [(8, 0), (2, 0)], .any, .any, .var tI, .any, .any, .con tI], [.cells [.con tI, .con tI, .con ac, .con aa, .con af, .con ab, .con aa], .cells [.con tI, .con tI], .cells [.con tI, .con tI], .cells [.con tI, .con tI, .con ae, .con ae, .con tI, .con tI, .con tI, .con tI], .rowc aY, .cells [.con tI, .con tI, .con ac, .con aa, .con af, .con ab, .con aa], .cells [.con tI, .con ah], .dead, .cells [.con tI, .con tI, .con tI, .con tI, .con tI, .con tI, .con tI, .con tI], .rowf ae 0, .rowf ae 0, .rowf ae 0]⟩, [tI]), (.exit 0, ⟨19, .con ae :: .fn 98 [(8, 0), (2, 0)] :: aN 5 [.con tI], [.cells [.con tI, .con tI, .con ac, .con aa, .con af, .con ab, .con aa], .cells [.con tI, .con tI], .cells [.con tI, .con tI], .cells [.con tI, .con tI, .con ae, .con ae, .con tI, .con tI, .con tI, .con tI], .rowc aY, .cells [.con tI, .con tI, .con ac, .con aa, .con af, .con ab, .con aa], .cells [.con tI, .con ah], .dead, .cells [.con tI, .con tI, .con tI, .con tI, .con tI, .con tI, .con tI, .con tI], .rowf ae 0, .rowf ae 0, .rowf ae 0]⟩, [])] }
def lG (ρ : Type) : bP ρ := ⟨[18, 4, 1, 2], 178, 0, fp, fun (p : Val ak) (v : Val tI) kn kx => kJ p.1 p.2.1 p.2.2.2.2.2.2.2.2.2.2.2.1 p.2.2.2.2.2.2.2.2.2.2.2.2.1 p.2.2.2.2.2.2.2.2.2.2.2.2.2.2.2.2.2.2.2.2.2.2.2.2.2.2.2.2.2.2.2.1 p.2.2.2.2.2.2.2.2.2.2.2.2.2.2.2.2.2.2.2.2.2.2.2.2.2.2.2.2.2.2.2.2.1 p.2.2.2.2.2.2.2.2.2.2.2.2.2.2.2.2.2.2.2.2.2.2.2.2.2.2.2.2.2.2.2.2.2.1 p.2.2.2.2.2.2.2.2.2.2.2.2.2.2.2.2.2.2.2.2.2.2.2.2.2.2.2.2.2.2.2.2.2.2.1 p.2.2.2.2.2.2.2.2.2.2.2.2.2.2.2.2.2.2.2.2.2.2.2.2.2.2.2.2.2.2.2.2.2.2.2.1 p.2.2.2.2.2.2.2.2.2.2.2.2.2.2.2.2.2.2.2.2.2.2.2.2.2.2.2.2.2.2.2.2.2.2.2.2.1 p.2.2.2.2.2.2.2.2.2.2.2.2.2.2.2.2.2.2.2.2.2.2.2.2.2.2.2.2.2.2.2.2.2.2.2.2.2.1 p.2.2.2.2.2.2.2.2.2.2.2.2.2.2.2.2.2.2.2.2.2.2.2.2.2.2.2.2.2.2.2.2.2.2.2.2.2.2.1 v (fun u0 => kn u0) (kx 0) (kx 1)⟩
def wg : List (Nat × bD) := [(20, eI), (38, dQ), (60, iE), (61, nA), (69, wY), (71, Bm), (94, dX), (95, ql), (96, yr), (97, yq), (99, ow), (101, ox), (123, eE)]
def mW (ρ : Type) : List (bP ρ) := [lH ρ, lG ρ]
def oE : List Yo := [⟨[], 42, 0, 4⟩]
def cu (ρ : Type) : Env ρ := { bJ wg (mW ρ) with hint := Cu [(51, 96), (55, 96)] }
def qD (ρ : Type) : Env ρ := { { ZZ wg (mW ρ) oE with loops := Qf (cu ρ) oE } with hint := Cu [(51, 96), (55, 96)] }
def C5 : bD := ⟨[], [ba], fun (_ : Unit) => ut⟩
def FZ : List (Nat × bD) := []
def rO (ρ : Type) : List (bP ρ) := []
def vV (ρ : Type) : Env ρ := bJ FZ (rO ρ)
def O1 : bD := ⟨[bo, tI, tI], [ae, tI], fun (x : Val aR) => uB x.1 x.2.1 x.2.2⟩
def Jt : bi := { pin := 3, cs := [am, tI, tI, ah, tI, tI], vs := [tI], head := ⟨19, .con am :: .fn 194 [(1, 0), (2, 0)] :: aN 5 [.con tI, .var tI], [.cells [.con tI, .con ah], .cells [.con tI], .cells [.con tI]]⟩, exits := [(.ret, ⟨19, [.con am, .fn 194 [(1, 0), (2, 0)], .any, .any, .var tI, .any, .any, .con tI], [.cells [.con tI, .con ah], .cells [.con tI], .cells [.con tI]]⟩, [tI]), (.exit 0, ⟨19, .con am :: .fn 194 [(1, 0), (2, 0)] :: aN 5 [.con tI], [.cells [.con tI, .con ah], .cells [.con tI], .cells [.con tI]]⟩, [])] }
def wu (ρ : Type) : bP ρ := ⟨[5, 2], 193, 0, Jt, fun (p : Val (.pair am (.pair tI (.pair tI (.pair ah aY))))) (v : Val tI) kn kx => oa p.1 p.2.1 p.2.2.2.2.1 p.2.2.2.2.2 v (fun u0 => kn u0) (kx 0) (kx 1)⟩
def Jr : bi := { pin := 3, cs := [tI, am, ah, tI, tI, ah, tI, tI, tI, ah], vs := [tI, tI, tI, ae], head := ⟨73, .any :: .var tI :: .con tI :: .con am :: .fn 195 [(2, 0)] :: .box 3 0 :: aN 5 (.own 4 :: .var tI :: aN 7 [.con ah, .con tI, .var tI]), [.cells [.con tI, .con ah], .cells [.con tI], .cells [.con tI], .cells [.con tI, .con ah], .rowv tI]⟩, exits := [(.exit 2, ⟨73, .any :: .var tI :: .con tI :: .con am :: .fn 195 [(2, 0)] :: .box 3 0 :: aN 5 (.own 4 :: .var tI :: aN 7 [.con ah, .con tI]), [.cells [.con tI, .con ah], .cells [.con tI], .cells [.con tI], .cells [.con tI, .con ah], .rowv tI]⟩, [tI, tI, ae])] }
def wq (ρ : Type) : bP ρ := ⟨[6, 5], 158, 2, Jr, fun (p : Val (.pair tI (.pair am (.pair ah (.pair tI (.pair tI (.pair ah (.pair tI aD)))))))) (v : Val aA) kn kx => Ds p.1 p.2.1 p.2.2.1 p.2.2.2.1 p.2.2.2.2.2.2.2.1 v.1 v.2.1 v.2.2.1 v.2.2.2 (fun u0 u1 u2 u3 => kn (u0, u1, u2, u3)) (kx 0)⟩
def Js : bi := { pin := 3, cs := [am, tI, ah, tI, tI, tI, ah], vs := [tI, tI, tI, ae], head := ⟨73, .any :: .var tI :: .var tI :: .con am :: .fn 195 [(2, 0)] :: .box 3 0 :: aN 5 [.own 4, .var tI], [.cells [.con tI, .con ah], .cells [.con tI], .cells [.con tI], .cells [.con tI, .con ah], .rowv tI]⟩, exits := [(.exit 0, ⟨73, .any :: .any :: .any :: .con am :: .fn 195 [(2, 0)] :: .box 3 0 :: aN 5 [.own 4], [.cells [.con tI, .con ah], .cells [.con tI], .cells [.con tI], .cells [.con tI, .con ah], .rowv tI]⟩, [ae])] }
def wt (ρ : Type) : bP ρ := ⟨[6, 5], 158, 0, Js, fun (p : Val (.pair am (.pair tI (.pair ah (.pair tI aD))))) (v : Val aA) kn kx => n0 p.1 p.2.2.2.2.1 p.2.2.2.2.2.2 v.1 v.2.1 v.2.2.1 v.2.2.2 (fun u0 u1 u2 u3 => kn (u0, u1, u2, u3)) (kx 0)⟩
def PJ : List (Nat × bD) := [(89, yv), (156, FL)]
def zG (ρ : Type) : List (bP ρ) := [wu ρ, wq ρ, wt ρ]
def mX (ρ : Type) : Env ρ := bJ PJ (zG ρ)
def yu : bD := ⟨[au, aM, (.ptr .bool)], [ae], fun (x : Val (.pair au (.pair aM (.ptr .bool)))) => jJ x.1 x.2.1 x.2.2⟩
def Em : List (Nat × bD) := [(55, iS), (120, O1)]
def pG (ρ : Type) : List (bP ρ) := []
def tD (ρ : Type) : Env ρ := bJ Em (pG ρ)
def FK : bD := ⟨[ba, aY, .bool], [fK, tI], fun (x : Val (.pair ba (.pair aY .bool))) => rn x.1 x.2.1 x.2.2⟩
def El : bi := { pin := 5, cs := [tI, tI, tI, ac, aa, af, ab, aa, tI, tI, tI, tI, .bool, tI, aa], vs := [tI, tI, tI, ac, aa, af, ab, aa], head := ⟨68, .any :: .any :: .box 5 0 :: aN 20 [.own 4, .con tI, .var tI], [.cells [.con tI, .con tI, .con ac, .con aa, .con af, .con ab, .con aa], .dead, .dead, .cells [.con tI, .con tI, .nils, .nils, .nils, .nils, .nils, .con tI, .con tI, .con .bool, .con tI, .nils], .rowc aY, .cells [.var tI, .var tI, .var ac, .var aa, .var af, .var ab, .var aa]]⟩, exits := [(.ret, ⟨68, .any :: .any :: .box 5 0 :: .any :: .nilp :: .var tI :: aN 17 [.own 4, .con tI], [.cells [.con tI, .con tI, .con ac, .con aa, .con af, .con ab, .con aa], .dead, .dead, .cells [.con tI, .con tI, .nils, .nils, .nils, .nils, .nils, .con tI, .con tI, .con .bool, .con tI, .nils], .rowc aY, .cells [.var tI, .var tI, .var ac, .var aa, .var af, .var ab, .var aa]]⟩, [tI, tI, tI, ac, aa, af, ab, aa]), (.exit 0, ⟨68, .any :: .any :: .box 5 0 :: aN 20 [.own 4, .con tI], [.cells [.con tI, .con tI, .con ac, .con aa, .con af, .con ab, .con aa], .dead, .dead, .cells [.con tI, .con tI, .nils, .nils, .nils, .nils, .nils, .con tI, .con tI, .con .bool, .con tI, .nils], .rowc aY, .cells [.var tI, .var tI, .var ac, .var aa, .var af, .var ab, .var aa]]⟩, [tI, tI, ac, aa, af, ab, aa])] }
def rZ (ρ : Type) : bP ρ := ⟨[1, 3], 50, 0, El, fun (p : Val (.pair tI (.pair tI (.pair tI (.pair ac (.pair aa (.pair af (.pair ab (.pair aa (.pair tI (.pair tI (.pair tI (.pair tI (.pair .bool az)))))))))))))) (v : Val ay) kn kx => oJ p.1 p.2.2.2.2.2.2.2.2.2.2.2.2.2.2 v.1 v.2.1 v.2.2.1 v.2.2.2.1 v.2.2.2.2.1 v.2.2.2.2.2.1 v.2.2.2.2.2.2.1 v.2.2.2.2.2.2.2 (fun u0 u1 u2 u3 u4 u5 u6 u7 => kn (u0, u1, u2, u3, u4, u5, u6, u7)) (kx 0) (kx 1)⟩
def Ek : bi := { pin := 10, cs := [tI, tI, tI, ac, aa, af, ab, aa, tI, tI, tI, tI, .bool, tI, aa, tI, tI, ac, aa, af, ab, aa, tI, ah, aa, tI, tI, ac, aa, af, ab, aa, tI, tI, ac, aa, af, ab, aa], vs := [tI], head := ⟨68, .any :: .any :: .box 10 0 :: aN 20 [.nils, .con tI, .var tI], [.cells [.con tI, .con tI, .con ac, .con aa, .con af, .con ab, .con aa], .dead, .dead, .cells [.con tI, .con tI, .nils, .nils, .nils, .nils, .nils, .con tI, .con tI, .con .bool, .con tI, .nils], .rowc aY, .cells [.con tI, .con tI, .con ac, .con aa, .con af, .con ab, .con aa], .cells [.con tI, .con ah], .dead, .rowf aY 0, .cells [.con tI, .con tI, .con ac, .con aa, .con af, .con ab, .con aa], .cells [.con tI, .con tI, .con ac, .con aa, .con af, .con ab, .con aa]]⟩, exits := [(.exit 0, ⟨68, .any :: .any :: .box 10 0 :: aN 20 [.nils, .con tI], [.cells [.con tI, .con tI, .con ac, .con aa, .con af, .con ab, .con aa], .dead, .dead, .cells [.con tI, .con tI, .nils, .nils, .nils, .nils, .nils, .con tI, .con tI, .con .bool, .con tI, .nils], .rowc aY, .cells [.con tI, .con tI, .con ac, .con aa, .con af, .con ab, .con aa], .cells [.con tI, .con ah], .dead, .rowf aY 0, .cells [.con tI, .con tI, .con ac, .con aa, .con af, .con ab, .con aa], .cells [.con tI, .con tI, .con ac, .con aa, .con af, .con ab, .con aa]]⟩, [])] }
def rY (ρ : Type) : bP ρ := ⟨[6, 1], 50, 0, Ek, fun (p : Val (.pair tI (.pair tI (.pair tI (.pair ac (.pair aa (.pair af (.pair ab (.pair aa (.pair tI (.pair tI (.pair tI (.pair tI (.pair .bool (.pair tI (.pair aa (.pair tI (.pair tI (.pair ac (.pair aa (.pair af (.pair ab (.pair aa (.pair tI (.pair ah (.pair aa (.pair tI (.pair tI (.pair ac (.pair aa (.pair af (.pair ab (.pair aa ai))))))))))))))))))))))))))))))))) (v : Val tI) kn kx => oI p.1 v (fun u0 => kn u0) (kx 0)⟩
def Jf : List (Nat × bD) := [(20, eI), (38, dQ), (60, iE), (61, nA), (79, mH), (80, wZ), (119, yu), (121, oy), (122, j7), (123, eE)]
def tC (ρ : Type) : List (bP ρ) := [rZ ρ, rY ρ]
def jB (ρ : Type) : Env ρ := { bJ Jf (tC ρ) with hint := Cu [(34, 119), (56, 119)] }
def FI : bD := ⟨[], [.bool], fun (_ : Unit) => gB⟩
def IM : List (Nat × bD) := [(15, sT), (17, w7), (18, Tw), (25, OX), (31, OW), (33, qm), (35, Km), (36, OY), (42, FJ), (48, C5), (49, FK)]
def sZ (ρ : Type) : List (bP ρ) := []
def yI (ρ : Type) : Env ρ := bJ IM (sZ ρ)
def O5 : bD := ⟨[ba, tI, ae], [tI], fun (x : Val (.pair ba ax)) => AP x.1 x.2.1 x.2.2⟩
def JQ : bi := { pin := 1, cs := [ae, tI, tI, tI, ac, aa, af, ab, aa], vs := [tI], head := ⟨19, .con ae :: .fn 124 [] :: aN 5 [.con tI, .var tI], [.cells [.con tI, .con tI, .con ac, .con aa, .con af, .con ab, .con aa]]⟩, exits := [(.ret, ⟨19, [.con ae, .fn 124 [], .any, .any, .var tI, .any, .any, .con tI], [.cells [.con tI, .con tI, .con ac, .con aa, .con af, .con ab, .con aa]]⟩, [tI]), (.exit 0, ⟨19, .con ae :: .fn 124 [] :: aN 5 [.con tI], [.cells [.con tI, .con tI, .con ac, .con aa, .con af, .con ab, .con aa]]⟩, [])] }
def wE (ρ : Type) : bP ρ := ⟨[4, 1, 1, 2], 178, 0, JQ, fun (p : Val (.pair ae ay)) (v : Val tI) kn kx => ol p.1 p.2.1 v (fun u0 => kn u0) (kx 0) (kx 1)⟩
def P7 : List (Nat × bD) := [(38, dQ), (53, mI), (125, sV)]
def Aj (ρ : Type) : List (bP ρ) := [wE ρ]
def xK (ρ : Type) : Env ρ := bJ P7 (Aj ρ)
def TA : bD := ⟨[ba, tI, tI, tI], [tI, tI], fun (x : Val (.pair ba ci)) => Fe x.1 x.2.1 x.2.2.1 x.2.2.2⟩
def Si : List (Nat × bD) := [(52, O5), (53, mI), (54, LN)]
def DK (ρ : Type) : List (bP ρ) := []
def KL (ρ : Type) : Env ρ := bJ Si (DK ρ)
def jp : bD := ⟨[ba, tI, tI, (.int .u16)], [.bool], fun (x : Val (.pair ba (.pair tI (.pair tI (.int .u16))))) => nc x.1 x.2.1 x.2.2.1 x.2.2.2⟩
def yK : List (Nat × bD) := [(13, Tt), (14, FI), (15, sT), (16, TA), (17, w7)]
def mL (ρ : Type) : List (bP ρ) := []
def pn (ρ : Type) : Env ρ := bJ yK (mL ρ)
end Go.Proofs.ZzM
end
