/- lemmas: ZzM0 ZzM1 ZzM2 -/
import Derived.Test.YtfkfjebiaelniaaGreatAmC
import Derived.KernelRfl
import Derived.Test.YtfkfjebiaelniaaGreatMdT
import Derived.Test.YtfkfjebiaelniaaGreatProg
set_option linter.all false
set_option linter.unusedSectionVars false
set_option linter.unusedVariables false
set_option linter.unusedSimpArgs false
noncomputable section
set_option maxRecDepth 100000
namespace Go.Proofs.ZzM
open Go Go.Am
def isClone : Nat → Bool
  | 95 => true
  | 180 => true
  | 181 => true
  | 182 => true
  | 183 => true
  | 184 => true
  | _ => false
def isSort : Nat → Bool
  | 170 => true
  | _ => false
def isCompact : Nat → Bool
  | 171 => true
  | _ => false
def isInl : Nat → Bool
  | 2 => true
  | 96 => true
  | 97 => true
  | 100 => true
  | 101 => true
  | 102 => true
  | 120 => true
  | 123 => true
  | 132 => true
  | 133 => true
  | 136 => true
  | 140 => true
  | 141 => true
  | 142 => true
  | 146 => true
  | 148 => true
  | 149 => true
  | 151 => true
  | 152 => true
  | 153 => true
  | 165 => true
  | 168 => true
  | 173 => true
  | 174 => true
  | 175 => true
  | 189 => true
  | 190 => true
  | 191 => true
  | 192 => true
  | 193 => true
  | 194 => true
  | 196 => true
  | 198 => true
  | 199 => true
  | 200 => true
  | 201 => true
  | 204 => true
  | 205 => true
  | 209 => true
  | 210 => true
  | 211 => true
  | 212 => true
  | 213 => true
  | 214 => true
  | 215 => true
  | 217 => true
  | 218 => true
  | 222 => true
  | 223 => true
  | 224 => true
  | 225 => true
  | 227 => true
  | 228 => true
  | 230 => true
  | _ => false
def isFz : Nat → Bool
  | 30 => true
  | 107 => true
  | _ => false
def isEat : Nat → Nat → Bool
  | 26, 8 => true
  | 26, 11 => true
  | 151, 25 => true
  | 199, 0 => true
  | _, _ => false
def mkEnv {ρ : Type} (pt : List (Nat × PFun)) (tab : List (LEnt ρ)) : Env ρ :=
  { P := Tryz.prog, eat := isEat, clone := isClone, sort := isSort, compact := isCompact, inl := isInl, fz := isFz, pure := findP pt, loops := loopsTab tab }
def mkEnvJ {ρ : Type} (pt : List (Nat × PFun)) (tab : List (LEnt ρ)) (js : List JEnt) : Env ρ :=
  { P := Tryz.prog, eat := isEat, clone := isClone, sort := isSort, compact := isCompact, inl := isInl, fz := isFz, pure := findP pt, loops := loopsTab tab, joins := joinsTab js }
def mkEnvU {ρ : Type} (pt : List (Nat × PFun)) (tab : List (LEnt ρ)) (us : List UEnt) : Env ρ :=
  { P := Tryz.prog, eat := isEat, clone := isClone, sort := isSort, compact := isCompact, inl := isInl, fz := isFz, pure := findP pt, loops := loopsU (mkEnv pt tab) us }
end Go.Proofs.ZzM
end

noncomputable section
set_option maxRecDepth 100000
namespace Go.Proofs.ZzM
open Go Go.Am
def p_s_Index_int_int : PFun := ⟨[(.slice tI), tI], [tI], fun (x : Val (.pair (.slice tI) tI)) => f_s_Index_int_int x.1 x.2⟩
def m_s_Index_int_int_L0_S : LoopSpec := { pin := 0, cs := [(.slice tI), tI, tI], vs := [tI], head := ⟨19, .con (.slice tI) :: .con tI :: aN 5 [.con tI, .var tI], []⟩, exits := [(.ret, ⟨19, [.con (.slice tI), .con tI, .any, .any, .var tI, .any, .any, .con tI], []⟩, [tI]), (.exit 0, ⟨19, .con (.slice tI) :: .con tI :: aN 5 [.con tI], []⟩, [])] }
def m_s_Index_int_int_L0_e (ρ : Type) : LEnt ρ := ⟨[], 150, 0, m_s_Index_int_int_L0_S, fun (p : Val (.pair (.slice tI) tySpan)) (v : Val tI) kn kx => m_s_Index_int_int_L0 p.1 p.2.1 p.2.2 v (fun u0 => kn u0) (kx 0) (kx 1)⟩
def m_s_Index_int_int_pt : List (Nat × PFun) := []
def m_s_Index_int_int_tab (ρ : Type) : List (LEnt ρ) := [m_s_Index_int_int_L0_e ρ]
def m_s_Index_int_int_E (ρ : Type) : Env ρ := mkEnv m_s_Index_int_int_pt (m_s_Index_int_int_tab ρ)
def p_s_Contains_int_int : PFun := ⟨[(.slice tI), tI], [.bool], fun (x : Val (.pair (.slice tI) tI)) => f_s_Contains_int_int x.1 x.2⟩
def m_s_Contains_int_int_pt : List (Nat × PFun) := [(150, p_s_Index_int_int)]
def m_s_Contains_int_int_tab (ρ : Type) : List (LEnt ρ) := []
def m_s_Contains_int_int_E (ρ : Type) : Env ρ := mkEnv m_s_Contains_int_int_pt (m_s_Contains_int_int_tab ρ)
def p_c_days : PFun := ⟨[tyBook, tyGauge], [(.slice tI)], fun (x : Val (.pair tyBook tyGauge)) => f_c_days x.1 x.2⟩
def m_c_days_L0_S : LoopSpec := { pin := 0, cs := [(.slice tyCompare), tI, tI, tI, (.slice tyGauge), (.slice tySpan), (.slice tyLoan), (.slice tyCompare), (.slice tySpan), tI, tI, tI, tI, tI, tI, tI, tI], vs := [tI, (.slice tI)], head := ⟨59, .any :: .any :: .box 0 0 :: .box 1 0 :: .any :: .own 2 :: aN 8 [.con (.slice tyCompare), .con tI, .var tI], [.cells [.con tI, .con tI, .con (.slice tyGauge), .con (.slice tySpan), .con (.slice tyLoan), .con (.slice tyCompare), .con (.slice tySpan)], .cells [.con tI, .con tI, .con tI, .con tI, .con tI, .con tI, .con tI, .con tI], .rowv tI]⟩, exits := [(.exit 0, ⟨59, .any :: .any :: .box 0 0 :: .box 1 0 :: .any :: .own 2 :: aN 8 [.con (.slice tyCompare), .con tI], [.cells [.con tI, .con tI, .con (.slice tyGauge), .con (.slice tySpan), .con (.slice tyLoan), .con (.slice tyCompare), .con (.slice tySpan)], .cells [.con tI, .con tI, .con tI, .con tI, .con tI, .con tI, .con tI, .con tI], .rowv tI]⟩, [(.slice tI)])] }
def m_c_days_L0_e (ρ : Type) : LEnt ρ := ⟨[], 137, 0, m_c_days_L0_S, fun (p : Val (.pair (.slice tyCompare) (.pair tI (.pair tI (.pair tI (.pair (.slice tyGauge) (.pair (.slice tySpan) (.pair (.slice tyLoan) (.pair (.slice tyCompare) (.pair (.slice tySpan) (.pair tI (.pair tI (.pair tI (.pair tI (.pair tI tyLink))))))))))))))) (v : Val (.pair tI (.slice tI))) kn kx => m_c_days_L0 p.1 p.2.1 p.2.2.2.2.2.2.2.2.2.1 v.1 v.2 (fun u0 u1 => kn (u0, u1)) (kx 0)⟩
def m_c_days_L1_S : LoopSpec := { pin := 0, cs := [(.slice tySpan), tI, tI, tI, tI, tI, tI, tI, tI, tI], vs := [tI, (.slice tI)], head := ⟨59, .any :: .any :: .any :: .box 0 0 :: .any :: .own 1 :: aN 32 [.con (.slice tySpan), .con tI, .var tI], [.cells [.con tI, .con tI, .con tI, .con tI, .con tI, .con tI, .con tI, .con tI], .rowv tI]⟩, exits := [(.exit 2, ⟨59, .any :: .any :: .any :: .box 0 0 :: .any :: .own 1 :: aN 32 [.con (.slice tySpan), .con tI], [.cells [.con tI, .con tI, .con tI, .con tI, .con tI, .con tI, .con tI, .con tI], .rowv tI]⟩, [(.slice tI)])] }
def m_c_days_L1_e (ρ : Type) : LEnt ρ := ⟨[], 137, 2, m_c_days_L1_S, fun (p : Val (.pair (.slice tySpan) (.pair tI (.pair tI (.pair tI (.pair tI (.pair tI (.pair tI tyLink)))))))) (v : Val (.pair tI (.slice tI))) kn kx => m_c_days_L1 p.1 p.2.1 p.2.2.1 v.1 v.2 (fun u0 u1 => kn (u0, u1)) (kx 0)⟩
def m_c_days_pt : List (Nat × PFun) := [(103, p_s_Contains_int_int)]
def m_c_days_tab (ρ : Type) : List (LEnt ρ) := [m_c_days_L0_e ρ, m_c_days_L1_e ρ]
def m_c_days_E (ρ : Type) : Env ρ := mkEnv m_c_days_pt (m_c_days_tab ρ)
def p_c_nodes : PFun := ⟨[tyBook], [(.slice tySpan)], fun (x : Val tyBook) => f_c_nodes x⟩
def m_c_nodes_L1_S : LoopSpec := { pin := 0, cs := [(.slice tyGauge), tI, tI, (.slice tI), tI, tI, tI, (.slice tyGauge), (.slice tySpan), (.slice tyLoan), (.slice tyCompare), (.slice tySpan), tI, tI, tI, tI, tI, tI, tI, tI], vs := [tI, (.slice tySpan)], head := ⟨33, .any :: .box 0 0 :: .any :: .own 1 :: .any :: .box 2 0 :: .any :: .any :: .any :: .con (.slice tyGauge) :: .con tI :: .con tI :: aN 5 [.con (.slice tI), .con tI, .var tI], [.cells [.con tI, .con tI, .con (.slice tyGauge), .con (.slice tySpan), .con (.slice tyLoan), .con (.slice tyCompare), .con (.slice tySpan)], .rowv tySpan, .cells [.con tI, .con tI, .con tI, .con tI, .con tI, .con tI, .con tI, .con tI]]⟩, exits := [(.exit 2, ⟨33, .any :: .box 0 0 :: .any :: .own 1 :: .any :: .box 2 0 :: .any :: .any :: .any :: .con (.slice tyGauge) :: .con tI :: .con tI :: aN 5 [.con (.slice tI), .con tI], [.cells [.con tI, .con tI, .con (.slice tyGauge), .con (.slice tySpan), .con (.slice tyLoan), .con (.slice tyCompare), .con (.slice tySpan)], .rowv tySpan, .cells [.con tI, .con tI, .con tI, .con tI, .con tI, .con tI, .con tI, .con tI]]⟩, [(.slice tySpan)])] }
def m_c_nodes_L1_e (ρ : Type) : LEnt ρ := ⟨[], 99, 2, m_c_nodes_L1_S, fun (p : Val (.pair (.slice tyGauge) (.pair tI (.pair tI (.pair (.slice tI) (.pair tI (.pair tI (.pair tI (.pair (.slice tyGauge) (.pair (.slice tySpan) (.pair (.slice tyLoan) (.pair (.slice tyCompare) (.pair (.slice tySpan) (.pair tI (.pair tI (.pair tI (.pair tI (.pair tI tyLink)))))))))))))))))) (v : Val (.pair tI (.slice tySpan))) kn kx => m_c_nodes_L1 p.2.2.2.1 p.2.2.2.2.1 p.2.2.2.2.2.2.2.2.2.2.2.2.1 v.1 v.2 (fun u0 u1 => kn (u0, u1)) (kx 0)⟩
def m_c_nodes_L0_S : LoopSpec := { pin := 0, cs := [(.slice tyGauge), tI, tI, tI, (.slice tyGauge), (.slice tySpan), (.slice tyLoan), (.slice tyCompare), (.slice tySpan)], vs := [tI, (.slice tySpan)], head := ⟨33, .any :: .box 0 0 :: .any :: .own 1 :: aN 5 [.con (.slice tyGauge), .con tI, .var tI], [.cells [.con tI, .con tI, .con (.slice tyGauge), .con (.slice tySpan), .con (.slice tyLoan), .con (.slice tyCompare), .con (.slice tySpan)], .rowv tySpan]⟩, exits := [(.exit 0, ⟨33, .any :: .box 0 0 :: .any :: .own 1 :: aN 5 [.con (.slice tyGauge), .con tI], [.cells [.con tI, .con tI, .con (.slice tyGauge), .con (.slice tySpan), .con (.slice tyLoan), .con (.slice tyCompare), .con (.slice tySpan)], .rowv tySpan]⟩, [(.slice tySpan)])] }
def m_c_nodes_L0_e (ρ : Type) : LEnt ρ := ⟨[], 99, 0, m_c_nodes_L0_S, fun (p : Val (.pair (.slice tyGauge) (.pair tI (.pair tI (.pair tI (.pair (.slice tyGauge) (.pair (.slice tySpan) (.pair (.slice tyLoan) (.pair (.slice tyCompare) (.slice tySpan)))))))))) (v : Val (.pair tI (.slice tySpan))) kn kx => m_c_nodes_L0 p.1 p.2.1 p.2.2.1 p.2.2.2.1 p.2.2.2.2.1 p.2.2.2.2.2.1 p.2.2.2.2.2.2.1 p.2.2.2.2.2.2.2.1 p.2.2.2.2.2.2.2.2 v.1 v.2 (fun u0 u1 => kn (u0, u1)) (kx 0)⟩
def m_c_nodes_pt : List (Nat × PFun) := [(137, p_c_days)]
def m_c_nodes_tab (ρ : Type) : List (LEnt ρ) := [m_c_nodes_L1_e ρ, m_c_nodes_L0_e ρ]
def m_c_nodes_E (ρ : Type) : Env ρ := mkEnv m_c_nodes_pt (m_c_nodes_tab ρ)
def p_c_shelved : PFun := ⟨[tyBook], [(.map tI tyGauge)], fun (x : Val tyBook) => f_c_shelved x⟩
def m_c_shelved_L0_S : LoopSpec := { pin := 0, cs := [(.slice tyGauge), tI], vs := [tI, (.map tI tyGauge)], head := ⟨20, .any :: .any :: .any :: .omp 0 :: aN 4 [.con (.slice tyGauge), .con tI, .var tI], [.mapv tI tyGauge]⟩, exits := [(.exit 0, ⟨20, .any :: .any :: .any :: .omp 0 :: aN 4 [.con (.slice tyGauge), .con tI], [.mapv tI tyGauge]⟩, [(.map tI tyGauge)])] }
def m_c_shelved_L0_e (ρ : Type) : LEnt ρ := ⟨[], 106, 0, m_c_shelved_L0_S, fun (p : Val (.pair (.slice tyGauge) tI)) (v : Val (.pair tI (.map tI tyGauge))) kn kx => m_c_shelved_L0 p.1 p.2 v.1 v.2 (fun u0 u1 => kn (u0, u1)) (kx 0)⟩
def m_c_shelved_pt : List (Nat × PFun) := []
def m_c_shelved_tab (ρ : Type) : List (LEnt ρ) := [m_c_shelved_L0_e ρ]
def m_c_shelved_E (ρ : Type) : Env ρ := mkEnv m_c_shelved_pt (m_c_shelved_tab ρ)
def p_c_inside : PFun := ⟨[tySpan, tI, tI], [.bool], fun (x : Val tyRange) => f_c_inside x.1 x.2.1 x.2.2⟩
def m_c_inside_pt : List (Nat × PFun) := []
def m_c_inside_tab (ρ : Type) : List (LEnt ρ) := []
def m_c_inside_E (ρ : Type) : Env ρ := mkEnv m_c_inside_pt (m_c_inside_tab ρ)
def p_c_within : PFun := ⟨[tI, tI, tI], [.bool], fun (x : Val tyLink) => f_c_within x.1 x.2.1 x.2.2⟩
def m_c_within_pt : List (Nat × PFun) := []
def m_c_within_tab (ρ : Type) : List (LEnt ρ) := []
def m_c_within_E (ρ : Type) : Env ρ := mkEnv m_c_within_pt (m_c_within_tab ρ)
def p_c_isDay : PFun := ⟨[tI], [.bool], fun (x : Val tI) => f_c_isDay x⟩
def m_c_isDay_pt : List (Nat × PFun) := [(147, p_c_within)]
def m_c_isDay_tab (ρ : Type) : List (LEnt ρ) := []
def m_c_isDay_E (ρ : Type) : Env ρ := mkEnv m_c_isDay_pt (m_c_isDay_tab ρ)
def p_e_size : PFun := ⟨[tI], [(.int .u64)], fun (x : Val tI) => f_e_size x⟩
def m_e_size_pt : List (Nat × PFun) := []
def m_e_size_tab (ρ : Type) : List (LEnt ρ) := []
def m_e_size_E (ρ : Type) : Env ρ := mkEnv m_e_size_pt (m_e_size_tab ρ)
def p_e_gcd : PFun := ⟨[(.int .u64), (.int .u64)], [(.int .u64)], fun (x : Val (.pair (.int .u64) (.int .u64))) => f_e_gcd x.1 x.2⟩
def m_e_gcd_L0_S : LoopSpec := { pin := 0, cs := [], vs := [(.int .u64), (.int .u64)], head := ⟨12, [.var (.int .u64), .var (.int .u64)], []⟩, exits := [(.exit 0, ⟨12, [.var (.int .u64)], []⟩, [(.int .u64)])] }
def m_e_gcd_L0_e (ρ : Type) : LEnt ρ := ⟨[], 208, 0, m_e_gcd_L0_S, fun (p : Unit) (v : Val (.pair (.int .u64) (.int .u64))) kn kx => m_e_gcd_L0 v.1 v.2 (fun u0 u1 => kn (u0, u1)) (kx 0)⟩
def m_e_gcd_pt : List (Nat × PFun) := []
def m_e_gcd_tab (ρ : Type) : List (LEnt ρ) := [m_e_gcd_L0_e ρ]
def m_e_gcd_E (ρ : Type) : Env ρ := mkEnv m_e_gcd_pt (m_e_gcd_tab ρ)
def p_e_Valid : PFun := ⟨[tySpan], [.bool], fun (x : Val tySpan) => f_e_Valid x⟩
def m_e_Valid_pt : List (Nat × PFun) := [(207, p_e_size), (208, p_e_gcd)]
def m_e_Valid_tab (ρ : Type) : List (LEnt ρ) := []
def m_e_Valid_E (ρ : Type) : Env ρ := mkEnv m_e_Valid_pt (m_e_Valid_tab ρ)
def p_c_isGauge : PFun := ⟨[tyGauge], [.bool], fun (x : Val tyGauge) => f_c_isGauge x⟩
def m_c_isGauge_pt : List (Nat × PFun) := [(105, p_c_isDay), (121, p_c_inside), (147, p_c_within), (188, p_e_Valid)]
def m_c_isGauge_tab (ρ : Type) : List (LEnt ρ) := []
def m_c_isGauge_E (ρ : Type) : Env ρ := mkEnv m_c_isGauge_pt (m_c_isGauge_tab ρ)
def p_c_checkGauges : PFun := ⟨[tyBook], [tI], fun (x : Val tyBook) => f_c_checkGauges x⟩
def m_c_checkGauges_L0_S : LoopSpec := { pin := 0, cs := [(.slice tyGauge), tI, tI, tI, (.slice tyGauge), (.slice tySpan), (.slice tyLoan), (.slice tyCompare), (.slice tySpan)], vs := [tI], head := ⟨31, .any :: .box 0 0 :: aN 4 [.con (.slice tyGauge), .con tI, .var tI], [.cells [.con tI, .con tI, .con (.slice tyGauge), .con (.slice tySpan), .con (.slice tyLoan), .con (.slice tyCompare), .con (.slice tySpan)]]⟩, exits := [(.ret, ⟨31, [.any, .box 0 0, .var tI, .any, .any, .any, .con (.slice tyGauge), .con tI], [.cells [.con tI, .con tI, .con (.slice tyGauge), .con (.slice tySpan), .con (.slice tyLoan), .con (.slice tyCompare), .con (.slice tySpan)]]⟩, [tI]), (.exit 0, ⟨31, .any :: .box 0 0 :: aN 4 [.con (.slice tyGauge), .con tI], [.cells [.con tI, .con tI, .con (.slice tyGauge), .con (.slice tySpan), .con (.slice tyLoan), .con (.slice tyCompare), .con (.slice tySpan)]]⟩, [])] }
def m_c_checkGauges_L0_e (ρ : Type) : LEnt ρ := ⟨[], 122, 0, m_c_checkGauges_L0_S, fun (p : Val (.pair (.slice tyGauge) (.pair tI (.pair tI (.pair tI (.pair (.slice tyGauge) (.pair (.slice tySpan) (.pair (.slice tyLoan) (.pair (.slice tyCompare) (.slice tySpan)))))))))) (v : Val tI) kn kx => m_c_checkGauges_L0 p.1 p.2.1 p.2.2.2.2.1 v (fun u0 => kn u0) (kx 0) (kx 1)⟩
def m_c_checkGauges_pt : List (Nat × PFun) := [(163, p_c_isGauge)]
def m_c_checkGauges_tab (ρ : Type) : List (LEnt ρ) := [m_c_checkGauges_L0_e ρ]
def m_c_checkGauges_E (ρ : Type) : Env ρ := mkEnv m_c_checkGauges_pt (m_c_checkGauges_tab ρ)
def p_c_shelf_made : PFun := ⟨[(.map tI tyGauge), tI, tI], [tI], fun (x : Val (.pair (.map tI tyGauge) tySpan)) => f_c_shelf_made x.1 x.2.1 x.2.2⟩
def m_c_shelf_made_pt : List (Nat × PFun) := []
def m_c_shelf_made_tab (ρ : Type) : List (LEnt ρ) := []
def m_c_shelf_made_E (ρ : Type) : Env ρ := mkEnv m_c_shelf_made_pt (m_c_shelf_made_tab ρ)
def p_c_parts_1 : PFun := ⟨[tI, tI, (.ptr (.map tI tyGauge))], [tI], fun (x : Val (.pair tI (.pair tI (.ptr (.map tI tyGauge))))) => f_c_parts_1 x.1 x.2.1 x.2.2⟩
def m_c_parts_1_pt : List (Nat × PFun) := [(105, p_c_isDay), (109, p_c_shelf_made)]
def m_c_parts_1_tab (ρ : Type) : List (LEnt ρ) := []
def m_c_parts_1_E (ρ : Type) : Env ρ := mkEnv m_c_parts_1_pt (m_c_parts_1_tab ρ)
def p_c_checkLoan : PFun := ⟨[tyBook, (.map tI tyGauge), tI], [tI], fun (x : Val (.pair tyBook (.pair (.map tI tyGauge) tI))) => f_c_checkLoan x.1 x.2.1 x.2.2⟩
def m_c_checkLoan_L0_S : LoopSpec := { pin := 2, cs := [(.slice tyLoan), tI, tI, tI, (.slice tyGauge), (.slice tySpan), (.slice tyLoan), (.slice tyCompare), (.slice tySpan), tI, tI, tI, tI], vs := [tI], head := ⟨19, .con (.slice tyLoan) :: .fn 189 [(1, 0)] :: aN 5 [.con tI, .var tI], [.cells [.con tI, .con tI, .con (.slice tyGauge), .con (.slice tySpan), .con (.slice tyLoan), .con (.slice tyCompare), .con (.slice tySpan)], .cells [.con tI, .con tI, .con tI, .con tI]]⟩, exits := [(.ret, ⟨19, [.con (.slice tyLoan), .fn 189 [(1, 0)], .any, .any, .var tI, .any, .any, .con tI], [.cells [.con tI, .con tI, .con (.slice tyGauge), .con (.slice tySpan), .con (.slice tyLoan), .con (.slice tyCompare), .con (.slice tySpan)], .cells [.con tI, .con tI, .con tI, .con tI]]⟩, [tI]), (.exit 0, ⟨19, .con (.slice tyLoan) :: .fn 189 [(1, 0)] :: aN 5 [.con tI], [.cells [.con tI, .con tI, .con (.slice tyGauge), .con (.slice tySpan), .con (.slice tyLoan), .con (.slice tyCompare), .con (.slice tySpan)], .cells [.con tI, .con tI, .con tI, .con tI]]⟩, [])] }
def m_c_checkLoan_L0_e (ρ : Type) : LEnt ρ := ⟨[9, 5, 1, 2], 152, 0, m_c_checkLoan_L0_S, fun (p : Val (.pair (.slice tyLoan) (.pair tI (.pair tI (.pair tI (.pair (.slice tyGauge) (.pair (.slice tySpan) (.pair (.slice tyLoan) (.pair (.slice tyCompare) (.pair (.slice tySpan) (.pair tI tyLink))))))))))) (v : Val tI) kn kx => m_c_checkLoan_L0 p.1 p.2.1 p.2.2.2.2.2.2.2.2.2.1 p.2.2.2.2.2.2.2.2.2.2.1 p.2.2.2.2.2.2.2.2.2.2.2.1 v (fun u0 => kn u0) (kx 0) (kx 1)⟩
def m_c_checkLoan_L1_S : LoopSpec := { pin := 2, cs := [(.slice tySpan), tI, tI, tI, (.slice tyGauge), (.slice tySpan), (.slice tyLoan), (.slice tyCompare), (.slice tySpan), tI, tI, tI, tI], vs := [tI], head := ⟨19, .con (.slice tySpan) :: .fn 190 [(1, 0)] :: aN 5 [.con tI, .var tI], [.cells [.con tI, .con tI, .con (.slice tyGauge), .con (.slice tySpan), .con (.slice tyLoan), .con (.slice tyCompare), .con (.slice tySpan)], .cells [.con tI, .con tI, .con tI, .con tI]]⟩, exits := [(.ret, ⟨19, [.con (.slice tySpan), .fn 190 [(1, 0)], .any, .any, .var tI, .any, .any, .con tI], [.cells [.con tI, .con tI, .con (.slice tyGauge), .con (.slice tySpan), .con (.slice tyLoan), .con (.slice tyCompare), .con (.slice tySpan)], .cells [.con tI, .con tI, .con tI, .con tI]]⟩, [tI]), (.exit 0, ⟨19, .con (.slice tySpan) :: .fn 190 [(1, 0)] :: aN 5 [.con tI], [.cells [.con tI, .con tI, .con (.slice tyGauge), .con (.slice tySpan), .con (.slice tyLoan), .con (.slice tyCompare), .con (.slice tySpan)], .cells [.con tI, .con tI, .con tI, .con tI]]⟩, [])] }
def m_c_checkLoan_L1_e (ρ : Type) : LEnt ρ := ⟨[9, 10, 1, 2], 209, 0, m_c_checkLoan_L1_S, fun (p : Val (.pair (.slice tySpan) (.pair tI (.pair tI (.pair tI (.pair (.slice tyGauge) (.pair (.slice tySpan) (.pair (.slice tyLoan) (.pair (.slice tyCompare) (.pair (.slice tySpan) (.pair tI tyLink))))))))))) (v : Val tI) kn kx => m_c_checkLoan_L1 p.1 p.2.1 p.2.2.2.2.2.2.2.2.2.1 p.2.2.2.2.2.2.2.2.2.2.1 p.2.2.2.2.2.2.2.2.2.2.2.1 v (fun u0 => kn u0) (kx 0) (kx 1)⟩
def m_c_checkLoan_pt : List (Nat × PFun) := [(109, p_c_shelf_made), (121, p_c_inside), (147, p_c_within)]
def m_c_checkLoan_tab (ρ : Type) : List (LEnt ρ) := [m_c_checkLoan_L0_e ρ, m_c_checkLoan_L1_e ρ]
def m_c_checkLoan_E (ρ : Type) : Env ρ := mkEnv m_c_checkLoan_pt (m_c_checkLoan_tab ρ)
def p_c_left : PFun := ⟨[(.slice tI), (.slice tI)], [(.slice tI)], fun (x : Val (.pair (.slice tI) (.slice tI))) => f_c_left x.1 x.2⟩
def m_c_left_L0_S : LoopSpec := { pin := 2, cs := [tI, (.slice tI), (.slice tI)], vs := [tI], head := ⟨19, .own 1 :: .fn 142 [(0, 0)] :: aN 5 [.con tI, .var tI], [.cells [.con (.slice tI)], .rowc tI]⟩, exits := [(.ret, ⟨19, [.own 1, .fn 142 [(0, 0)], .any, .any, .var tI, .any, .any, .con tI], [.cells [.con (.slice tI)], .rowc tI]⟩, [tI]), (.exit 0, ⟨19, .own 1 :: .fn 142 [(0, 0)] :: aN 5 [.con tI], [.cells [.con (.slice tI)], .rowc tI]⟩, [])] }
def m_c_left_L0_e (ρ : Type) : LEnt ρ := ⟨[1, 3, 1, 2], 174, 0, m_c_left_L0_S, fun (p : Val (.pair tI (.pair (.slice tI) (.slice tI)))) (v : Val tI) kn kx => m_c_left_L0 p.1 p.2.1 p.2.2 v (fun u0 => kn u0) (kx 0) (kx 1)⟩
def m_c_left_L1_S : LoopSpec := { pin := 2, cs := [(.slice tI)], vs := [tI, tI, (.slice tI)], head := ⟨42, [.own 1, .fn 142 [(0, 0)], .any, .any, .any, .var tI, .var tI], [.cells [.con (.slice tI)], .rowv tI]⟩, exits := [(.exit 0, ⟨42, [.own 1, .fn 142 [(0, 0)], .any, .any, .any, .var tI], [.cells [.con (.slice tI)], .rowv tI]⟩, [tI, (.slice tI)])] }
def m_c_left_L1_e (ρ : Type) : LEnt ρ := ⟨[1, 3], 141, 0, m_c_left_L1_S, fun (p : Val (.slice tI)) (v : Val (.pair tI (.pair tI (.slice tI)))) kn kx => m_c_left_L1 p v.1 v.2.1 v.2.2 (fun u0 u1 u2 => kn (u0, u1, u2)) (kx 0)⟩
def m_c_left_pt : List (Nat × PFun) := [(103, p_s_Contains_int_int)]
def m_c_left_tab (ρ : Type) : List (LEnt ρ) := [m_c_left_L0_e ρ, m_c_left_L1_e ρ]
def m_c_left_E (ρ : Type) : Env ρ := mkEnv m_c_left_pt (m_c_left_tab ρ)
def p_c_isPile : PFun := ⟨[(.slice tI)], [.bool], fun (x : Val (.slice tI)) => f_c_isPile x⟩
def m_c_isPile_L0_S : LoopSpec := { pin := 0, cs := [(.slice tI), (.slice tI), tI], vs := [tI], head := ⟨32, .con (.slice tI) :: aN 4 [.con (.slice tI), .con tI, .var tI], []⟩, exits := [(.ret, ⟨32, [.con (.slice tI), .any, .var .bool, .any, .any, .con (.slice tI), .con tI], []⟩, [.bool]), (.exit 0, ⟨32, .con (.slice tI) :: aN 4 [.con (.slice tI), .con tI], []⟩, [])] }
def m_c_isPile_L0_e (ρ : Type) : LEnt ρ := ⟨[], 104, 0, m_c_isPile_L0_S, fun (p : Val (.pair (.slice tI) (.pair (.slice tI) tI))) (v : Val tI) kn kx => m_c_isPile_L0 p.1 p.2.1 p.2.2 v (fun u0 => kn u0) (kx 0) (kx 1)⟩
def m_c_isPile_pt : List (Nat × PFun) := [(147, p_c_within)]
def m_c_isPile_tab (ρ : Type) : List (LEnt ρ) := [m_c_isPile_L0_e ρ]
def m_c_isPile_E (ρ : Type) : Env ρ := mkEnv m_c_isPile_pt (m_c_isPile_tab ρ)
def p_s_Concat_int_int : PFun := ⟨[(.slice (.slice tI))], [(.slice tI)], fun (x : Val (.slice (.slice tI))) => f_s_Concat_int_int x⟩
def m_s_Concat_int_int_L0_S : LoopSpec := { pin := 0, cs := [(.slice (.slice tI)), (.slice (.slice tI)), tI], vs := [tI, tI], head := ⟨36, .con (.slice (.slice tI)) :: .any :: .any :: .var tI :: aN 5 [.con (.slice (.slice tI)), .con tI, .var tI], []⟩, exits := [(.exit 0, ⟨36, .con (.slice (.slice tI)) :: .any :: .any :: .var tI :: aN 5 [.con (.slice (.slice tI)), .con tI], []⟩, [tI])] }
def m_s_Concat_int_int_L0_e (ρ : Type) : LEnt ρ := ⟨[], 107, 0, m_s_Concat_int_int_L0_S, fun (p : Val (.pair (.slice (.slice tI)) (.pair (.slice (.slice tI)) tI))) (v : Val tySpan) kn kx => m_s_Concat_int_int_L0 p.2.1 p.2.2 v.1 v.2 (fun u0 u1 => kn (u0, u1)) (kx 0)⟩
def m_s_Concat_int_int_L1_S : LoopSpec := { pin := 0, cs := [(.slice (.slice tI)), tI], vs := [tI, (.slice tI)], head := ⟨36, aN 6 (.own 0 :: aN 18 [.con (.slice (.slice tI)), .con tI, .var tI]), [.rowv tI]⟩, exits := [(.exit 2, ⟨36, aN 6 (.own 0 :: aN 18 [.con (.slice (.slice tI)), .con tI]), [.rowv tI]⟩, [(.slice tI)])] }
def m_s_Concat_int_int_L1_e (ρ : Type) : LEnt ρ := ⟨[], 107, 2, m_s_Concat_int_int_L1_S, fun (p : Val (.pair (.slice (.slice tI)) tI)) (v : Val (.pair tI (.slice tI))) kn kx => m_s_Concat_int_int_L1 p.1 p.2 v.1 v.2 (fun u0 u1 => kn (u0, u1)) (kx 0)⟩
def m_s_Concat_int_int_pt : List (Nat × PFun) := []
def m_s_Concat_int_int_tab (ρ : Type) : List (LEnt ρ) := [m_s_Concat_int_int_L0_e ρ, m_s_Concat_int_int_L1_e ρ]
def m_s_Concat_int_int_E (ρ : Type) : Env ρ := mkEnv m_s_Concat_int_int_pt (m_s_Concat_int_int_tab ρ)
def p_c_away : PFun := ⟨[tyBook, tI, tI], [tyLoan, .bool], fun (x : Val (.pair tyBook tySpan)) => f_c_away x.1 x.2.1 x.2.2⟩
def m_c_away_L0_S : LoopSpec := { pin := 4, cs := [(.slice tyLoan), tI, tI, tI, (.slice tyGauge), (.slice tySpan), (.slice tyLoan), (.slice tyCompare), (.slice tySpan), tI, tI, tI, tI, tI, tI], vs := [tI], head := ⟨19, .con (.slice tyLoan) :: .fn 153 [(1, 0), (2, 0)] :: aN 5 [.con tI, .var tI], [.cells [.con tI, .con tI, .con (.slice tyGauge), .con (.slice tySpan), .con (.slice tyLoan), .con (.slice tyCompare), .con (.slice tySpan)], .cells [.con tI], .cells [.con tI], .cells [.con tI, .con tI, .con tI, .con tI]]⟩, exits := [(.ret, ⟨19, [.con (.slice tyLoan), .fn 153 [(1, 0), (2, 0)], .any, .any, .var tI, .any, .any, .con tI], [.cells [.con tI, .con tI, .con (.slice tyGauge), .con (.slice tySpan), .con (.slice tyLoan), .con (.slice tyCompare), .con (.slice tySpan)], .cells [.con tI], .cells [.con tI], .cells [.con tI, .con tI, .con tI, .con tI]]⟩, [tI]), (.exit 0, ⟨19, .con (.slice tyLoan) :: .fn 153 [(1, 0), (2, 0)] :: aN 5 [.con tI], [.cells [.con tI, .con tI, .con (.slice tyGauge), .con (.slice tySpan), .con (.slice tyLoan), .con (.slice tyCompare), .con (.slice tySpan)], .cells [.con tI], .cells [.con tI], .cells [.con tI, .con tI, .con tI, .con tI]]⟩, [])] }
def m_c_away_L0_e (ρ : Type) : LEnt ρ := ⟨[1, 3], 152, 0, m_c_away_L0_S, fun (p : Val (.pair (.slice tyLoan) (.pair tI (.pair tI (.pair tI (.pair (.slice tyGauge) (.pair (.slice tySpan) (.pair (.slice tyLoan) (.pair (.slice tyCompare) (.pair (.slice tySpan) (.pair tI (.pair tI (.pair tI tyLink))))))))))))) (v : Val tI) kn kx => m_c_away_L0 p.1 p.2.1 p.2.2.2.2.2.2.2.2.2.1 p.2.2.2.2.2.2.2.2.2.2.1 v (fun u0 => kn u0) (kx 0) (kx 1)⟩
def m_c_away_pt : List (Nat × PFun) := [(147, p_c_within)]
def m_c_away_tab (ρ : Type) : List (LEnt ρ) := [m_c_away_L0_e ρ]
def m_c_away_E (ρ : Type) : Env ρ := mkEnv m_c_away_pt (m_c_away_tab ρ)
def p_c_checkCompare : PFun := ⟨[tyBook, (.map tI tyGauge), tI], [tI], fun (x : Val (.pair tyBook (.pair (.map tI tyGauge) tI))) => f_c_checkCompare x.1 x.2.1 x.2.2⟩
def m_c_checkCompare_L0_S : LoopSpec := { pin := 2, cs := [(.slice tyCompare), tI, tI, tI, (.slice tyGauge), (.slice tySpan), (.slice tyLoan), (.slice tyCompare), (.slice tySpan), tI, tI, (.slice tI), (.slice tI), tI, tI, tI, tI], vs := [tI], head := ⟨19, .con (.slice tyCompare) :: .fn 194 [(1, 0)] :: aN 5 [.con tI, .var tI], [.cells [.con tI, .con tI, .con (.slice tyGauge), .con (.slice tySpan), .con (.slice tyLoan), .con (.slice tyCompare), .con (.slice tySpan)], .cells [.con tI, .con tI, .con (.slice tI), .con (.slice tI), .con tI, .con tI, .con tI, .con tI]]⟩, exits := [(.ret, ⟨19, [.con (.slice tyCompare), .fn 194 [(1, 0)], .any, .any, .var tI, .any, .any, .con tI], [.cells [.con tI, .con tI, .con (.slice tyGauge), .con (.slice tySpan), .con (.slice tyLoan), .con (.slice tyCompare), .con (.slice tySpan)], .cells [.con tI, .con tI, .con (.slice tI), .con (.slice tI), .con tI, .con tI, .con tI, .con tI]]⟩, [tI]), (.exit 0, ⟨19, .con (.slice tyCompare) :: .fn 194 [(1, 0)] :: aN 5 [.con tI], [.cells [.con tI, .con tI, .con (.slice tyGauge), .con (.slice tySpan), .con (.slice tyLoan), .con (.slice tyCompare), .con (.slice tySpan)], .cells [.con tI, .con tI, .con (.slice tI), .con (.slice tI), .con tI, .con tI, .con tI, .con tI]]⟩, [])] }
def m_c_checkCompare_L0_e (ρ : Type) : LEnt ρ := ⟨[4, 5, 1, 2], 149, 0, m_c_checkCompare_L0_S, fun (p : Val (.pair (.slice tyCompare) (.pair tI (.pair tI (.pair tI (.pair (.slice tyGauge) (.pair (.slice tySpan) (.pair (.slice tyLoan) (.pair (.slice tyCompare) (.pair (.slice tySpan) tyCompare)))))))))) (v : Val tI) kn kx => m_c_checkCompare_L0 p.1 p.2.1 p.2.2.2.2.2.2.2.2.2.1 v (fun u0 => kn u0) (kx 0) (kx 1)⟩
def m_c_checkCompare_L2_S : LoopSpec := { pin := 0, cs := [(.map tI tyGauge), (.slice tI), tI, tI, tI, (.slice tI), tI, tI, tI, (.slice tyGauge), (.slice tySpan), (.slice tyLoan), (.slice tyCompare), (.slice tySpan), tI, tI, (.slice tI), (.slice tI), tI, tI, tI, tI, (.slice tI)], vs := [tI], head := ⟨140, .any :: .con (.map tI tyGauge) :: .any :: .box 0 0 :: .any :: .any :: .any :: .box 1 0 :: .con (.slice tI) :: .any :: .con tI :: aN 65 [.own 2, .con tI, .con tI, .any, .any, .any, .con (.slice tI), .con tI, .var tI], [.cells [.con tI, .con tI, .con (.slice tyGauge), .con (.slice tySpan), .con (.slice tyLoan), .con (.slice tyCompare), .con (.slice tySpan)], .cells [.con tI, .con tI, .con (.slice tI), .con (.slice tI), .con tI, .con tI, .con tI, .con tI], .rowc tI]⟩, exits := [(.ret, ⟨140, .any :: .con (.map tI tyGauge) :: .any :: .box 0 0 :: .any :: .any :: .var tI :: .box 1 0 :: .con (.slice tI) :: .any :: .con tI :: aN 65 [.own 2, .con tI, .con tI, .any, .any, .any, .con (.slice tI), .con tI], [.cells [.con tI, .con tI, .con (.slice tyGauge), .con (.slice tySpan), .con (.slice tyLoan), .con (.slice tyCompare), .con (.slice tySpan)], .cells [.con tI, .con tI, .con (.slice tI), .con (.slice tI), .con tI, .con tI, .con tI, .con tI], .rowc tI]⟩, [tI]), (.exit 2, ⟨140, .any :: .con (.map tI tyGauge) :: .any :: .box 0 0 :: .any :: .any :: .any :: .box 1 0 :: .con (.slice tI) :: .any :: .con tI :: aN 65 [.own 2, .con tI, .con tI, .any, .any, .any, .con (.slice tI), .con tI], [.cells [.con tI, .con tI, .con (.slice tyGauge), .con (.slice tySpan), .con (.slice tyLoan), .con (.slice tyCompare), .con (.slice tySpan)], .cells [.con tI, .con tI, .con (.slice tI), .con (.slice tI), .con tI, .con tI, .con tI, .con tI], .rowc tI]⟩, [])] }
def m_c_checkCompare_L2_e (ρ : Type) : LEnt ρ := ⟨[], 167, 2, m_c_checkCompare_L2_S, fun (p : Val (.pair (.map tI tyGauge) (.pair (.slice tI) (.pair tI (.pair tI (.pair tI (.pair (.slice tI) (.pair tI (.pair tI (.pair tI (.pair (.slice tyGauge) (.pair (.slice tySpan) (.pair (.slice tyLoan) (.pair (.slice tyCompare) (.pair (.slice tySpan) (.pair tI (.pair tI (.pair (.slice tI) (.pair (.slice tI) (.pair tI (.pair tI (.pair tI (.pair tI (.slice tI)))))))))))))))))))))))) (v : Val tI) kn kx => m_c_checkCompare_L2 p.1 p.2.2.1 p.2.2.2.2.2.1 p.2.2.2.2.2.2.1 p.2.2.2.2.2.2.2.2.2.2.2.2.2.2.2.1 v (fun u0 => kn u0) (kx 0) (kx 1)⟩
def m_c_checkCompare_L1_S : LoopSpec := { pin := 0, cs := [(.map tI tyGauge), (.slice tI), tI, tI, tI, (.slice tyGauge), (.slice tySpan), (.slice tyLoan), (.slice tyCompare), (.slice tySpan), tI, tI, (.slice tI), (.slice tI), tI, tI, tI, tI, (.slice tI)], vs := [tI], head := ⟨140, .any :: .con (.map tI tyGauge) :: .any :: .box 0 0 :: .any :: .any :: .any :: .box 1 0 :: .con (.slice tI) :: aN 67 [.own 2, .con tI, .var tI], [.cells [.con tI, .con tI, .con (.slice tyGauge), .con (.slice tySpan), .con (.slice tyLoan), .con (.slice tyCompare), .con (.slice tySpan)], .cells [.con tI, .con tI, .con (.slice tI), .con (.slice tI), .con tI, .con tI, .con tI, .con tI], .rowc tI]⟩, exits := [(.ret, ⟨140, .any :: .con (.map tI tyGauge) :: .any :: .box 0 0 :: .any :: .any :: .var tI :: .box 1 0 :: .con (.slice tI) :: aN 67 [.own 2, .con tI], [.cells [.con tI, .con tI, .con (.slice tyGauge), .con (.slice tySpan), .con (.slice tyLoan), .con (.slice tyCompare), .con (.slice tySpan)], .cells [.con tI, .con tI, .con (.slice tI), .con (.slice tI), .con tI, .con tI, .con tI, .con tI], .rowc tI]⟩, [tI]), (.exit 0, ⟨140, .any :: .con (.map tI tyGauge) :: .any :: .box 0 0 :: .any :: .any :: .any :: .box 1 0 :: .con (.slice tI) :: aN 67 [.own 2, .con tI], [.cells [.con tI, .con tI, .con (.slice tyGauge), .con (.slice tySpan), .con (.slice tyLoan), .con (.slice tyCompare), .con (.slice tySpan)], .cells [.con tI, .con tI, .con (.slice tI), .con (.slice tI), .con tI, .con tI, .con tI, .con tI], .rowc tI]⟩, [])] }
def m_c_checkCompare_L1_e (ρ : Type) : LEnt ρ := ⟨[], 167, 0, m_c_checkCompare_L1_S, fun (p : Val (.pair (.map tI tyGauge) (.pair (.slice tI) (.pair tI (.pair tI (.pair tI (.pair (.slice tyGauge) (.pair (.slice tySpan) (.pair (.slice tyLoan) (.pair (.slice tyCompare) (.pair (.slice tySpan) (.pair tI (.pair tI (.pair (.slice tI) (.pair (.slice tI) (.pair tI (.pair tI (.pair tI (.pair tI (.slice tI)))))))))))))))))))) (v : Val tI) kn kx => m_c_checkCompare_L1 p.1 p.2.1 p.2.2.1 p.2.2.2.2.2.2.2.2.2.2.2.1 p.2.2.2.2.2.2.2.2.2.2.2.2.2.2.2.2.2.2 v (fun u0 => kn u0) (kx 0) (kx 1)⟩
def m_c_checkCompare_L3_S : LoopSpec := { pin := 0, cs := [(.slice tI), tI, tI, tI, (.slice tyGauge), (.slice tySpan), (.slice tyLoan), (.slice tyCompare), (.slice tySpan), tI, tI, (.slice tI), (.slice tI), tI, tI, tI, tI], vs := [tI], head := ⟨140, .any :: .any :: .any :: .box 0 0 :: .any :: .any :: .any :: .box 1 0 :: aN 90 [.con (.slice tI), .con tI, .var tI], [.cells [.con tI, .con tI, .con (.slice tyGauge), .con (.slice tySpan), .con (.slice tyLoan), .con (.slice tyCompare), .con (.slice tySpan)], .cells [.con tI, .con tI, .con (.slice tI), .con (.slice tI), .con tI, .con tI, .con tI, .con tI]]⟩, exits := [(.ret, ⟨140, .any :: .any :: .any :: .box 0 0 :: .any :: .any :: .var tI :: .box 1 0 :: aN 90 [.con (.slice tI), .con tI], [.cells [.con tI, .con tI, .con (.slice tyGauge), .con (.slice tySpan), .con (.slice tyLoan), .con (.slice tyCompare), .con (.slice tySpan)], .cells [.con tI, .con tI, .con (.slice tI), .con (.slice tI), .con tI, .con tI, .con tI, .con tI]]⟩, [tI]), (.exit 4, ⟨140, .any :: .any :: .any :: .box 0 0 :: .any :: .any :: .any :: .box 1 0 :: aN 90 [.con (.slice tI), .con tI], [.cells [.con tI, .con tI, .con (.slice tyGauge), .con (.slice tySpan), .con (.slice tyLoan), .con (.slice tyCompare), .con (.slice tySpan)], .cells [.con tI, .con tI, .con (.slice tI), .con (.slice tI), .con tI, .con tI, .con tI, .con tI]]⟩, [])] }
def m_c_checkCompare_L3_e (ρ : Type) : LEnt ρ := ⟨[], 167, 4, m_c_checkCompare_L3_S, fun (p : Val (.pair (.slice tI) (.pair tI (.pair tI (.pair tI (.pair (.slice tyGauge) (.pair (.slice tySpan) (.pair (.slice tyLoan) (.pair (.slice tyCompare) (.pair (.slice tySpan) tyCompare)))))))))) (v : Val tI) kn kx => m_c_checkCompare_L3 p.1 p.2.1 p.2.2.1 p.2.2.2.1 p.2.2.2.2.1 p.2.2.2.2.2.1 p.2.2.2.2.2.2.1 p.2.2.2.2.2.2.2.1 p.2.2.2.2.2.2.2.2.1 p.2.2.2.2.2.2.2.2.2.2.1 v (fun u0 => kn u0) (kx 0) (kx 1)⟩
def m_c_checkCompare_pt : List (Nat × PFun) := [(78, p_c_left), (104, p_c_isPile), (105, p_c_isDay), (107, p_s_Concat_int_int), (108, p_c_away), (109, p_c_shelf_made), (121, p_c_inside), (147, p_c_within)]
def m_c_checkCompare_tab (ρ : Type) : List (LEnt ρ) := [m_c_checkCompare_L0_e ρ, m_c_checkCompare_L2_e ρ, m_c_checkCompare_L1_e ρ, m_c_checkCompare_L3_e ρ]
def m_c_checkCompare_E (ρ : Type) : Env ρ := mkEnv m_c_checkCompare_pt (m_c_checkCompare_tab ρ)
def p_c_Check : PFun := ⟨[tyBook], [tI], fun (x : Val tyBook) => f_c_Check x⟩
end Go.Proofs.ZzM
end

noncomputable section
set_option maxRecDepth 100000
namespace Go.Proofs.ZzM
open Go Go.Am
def p_w5_small : PFun := ⟨[tyBook], [.bool], fun (x : Val tyBook) => f_w5_small x⟩
def m_w5_small_L0_S : LoopSpec := { pin := 0, cs := [tI, tI, (.slice tyGauge), (.slice tySpan), (.slice tyLoan), (.slice tyCompare), (.slice tySpan)], vs := [tI], head := ⟨61, [.any, .box 0 0, .any, .var tI], [.cells [.con tI, .con tI, .con (.slice tyGauge), .con (.slice tySpan), .con (.slice tyLoan), .con (.slice tyCompare), .con (.slice tySpan)]]⟩, exits := [(.ret, ⟨61, [.any, .box 0 0, .var .bool], [.cells [.con tI, .con tI, .con (.slice tyGauge), .con (.slice tySpan), .con (.slice tyLoan), .con (.slice tyCompare), .con (.slice tySpan)]]⟩, [.bool]), (.exit 0, ⟨61, [.any, .box 0 0], [.cells [.con tI, .con tI, .con (.slice tyGauge), .con (.slice tySpan), .con (.slice tyLoan), .con (.slice tyCompare), .con (.slice tySpan)]]⟩, [])] }
def m_w5_small_L0_e (ρ : Type) : LEnt ρ := ⟨[], 17, 0, m_w5_small_L0_S, fun (p : Val (.pair tI (.pair tI (.pair (.slice tyGauge) (.pair (.slice tySpan) (.pair (.slice tyLoan) (.pair (.slice tyCompare) (.slice tySpan)))))))) (v : Val tI) kn kx => m_w5_small_L0 p.2.2.2.2.2.1 v (fun u0 => kn u0) (kx 0) (kx 1)⟩
def m_w5_small_pt : List (Nat × PFun) := []
def m_w5_small_tab (ρ : Type) : List (LEnt ρ) := [m_w5_small_L0_e ρ]
def m_w5_small_E (ρ : Type) : Env ρ := mkEnv m_w5_small_pt (m_w5_small_tab ρ)
def p_w5_brief : PFun := ⟨[tyCompare], [.bool], fun (x : Val tyCompare) => f_w5_brief x⟩
def m_w5_brief_pt : List (Nat × PFun) := []
def m_w5_brief_tab (ρ : Type) : List (LEnt ρ) := []
def m_w5_brief_E (ρ : Type) : Env ρ := mkEnv m_w5_brief_pt (m_w5_brief_tab ρ)
def p_c_With : PFun := ⟨[tyBook, tyCompare], [tyBook, tI], fun (x : Val (.pair tyBook tyCompare)) => f_c_With x.1 x.2⟩
def m_c_With_L0_S : LoopSpec := { pin := 8, cs := [tI, tI, tI, (.slice tyGauge), (.slice tySpan), (.slice tyLoan), (.slice tyCompare), (.slice tySpan), tI, tI, (.slice tI), (.slice tI), tI, tI, tI, tI, tI, tI, tI, tI, (.slice tyGauge), (.slice tySpan), (.slice tyLoan), (.slice tyCompare), (.slice tySpan), tI, tI, tI, tI, (.slice tyCompare), tI, tI, (.slice tyGauge), (.slice tySpan), (.slice tyLoan), (.slice tySpan)], vs := [tI, (.slice tyCompare)], head := ⟨50, .any :: .box 8 0 :: .box 9 0 :: .own 10 :: aN 21 [.own 10, .con tI, .var tI], [.cells [.con tI, .con tI, .con (.slice tyGauge), .con (.slice tySpan), .con (.slice tyLoan), .con (.slice tyCompare), .con (.slice tySpan)], .cells [.con tI, .con tI, .con (.slice tI), .con (.slice tI), .con tI, .con tI, .con tI, .con tI], .cells [.con tI, .con tI, .nils, .nils, .nils, .nils, .nils], .dead, .dead, .cells [.con tI, .con tI, .con (.slice tyGauge), .con (.slice tySpan), .con (.slice tyLoan), .con (.slice tyCompare), .con (.slice tySpan)], .cells [.con tI, .con tI, .nils, .nils, .nils, .nils, .nils], .dead, .cells [.con tI, .con tI, .own 11, .own 12, .own 13, .con (.slice tyCompare), .own 14], .cells [.con tI, .con tI, .nils, .nils, .nils, .nils, .nils], .rowv tyCompare, .rowc tyGauge, .rowc tySpan, .rowc tyLoan, .rowc tySpan]⟩, exits := [(.exit 0, ⟨50, .any :: .box 8 0 :: .box 9 0 :: .own 10 :: aN 21 [.own 10, .con tI], [.cells [.con tI, .con tI, .con (.slice tyGauge), .con (.slice tySpan), .con (.slice tyLoan), .con (.slice tyCompare), .con (.slice tySpan)], .cells [.con tI, .con tI, .con (.slice tI), .con (.slice tI), .con tI, .con tI, .con tI, .con tI], .cells [.con tI, .con tI, .nils, .nils, .nils, .nils, .nils], .dead, .dead, .cells [.con tI, .con tI, .con (.slice tyGauge), .con (.slice tySpan), .con (.slice tyLoan), .con (.slice tyCompare), .con (.slice tySpan)], .cells [.con tI, .con tI, .nils, .nils, .nils, .nils, .nils], .dead, .cells [.con tI, .con tI, .own 11, .own 12, .own 13, .con (.slice tyCompare), .own 14], .cells [.con tI, .con tI, .nils, .nils, .nils, .nils, .nils], .rowv tyCompare, .rowc tyGauge, .rowc tySpan, .rowc tyLoan, .rowc tySpan]⟩, [(.slice tyCompare)])] }
def m_c_With_L0_e (ρ : Type) : LEnt ρ := ⟨[2, 2, 4, 1], 148, 0, m_c_With_L0_S, fun (p : Val (.pair tI (.pair tI (.pair tI (.pair (.slice tyGauge) (.pair (.slice tySpan) (.pair (.slice tyLoan) (.pair (.slice tyCompare) (.pair (.slice tySpan) (.pair tI (.pair tI (.pair (.slice tI) (.pair (.slice tI) (.pair tI (.pair tI (.pair tI (.pair tI (.pair tI (.pair tI (.pair tI (.pair tI (.pair (.slice tyGauge) (.pair (.slice tySpan) (.pair (.slice tyLoan) (.pair (.slice tyCompare) (.pair (.slice tySpan) (.pair tI (.pair tI (.pair tI (.pair tI (.pair (.slice tyCompare) (.pair tI (.pair tI (.pair (.slice tyGauge) (.pair (.slice tySpan) (.pair (.slice tyLoan) (.slice tySpan))))))))))))))))))))))))))))))))))))) (v : Val (.pair tI (.slice tyCompare))) kn kx => m_c_With_L0 p.1 v.1 v.2 (fun u0 u1 => kn (u0, u1)) (kx 0)⟩
def m_c_With_pt : List (Nat × PFun) := [(46, p_c_Check)]
def m_c_With_tab (ρ : Type) : List (LEnt ρ) := [m_c_With_L0_e ρ]
def m_c_With_E (ρ : Type) : Env ρ := mkEnv m_c_With_pt (m_c_With_tab ρ)
def p_s_Index_api_Node_api_Node : PFun := ⟨[(.slice tySpan), tySpan], [tI], fun (x : Val (.pair (.slice tySpan) tySpan)) => f_s_Index_api_Node_api_Node x.1 x.2⟩
def m_s_Index_api_Node_api_Node_L0_S : LoopSpec := { pin := 0, cs := [(.slice tySpan), tI, tI, tI], vs := [tI], head := ⟨19, [.con (.slice tySpan), .any, .any, .box 0 0, .any, .any, .any, .con tI, .var tI], [.cells [.con tI, .con tI]]⟩, exits := [(.ret, ⟨19, [.con (.slice tySpan), .any, .any, .box 0 0, .var tI, .any, .any, .con tI], [.cells [.con tI, .con tI]]⟩, [tI]), (.exit 0, ⟨19, [.con (.slice tySpan), .any, .any, .box 0 0, .any, .any, .any, .con tI], [.cells [.con tI, .con tI]]⟩, [])] }
def m_s_Index_api_Node_api_Node_L0_e (ρ : Type) : LEnt ρ := ⟨[], 125, 0, m_s_Index_api_Node_api_Node_L0_S, fun (p : Val (.pair (.slice tySpan) tyLink)) (v : Val tI) kn kx => m_s_Index_api_Node_api_Node_L0 p.1 p.2.1 p.2.2.1 p.2.2.2 v (fun u0 => kn u0) (kx 0) (kx 1)⟩
def m_s_Index_api_Node_api_Node_pt : List (Nat × PFun) := []
def m_s_Index_api_Node_api_Node_tab (ρ : Type) : List (LEnt ρ) := [m_s_Index_api_Node_api_Node_L0_e ρ]
def m_s_Index_api_Node_api_Node_E (ρ : Type) : Env ρ := mkEnv m_s_Index_api_Node_api_Node_pt (m_s_Index_api_Node_api_Node_tab ρ)
def p_c_maker_at : PFun := ⟨[(.ptr tymaker), (.slice tI), tI], [tI], fun (x : Val (.pair (.ptr tymaker) (.pair (.slice tI) tI))) => f_c_maker_at x.1 x.2.1 x.2.2⟩
def m_c_maker_at_pt : List (Nat × PFun) := [(125, p_s_Index_api_Node_api_Node)]
def m_c_maker_at_tab (ρ : Type) : List (LEnt ρ) := []
def m_c_maker_at_E (ρ : Type) : Env ρ := mkEnv m_c_maker_at_pt (m_c_maker_at_tab ρ)
def p_c_shelf_rateOf : PFun := ⟨[(.map tI tyGauge), (.slice tI)], [tySpan], fun (x : Val (.pair (.map tI tyGauge) (.slice tI))) => f_c_shelf_rateOf x.1 x.2⟩
def m_c_shelf_rateOf_pt : List (Nat × PFun) := []
def m_c_shelf_rateOf_tab (ρ : Type) : List (LEnt ρ) := []
def m_c_shelf_rateOf_E (ρ : Type) : Env ρ := mkEnv m_c_shelf_rateOf_pt (m_c_shelf_rateOf_tab ρ)
def p_e_valid : PFun := ⟨[(.slice tySpan)], [tI], fun (x : Val (.slice tySpan)) => f_e_valid x⟩
def m_e_valid_L0_S : LoopSpec := { pin := 0, cs := [(.slice tySpan), tI], vs := [tI], head := ⟨15, aN 5 [.con (.slice tySpan), .con tI, .var tI], []⟩, exits := [(.ret, ⟨15, [.any, .any, .var tI, .any, .any, .con (.slice tySpan), .con tI], []⟩, [tI]), (.exit 0, ⟨15, aN 5 [.con (.slice tySpan), .con tI], []⟩, [])] }
def m_e_valid_L0_e (ρ : Type) : LEnt ρ := ⟨[], 176, 0, m_e_valid_L0_S, fun (p : Val (.pair (.slice tySpan) tI)) (v : Val tI) kn kx => m_e_valid_L0 p.1 p.2 v (fun u0 => kn u0) (kx 0) (kx 1)⟩
def m_e_valid_pt : List (Nat × PFun) := [(188, p_e_Valid)]
def m_e_valid_tab (ρ : Type) : List (LEnt ρ) := [m_e_valid_L0_e ρ]
def m_e_valid_E (ρ : Type) : Env ρ := mkEnv m_e_valid_pt (m_e_valid_tab ρ)
def p_e_reduced : PFun := ⟨[tI, tI], [tySpan, tI], fun (x : Val tySpan) => f_e_reduced x.1 x.2⟩
def m_e_reduced_pt : List (Nat × PFun) := [(207, p_e_size), (208, p_e_gcd)]
def m_e_reduced_tab (ρ : Type) : List (LEnt ρ) := []
def m_e_reduced_E (ρ : Type) : Env ρ := mkEnv m_e_reduced_pt (m_e_reduced_tab ρ)
def p_e_Sub : PFun := ⟨[tySpan, tySpan], [tySpan, tI], fun (x : Val tyRange) => f_e_Sub x.1 x.2⟩
def m_e_Sub_pt : List (Nat × PFun) := [(176, p_e_valid), (202, p_e_reduced)]
def m_e_Sub_tab (ρ : Type) : List (LEnt ρ) := []
def m_e_Sub_E (ρ : Type) : Env ρ := mkEnv m_e_Sub_pt (m_e_Sub_tab ρ)
def p_c_rate_less : PFun := ⟨[tySpan, tySpan], [tySpan], fun (x : Val tyRange) => f_c_rate_less x.1 x.2⟩
def m_c_rate_less_pt : List (Nat × PFun) := [(185, p_e_Sub)]
def m_c_rate_less_tab (ρ : Type) : List (LEnt ρ) := []
def m_c_rate_less_E (ρ : Type) : Env ρ := mkEnv m_c_rate_less_pt (m_c_rate_less_tab ρ)
def p_e_cmp : PFun := ⟨[tySpan, tySpan], [tI], fun (x : Val tyRange) => f_e_cmp x.1 x.2⟩
def m_e_cmp_pt : List (Nat × PFun) := []
def m_e_cmp_tab (ρ : Type) : List (LEnt ρ) := []
def m_e_cmp_E (ρ : Type) : Env ρ := mkEnv m_e_cmp_pt (m_e_cmp_tab ρ)
def p_e_ValidRange : PFun := ⟨[tyRange], [.bool], fun (x : Val tyRange) => f_e_ValidRange x⟩
def m_e_ValidRange_pt : List (Nat × PFun) := [(176, p_e_valid), (221, p_e_cmp)]
def m_e_ValidRange_tab (ρ : Type) : List (LEnt ρ) := []
def m_e_ValidRange_E (ρ : Type) : Env ρ := mkEnv m_e_ValidRange_pt (m_e_ValidRange_tab ρ)
def p_e_Mul : PFun := ⟨[tySpan, tySpan], [tySpan, tI], fun (x : Val tyRange) => f_e_Mul x.1 x.2⟩
def m_e_Mul_pt : List (Nat × PFun) := [(176, p_e_valid), (202, p_e_reduced)]
def m_e_Mul_tab (ρ : Type) : List (LEnt ρ) := []
def m_e_Mul_E (ρ : Type) : Env ρ := mkEnv m_e_Mul_pt (m_e_Mul_tab ρ)
def p_e_Scale : PFun := ⟨[tyRange, tySpan], [tyRange, tI], fun (x : Val (.pair tyRange tySpan)) => f_e_Scale x.1 x.2⟩
def m_e_Scale_pt : List (Nat × PFun) := [(188, p_e_Valid), (203, p_e_ValidRange), (206, p_e_Mul), (221, p_e_cmp)]
def m_e_Scale_tab (ρ : Type) : List (LEnt ρ) := []
def m_e_Scale_us : List UEnt := [⟨[3, 2], 204, 0, 4⟩]
def m_e_Scale_E0 (ρ : Type) : Env ρ := mkEnv m_e_Scale_pt (m_e_Scale_tab ρ)
def m_e_Scale_E (ρ : Type) : Env ρ := mkEnvU m_e_Scale_pt (m_e_Scale_tab ρ) m_e_Scale_us
def p_c_rate_over : PFun := ⟨[tySpan, tySpan], [tyRange], fun (x : Val tyRange) => f_c_rate_over x.1 x.2⟩
def m_c_rate_over_pt : List (Nat × PFun) := [(186, p_e_Scale)]
def m_c_rate_over_tab (ρ : Type) : List (LEnt ρ) := []
def m_c_rate_over_E (ρ : Type) : Env ρ := mkEnv m_c_rate_over_pt (m_c_rate_over_tab ρ)
def p_c_growth : PFun := ⟨[tyBook, tyCompare], [tyRange], fun (x : Val (.pair tyBook tyCompare)) => f_c_growth x.1 x.2⟩
def m_c_growth_pt : List (Nat × PFun) := [(78, p_c_left), (106, p_c_shelved), (154, p_c_shelf_rateOf), (155, p_c_rate_less), (156, p_c_rate_over)]
def m_c_growth_tab (ρ : Type) : List (LEnt ρ) := []
def m_c_growth_E (ρ : Type) : Env ρ := mkEnv m_c_growth_pt (m_c_growth_tab ρ)
def p_c_films : PFun := ⟨[tyBook, tyCompare], [tySpan], fun (x : Val (.pair tyBook tyCompare)) => f_c_films x.1 x.2⟩
def m_c_films_pt : List (Nat × PFun) := []
def m_c_films_tab (ρ : Type) : List (LEnt ρ) := []
def m_c_films_E (ρ : Type) : Env ρ := mkEnv m_c_films_pt (m_c_films_tab ρ)
def p_e_floor : PFun := ⟨[tI, tI], [tI], fun (x : Val tySpan) => f_e_floor x.1 x.2⟩
def m_e_floor_pt : List (Nat × PFun) := []
def m_e_floor_tab (ρ : Type) : List (LEnt ρ) := []
def m_e_floor_E (ρ : Type) : Env ρ := mkEnv m_e_floor_pt (m_e_floor_tab ρ)
def p_e_Ceil : PFun := ⟨[tySpan], [tI, tI], fun (x : Val tySpan) => f_e_Ceil x⟩
def m_e_Ceil_pt : List (Nat × PFun) := [(176, p_e_valid), (177, p_e_floor)]
def m_e_Ceil_tab (ρ : Type) : List (LEnt ρ) := []
def m_e_Ceil_E (ρ : Type) : Env ρ := mkEnv m_e_Ceil_pt (m_e_Ceil_tab ρ)
def p_e_Floor : PFun := ⟨[tySpan], [tI, tI], fun (x : Val tySpan) => f_e_Floor x⟩
def m_e_Floor_pt : List (Nat × PFun) := [(176, p_e_valid), (177, p_e_floor)]
def m_e_Floor_tab (ρ : Type) : List (LEnt ρ) := []
def m_e_Floor_E (ρ : Type) : Env ρ := mkEnv m_e_Floor_pt (m_e_Floor_tab ρ)
def p_c_says : PFun := ⟨[tyBook, tyCompare], [tySpan], fun (x : Val (.pair tyBook tyCompare)) => f_c_says x.1 x.2⟩
def m_c_says_pt : List (Nat × PFun) := [(112, p_c_growth), (113, p_c_films), (143, p_e_Ceil), (144, p_e_Floor)]
def m_c_says_tab (ρ : Type) : List (LEnt ρ) := []
def m_c_says_E (ρ : Type) : Env ρ := mkEnv m_c_says_pt (m_c_says_tab ρ)
def p_c_loss : PFun := ⟨[tyBook, tyGauge, tI, tI], [tI], fun (x : Val (.pair tyBook (.pair tyGauge tySpan))) => f_c_loss x.1 x.2.1 x.2.2.1 x.2.2.2⟩
def m_c_loss_L0_S : LoopSpec := { pin := 0, cs := [tI, tI, (.slice tyLoan), tI, tI, tI, (.slice tyGauge), (.slice tySpan), (.slice tyLoan), (.slice tyCompare), (.slice tySpan), tI, tI, tI, tI, tI, tI, tI, tI], vs := [tI, tI], head := ⟨88, .any :: .any :: .con tI :: .con tI :: .box 0 0 :: .box 1 0 :: .any :: .any :: .any :: .var tI :: aN 7 [.con (.slice tyLoan), .con tI, .var tI], [.cells [.con tI, .con tI, .con (.slice tyGauge), .con (.slice tySpan), .con (.slice tyLoan), .con (.slice tyCompare), .con (.slice tySpan)], .cells [.con tI, .con tI, .con tI, .con tI, .con tI, .con tI, .con tI, .con tI]]⟩, exits := [(.exit 0, ⟨88, .any :: .any :: .con tI :: .con tI :: .box 0 0 :: .box 1 0 :: .any :: .any :: .any :: .var tI :: aN 7 [.con (.slice tyLoan), .con tI], [.cells [.con tI, .con tI, .con (.slice tyGauge), .con (.slice tySpan), .con (.slice tyLoan), .con (.slice tyCompare), .con (.slice tySpan)], .cells [.con tI, .con tI, .con tI, .con tI, .con tI, .con tI, .con tI, .con tI]]⟩, [tI])] }
def m_c_loss_L0_e (ρ : Type) : LEnt ρ := ⟨[], 129, 0, m_c_loss_L0_S, fun (p : Val (.pair tI (.pair tI (.pair (.slice tyLoan) (.pair tI (.pair tI (.pair tI (.pair (.slice tyGauge) (.pair (.slice tySpan) (.pair (.slice tyLoan) (.pair (.slice tyCompare) (.pair (.slice tySpan) (.pair tI (.pair tI (.pair tI (.pair tI (.pair tI tyLink))))))))))))))))) (v : Val tySpan) kn kx => m_c_loss_L0 p.1 p.2.1 p.2.2.1 p.2.2.2.1 p.2.2.2.2.2.2.2.2.2.2.2.1 v.1 v.2 (fun u0 u1 => kn (u0, u1)) (kx 0)⟩
def m_c_loss_L1_S : LoopSpec := { pin := 0, cs := [tI, tI, tI, (.slice tySpan), tI, tI, tI, tI, tI, tI, tI, tI, tI], vs := [tI, (.slice tI)], head := ⟨88, .any :: .any :: .con tI :: .con tI :: .any :: .box 0 0 :: .any :: .any :: .any :: .con tI :: .any :: .any :: .any :: .own 1 :: aN 39 [.con (.slice tySpan), .con tI, .var tI], [.cells [.con tI, .con tI, .con tI, .con tI, .con tI, .con tI, .con tI, .con tI], .rowv tI]⟩, exits := [(.exit 2, ⟨88, .any :: .any :: .con tI :: .con tI :: .any :: .box 0 0 :: .any :: .any :: .any :: .con tI :: .any :: .any :: .any :: .own 1 :: aN 39 [.con (.slice tySpan), .con tI], [.cells [.con tI, .con tI, .con tI, .con tI, .con tI, .con tI, .con tI, .con tI], .rowv tI]⟩, [(.slice tI)])] }
def m_c_loss_L1_e (ρ : Type) : LEnt ρ := ⟨[], 129, 2, m_c_loss_L1_S, fun (p : Val (.pair tI (.pair tI (.pair tI (.pair (.slice tySpan) (.pair tI (.pair tI (.pair tI (.pair tI (.pair tI (.pair tI tyLink))))))))))) (v : Val (.pair tI (.slice tI))) kn kx => m_c_loss_L1 p.1 p.2.1 p.2.2.2.1 p.2.2.2.2.1 p.2.2.2.2.2.1 v.1 v.2 (fun u0 u1 => kn (u0, u1)) (kx 0)⟩
def m_c_loss_pt : List (Nat × PFun) := [(147, p_c_within)]
def m_c_loss_tab (ρ : Type) : List (LEnt ρ) := [m_c_loss_L0_e ρ, m_c_loss_L1_e ρ]
def m_c_loss_E (ρ : Type) : Env ρ := mkEnv m_c_loss_pt (m_c_loss_tab ρ)
def p_c_made : PFun := ⟨[tyBook], [(.ptr tymaker)], fun (x : Val tyBook) => f_c_made x⟩
def m_c_made_L1_S : LoopSpec := { pin := 2, cs := [tI, (.slice tI), tI, (.slice tyGauge), tI, tI, tI, tI, (.slice tyGauge), (.slice tySpan), (.slice tyLoan), (.slice tyCompare), (.slice tySpan), tI, tI, (.slice tyGauge), (.slice tySpan), (.slice tyLoan), (.slice tyCompare), (.slice tySpan), (.slice tySpan), tI, tI, tI, tI, tI, tI, tI, tI, tI], vs := [tI, (.slice tyLink), (.slice tySpan)], head := ⟨144, .box 1 0 :: .any :: .con tI :: .box 2 0 :: .con (.slice tI) :: .con tI :: .var tI :: aN 24 [.con (.slice tyGauge), .con tI, .con tI], [.cells [.con tI, .con tI, .con (.slice tyGauge), .con (.slice tySpan), .con (.slice tyLoan), .con (.slice tyCompare), .con (.slice tySpan)], .cells [.con tI, .con tI, .con (.slice tyGauge), .con (.slice tySpan), .con (.slice tyLoan), .con (.slice tyCompare), .con (.slice tySpan), .con (.slice tySpan), .con tI, .own 3, .own 4], .cells [.con tI, .con tI, .con tI, .con tI, .con tI, .con tI, .con tI, .con tI], .rowv tyLink, .rowv tySpan]⟩, exits := [(.exit 2, ⟨144, .box 1 0 :: .any :: .con tI :: .box 2 0 :: .con (.slice tI) :: .con tI :: aN 25 [.con (.slice tyGauge), .con tI, .con tI], [.cells [.con tI, .con tI, .con (.slice tyGauge), .con (.slice tySpan), .con (.slice tyLoan), .con (.slice tyCompare), .con (.slice tySpan)], .cells [.con tI, .con tI, .con (.slice tyGauge), .con (.slice tySpan), .con (.slice tyLoan), .con (.slice tyCompare), .con (.slice tySpan), .con (.slice tySpan), .con tI, .own 3, .own 4], .cells [.con tI, .con tI, .con tI, .con tI, .con tI, .con tI, .con tI, .con tI], .rowv tyLink, .rowv tySpan]⟩, [(.slice tyLink), (.slice tySpan)])] }
def m_c_made_L1_e (ρ : Type) : LEnt ρ := ⟨[2, 1], 140, 2, m_c_made_L1_S, fun (p : Val (.pair tI (.pair (.slice tI) (.pair tI (.pair (.slice tyGauge) (.pair tI (.pair tI (.pair tI (.pair tI (.pair (.slice tyGauge) (.pair (.slice tySpan) (.pair (.slice tyLoan) (.pair (.slice tyCompare) (.pair (.slice tySpan) (.pair tI (.pair tI (.pair (.slice tyGauge) (.pair (.slice tySpan) (.pair (.slice tyLoan) (.pair (.slice tyCompare) (.pair (.slice tySpan) (.pair (.slice tySpan) (.pair tI (.pair tI (.pair tI (.pair tI (.pair tI (.pair tI tyLink)))))))))))))))))))))))))))) (v : Val (.pair tI tyTied)) kn kx => m_c_made_L1 p.1 p.2.1 p.2.2.1 p.2.2.2.2.2.2.2.2.2.2.2.2.2.1 p.2.2.2.2.2.2.2.2.2.2.2.2.2.2.1 p.2.2.2.2.2.2.2.2.2.2.2.2.2.2.2.1 p.2.2.2.2.2.2.2.2.2.2.2.2.2.2.2.2.1 p.2.2.2.2.2.2.2.2.2.2.2.2.2.2.2.2.2.1 p.2.2.2.2.2.2.2.2.2.2.2.2.2.2.2.2.2.2.1 p.2.2.2.2.2.2.2.2.2.2.2.2.2.2.2.2.2.2.2.1 p.2.2.2.2.2.2.2.2.2.2.2.2.2.2.2.2.2.2.2.2.2.2.1 p.2.2.2.2.2.2.2.2.2.2.2.2.2.2.2.2.2.2.2.2.2.2.2.1 p.2.2.2.2.2.2.2.2.2.2.2.2.2.2.2.2.2.2.2.2.2.2.2.2.1 p.2.2.2.2.2.2.2.2.2.2.2.2.2.2.2.2.2.2.2.2.2.2.2.2.2.1 p.2.2.2.2.2.2.2.2.2.2.2.2.2.2.2.2.2.2.2.2.2.2.2.2.2.2.1 p.2.2.2.2.2.2.2.2.2.2.2.2.2.2.2.2.2.2.2.2.2.2.2.2.2.2.2.1 p.2.2.2.2.2.2.2.2.2.2.2.2.2.2.2.2.2.2.2.2.2.2.2.2.2.2.2.2.1 p.2.2.2.2.2.2.2.2.2.2.2.2.2.2.2.2.2.2.2.2.2.2.2.2.2.2.2.2.2 v.1 v.2.1 v.2.2 (fun u0 u1 u2 => kn (u0, u1, u2)) (kx 0)⟩
def m_c_made_L0_S : LoopSpec := { pin := 2, cs := [(.slice tyGauge), tI, tI, tI, (.slice tyGauge), (.slice tySpan), (.slice tyLoan), (.slice tyCompare), (.slice tySpan), tI, tI, (.slice tyGauge), (.slice tySpan), (.slice tyLoan), (.slice tyCompare), (.slice tySpan), (.slice tySpan), tI], vs := [tI, (.slice tyLink), (.slice tySpan)], head := ⟨144, .box 1 0 :: aN 30 [.con (.slice tyGauge), .con tI, .var tI], [.cells [.con tI, .con tI, .con (.slice tyGauge), .con (.slice tySpan), .con (.slice tyLoan), .con (.slice tyCompare), .con (.slice tySpan)], .cells [.con tI, .con tI, .con (.slice tyGauge), .con (.slice tySpan), .con (.slice tyLoan), .con (.slice tyCompare), .con (.slice tySpan), .con (.slice tySpan), .con tI, .own 2, .own 3], .rowv tyLink, .rowv tySpan]⟩, exits := [(.exit 0, ⟨144, .box 1 0 :: aN 30 [.con (.slice tyGauge), .con tI], [.cells [.con tI, .con tI, .con (.slice tyGauge), .con (.slice tySpan), .con (.slice tyLoan), .con (.slice tyCompare), .con (.slice tySpan)], .cells [.con tI, .con tI, .con (.slice tyGauge), .con (.slice tySpan), .con (.slice tyLoan), .con (.slice tyCompare), .con (.slice tySpan), .con (.slice tySpan), .con tI, .own 2, .own 3], .rowv tyLink, .rowv tySpan]⟩, [(.slice tyLink), (.slice tySpan)])] }
def m_c_made_L0_e (ρ : Type) : LEnt ρ := ⟨[2, 1], 140, 0, m_c_made_L0_S, fun (p : Val (.pair (.slice tyGauge) (.pair tI (.pair tI (.pair tI (.pair (.slice tyGauge) (.pair (.slice tySpan) (.pair (.slice tyLoan) (.pair (.slice tyCompare) (.pair (.slice tySpan) (.pair tI (.pair tI (.pair (.slice tyGauge) (.pair (.slice tySpan) (.pair (.slice tyLoan) (.pair (.slice tyCompare) (.pair (.slice tySpan) (.pair (.slice tySpan) tI)))))))))))))))))) (v : Val (.pair tI tyTied)) kn kx => m_c_made_L0 p.1 p.2.1 p.2.2.2.2.2.2.2.2.2.1 p.2.2.2.2.2.2.2.2.2.2.1 p.2.2.2.2.2.2.2.2.2.2.2.1 p.2.2.2.2.2.2.2.2.2.2.2.2.1 p.2.2.2.2.2.2.2.2.2.2.2.2.2.1 p.2.2.2.2.2.2.2.2.2.2.2.2.2.2.1 p.2.2.2.2.2.2.2.2.2.2.2.2.2.2.2.1 p.2.2.2.2.2.2.2.2.2.2.2.2.2.2.2.2.1 p.2.2.2.2.2.2.2.2.2.2.2.2.2.2.2.2.2 v.1 v.2.1 v.2.2 (fun u0 u1 u2 => kn (u0, u1, u2)) (kx 0)⟩
def m_c_made_L2_S : LoopSpec := { pin := 2, cs := [(.slice tyCompare), tI, tI, tI, (.slice tyGauge), (.slice tySpan), (.slice tyLoan), (.slice tyCompare), (.slice tySpan), tI, tI, (.slice tyGauge), (.slice tySpan), (.slice tyLoan), (.slice tyCompare), (.slice tySpan), (.slice tySpan), tI], vs := [tI, (.slice tyLink), (.slice tySpan)], head := ⟨144, .box 1 0 :: aN 107 [.con (.slice tyCompare), .con tI, .var tI], [.cells [.con tI, .con tI, .con (.slice tyGauge), .con (.slice tySpan), .con (.slice tyLoan), .con (.slice tyCompare), .con (.slice tySpan)], .cells [.con tI, .con tI, .con (.slice tyGauge), .con (.slice tySpan), .con (.slice tyLoan), .con (.slice tyCompare), .con (.slice tySpan), .con (.slice tySpan), .con tI, .own 2, .own 3], .rowv tyLink, .rowv tySpan]⟩, exits := [(.exit 4, ⟨144, .box 1 0 :: aN 107 [.con (.slice tyCompare), .con tI], [.cells [.con tI, .con tI, .con (.slice tyGauge), .con (.slice tySpan), .con (.slice tyLoan), .con (.slice tyCompare), .con (.slice tySpan)], .cells [.con tI, .con tI, .con (.slice tyGauge), .con (.slice tySpan), .con (.slice tyLoan), .con (.slice tyCompare), .con (.slice tySpan), .con (.slice tySpan), .con tI, .own 2, .own 3], .rowv tyLink, .rowv tySpan]⟩, [(.slice tyLink), (.slice tySpan)])] }
def m_c_made_L2_e (ρ : Type) : LEnt ρ := ⟨[2, 1], 140, 4, m_c_made_L2_S, fun (p : Val (.pair (.slice tyCompare) (.pair tI (.pair tI (.pair tI (.pair (.slice tyGauge) (.pair (.slice tySpan) (.pair (.slice tyLoan) (.pair (.slice tyCompare) (.pair (.slice tySpan) (.pair tI (.pair tI (.pair (.slice tyGauge) (.pair (.slice tySpan) (.pair (.slice tyLoan) (.pair (.slice tyCompare) (.pair (.slice tySpan) (.pair (.slice tySpan) tI)))))))))))))))))) (v : Val (.pair tI tyTied)) kn kx => m_c_made_L2 p.1 p.2.1 p.2.2.2.2.2.2.2.2.2.1 p.2.2.2.2.2.2.2.2.2.2.1 p.2.2.2.2.2.2.2.2.2.2.2.1 p.2.2.2.2.2.2.2.2.2.2.2.2.1 p.2.2.2.2.2.2.2.2.2.2.2.2.2.1 p.2.2.2.2.2.2.2.2.2.2.2.2.2.2.1 p.2.2.2.2.2.2.2.2.2.2.2.2.2.2.2.1 p.2.2.2.2.2.2.2.2.2.2.2.2.2.2.2.2.1 p.2.2.2.2.2.2.2.2.2.2.2.2.2.2.2.2.2 v.1 v.2.1 v.2.2 (fun u0 u1 u2 => kn (u0, u1, u2)) (kx 0)⟩
def m_c_made_pt : List (Nat × PFun) := [(77, p_c_maker_at), (78, p_c_left), (99, p_c_nodes), (114, p_c_says), (129, p_c_loss), (137, p_c_days)]
def m_c_made_tab (ρ : Type) : List (LEnt ρ) := [m_c_made_L1_e ρ, m_c_made_L0_e ρ, m_c_made_L2_e ρ]
def m_c_made_E (ρ : Type) : Env ρ := mkEnv m_c_made_pt (m_c_made_tab ρ)
def p_h_node : PFun := ⟨[tySystem, tI], [.bool], fun (x : Val (.pair tySystem tI)) => f_h_node x.1 x.2⟩
def m_h_node_pt : List (Nat × PFun) := []
def m_h_node_tab (ρ : Type) : List (LEnt ρ) := []
def m_h_node_E (ρ : Type) : Env ρ := mkEnv m_h_node_pt (m_h_node_tab ρ)
def p_h_Check : PFun := ⟨[tySystem], [tI, tI], fun (x : Val tySystem) => f_h_Check x⟩
def m_h_Check_L0_S : LoopSpec := { pin := 0, cs := [(.slice tyLink), tI, tI, (.slice tyLink)], vs := [tI], head := ⟨57, .any :: .box 0 0 :: aN 17 [.con (.slice tyLink), .con tI, .var tI], [.cells [.con tI, .con (.slice tyLink)]]⟩, exits := [(.ret, ⟨57, .any :: .box 0 0 :: .var tI :: .var tI :: aN 15 [.con (.slice tyLink), .con tI], [.cells [.con tI, .con (.slice tyLink)]]⟩, [tI, tI]), (.exit 0, ⟨57, .any :: .box 0 0 :: aN 17 [.con (.slice tyLink), .con tI], [.cells [.con tI, .con (.slice tyLink)]]⟩, [])] }
def m_h_Check_L0_e (ρ : Type) : LEnt ρ := ⟨[], 130, 0, m_h_Check_L0_S, fun (p : Val (.pair (.slice tyLink) (.pair tI tySystem))) (v : Val tI) kn kx => m_h_Check_L0 p.1 p.2.1 p.2.2.1 p.2.2.2 v (fun u0 => kn u0) (kx 0) (kx 1)⟩
def m_h_Check_pt : List (Nat × PFun) := [(172, p_h_node)]
def m_h_Check_tab (ρ : Type) : List (LEnt ρ) := [m_h_Check_L0_e ρ]
def m_h_Check_E (ρ : Type) : Env ρ := mkEnv m_h_Check_pt (m_h_Check_tab ρ)
def p_h_solution : PFun := ⟨[tySystem, (.map tI .bool)], [(.slice tI), .bool], fun (x : Val (.pair tySystem (.map tI .bool))) => f_h_solution x.1 x.2⟩
def m_h_solution_L0_S : LoopSpec := { pin := 2, cs := [(.map tI .bool), (.slice tyLink), tI, tI, (.slice tyLink), (.slice tI), tI, (.slice tyLink), (.slice .bool), (.slice tI)], vs := [tI, tI], head := ⟨140, .any :: .con (.map tI .bool) :: .own 1 :: .box 2 0 :: .any :: .any :: .any :: .box 3 0 :: .own 4 :: .own 5 :: .var tI :: aN 14 [.con (.slice tyLink), .con tI, .var tI], [.cells [.con tI, .con (.slice tyLink)], .rowc tI, .cells [.con tI, .con (.slice tyLink)], .cells [.nils], .rowc .bool, .rowc tI]⟩, exits := [(.exit 0, ⟨140, .any :: .con (.map tI .bool) :: .own 1 :: .box 2 0 :: .any :: .any :: .any :: .box 3 0 :: .own 4 :: .own 5 :: .var tI :: aN 14 [.con (.slice tyLink), .con tI], [.cells [.con tI, .con (.slice tyLink)], .rowc tI, .cells [.con tI, .con (.slice tyLink)], .cells [.nils], .rowc .bool, .rowc tI]⟩, [tI])] }
def m_h_solution_L0_e (ρ : Type) : LEnt ρ := ⟨[2, 3], 173, 0, m_h_solution_L0_S, fun (p : Val (.pair (.map tI .bool) (.pair (.slice tyLink) (.pair tI (.pair tI (.pair (.slice tyLink) (.pair (.slice tI) (.pair tI (.pair (.slice tyLink) (.pair (.slice .bool) (.slice tI))))))))))) (v : Val tySpan) kn kx => m_h_solution_L0 p.2.1 p.2.2.1 v.1 v.2 (fun u0 u1 => kn (u0, u1)) (kx 0)⟩
def m_h_solution_L1_S : LoopSpec := { pin := 2, cs := [(.map tI .bool), tI, tI, tI, (.slice tyLink), (.slice tI), tI, (.slice tyLink), (.slice tI)], vs := [tI, (.slice .bool), (.slice tI)], head := ⟨140, .any :: .con (.map tI .bool) :: .own 1 :: .box 2 0 :: .any :: .any :: .any :: .box 3 0 :: .own 4 :: .own 5 :: .con tI :: aN 27 [.con tI, .var tI], [.cells [.con tI, .con (.slice tyLink)], .rowc tI, .cells [.con tI, .con (.slice tyLink)], .cells [.own 6], .rowv .bool, .rowc tI, .rowv tI]⟩, exits := [(.exit 2, ⟨140, .any :: .con (.map tI .bool) :: .own 1 :: .box 2 0 :: .any :: .any :: .any :: .box 3 0 :: .own 4 :: .own 5 :: .con tI :: aN 27 [.con tI], [.cells [.con tI, .con (.slice tyLink)], .rowc tI, .cells [.con tI, .con (.slice tyLink)], .cells [.own 6], .rowv .bool, .rowc tI, .rowv tI]⟩, [(.slice .bool), (.slice tI)])] }
def m_h_solution_L1_e (ρ : Type) : LEnt ρ := ⟨[2, 3], 173, 2, m_h_solution_L1_S, fun (p : Val (.pair (.map tI .bool) (.pair tI (.pair tI (.pair tI (.pair (.slice tyLink) (.pair (.slice tI) (.pair tI (.pair (.slice tyLink) (.slice tI)))))))))) (v : Val (.pair tI (.pair (.slice .bool) (.slice tI)))) kn kx => m_h_solution_L1 p.2.2.1 p.2.2.2.2.2.1 v.1 v.2.1 v.2.2 (fun u0 u1 u2 => kn (u0, u1, u2)) (kx 0)⟩
def m_h_solution_L3_S : LoopSpec := { pin := 2, cs := [(.map tI .bool), tI, tI, (.slice tyLink), tI, tI, (.slice tyLink), tI, (.slice tyLink), (.slice tI)], vs := [tI, (.slice tI), (.slice .bool), (.slice tI)], head := ⟨140, .any :: .con (.map tI .bool) :: .own 1 :: .box 2 0 :: .any :: .any :: .any :: .box 3 0 :: .own 4 :: .own 5 :: .con tI :: .any :: .any :: .any :: .con tI :: aN 62 [.con (.slice tyLink), .con tI, .var tI], [.cells [.con tI, .con (.slice tyLink)], .rowv tI, .cells [.con tI, .con (.slice tyLink)], .cells [.own 6], .rowv .bool, .rowc tI, .rowv tI]⟩, exits := [(.ret, ⟨140, .any :: .con (.map tI .bool) :: .own 1 :: .box 2 0 :: .any :: .any :: .var .bool :: .box 3 0 :: .own 4 :: .own 5 :: .con tI :: .any :: .any :: .any :: .con tI :: aN 62 [.con (.slice tyLink), .con tI], [.cells [.con tI, .con (.slice tyLink)], .rowv tI, .cells [.con tI, .con (.slice tyLink)], .cells [.own 6], .rowv .bool, .rowc tI, .rowv tI]⟩, [.bool, (.slice tI), (.slice .bool), (.slice tI)]), (.exit 6, ⟨140, .any :: .con (.map tI .bool) :: .own 1 :: .box 2 0 :: .any :: .any :: .any :: .box 3 0 :: .own 4 :: .own 5 :: .con tI :: .any :: .any :: .any :: .con tI :: aN 62 [.con (.slice tyLink), .con tI], [.cells [.con tI, .con (.slice tyLink)], .rowv tI, .cells [.con tI, .con (.slice tyLink)], .cells [.own 6], .rowv .bool, .rowc tI, .rowv tI]⟩, [(.slice tI), (.slice .bool), (.slice tI)])] }
def m_h_solution_L3_e (ρ : Type) : LEnt ρ := ⟨[2, 3], 173, 6, m_h_solution_L3_S, fun (p : Val (.pair (.map tI .bool) (.pair tI (.pair tI (.pair (.slice tyLink) (.pair tI (.pair tI (.pair (.slice tyLink) (.pair tI (.pair (.slice tyLink) (.slice tI))))))))))) (v : Val (.pair tI (.pair (.slice tI) (.pair (.slice .bool) (.slice tI))))) kn kx => m_h_solution_L3 p.1 p.2.1 p.2.2.1 p.2.2.2.1 p.2.2.2.2.1 v.1 v.2.1 v.2.2.1 v.2.2.2 (fun u0 u1 u2 u3 => kn (u0, u1, u2, u3)) (kx 0) (kx 1)⟩
def m_h_solution_L2_S : LoopSpec := { pin := 2, cs := [(.map tI .bool), tI, tI, (.slice tyLink), tI, (.slice tyLink)], vs := [(.slice tI), (.slice .bool), (.slice tI), (.slice tI)], head := ⟨140, [.any, .con (.map tI .bool), .own 1, .box 2 0, .any, .any, .any, .box 3 0, .own 4, .own 5, .con tI], [.cells [.con tI, .con (.slice tyLink)], .rowv tI, .cells [.con tI, .con (.slice tyLink)], .cells [.own 6], .rowv .bool, .rowv tI, .rowv tI]⟩, exits := [(.ret, ⟨140, [.any, .con (.map tI .bool), .own 1, .box 2 0, .any, .any, .var .bool, .box 3 0, .own 4, .own 5, .con tI], [.cells [.con tI, .con (.slice tyLink)], .rowv tI, .cells [.con tI, .con (.slice tyLink)], .cells [.own 6], .rowv .bool, .rowv tI, .rowv tI]⟩, [.bool, (.slice tI), (.slice .bool), (.slice tI), (.slice tI)])] }
def m_h_solution_L2_e (ρ : Type) : LEnt ρ := ⟨[2, 3], 173, 4, m_h_solution_L2_S, fun (p : Val (.pair (.map tI .bool) (.pair tI (.pair tI (.pair (.slice tyLink) tySystem))))) (v : Val (.pair (.slice tI) (.pair (.slice .bool) (.pair (.slice tI) (.slice tI))))) kn kx => m_h_solution_L2 p.1 p.2.1 p.2.2.2.2.1 p.2.2.2.2.2 v.1 v.2.1 v.2.2.1 v.2.2.2 (fun u0 u1 u2 u3 => kn (u0, u1, u2, u3)) (kx 0)⟩
def m_h_solution_L4_S : LoopSpec := { pin := 0, cs := [tI, tI], vs := [tI, (.slice tI)], head := ⟨34, aN 6 (.own 0 :: .con tI :: aN 13 [.con tI, .var tI]), [.rowv tI]⟩, exits := [(.exit 0, ⟨34, aN 6 (.own 0 :: .con tI :: aN 13 [.con tI]), [.rowv tI]⟩, [(.slice tI)])] }
def m_h_solution_L4_e (ρ : Type) : LEnt ρ := ⟨[], 131, 0, m_h_solution_L4_S, fun (p : Val tySpan) (v : Val (.pair tI (.slice tI))) kn kx => m_h_solution_L4 p.1 p.2 v.1 v.2 (fun u0 u1 => kn (u0, u1)) (kx 0)⟩
def m_h_solution_pt : List (Nat × PFun) := []
def m_h_solution_tab (ρ : Type) : List (LEnt ρ) := [m_h_solution_L0_e ρ, m_h_solution_L1_e ρ, m_h_solution_L3_e ρ, m_h_solution_L2_e ρ, m_h_solution_L4_e ρ]
def m_h_solution_E (ρ : Type) : Env ρ := mkEnv m_h_solution_pt (m_h_solution_tab ρ)
def p_h_asked : PFun := ⟨[tySystem, (.slice tI)], [tI], fun (x : Val (.pair tySystem (.slice tI))) => f_h_asked x.1 x.2⟩
def m_h_asked_L0_S : LoopSpec := { pin := 0, cs := [(.slice tI), tI, tI, (.slice tyLink)], vs := [tI], head := ⟨37, .any :: .any :: .box 0 0 :: aN 16 [.con (.slice tI), .con tI, .var tI], [.cells [.con tI, .con (.slice tyLink)]]⟩, exits := [(.ret, ⟨37, .any :: .any :: .box 0 0 :: .any :: .var tI :: aN 14 [.con (.slice tI), .con tI], [.cells [.con tI, .con (.slice tyLink)]]⟩, [tI]), (.exit 0, ⟨37, .any :: .any :: .box 0 0 :: aN 16 [.con (.slice tI), .con tI], [.cells [.con tI, .con (.slice tyLink)]]⟩, [])] }
def m_h_asked_L0_e (ρ : Type) : LEnt ρ := ⟨[], 134, 0, m_h_asked_L0_S, fun (p : Val (.pair (.slice tI) (.pair tI tySystem))) (v : Val tI) kn kx => m_h_asked_L0 p.1 p.2.1 p.2.2.1 p.2.2.2 v (fun u0 => kn u0) (kx 0) (kx 1)⟩
def m_h_asked_pt : List (Nat × PFun) := [(130, p_h_Check), (131, p_h_solution), (172, p_h_node)]
def m_h_asked_tab (ρ : Type) : List (LEnt ρ) := [m_h_asked_L0_e ρ]
def m_h_asked_E (ρ : Type) : Env ρ := mkEnv m_h_asked_pt (m_h_asked_tab ρ)
def p_h_bounds : PFun := ⟨[tySystem, (.map tI .bool), tI], [(.slice tI)], fun (x : Val (.pair tySystem (.pair (.map tI .bool) tI))) => f_h_bounds x.1 x.2.1 x.2.2⟩
def m_h_bounds_L0_S : LoopSpec := { pin := 0, cs := [(.map tI .bool), tI, tI, tI, (.slice tyLink)], vs := [tI, (.slice tI)], head := ⟨29, .any :: .con (.map tI .bool) :: .con tI :: .box 0 0 :: .any :: .any :: .any :: .own 1 :: aN 5 [.con tI, .var tI], [.cells [.con tI, .con (.slice tyLink)], .rowv tI]⟩, exits := [(.exit 0, ⟨29, .any :: .con (.map tI .bool) :: .con tI :: .box 0 0 :: .any :: .any :: .any :: .own 1 :: aN 5 [.con tI], [.cells [.con tI, .con (.slice tyLink)], .rowv tI]⟩, [(.slice tI)])] }
def m_h_bounds_L0_e (ρ : Type) : LEnt ρ := ⟨[], 135, 0, m_h_bounds_L0_S, fun (p : Val (.pair (.map tI .bool) (.pair tI (.pair tI tySystem)))) (v : Val (.pair tI (.slice tI))) kn kx => m_h_bounds_L0 p.2.2.1 v.1 v.2 (fun u0 u1 => kn (u0, u1)) (kx 0)⟩
def m_h_bounds_L1_S : LoopSpec := { pin := 2, cs := [(.map tI .bool), (.slice tyLink), tI, tI, (.slice tyLink), (.slice tI), tI, (.slice tyLink), (.slice .bool), (.slice tI)], vs := [tI, tI], head := ⟨140, .any :: .con (.map tI .bool) :: .own 1 :: .box 2 0 :: .any :: .any :: .any :: .box 3 0 :: .own 4 :: .own 5 :: .var tI :: aN 14 [.con (.slice tyLink), .con tI, .var tI], [.cells [.con tI, .con (.slice tyLink)], .rowc tI, .cells [.con tI, .con (.slice tyLink)], .cells [.nils], .rowc .bool, .rowc tI]⟩, exits := [(.exit 0, ⟨140, .any :: .con (.map tI .bool) :: .own 1 :: .box 2 0 :: .any :: .any :: .any :: .box 3 0 :: .own 4 :: .own 5 :: .var tI :: aN 14 [.con (.slice tyLink), .con tI], [.cells [.con tI, .con (.slice tyLink)], .rowc tI, .cells [.con tI, .con (.slice tyLink)], .cells [.nils], .rowc .bool, .rowc tI]⟩, [tI])] }
def m_h_bounds_L1_e (ρ : Type) : LEnt ρ := ⟨[8, 3], 173, 0, m_h_bounds_L1_S, fun (p : Val (.pair (.map tI .bool) (.pair (.slice tyLink) (.pair tI (.pair tI (.pair (.slice tyLink) (.pair (.slice tI) (.pair tI (.pair (.slice tyLink) (.pair (.slice .bool) (.slice tI))))))))))) (v : Val tySpan) kn kx => m_h_bounds_L1 p.2.1 p.2.2.1 v.1 v.2 (fun u0 u1 => kn (u0, u1)) (kx 0)⟩
def m_h_bounds_L2_S : LoopSpec := { pin := 2, cs := [(.map tI .bool), tI, tI, tI, (.slice tyLink), (.slice tI), tI, (.slice tyLink), (.slice tI)], vs := [tI, (.slice .bool), (.slice tI)], head := ⟨140, .any :: .con (.map tI .bool) :: .own 1 :: .box 2 0 :: .any :: .any :: .any :: .box 3 0 :: .own 4 :: .own 5 :: .con tI :: aN 27 [.con tI, .var tI], [.cells [.con tI, .con (.slice tyLink)], .rowc tI, .cells [.con tI, .con (.slice tyLink)], .cells [.own 6], .rowv .bool, .rowc tI, .rowv tI]⟩, exits := [(.exit 2, ⟨140, .any :: .con (.map tI .bool) :: .own 1 :: .box 2 0 :: .any :: .any :: .any :: .box 3 0 :: .own 4 :: .own 5 :: .con tI :: aN 27 [.con tI], [.cells [.con tI, .con (.slice tyLink)], .rowc tI, .cells [.con tI, .con (.slice tyLink)], .cells [.own 6], .rowv .bool, .rowc tI, .rowv tI]⟩, [(.slice .bool), (.slice tI)])] }
def m_h_bounds_L2_e (ρ : Type) : LEnt ρ := ⟨[8, 3], 173, 2, m_h_bounds_L2_S, fun (p : Val (.pair (.map tI .bool) (.pair tI (.pair tI (.pair tI (.pair (.slice tyLink) (.pair (.slice tI) (.pair tI (.pair (.slice tyLink) (.slice tI)))))))))) (v : Val (.pair tI (.pair (.slice .bool) (.slice tI)))) kn kx => m_h_bounds_L2 p.2.2.1 p.2.2.2.2.2.1 v.1 v.2.1 v.2.2 (fun u0 u1 u2 => kn (u0, u1, u2)) (kx 0)⟩
def m_h_bounds_L4_S : LoopSpec := { pin := 2, cs := [(.map tI .bool), tI, tI, (.slice tyLink), tI, tI, (.slice tyLink), tI, (.slice tyLink), (.slice tI)], vs := [tI, (.slice tI), (.slice .bool), (.slice tI)], head := ⟨140, .any :: .con (.map tI .bool) :: .own 1 :: .box 2 0 :: .any :: .any :: .any :: .box 3 0 :: .own 4 :: .own 5 :: .con tI :: .any :: .any :: .any :: .con tI :: aN 62 [.con (.slice tyLink), .con tI, .var tI], [.cells [.con tI, .con (.slice tyLink)], .rowv tI, .cells [.con tI, .con (.slice tyLink)], .cells [.own 6], .rowv .bool, .rowc tI, .rowv tI]⟩, exits := [(.ret, ⟨140, .any :: .con (.map tI .bool) :: .own 1 :: .box 2 0 :: .any :: .any :: .var .bool :: .box 3 0 :: .own 4 :: .own 5 :: .con tI :: .any :: .any :: .any :: .con tI :: aN 62 [.con (.slice tyLink), .con tI], [.cells [.con tI, .con (.slice tyLink)], .rowv tI, .cells [.con tI, .con (.slice tyLink)], .cells [.own 6], .rowv .bool, .rowc tI, .rowv tI]⟩, [.bool, (.slice tI), (.slice .bool), (.slice tI)]), (.exit 6, ⟨140, .any :: .con (.map tI .bool) :: .own 1 :: .box 2 0 :: .any :: .any :: .any :: .box 3 0 :: .own 4 :: .own 5 :: .con tI :: .any :: .any :: .any :: .con tI :: aN 62 [.con (.slice tyLink), .con tI], [.cells [.con tI, .con (.slice tyLink)], .rowv tI, .cells [.con tI, .con (.slice tyLink)], .cells [.own 6], .rowv .bool, .rowc tI, .rowv tI]⟩, [(.slice tI), (.slice .bool), (.slice tI)])] }
def m_h_bounds_L4_e (ρ : Type) : LEnt ρ := ⟨[8, 3], 173, 6, m_h_bounds_L4_S, fun (p : Val (.pair (.map tI .bool) (.pair tI (.pair tI (.pair (.slice tyLink) (.pair tI (.pair tI (.pair (.slice tyLink) (.pair tI (.pair (.slice tyLink) (.slice tI))))))))))) (v : Val (.pair tI (.pair (.slice tI) (.pair (.slice .bool) (.slice tI))))) kn kx => m_h_bounds_L4 p.1 p.2.1 p.2.2.1 p.2.2.2.1 p.2.2.2.2.1 v.1 v.2.1 v.2.2.1 v.2.2.2 (fun u0 u1 u2 u3 => kn (u0, u1, u2, u3)) (kx 0) (kx 1)⟩
def m_h_bounds_L3_S : LoopSpec := { pin := 2, cs := [(.map tI .bool), tI, tI, (.slice tyLink), tI, (.slice tyLink)], vs := [(.slice tI), (.slice .bool), (.slice tI), (.slice tI)], head := ⟨140, [.any, .con (.map tI .bool), .own 1, .box 2 0, .any, .any, .any, .box 3 0, .own 4, .own 5, .con tI], [.cells [.con tI, .con (.slice tyLink)], .rowv tI, .cells [.con tI, .con (.slice tyLink)], .cells [.own 6], .rowv .bool, .rowv tI, .rowv tI]⟩, exits := [(.ret, ⟨140, [.any, .con (.map tI .bool), .own 1, .box 2 0, .any, .any, .var .bool, .box 3 0, .own 4, .own 5, .con tI], [.cells [.con tI, .con (.slice tyLink)], .rowv tI, .cells [.con tI, .con (.slice tyLink)], .cells [.own 6], .rowv .bool, .rowv tI, .rowv tI]⟩, [.bool, (.slice tI), (.slice .bool), (.slice tI), (.slice tI)])] }
def m_h_bounds_L3_e (ρ : Type) : LEnt ρ := ⟨[8, 3], 173, 4, m_h_bounds_L3_S, fun (p : Val (.pair (.map tI .bool) (.pair tI (.pair tI (.pair (.slice tyLink) tySystem))))) (v : Val (.pair (.slice tI) (.pair (.slice .bool) (.pair (.slice tI) (.slice tI))))) kn kx => m_h_bounds_L3 p.1 p.2.1 p.2.2.2.2.1 p.2.2.2.2.2 v.1 v.2.1 v.2.2.1 v.2.2.2 (fun u0 u1 u2 u3 => kn (u0, u1, u2, u3)) (kx 0)⟩
def m_h_bounds_pt : List (Nat × PFun) := []
def m_h_bounds_tab (ρ : Type) : List (LEnt ρ) := [m_h_bounds_L0_e ρ, m_h_bounds_L1_e ρ, m_h_bounds_L2_e ρ, m_h_bounds_L4_e ρ, m_h_bounds_L3_e ρ]
def m_h_bounds_E (ρ : Type) : Env ρ := mkEnv m_h_bounds_pt (m_h_bounds_tab ρ)
def p_h_Bound : PFun := ⟨[tySystem, tI, tI], [tI, tI], fun (x : Val (.pair tySystem tySpan)) => f_h_Bound x.1 x.2.1 x.2.2⟩
def m_h_Bound_pt : List (Nat × PFun) := [(134, p_h_asked), (135, p_h_bounds)]
def m_h_Bound_tab (ρ : Type) : List (LEnt ρ) := []
def m_h_Bound_E (ρ : Type) : Env ρ := mkEnv m_h_Bound_pt (m_h_Bound_tab ρ)
def p_c_shown : PFun := ⟨[tyBook, tyCompare, tySpan], [tySpan, tI], fun (x : Val (.pair tyBook (.pair tyCompare tySpan))) => f_c_shown x.1 x.2.1 x.2.2⟩
def m_c_shown_pt : List (Nat × PFun) := [(112, p_c_growth), (113, p_c_films), (143, p_e_Ceil), (144, p_e_Floor)]
def m_c_shown_tab (ρ : Type) : List (LEnt ρ) := []
def m_c_shown_E (ρ : Type) : Env ρ := mkEnv m_c_shown_pt (m_c_shown_tab ρ)
def p_c_Predict : PFun := ⟨[tyBook, tyCompare], [tySpan, tI], fun (x : Val (.pair tyBook tyCompare)) => f_c_Predict x.1 x.2⟩
def m_c_Predict_pt : List (Nat × PFun) := [(26, p_c_With), (76, p_c_made), (77, p_c_maker_at), (78, p_c_left), (79, p_h_Bound), (80, p_c_shown)]
def m_c_Predict_tab (ρ : Type) : List (LEnt ρ) := []
def m_c_Predict_E (ρ : Type) : Env ρ := mkEnv m_c_Predict_pt (m_c_Predict_tab ρ)
def p_c_maker_lengths : PFun := ⟨[(.ptr tymaker), (.slice tI)], [tI], fun (x : Val (.pair (.ptr tymaker) (.slice tI))) => f_c_maker_lengths x.1 x.2⟩
def m_c_maker_lengths_L0_S : LoopSpec := { pin := 0, cs := [(.slice tI), tI], vs := [tI], head := ⟨19, .con (.slice tI) :: .fn 146 [] :: aN 5 [.con tI, .var tI], []⟩, exits := [(.ret, ⟨19, [.con (.slice tI), .fn 146 [], .any, .any, .var tI, .any, .any, .con tI], []⟩, [tI]), (.exit 0, ⟨19, .con (.slice tI) :: .fn 146 [] :: aN 5 [.con tI], []⟩, [])] }
def m_c_maker_lengths_L0_e (ρ : Type) : LEnt ρ := ⟨[1, 10, 1, 2], 174, 0, m_c_maker_lengths_L0_S, fun (p : Val (.pair (.slice tI) tI)) (v : Val tI) kn kx => m_c_maker_lengths_L0 p.1 p.2 v (fun u0 => kn u0) (kx 0) (kx 1)⟩
def m_c_maker_lengths_pt : List (Nat × PFun) := [(147, p_c_within)]
def m_c_maker_lengths_tab (ρ : Type) : List (LEnt ρ) := [m_c_maker_lengths_L0_e ρ]
def m_c_maker_lengths_E (ρ : Type) : Env ρ := mkEnv m_c_maker_lengths_pt (m_c_maker_lengths_tab ρ)
def p_h_Fits : PFun := ⟨[tySystem, (.slice tI)], [.bool, tI], fun (x : Val (.pair tySystem (.slice tI))) => f_h_Fits x.1 x.2⟩
def m_h_Fits_L0_S : LoopSpec := { pin := 1, cs := [(.slice tI), tI, tI, (.slice tyLink)], vs := [tI], head := ⟨19, .con (.slice tI) :: .fn 133 [] :: aN 5 [.con tI, .var tI], [.cells [.con tI, .con (.slice tyLink)]]⟩, exits := [(.ret, ⟨19, [.con (.slice tI), .fn 133 [], .any, .any, .var tI, .any, .any, .con tI], [.cells [.con tI, .con (.slice tyLink)]]⟩, [tI]), (.exit 0, ⟨19, .con (.slice tI) :: .fn 133 [] :: aN 5 [.con tI], [.cells [.con tI, .con (.slice tyLink)]]⟩, [])] }
def m_h_Fits_L0_e (ρ : Type) : LEnt ρ := ⟨[4, 7, 1, 2], 174, 0, m_h_Fits_L0_S, fun (p : Val (.pair (.slice tI) (.pair tI tySystem))) (v : Val tI) kn kx => m_h_Fits_L0 p.1 p.2.1 v (fun u0 => kn u0) (kx 0) (kx 1)⟩
def m_h_Fits_L1_S : LoopSpec := { pin := 0, cs := [(.slice tI), (.slice tyLink), tI], vs := [tI], head := ⟨53, .any :: .con (.slice tI) :: aN 26 [.con (.slice tyLink), .con tI, .var tI], []⟩, exits := [(.ret, ⟨53, .any :: .con (.slice tI) :: .any :: .any :: .var .bool :: .var tI :: aN 22 [.con (.slice tyLink), .con tI], []⟩, [.bool, tI]), (.exit 0, ⟨53, .any :: .con (.slice tI) :: aN 26 [.con (.slice tyLink), .con tI], []⟩, [])] }
def m_h_Fits_L1_e (ρ : Type) : LEnt ρ := ⟨[], 65, 0, m_h_Fits_L1_S, fun (p : Val (.pair (.slice tI) (.pair (.slice tyLink) tI))) (v : Val tI) kn kx => m_h_Fits_L1 p.1 p.2.1 p.2.2 v (fun u0 => kn u0) (kx 0) (kx 1)⟩
def m_h_Fits_pt : List (Nat × PFun) := [(130, p_h_Check)]
def m_h_Fits_tab (ρ : Type) : List (LEnt ρ) := [m_h_Fits_L0_e ρ, m_h_Fits_L1_e ρ]
def m_h_Fits_E (ρ : Type) : Env ρ := mkEnv m_h_Fits_pt (m_h_Fits_tab ρ)
def p_c_maker_fits : PFun := ⟨[(.ptr tymaker), (.slice tI)], [.bool], fun (x : Val (.pair (.ptr tymaker) (.slice tI))) => f_c_maker_fits x.1 x.2⟩
def m_c_maker_fits_pt : List (Nat × PFun) := [(65, p_h_Fits)]
def m_c_maker_fits_tab (ρ : Type) : List (LEnt ρ) := []
def m_c_maker_fits_E (ρ : Type) : Env ρ := mkEnv m_c_maker_fits_pt (m_c_maker_fits_tab ρ)
def p_c_Fits : PFun := ⟨[tyBook, (.slice tI)], [.bool, tI], fun (x : Val (.pair tyBook (.slice tI))) => f_c_Fits x.1 x.2⟩
def m_c_Fits_pt : List (Nat × PFun) := [(46, p_c_Check), (76, p_c_made), (93, p_c_maker_lengths), (94, p_c_maker_fits)]
def m_c_Fits_tab (ρ : Type) : List (LEnt ρ) := []
def m_c_Fits_E (ρ : Type) : Env ρ := mkEnv m_c_Fits_pt (m_c_Fits_tab ρ)
def p_c_Nodes : PFun := ⟨[tyBook], [(.slice tySpan), tI], fun (x : Val tyBook) => f_c_Nodes x⟩
def m_c_Nodes_pt : List (Nat × PFun) := [(46, p_c_Check), (99, p_c_nodes)]
def m_c_Nodes_tab (ρ : Type) : List (LEnt ρ) := []
def m_c_Nodes_E (ρ : Type) : Env ρ := mkEnv m_c_Nodes_pt (m_c_Nodes_tab ρ)
def p_c_Can : PFun := ⟨[tyBook, tI, (.slice tI), (.slice tI)], [.bool, tI], fun (x : Val (.pair tyBook (.pair tI (.pair (.slice tI) (.slice tI))))) => f_c_Can x.1 x.2.1 x.2.2.1 x.2.2.2⟩
def m_c_Can_L0_S : LoopSpec := { pin := 0, cs := [tI, (.slice tI), (.slice tI), (.map tI tyGauge), (.slice tI), tI, tI, tI, (.slice tyGauge), (.slice tySpan), (.slice tyLoan), (.slice tyCompare), (.slice tySpan)], vs := [tI], head := ⟨85, .any :: .con tI :: .con (.slice tI) :: .con (.slice tI) :: .box 0 0 :: aN 6 (.con (.map tI tyGauge) :: aN 29 [.con (.slice tI), .con tI, .var tI]), [.cells [.con tI, .con tI, .con (.slice tyGauge), .con (.slice tySpan), .con (.slice tyLoan), .con (.slice tyCompare), .con (.slice tySpan)]]⟩, exits := [(.ret, ⟨85, .any :: .con tI :: .con (.slice tI) :: .con (.slice tI) :: .box 0 0 :: .any :: .any :: .any :: .var .bool :: .var tI :: .any :: .con (.map tI tyGauge) :: aN 29 [.con (.slice tI), .con tI], [.cells [.con tI, .con tI, .con (.slice tyGauge), .con (.slice tySpan), .con (.slice tyLoan), .con (.slice tyCompare), .con (.slice tySpan)]]⟩, [.bool, tI]), (.exit 0, ⟨85, .any :: .con tI :: .con (.slice tI) :: .con (.slice tI) :: .box 0 0 :: aN 6 (.con (.map tI tyGauge) :: aN 29 [.con (.slice tI), .con tI]), [.cells [.con tI, .con tI, .con (.slice tyGauge), .con (.slice tySpan), .con (.slice tyLoan), .con (.slice tyCompare), .con (.slice tySpan)]]⟩, [])] }
def m_c_Can_L0_e (ρ : Type) : LEnt ρ := ⟨[], 32, 0, m_c_Can_L0_S, fun (p : Val (.pair tI (.pair (.slice tI) (.pair (.slice tI) (.pair (.map tI tyGauge) (.pair (.slice tI) (.pair tI (.pair tI (.pair tI (.pair (.slice tyGauge) (.pair (.slice tySpan) (.pair (.slice tyLoan) (.pair (.slice tyCompare) (.slice tySpan)))))))))))))) (v : Val tI) kn kx => m_c_Can_L0 p.1 p.2.2.2.1 p.2.2.2.2.1 p.2.2.2.2.2.1 p.2.2.2.2.2.2.1 p.2.2.2.2.2.2.2.1 p.2.2.2.2.2.2.2.2.1 p.2.2.2.2.2.2.2.2.2.1 p.2.2.2.2.2.2.2.2.2.2.1 p.2.2.2.2.2.2.2.2.2.2.2.1 p.2.2.2.2.2.2.2.2.2.2.2.2 v (fun u0 => kn u0) (kx 0) (kx 1)⟩
def m_c_Can_pt : List (Nat × PFun) := [(46, p_c_Check), (78, p_c_left), (104, p_c_isPile), (105, p_c_isDay), (106, p_c_shelved), (107, p_s_Concat_int_int), (108, p_c_away), (109, p_c_shelf_made)]
def m_c_Can_tab (ρ : Type) : List (LEnt ρ) := [m_c_Can_L0_e ρ]
def m_c_Can_E (ρ : Type) : Env ρ := mkEnv m_c_Can_pt (m_c_Can_tab ρ)
def p_c_which : PFun := ⟨[tyBook, tI], [tyCompare, tI], fun (x : Val (.pair tyBook tI)) => f_c_which x.1 x.2⟩
def m_c_which_pt : List (Nat × PFun) := [(46, p_c_Check)]
def m_c_which_tab (ρ : Type) : List (LEnt ρ) := []
def m_c_which_E (ρ : Type) : Env ρ := mkEnv m_c_which_pt (m_c_which_tab ρ)
def p_c_Growth : PFun := ⟨[tyBook, tI], [tyRange, tI], fun (x : Val (.pair tyBook tI)) => f_c_Growth x.1 x.2⟩
def m_c_Growth_pt : List (Nat × PFun) := [(111, p_c_which), (112, p_c_growth)]
def m_c_Growth_tab (ρ : Type) : List (LEnt ρ) := []
def m_c_Growth_E (ρ : Type) : Env ρ := mkEnv m_c_Growth_pt (m_c_Growth_tab ρ)
def p_c_Says : PFun := ⟨[tyBook, tI], [tySpan, tI], fun (x : Val (.pair tyBook tI)) => f_c_Says x.1 x.2⟩
def m_c_Says_pt : List (Nat × PFun) := [(111, p_c_which), (114, p_c_says)]
def m_c_Says_tab (ρ : Type) : List (LEnt ρ) := []
def m_c_Says_E (ρ : Type) : Env ρ := mkEnv m_c_Says_pt (m_c_Says_tab ρ)
def p_c_System : PFun := ⟨[tyBook], [tySystem, (.slice tySpan), tI], fun (x : Val tyBook) => f_c_System x⟩
def m_c_System_pt : List (Nat × PFun) := [(46, p_c_Check), (76, p_c_made)]
def m_c_System_tab (ρ : Type) : List (LEnt ρ) := []
def m_c_System_E (ρ : Type) : Env ρ := mkEnv m_c_System_pt (m_c_System_tab ρ)
def p_c_asked : PFun := ⟨[tyBook, tI, (.slice tI)], [tI], fun (x : Val (.pair tyBook (.pair tI (.slice tI)))) => f_c_asked x.1 x.2.1 x.2.2⟩
def m_c_asked_L0_S : LoopSpec := { pin := 1, cs := [(.slice tI), tI, tI, tI, (.slice tyGauge), (.slice tySpan), (.slice tyLoan), (.slice tyCompare), (.slice tySpan)], vs := [tI], head := ⟨19, .con (.slice tI) :: .fn 168 [] :: aN 5 [.con tI, .var tI], [.cells [.con tI, .con tI, .con (.slice tyGauge), .con (.slice tySpan), .con (.slice tyLoan), .con (.slice tyCompare), .con (.slice tySpan)]]⟩, exits := [(.ret, ⟨19, [.con (.slice tI), .fn 168 [], .any, .any, .var tI, .any, .any, .con tI], [.cells [.con tI, .con tI, .con (.slice tyGauge), .con (.slice tySpan), .con (.slice tyLoan), .con (.slice tyCompare), .con (.slice tySpan)]]⟩, [tI]), (.exit 0, ⟨19, .con (.slice tI) :: .fn 168 [] :: aN 5 [.con tI], [.cells [.con tI, .con tI, .con (.slice tyGauge), .con (.slice tySpan), .con (.slice tyLoan), .con (.slice tyCompare), .con (.slice tySpan)]]⟩, [])] }
def m_c_asked_L0_e (ρ : Type) : LEnt ρ := ⟨[4, 1, 1, 2], 174, 0, m_c_asked_L0_S, fun (p : Val (.pair (.slice tI) (.pair tI (.pair tI (.pair tI (.pair (.slice tyGauge) (.pair (.slice tySpan) (.pair (.slice tyLoan) (.pair (.slice tyCompare) (.slice tySpan)))))))))) (v : Val tI) kn kx => m_c_asked_L0 p.1 p.2.1 v (fun u0 => kn u0) (kx 0) (kx 1)⟩
def m_c_asked_pt : List (Nat × PFun) := [(46, p_c_Check), (105, p_c_isDay), (106, p_c_shelved)]
def m_c_asked_tab (ρ : Type) : List (LEnt ρ) := [m_c_asked_L0_e ρ]
def m_c_asked_E (ρ : Type) : Env ρ := mkEnv m_c_asked_pt (m_c_asked_tab ρ)
def p_c_Loss : PFun := ⟨[tyBook, tI, tI, tI], [tI, tI], fun (x : Val (.pair tyBook tyLink)) => f_c_Loss x.1 x.2.1 x.2.2.1 x.2.2.2⟩
def m_c_Loss_pt : List (Nat × PFun) := [(106, p_c_shelved), (127, p_c_asked), (129, p_c_loss)]
def m_c_Loss_tab (ρ : Type) : List (LEnt ρ) := []
def m_c_Loss_E (ρ : Type) : Env ρ := mkEnv m_c_Loss_pt (m_c_Loss_tab ρ)
def p_w5_example : PFun := ⟨[], [tyBook], fun (_ : Unit) => f_w5_example⟩
def m_w5_example_pt : List (Nat × PFun) := []
def m_w5_example_tab (ρ : Type) : List (LEnt ρ) := []
def m_w5_example_E (ρ : Type) : Env ρ := mkEnv m_w5_example_pt (m_w5_example_tab ρ)
def p_w5_sanity : PFun := ⟨[], [.bool], fun (_ : Unit) => f_w5_sanity⟩
def m_w5_sanity_pt : List (Nat × PFun) := [(20, p_c_Predict), (24, p_c_Fits), (28, p_c_Nodes), (32, p_c_Can), (38, p_c_Growth), (40, p_c_Says), (51, p_c_System), (57, p_c_Loss), (75, p_w5_example)]
def m_w5_sanity_tab (ρ : Type) : List (LEnt ρ) := []
def m_w5_sanity_E (ρ : Type) : Env ρ := mkEnv m_w5_sanity_pt (m_w5_sanity_tab ρ)
def p_r5_In : PFun := ⟨[tI, tI, tI], [.bool], fun (x : Val tyLink) => f_r5_In x.1 x.2.1 x.2.2⟩
def m_r5_In_pt : List (Nat × PFun) := []
def m_r5_In_tab (ρ : Type) : List (LEnt ρ) := []
def m_r5_In_E (ρ : Type) : Env ρ := mkEnv m_r5_In_pt (m_r5_In_tab ρ)
def p_r5_Day : PFun := ⟨[tI], [.bool], fun (x : Val tI) => f_r5_Day x⟩
def m_r5_Day_pt : List (Nat × PFun) := [(41, p_r5_In)]
def m_r5_Day_tab (ρ : Type) : List (LEnt ρ) := []
def m_r5_Day_E (ρ : Type) : Env ρ := mkEnv m_r5_Day_pt (m_r5_Day_tab ρ)
def p_r5_Has : PFun := ⟨[(.slice tI), tI], [.bool], fun (x : Val (.pair (.slice tI) tI)) => f_r5_Has x.1 x.2⟩
def m_r5_Has_L0_S : LoopSpec := { pin := 0, cs := [(.slice tI), tI], vs := [tI], head := ⟨18, [.con (.slice tI), .con tI, .any, .any, .any, .var tI], []⟩, exits := [(.ret, ⟨18, [.con (.slice tI), .con tI, .any, .any, .var .bool], []⟩, [.bool]), (.exit 0, ⟨18, [.con (.slice tI), .con tI], []⟩, [])] }
def m_r5_Has_L0_e (ρ : Type) : LEnt ρ := ⟨[], 110, 0, m_r5_Has_L0_S, fun (p : Val (.pair (.slice tI) tI)) (v : Val tI) kn kx => m_r5_Has_L0 p.1 p.2 v (fun u0 => kn u0) (kx 0) (kx 1)⟩
def m_r5_Has_pt : List (Nat × PFun) := []
def m_r5_Has_tab (ρ : Type) : List (LEnt ρ) := [m_r5_Has_L0_e ρ]
def m_r5_Has_E (ρ : Type) : Env ρ := mkEnv m_r5_Has_pt (m_r5_Has_tab ρ)
def p_r5_Left : PFun := ⟨[(.slice tI), (.slice tI)], [(.slice tI)], fun (x : Val (.pair (.slice tI) (.slice tI))) => f_r5_Left x.1 x.2⟩
def m_r5_Left_L0_S : LoopSpec := { pin := 0, cs := [(.slice tI), (.slice tI)], vs := [tI, (.slice tI)], head := ⟨28, [.con (.slice tI), .con (.slice tI), .any, .any, .any, .own 0, .var tI], [.rowv tI]⟩, exits := [(.exit 0, ⟨28, [.con (.slice tI), .con (.slice tI), .any, .any, .any, .own 0], [.rowv tI]⟩, [(.slice tI)])] }
def m_r5_Left_L0_e (ρ : Type) : LEnt ρ := ⟨[], 35, 0, m_r5_Left_L0_S, fun (p : Val (.pair (.slice tI) (.slice tI))) (v : Val (.pair tI (.slice tI))) kn kx => m_r5_Left_L0 p.1 p.2 v.1 v.2 (fun u0 u1 => kn (u0, u1)) (kx 0)⟩
def m_r5_Left_pt : List (Nat × PFun) := [(110, p_r5_Has)]
def m_r5_Left_tab (ρ : Type) : List (LEnt ρ) := [m_r5_Left_L0_e ρ]
def m_r5_Left_E (ρ : Type) : Env ρ := mkEnv m_r5_Left_pt (m_r5_Left_tab ρ)
def p_r5_one : PFun := ⟨[(.slice tI), (.slice tI)], [tI], fun (x : Val (.pair (.slice tI) (.slice tI))) => f_r5_one x.1 x.2⟩
def m_r5_one_pt : List (Nat × PFun) := [(35, p_r5_Left)]
def m_r5_one_tab (ρ : Type) : List (LEnt ρ) := []
def m_r5_one_E (ρ : Type) : Env ρ := mkEnv m_r5_one_pt (m_r5_one_tab ρ)
def p_r1_Gcd : PFun := ⟨[tI, tI], [tI], fun (x : Val tySpan) => f_r1_Gcd x.1 x.2⟩
def m_r1_Gcd_L0_S : LoopSpec := { pin := 0, cs := [], vs := [tI, tI], head := ⟨14, [.var tI, .var tI], []⟩, exits := [(.exit 0, ⟨14, [.var tI], []⟩, [tI])] }
def m_r1_Gcd_L0_e (ρ : Type) : LEnt ρ := ⟨[], 178, 0, m_r1_Gcd_L0_S, fun (p : Unit) (v : Val tySpan) kn kx => m_r1_Gcd_L0 v.1 v.2 (fun u0 u1 => kn (u0, u1)) (kx 0)⟩
def m_r1_Gcd_pt : List (Nat × PFun) := []
def m_r1_Gcd_tab (ρ : Type) : List (LEnt ρ) := [m_r1_Gcd_L0_e ρ]
def m_r1_Gcd_E (ρ : Type) : Env ρ := mkEnv m_r1_Gcd_pt (m_r1_Gcd_tab ρ)
def p_r1_Abs : PFun := ⟨[tI], [tI], fun (x : Val tI) => f_r1_Abs x⟩
def m_r1_Abs_pt : List (Nat × PFun) := []
def m_r1_Abs_tab (ρ : Type) : List (LEnt ρ) := []
def m_r1_Abs_E (ρ : Type) : Env ρ := mkEnv m_r1_Abs_pt (m_r1_Abs_tab ρ)
def p_r1_lowest : PFun := ⟨[tI, tI], [tyNum], fun (x : Val tySpan) => f_r1_lowest x.1 x.2⟩
def m_r1_lowest_pt : List (Nat × PFun) := [(178, p_r1_Gcd), (179, p_r1_Abs)]
def m_r1_lowest_tab (ρ : Type) : List (LEnt ρ) := []
def m_r1_lowest_E (ρ : Type) : Env ρ := mkEnv m_r1_lowest_pt (m_r1_lowest_tab ρ)
def p_r1_Add : PFun := ⟨[tySpan, tySpan], [tyNum], fun (x : Val tyRange) => f_r1_Add x.1 x.2⟩
def m_r1_Add_pt : List (Nat × PFun) := [(187, p_r1_lowest)]
def m_r1_Add_tab (ρ : Type) : List (LEnt ρ) := []
def m_r1_Add_E (ρ : Type) : Env ρ := mkEnv m_r1_Add_pt (m_r1_Add_tab ρ)
def p_r1_Neg : PFun := ⟨[tySpan], [tySpan], fun (x : Val tySpan) => f_r1_Neg x⟩
def m_r1_Neg_pt : List (Nat × PFun) := []
def m_r1_Neg_tab (ρ : Type) : List (LEnt ρ) := []
def m_r1_Neg_E (ρ : Type) : Env ρ := mkEnv m_r1_Neg_pt (m_r1_Neg_tab ρ)
def p_r1_Sub : PFun := ⟨[tySpan, tySpan], [tyNum], fun (x : Val tyRange) => f_r1_Sub x.1 x.2⟩
def m_r1_Sub_pt : List (Nat × PFun) := [(157, p_r1_Add), (158, p_r1_Neg)]
def m_r1_Sub_tab (ρ : Type) : List (LEnt ρ) := []
def m_r1_Sub_E (ρ : Type) : Env ρ := mkEnv m_r1_Sub_pt (m_r1_Sub_tab ρ)
def p_r5_Find : PFun := ⟨[tyBook, tI], [tI], fun (x : Val (.pair tyBook tI)) => f_r5_Find x.1 x.2⟩
def m_r5_Find_L0_S : LoopSpec := { pin := 0, cs := [tI, tI, tI, (.slice tyGauge), (.slice tySpan), (.slice tyLoan), (.slice tyCompare), (.slice tySpan)], vs := [tI], head := ⟨22, [.any, .con tI, .box 0 0, .any, .any, .var tI], [.cells [.con tI, .con tI, .con (.slice tyGauge), .con (.slice tySpan), .con (.slice tyLoan), .con (.slice tyCompare), .con (.slice tySpan)]]⟩, exits := [(.ret, ⟨22, [.any, .con tI, .box 0 0, .any, .var tI], [.cells [.con tI, .con tI, .con (.slice tyGauge), .con (.slice tySpan), .con (.slice tyLoan), .con (.slice tyCompare), .con (.slice tySpan)]]⟩, [tI]), (.exit 0, ⟨22, [.any, .con tI, .box 0 0], [.cells [.con tI, .con tI, .con (.slice tyGauge), .con (.slice tySpan), .con (.slice tyLoan), .con (.slice tyCompare), .con (.slice tySpan)]]⟩, [])] }
def m_r5_Find_L0_e (ρ : Type) : LEnt ρ := ⟨[], 61, 0, m_r5_Find_L0_S, fun (p : Val (.pair tI (.pair tI (.pair tI (.pair (.slice tyGauge) (.pair (.slice tySpan) (.pair (.slice tyLoan) (.pair (.slice tyCompare) (.slice tySpan))))))))) (v : Val tI) kn kx => m_r5_Find_L0 p.1 p.2.2.2.1 v (fun u0 => kn u0) (kx 0) (kx 1)⟩
def m_r5_Find_pt : List (Nat × PFun) := []
def m_r5_Find_tab (ρ : Type) : List (LEnt ρ) := [m_r5_Find_L0_e ρ]
def m_r5_Find_E (ρ : Type) : Env ρ := mkEnv m_r5_Find_pt (m_r5_Find_tab ρ)
def p_r5_grows : PFun := ⟨[tyBook, tI], [tySpan], fun (x : Val (.pair tyBook tI)) => f_r5_grows x.1 x.2⟩
def m_r5_grows_pt : List (Nat × PFun) := [(61, p_r5_Find)]
def m_r5_grows_tab (ρ : Type) : List (LEnt ρ) := []
def m_r5_grows_E (ρ : Type) : Env ρ := mkEnv m_r5_grows_pt (m_r5_grows_tab ρ)
def p_r1_both : PFun := ⟨[tyNum, tyNum], [tyEnds], fun (x : Val (.pair tyNum tyNum)) => f_r1_both x.1 x.2⟩
def m_r1_both_pt : List (Nat × PFun) := []
def m_r1_both_tab (ρ : Type) : List (LEnt ρ) := []
def m_r1_both_E (ρ : Type) : Env ρ := mkEnv m_r1_both_pt (m_r1_both_tab ρ)
def p_r1_Mul : PFun := ⟨[tySpan, tySpan], [tyNum], fun (x : Val tyRange) => f_r1_Mul x.1 x.2⟩
def m_r1_Mul_pt : List (Nat × PFun) := [(187, p_r1_lowest)]
def m_r1_Mul_tab (ρ : Type) : List (LEnt ρ) := []
def m_r1_Mul_E (ρ : Type) : Env ρ := mkEnv m_r1_Mul_pt (m_r1_Mul_tab ρ)
def p_r1_Scale : PFun := ⟨[tyRange, tySpan], [tyEnds], fun (x : Val (.pair tyRange tySpan)) => f_r1_Scale x.1 x.2⟩
def m_r1_Scale_pt : List (Nat × PFun) := [(159, p_r1_both), (160, p_r1_Mul)]
def m_r1_Scale_tab (ρ : Type) : List (LEnt ρ) := []
def m_r1_Scale_E (ρ : Type) : Env ρ := mkEnv m_r1_Scale_pt (m_r1_Scale_tab ρ)
def p_r5_Growth : PFun := ⟨[tyBook, tyCompare], [tyRange], fun (x : Val (.pair tyBook tyCompare)) => f_r5_Growth x.1 x.2⟩
def m_r5_Growth_pt : List (Nat × PFun) := [(91, p_r5_one), (115, p_r1_Sub), (116, p_r5_grows), (117, p_r1_Scale)]
def m_r5_Growth_tab (ρ : Type) : List (LEnt ρ) := []
def m_r5_Growth_E (ρ : Type) : Env ρ := mkEnv m_r5_Growth_pt (m_r5_Growth_tab ρ)
def p_r5_Films : PFun := ⟨[tyBook, tyCompare], [tySpan], fun (x : Val (.pair tyBook tyCompare)) => f_r5_Films x.1 x.2⟩
def m_r5_Films_pt : List (Nat × PFun) := []
def m_r5_Films_tab (ρ : Type) : List (LEnt ρ) := []
def m_r5_Films_E (ρ : Type) : Env ρ := mkEnv m_r5_Films_pt (m_r5_Films_tab ρ)
def p_r1_down : PFun := ⟨[tI, tI], [tI], fun (x : Val tySpan) => f_r1_down x.1 x.2⟩
def m_r1_down_pt : List (Nat × PFun) := []
def m_r1_down_tab (ρ : Type) : List (LEnt ρ) := []
def m_r1_down_E (ρ : Type) : Env ρ := mkEnv m_r1_down_pt (m_r1_down_tab ρ)
def p_r1_Floor : PFun := ⟨[tySpan], [tI], fun (x : Val tySpan) => f_r1_Floor x⟩
def m_r1_Floor_pt : List (Nat × PFun) := [(161, p_r1_down)]
def m_r1_Floor_tab (ρ : Type) : List (LEnt ρ) := []
def m_r1_Floor_E (ρ : Type) : Env ρ := mkEnv m_r1_Floor_pt (m_r1_Floor_tab ρ)
def p_r1_up : PFun := ⟨[tI, tI], [tI], fun (x : Val tySpan) => f_r1_up x.1 x.2⟩
def m_r1_up_pt : List (Nat × PFun) := []
def m_r1_up_tab (ρ : Type) : List (LEnt ρ) := []
def m_r1_up_E (ρ : Type) : Env ρ := mkEnv m_r1_up_pt (m_r1_up_tab ρ)
def p_r1_Ceil : PFun := ⟨[tySpan], [tI], fun (x : Val tySpan) => f_r1_Ceil x⟩
def m_r1_Ceil_pt : List (Nat × PFun) := [(162, p_r1_up)]
def m_r1_Ceil_tab (ρ : Type) : List (LEnt ρ) := []
def m_r1_Ceil_E (ρ : Type) : Env ρ := mkEnv m_r1_Ceil_pt (m_r1_Ceil_tab ρ)
def p_r5_Says : PFun := ⟨[tyBook, tyCompare], [tySpan], fun (x : Val (.pair tyBook tyCompare)) => f_r5_Says x.1 x.2⟩
def m_r5_Says_pt : List (Nat × PFun) := [(42, p_r5_Growth), (43, p_r5_Films), (118, p_r1_Floor), (119, p_r1_Ceil)]
def m_r5_Says_tab (ρ : Type) : List (LEnt ρ) := []
def m_r5_Says_E (ρ : Type) : Env ρ := mkEnv m_r5_Says_pt (m_r5_Says_tab ρ)
def p_r5_asks : PFun := ⟨[tyBook, tyGauge, tI], [.bool], fun (x : Val (.pair tyBook (.pair tyGauge tI))) => f_r5_asks x.1 x.2.1 x.2.2⟩
def m_r5_asks_L0_S : LoopSpec := { pin := 0, cs := [tI, tI, tI, (.slice tyGauge), (.slice tySpan), (.slice tyLoan), (.slice tyCompare), (.slice tySpan), tI, tI, tI, tI, tI, tI, tI, tI], vs := [tI], head := ⟨76, [.any, .any, .con tI, .box 0 0, .box 1 0, .any, .any, .var tI], [.cells [.con tI, .con tI, .con (.slice tyGauge), .con (.slice tySpan), .con (.slice tyLoan), .con (.slice tyCompare), .con (.slice tySpan)], .cells [.con tI, .con tI, .con tI, .con tI, .con tI, .con tI, .con tI, .con tI]]⟩, exits := [(.ret, ⟨76, [.any, .any, .con tI, .box 0 0, .box 1 0, .any, .var .bool], [.cells [.con tI, .con tI, .con (.slice tyGauge), .con (.slice tySpan), .con (.slice tyLoan), .con (.slice tyCompare), .con (.slice tySpan)], .cells [.con tI, .con tI, .con tI, .con tI, .con tI, .con tI, .con tI, .con tI]]⟩, [.bool]), (.exit 0, ⟨76, [.any, .any, .con tI, .box 0 0, .box 1 0], [.cells [.con tI, .con tI, .con (.slice tyGauge), .con (.slice tySpan), .con (.slice tyLoan), .con (.slice tyCompare), .con (.slice tySpan)], .cells [.con tI, .con tI, .con tI, .con tI, .con tI, .con tI, .con tI, .con tI]]⟩, [])] }
def m_r5_asks_L0_e (ρ : Type) : LEnt ρ := ⟨[], 126, 0, m_r5_asks_L0_S, fun (p : Val (.pair tI (.pair tI (.pair tI (.pair (.slice tyGauge) (.pair (.slice tySpan) (.pair (.slice tyLoan) (.pair (.slice tyCompare) (.pair (.slice tySpan) (.pair tI (.pair tI (.pair tI (.pair tI (.pair tI tyLink)))))))))))))) (v : Val tI) kn kx => m_r5_asks_L0 p.1 p.2.2.2.2.2.2.1 p.2.2.2.2.2.2.2.2.1 v (fun u0 => kn u0) (kx 0) (kx 1)⟩
def m_r5_asks_L1_S : LoopSpec := { pin := 0, cs := [tI, tI, tI, (.slice tyGauge), (.slice tySpan), (.slice tyLoan), (.slice tyCompare), (.slice tySpan), tI, tI, tI, tI, tI, tI, tI, tI], vs := [tI], head := ⟨76, .any :: .any :: .con tI :: .box 0 0 :: .box 1 0 :: aN 4 [.var tI], [.cells [.con tI, .con tI, .con (.slice tyGauge), .con (.slice tySpan), .con (.slice tyLoan), .con (.slice tyCompare), .con (.slice tySpan)], .cells [.con tI, .con tI, .con tI, .con tI, .con tI, .con tI, .con tI, .con tI]]⟩, exits := [(.ret, ⟨76, [.any, .any, .con tI, .box 0 0, .box 1 0, .any, .var .bool], [.cells [.con tI, .con tI, .con (.slice tyGauge), .con (.slice tySpan), .con (.slice tyLoan), .con (.slice tyCompare), .con (.slice tySpan)], .cells [.con tI, .con tI, .con tI, .con tI, .con tI, .con tI, .con tI, .con tI]]⟩, [.bool]), (.exit 2, ⟨76, [.any, .any, .con tI, .box 0 0, .box 1 0], [.cells [.con tI, .con tI, .con (.slice tyGauge), .con (.slice tySpan), .con (.slice tyLoan), .con (.slice tyCompare), .con (.slice tySpan)], .cells [.con tI, .con tI, .con tI, .con tI, .con tI, .con tI, .con tI, .con tI]]⟩, [])] }
def m_r5_asks_L1_e (ρ : Type) : LEnt ρ := ⟨[], 126, 2, m_r5_asks_L1_S, fun (p : Val (.pair tI (.pair tI (.pair tI (.pair (.slice tyGauge) (.pair (.slice tySpan) (.pair (.slice tyLoan) (.pair (.slice tyCompare) (.pair (.slice tySpan) (.pair tI (.pair tI (.pair tI (.pair tI (.pair tI tyLink)))))))))))))) (v : Val tI) kn kx => m_r5_asks_L1 p.1 p.2.2.2.2.2.2.2.1 p.2.2.2.2.2.2.2.2.1 v (fun u0 => kn u0) (kx 0) (kx 1)⟩
def m_r5_asks_pt : List (Nat × PFun) := [(91, p_r5_one)]
def m_r5_asks_tab (ρ : Type) : List (LEnt ρ) := [m_r5_asks_L0_e ρ, m_r5_asks_L1_e ρ]
def m_r5_asks_E (ρ : Type) : Env ρ := mkEnv m_r5_asks_pt (m_r5_asks_tab ρ)
def p_r5_Nodes : PFun := ⟨[tyBook], [(.slice tySpan)], fun (x : Val tyBook) => f_r5_Nodes x⟩
def m_r5_Nodes_L0_S : LoopSpec := { pin := 0, cs := [tI, tI, (.slice tyGauge), (.slice tySpan), (.slice tyLoan), (.slice tyCompare), (.slice tySpan)], vs := [tI, (.slice tI)], head := ⟨114, [.any, .box 0 0, .any, .own 1, .var tI], [.cells [.con tI, .con tI, .con (.slice tyGauge), .con (.slice tySpan), .con (.slice tyLoan), .con (.slice tyCompare), .con (.slice tySpan)], .rowv tI]⟩, exits := [(.exit 0, ⟨114, [.any, .box 0 0, .any, .own 1], [.cells [.con tI, .con tI, .con (.slice tyGauge), .con (.slice tySpan), .con (.slice tyLoan), .con (.slice tyCompare), .con (.slice tySpan)], .rowv tI]⟩, [(.slice tI)])] }
def m_r5_Nodes_L0_e (ρ : Type) : LEnt ρ := ⟨[], 54, 0, m_r5_Nodes_L0_S, fun (p : Val (.pair tI (.pair tI (.pair (.slice tyGauge) (.pair (.slice tySpan) (.pair (.slice tyLoan) (.pair (.slice tyCompare) (.slice tySpan)))))))) (v : Val (.pair tI (.slice tI))) kn kx => m_r5_Nodes_L0 p.2.2.1 v.1 v.2 (fun u0 u1 => kn (u0, u1)) (kx 0)⟩
def m_r5_Nodes_L1_S : LoopSpec := { pin := 0, cs := [tI, tI, (.slice tyGauge), (.slice tySpan), (.slice tyLoan), (.slice tyCompare), (.slice tySpan)], vs := [tI, (.slice tI)], head := ⟨114, [.any, .box 0 0, .any, .own 1, .any, .var tI], [.cells [.con tI, .con tI, .con (.slice tyGauge), .con (.slice tySpan), .con (.slice tyLoan), .con (.slice tyCompare), .con (.slice tySpan)], .rowv tI]⟩, exits := [(.exit 2, ⟨114, [.any, .box 0 0, .any, .own 1], [.cells [.con tI, .con tI, .con (.slice tyGauge), .con (.slice tySpan), .con (.slice tyLoan), .con (.slice tyCompare), .con (.slice tySpan)], .rowv tI]⟩, [(.slice tI)])] }
def m_r5_Nodes_L1_e (ρ : Type) : LEnt ρ := ⟨[], 54, 2, m_r5_Nodes_L1_S, fun (p : Val (.pair tI (.pair tI (.pair (.slice tyGauge) (.pair (.slice tySpan) (.pair (.slice tyLoan) (.pair (.slice tyCompare) (.slice tySpan)))))))) (v : Val (.pair tI (.slice tI))) kn kx => m_r5_Nodes_L1 p.2.2.2.2.2.1 v.1 v.2 (fun u0 u1 => kn (u0, u1)) (kx 0)⟩
def m_r5_Nodes_L2_S : LoopSpec := { pin := 0, cs := [tI, tI, (.slice tyGauge), (.slice tySpan), (.slice tyLoan), (.slice tyCompare), (.slice tySpan)], vs := [tI, (.slice tI)], head := ⟨114, [.any, .box 0 0, .any, .own 1, .any, .any, .var tI], [.cells [.con tI, .con tI, .con (.slice tyGauge), .con (.slice tySpan), .con (.slice tyLoan), .con (.slice tyCompare), .con (.slice tySpan)], .rowv tI]⟩, exits := [(.exit 4, ⟨114, [.any, .box 0 0, .any, .own 1], [.cells [.con tI, .con tI, .con (.slice tyGauge), .con (.slice tySpan), .con (.slice tyLoan), .con (.slice tyCompare), .con (.slice tySpan)], .rowv tI]⟩, [(.slice tI)])] }
def m_r5_Nodes_L2_e (ρ : Type) : LEnt ρ := ⟨[], 54, 4, m_r5_Nodes_L2_S, fun (p : Val (.pair tI (.pair tI (.pair (.slice tyGauge) (.pair (.slice tySpan) (.pair (.slice tyLoan) (.pair (.slice tyCompare) (.slice tySpan)))))))) (v : Val (.pair tI (.slice tI))) kn kx => m_r5_Nodes_L2 p.2.2.2.2.2.2 v.1 v.2 (fun u0 u1 => kn (u0, u1)) (kx 0)⟩
def m_r5_Nodes_L5_S : LoopSpec := { pin := 0, cs := [tI, tI, tI, tI, (.slice tyGauge), (.slice tySpan), (.slice tyLoan), (.slice tyCompare), (.slice tySpan), (.slice tI), (.slice tySpan)], vs := [tI, tI], head := ⟨114, [.any, .box 0 0, .any, .own 1, .any, .any, .any, .own 2, .con tI, .con tI, .var tI, .var tI], [.cells [.con tI, .con tI, .con (.slice tyGauge), .con (.slice tySpan), .con (.slice tyLoan), .con (.slice tyCompare), .con (.slice tySpan)], .rowc tI, .rowc tySpan]⟩, exits := [(.exit 10, ⟨114, [.any, .box 0 0, .any, .own 1, .any, .any, .any, .own 2, .con tI, .con tI, .var tI], [.cells [.con tI, .con tI, .con (.slice tyGauge), .con (.slice tySpan), .con (.slice tyLoan), .con (.slice tyCompare), .con (.slice tySpan)], .rowc tI, .rowc tySpan]⟩, [tI])] }
def m_r5_Nodes_L5_e (ρ : Type) : LEnt ρ := ⟨[], 54, 10, m_r5_Nodes_L5_S, fun (p : Val (.pair tI (.pair tI (.pair tI (.pair tI (.pair (.slice tyGauge) (.pair (.slice tySpan) (.pair (.slice tyLoan) (.pair (.slice tyCompare) (.pair (.slice tySpan) (.pair (.slice tI) (.slice tySpan)))))))))))) (v : Val tySpan) kn kx => m_r5_Nodes_L5 p.2.1 p.2.2.2.2.2.2.2.2.2.1 v.1 v.2 (fun u0 u1 => kn (u0, u1)) (kx 0)⟩
def m_r5_Nodes_L4_S : LoopSpec := { pin := 0, cs := [tI, tI, tI, (.slice tyGauge), (.slice tySpan), (.slice tyLoan), (.slice tyCompare), (.slice tySpan), (.slice tI)], vs := [tI, (.slice tySpan)], head := ⟨114, [.any, .box 0 0, .any, .own 1, .any, .any, .any, .own 2, .con tI, .var tI], [.cells [.con tI, .con tI, .con (.slice tyGauge), .con (.slice tySpan), .con (.slice tyLoan), .con (.slice tyCompare), .con (.slice tySpan)], .rowc tI, .rowv tySpan]⟩, exits := [(.exit 8, ⟨114, [.any, .box 0 0, .any, .own 1, .any, .any, .any, .own 2, .con tI], [.cells [.con tI, .con tI, .con (.slice tyGauge), .con (.slice tySpan), .con (.slice tyLoan), .con (.slice tyCompare), .con (.slice tySpan)], .rowc tI, .rowv tySpan]⟩, [(.slice tySpan)])] }
def m_r5_Nodes_L4_e (ρ : Type) : LEnt ρ := ⟨[], 54, 8, m_r5_Nodes_L4_S, fun (p : Val (.pair tI (.pair tI (.pair tI (.pair (.slice tyGauge) (.pair (.slice tySpan) (.pair (.slice tyLoan) (.pair (.slice tyCompare) (.pair (.slice tySpan) (.slice tI)))))))))) (v : Val (.pair tI (.slice tySpan))) kn kx => m_r5_Nodes_L4 p.1 p.2.1 p.2.2.1 p.2.2.2.1 p.2.2.2.2.1 p.2.2.2.2.2.1 p.2.2.2.2.2.2.1 p.2.2.2.2.2.2.2.1 p.2.2.2.2.2.2.2.2 v.1 v.2 (fun u0 u1 => kn (u0, u1)) (kx 0)⟩
def m_r5_Nodes_L3_S : LoopSpec := { pin := 0, cs := [tI, tI, (.slice tyGauge), (.slice tySpan), (.slice tyLoan), (.slice tyCompare), (.slice tySpan), (.slice tI)], vs := [tI, (.slice tySpan)], head := ⟨114, [.any, .box 0 0, .any, .own 1, .any, .any, .any, .own 2, .var tI], [.cells [.con tI, .con tI, .con (.slice tyGauge), .con (.slice tySpan), .con (.slice tyLoan), .con (.slice tyCompare), .con (.slice tySpan)], .rowc tI, .rowv tySpan]⟩, exits := [(.exit 6, ⟨114, [.any, .box 0 0, .any, .own 1, .any, .any, .any, .own 2], [.cells [.con tI, .con tI, .con (.slice tyGauge), .con (.slice tySpan), .con (.slice tyLoan), .con (.slice tyCompare), .con (.slice tySpan)], .rowc tI, .rowv tySpan]⟩, [(.slice tySpan)])] }
def m_r5_Nodes_L3_e (ρ : Type) : LEnt ρ := ⟨[], 54, 6, m_r5_Nodes_L3_S, fun (p : Val (.pair tI (.pair tI (.pair (.slice tyGauge) (.pair (.slice tySpan) (.pair (.slice tyLoan) (.pair (.slice tyCompare) (.pair (.slice tySpan) (.slice tI))))))))) (v : Val (.pair tI (.slice tySpan))) kn kx => m_r5_Nodes_L3 p.1 p.2.1 p.2.2.1 p.2.2.2.1 p.2.2.2.2.1 p.2.2.2.2.2.1 p.2.2.2.2.2.2.1 p.2.2.2.2.2.2.2 v.1 v.2 (fun u0 u1 => kn (u0, u1)) (kx 0)⟩
def m_r5_Nodes_pt : List (Nat × PFun) := [(126, p_r5_asks)]
def m_r5_Nodes_tab (ρ : Type) : List (LEnt ρ) := [m_r5_Nodes_L0_e ρ, m_r5_Nodes_L1_e ρ, m_r5_Nodes_L2_e ρ, m_r5_Nodes_L5_e ρ, m_r5_Nodes_L4_e ρ, m_r5_Nodes_L3_e ρ]
def m_r5_Nodes_E (ρ : Type) : Env ρ := mkEnv m_r5_Nodes_pt (m_r5_Nodes_tab ρ)
def p_r5_Index : PFun := ⟨[tyBook, tySpan], [tI], fun (x : Val (.pair tyBook tySpan)) => f_r5_Index x.1 x.2⟩
def m_r5_Index_L0_S : LoopSpec := { pin := 0, cs := [(.slice tySpan), tI, tI], vs := [tI], head := ⟨23, [.any, .any, .any, .box 0 0, .any, .con (.slice tySpan), .var tI], [.cells [.con tI, .con tI]]⟩, exits := [(.ret, ⟨23, [.any, .any, .any, .box 0 0, .var tI, .con (.slice tySpan)], [.cells [.con tI, .con tI]]⟩, [tI]), (.exit 0, ⟨23, [.any, .any, .any, .box 0 0, .any, .con (.slice tySpan)], [.cells [.con tI, .con tI]]⟩, [])] }
def m_r5_Index_L0_e (ρ : Type) : LEnt ρ := ⟨[], 52, 0, m_r5_Index_L0_S, fun (p : Val (.pair (.slice tySpan) tySpan)) (v : Val tI) kn kx => m_r5_Index_L0 p.1 p.2.1 p.2.2 v (fun u0 => kn u0) (kx 0) (kx 1)⟩
def m_r5_Index_pt : List (Nat × PFun) := [(54, p_r5_Nodes)]
def m_r5_Index_tab (ρ : Type) : List (LEnt ρ) := [m_r5_Index_L0_e ρ]
def m_r5_Index_E (ρ : Type) : Env ρ := mkEnv m_r5_Index_pt (m_r5_Index_tab ρ)
def p_r5_Lent : PFun := ⟨[tyBook, tI, tI], [tyLoan, .bool], fun (x : Val (.pair tyBook tySpan)) => f_r5_Lent x.1 x.2.1 x.2.2⟩
def m_r5_Lent_L0_S : LoopSpec := { pin := 0, cs := [tI, tI, tI, tI, (.slice tyGauge), (.slice tySpan), (.slice tyLoan), (.slice tyCompare), (.slice tySpan)], vs := [tI, tI, tI, tI, tI], head := ⟨42, [.any, .con tI, .con tI, .box 0 0, .any, .any, .box 1 0, .any, .var tI], [.cells [.con tI, .con tI, .con (.slice tyGauge), .con (.slice tySpan), .con (.slice tyLoan), .con (.slice tyCompare), .con (.slice tySpan)], .cells [.var tI, .var tI, .var tI, .var tI]]⟩, exits := [(.ret, ⟨42, [.any, .con tI, .con tI, .box 0 0, .any, .any, .box 1 0, .var .bool], [.cells [.con tI, .con tI, .con (.slice tyGauge), .con (.slice tySpan), .con (.slice tyLoan), .con (.slice tyCompare), .con (.slice tySpan)], .cells [.var tI, .var tI, .var tI, .var tI]]⟩, [.bool, tI, tI, tI, tI]), (.exit 0, ⟨42, [.any, .con tI, .con tI, .box 0 0, .any, .any, .box 1 0], [.cells [.con tI, .con tI, .con (.slice tyGauge), .con (.slice tySpan), .con (.slice tyLoan), .con (.slice tyCompare), .con (.slice tySpan)], .cells [.var tI, .var tI, .var tI, .var tI]]⟩, [tI, tI, tI, tI])] }
def m_r5_Lent_L0_e (ρ : Type) : LEnt ρ := ⟨[], 59, 0, m_r5_Lent_L0_S, fun (p : Val (.pair tI (.pair tI (.pair tI (.pair tI (.pair (.slice tyGauge) (.pair (.slice tySpan) (.pair (.slice tyLoan) (.pair (.slice tyCompare) (.slice tySpan)))))))))) (v : Val (.pair tI (.pair tI tyLink))) kn kx => m_r5_Lent_L0 p.1 p.2.1 p.2.2.2.2.2.2.1 v.1 v.2.1 v.2.2.1 v.2.2.2.1 v.2.2.2.2 (fun u0 u1 u2 u3 u4 => kn (u0, u1, u2, u3, u4)) (kx 0) (kx 1)⟩
def m_r5_Lent_pt : List (Nat × PFun) := []
def m_r5_Lent_tab (ρ : Type) : List (LEnt ρ) := [m_r5_Lent_L0_e ρ]
def m_r5_Lent_E (ρ : Type) : Env ρ := mkEnv m_r5_Lent_pt (m_r5_Lent_tab ρ)
def p_r5_Used : PFun := ⟨[tyBook, tI, tI], [.bool], fun (x : Val (.pair tyBook tySpan)) => f_r5_Used x.1 x.2.1 x.2.2⟩
def m_r5_Used_L0_S : LoopSpec := { pin := 0, cs := [tI, tI, tI, tI, (.slice tyGauge), (.slice tySpan), (.slice tyLoan), (.slice tyCompare), (.slice tySpan)], vs := [tI], head := ⟨33, [.any, .con tI, .con tI, .box 0 0, .any, .any, .any, .var tI], [.cells [.con tI, .con tI, .con (.slice tyGauge), .con (.slice tySpan), .con (.slice tyLoan), .con (.slice tyCompare), .con (.slice tySpan)]]⟩, exits := [(.ret, ⟨33, [.any, .con tI, .con tI, .box 0 0, .any, .any, .var .bool], [.cells [.con tI, .con tI, .con (.slice tyGauge), .con (.slice tySpan), .con (.slice tyLoan), .con (.slice tyCompare), .con (.slice tySpan)]]⟩, [.bool]), (.exit 0, ⟨33, [.any, .con tI, .con tI, .box 0 0], [.cells [.con tI, .con tI, .con (.slice tyGauge), .con (.slice tySpan), .con (.slice tyLoan), .con (.slice tyCompare), .con (.slice tySpan)]]⟩, [])] }
def m_r5_Used_L0_e (ρ : Type) : LEnt ρ := ⟨[], 60, 0, m_r5_Used_L0_S, fun (p : Val (.pair tI (.pair tI (.pair tI (.pair tI (.pair (.slice tyGauge) (.pair (.slice tySpan) (.pair (.slice tyLoan) (.pair (.slice tyCompare) (.slice tySpan)))))))))) (v : Val tI) kn kx => m_r5_Used_L0 p.1 p.2.1 p.2.2.2.2.2.1 v (fun u0 => kn u0) (kx 0) (kx 1)⟩
def m_r5_Used_pt : List (Nat × PFun) := []
def m_r5_Used_tab (ρ : Type) : List (LEnt ρ) := [m_r5_Used_L0_e ρ]
def m_r5_Used_E (ρ : Type) : Env ρ := mkEnv m_r5_Used_pt (m_r5_Used_tab ρ)
def p_r5_Loss : PFun := ⟨[tyBook, tI, tI, tI], [tI], fun (x : Val (.pair tyBook tyLink)) => f_r5_Loss x.1 x.2.1 x.2.2.1 x.2.2.2⟩
def m_r5_Loss_L0_S : LoopSpec := { pin := 0, cs := [tI, tI, tI, tI, tI, (.slice tyGauge), (.slice tySpan), (.slice tyLoan), (.slice tyCompare), (.slice tySpan)], vs := [tI, tI], head := ⟨48, .any :: .con tI :: .any :: .con tI :: .box 0 0 :: aN 4 [.con tI, .var tI, .var tI], [.cells [.con tI, .con tI, .con (.slice tyGauge), .con (.slice tySpan), .con (.slice tyLoan), .con (.slice tyCompare), .con (.slice tySpan)]]⟩, exits := [(.exit 0, ⟨48, .any :: .con tI :: .any :: .con tI :: .box 0 0 :: aN 4 [.con tI, .var tI], [.cells [.con tI, .con tI, .con (.slice tyGauge), .con (.slice tySpan), .con (.slice tyLoan), .con (.slice tyCompare), .con (.slice tySpan)]]⟩, [tI])] }
def m_r5_Loss_L0_e (ρ : Type) : LEnt ρ := ⟨[], 62, 0, m_r5_Loss_L0_S, fun (p : Val (.pair tI (.pair tI (.pair tI (.pair tI (.pair tI (.pair (.slice tyGauge) (.pair (.slice tySpan) (.pair (.slice tyLoan) (.pair (.slice tyCompare) (.slice tySpan))))))))))) (v : Val tySpan) kn kx => m_r5_Loss_L0 p.1 p.2.1 p.2.2.1 p.2.2.2.1 p.2.2.2.2.1 p.2.2.2.2.2.1 p.2.2.2.2.2.2.1 p.2.2.2.2.2.2.2.1 p.2.2.2.2.2.2.2.2.1 p.2.2.2.2.2.2.2.2.2 v.1 v.2 (fun u0 u1 => kn (u0, u1)) (kx 0)⟩
def m_r5_Loss_pt : List (Nat × PFun) := [(59, p_r5_Lent), (60, p_r5_Used), (61, p_r5_Find)]
def m_r5_Loss_tab (ρ : Type) : List (LEnt ρ) := [m_r5_Loss_L0_e ρ]
def m_r5_Loss_E (ρ : Type) : Env ρ := mkEnv m_r5_Loss_pt (m_r5_Loss_tab ρ)
def p_r5_Tie : PFun := ⟨[tyBook], [tyTied], fun (x : Val tyBook) => f_r5_Tie x⟩
def m_r5_Tie_L1_S : LoopSpec := { pin := 0, cs := [(.slice tySpan), tI, tI, tI, (.slice tyGauge), (.slice tySpan), (.slice tyLoan), (.slice tyCompare), (.slice tySpan), tI, tI, tI, tI, tI, tI, tI, tI], vs := [tI, (.slice tyLink), (.slice tySpan)], head := ⟨182, [.any, .box 0 0, .box 1 0, .box 2 0, .con (.slice tySpan), .con tI, .box 3 0, .var tI], [.cells [.con tI, .con tI, .con (.slice tyGauge), .con (.slice tySpan), .con (.slice tyLoan), .con (.slice tyCompare), .con (.slice tySpan)], .cells [.nils, .nils], .cells [.own 4, .own 5], .cells [.con tI, .con tI, .con tI, .con tI, .con tI, .con tI, .con tI, .con tI], .rowv tyLink, .rowv tySpan]⟩, exits := [(.exit 2, ⟨182, [.any, .box 0 0, .box 1 0, .box 2 0, .con (.slice tySpan), .con tI, .box 3 0], [.cells [.con tI, .con tI, .con (.slice tyGauge), .con (.slice tySpan), .con (.slice tyLoan), .con (.slice tyCompare), .con (.slice tySpan)], .cells [.nils, .nils], .cells [.own 4, .own 5], .cells [.con tI, .con tI, .con tI, .con tI, .con tI, .con tI, .con tI, .con tI], .rowv tyLink, .rowv tySpan]⟩, [(.slice tyLink), (.slice tySpan)])] }
def m_r5_Tie_L1_e (ρ : Type) : LEnt ρ := ⟨[], 53, 2, m_r5_Tie_L1_S, fun (p : Val (.pair (.slice tySpan) (.pair tI (.pair tI (.pair tI (.pair (.slice tyGauge) (.pair (.slice tySpan) (.pair (.slice tyLoan) (.pair (.slice tyCompare) (.pair (.slice tySpan) (.pair tI (.pair tI (.pair tI (.pair tI (.pair tI tyLink))))))))))))))) (v : Val (.pair tI tyTied)) kn kx => m_r5_Tie_L1 p.1 p.2.1 p.2.2.1 p.2.2.2.1 p.2.2.2.2.1 p.2.2.2.2.2.1 p.2.2.2.2.2.2.1 p.2.2.2.2.2.2.2.1 p.2.2.2.2.2.2.2.2.1 p.2.2.2.2.2.2.2.2.2.1 p.2.2.2.2.2.2.2.2.2.2.1 p.2.2.2.2.2.2.2.2.2.2.2.1 p.2.2.2.2.2.2.2.2.2.2.2.2.1 p.2.2.2.2.2.2.2.2.2.2.2.2.2.1 v.1 v.2.1 v.2.2 (fun u0 u1 u2 => kn (u0, u1, u2)) (kx 0)⟩
def m_r5_Tie_L0_S : LoopSpec := { pin := 0, cs := [(.slice tySpan), tI, tI, (.slice tyGauge), (.slice tySpan), (.slice tyLoan), (.slice tyCompare), (.slice tySpan)], vs := [tI, (.slice tyLink), (.slice tySpan)], head := ⟨182, [.any, .box 0 0, .box 1 0, .box 2 0, .con (.slice tySpan), .var tI], [.cells [.con tI, .con tI, .con (.slice tyGauge), .con (.slice tySpan), .con (.slice tyLoan), .con (.slice tyCompare), .con (.slice tySpan)], .cells [.nils, .nils], .cells [.own 3, .own 4], .rowv tyLink, .rowv tySpan]⟩, exits := [(.exit 0, ⟨182, [.any, .box 0 0, .box 1 0, .box 2 0, .con (.slice tySpan)], [.cells [.con tI, .con tI, .con (.slice tyGauge), .con (.slice tySpan), .con (.slice tyLoan), .con (.slice tyCompare), .con (.slice tySpan)], .cells [.nils, .nils], .cells [.own 3, .own 4], .rowv tyLink, .rowv tySpan]⟩, [(.slice tyLink), (.slice tySpan)])] }
def m_r5_Tie_L0_e (ρ : Type) : LEnt ρ := ⟨[], 53, 0, m_r5_Tie_L0_S, fun (p : Val (.pair (.slice tySpan) (.pair tI (.pair tI (.pair (.slice tyGauge) (.pair (.slice tySpan) (.pair (.slice tyLoan) (.pair (.slice tyCompare) (.slice tySpan))))))))) (v : Val (.pair tI tyTied)) kn kx => m_r5_Tie_L0 p.1 p.2.1 p.2.2.1 p.2.2.2.1 p.2.2.2.2.1 p.2.2.2.2.2.1 p.2.2.2.2.2.2.1 p.2.2.2.2.2.2.2 v.1 v.2.1 v.2.2 (fun u0 u1 u2 => kn (u0, u1, u2)) (kx 0)⟩
def m_r5_Tie_L2_S : LoopSpec := { pin := 0, cs := [tI, tI, (.slice tyGauge), (.slice tySpan), (.slice tyLoan), (.slice tyCompare), (.slice tySpan)], vs := [tI, (.slice tyLink), (.slice tySpan)], head := ⟨182, .any :: .box 0 0 :: .box 1 0 :: .box 2 0 :: aN 5 [.var tI], [.cells [.con tI, .con tI, .con (.slice tyGauge), .con (.slice tySpan), .con (.slice tyLoan), .con (.slice tyCompare), .con (.slice tySpan)], .cells [.nils, .nils], .cells [.own 3, .own 4], .rowv tyLink, .rowv tySpan]⟩, exits := [(.exit 4, ⟨182, [.any, .box 0 0, .box 1 0, .box 2 0], [.cells [.con tI, .con tI, .con (.slice tyGauge), .con (.slice tySpan), .con (.slice tyLoan), .con (.slice tyCompare), .con (.slice tySpan)], .cells [.nils, .nils], .cells [.own 3, .own 4], .rowv tyLink, .rowv tySpan]⟩, [(.slice tyLink), (.slice tySpan)])] }
def m_r5_Tie_L2_e (ρ : Type) : LEnt ρ := ⟨[], 53, 4, m_r5_Tie_L2_S, fun (p : Val (.pair tI (.pair tI (.pair (.slice tyGauge) (.pair (.slice tySpan) (.pair (.slice tyLoan) (.pair (.slice tyCompare) (.slice tySpan)))))))) (v : Val (.pair tI tyTied)) kn kx => m_r5_Tie_L2 p.1 p.2.1 p.2.2.1 p.2.2.2.1 p.2.2.2.2.1 p.2.2.2.2.2.1 p.2.2.2.2.2.2 v.1 v.2.1 v.2.2 (fun u0 u1 u2 => kn (u0, u1, u2)) (kx 0)⟩
def m_r5_Tie_pt : List (Nat × PFun) := [(44, p_r5_Says), (52, p_r5_Index), (54, p_r5_Nodes), (62, p_r5_Loss), (91, p_r5_one)]
def m_r5_Tie_tab (ρ : Type) : List (LEnt ρ) := [m_r5_Tie_L1_e ρ, m_r5_Tie_L0_e ρ, m_r5_Tie_L2_e ρ]
def m_r5_Tie_E (ρ : Type) : Env ρ := mkEnv m_r5_Tie_pt (m_r5_Tie_tab ρ)
def p_r5_spanned : PFun := ⟨[tySpan, tI, tI], [.bool], fun (x : Val tyRange) => f_r5_spanned x.1 x.2.1 x.2.2⟩
def m_r5_spanned_pt : List (Nat × PFun) := []
def m_r5_spanned_tab (ρ : Type) : List (LEnt ρ) := []
def m_r5_spanned_E (ρ : Type) : Env ρ := mkEnv m_r5_spanned_pt (m_r5_spanned_tab ρ)
def p_r1_Valid : PFun := ⟨[tySpan], [.bool], fun (x : Val tySpan) => f_r1_Valid x⟩
def m_r1_Valid_pt : List (Nat × PFun) := [(178, p_r1_Gcd), (179, p_r1_Abs)]
def m_r1_Valid_tab (ρ : Type) : List (LEnt ρ) := []
def m_r1_Valid_E (ρ : Type) : Env ρ := mkEnv m_r1_Valid_pt (m_r1_Valid_tab ρ)
def p_r5_gauge : PFun := ⟨[tyGauge], [.bool], fun (x : Val tyGauge) => f_r5_gauge x⟩
def m_r5_gauge_pt : List (Nat × PFun) := [(36, p_r5_Day), (41, p_r5_In), (81, p_r5_spanned), (145, p_r1_Valid)]
def m_r5_gauge_tab (ρ : Type) : List (LEnt ρ) := []
def m_r5_gauge_E (ρ : Type) : Env ρ := mkEnv m_r5_gauge_pt (m_r5_gauge_tab ρ)
def p_r5_Since : PFun := ⟨[tyBook, tI, tI], [tI], fun (x : Val (.pair tyBook tySpan)) => f_r5_Since x.1 x.2.1 x.2.2⟩
def m_r5_Since_pt : List (Nat × PFun) := [(61, p_r5_Find)]
def m_r5_Since_tab (ρ : Type) : List (LEnt ρ) := []
def m_r5_Since_E (ρ : Type) : Env ρ := mkEnv m_r5_Since_pt (m_r5_Since_tab ρ)
def p_r5_uses : PFun := ⟨[tyBook], [tI], fun (x : Val tyBook) => f_r5_uses x⟩
def m_r5_uses_L0_S : LoopSpec := { pin := 0, cs := [tI, tI, (.slice tyGauge), (.slice tySpan), (.slice tyLoan), (.slice tyCompare), (.slice tySpan)], vs := [tI], head := ⟨37, [.any, .box 0 0, .any, .var tI], [.cells [.con tI, .con tI, .con (.slice tyGauge), .con (.slice tySpan), .con (.slice tyLoan), .con (.slice tyCompare), .con (.slice tySpan)]]⟩, exits := [(.ret, ⟨37, [.any, .box 0 0, .var tI], [.cells [.con tI, .con tI, .con (.slice tyGauge), .con (.slice tySpan), .con (.slice tyLoan), .con (.slice tyCompare), .con (.slice tySpan)]]⟩, [tI]), (.exit 0, ⟨37, [.any, .box 0 0], [.cells [.con tI, .con tI, .con (.slice tyGauge), .con (.slice tySpan), .con (.slice tyLoan), .con (.slice tyCompare), .con (.slice tySpan)]]⟩, [])] }
def m_r5_uses_L0_e (ρ : Type) : LEnt ρ := ⟨[], 83, 0, m_r5_uses_L0_S, fun (p : Val (.pair tI (.pair tI (.pair (.slice tyGauge) (.pair (.slice tySpan) (.pair (.slice tyLoan) (.pair (.slice tyCompare) (.slice tySpan)))))))) (v : Val tI) kn kx => m_r5_uses_L0 p.1 p.2.1 p.2.2.1 p.2.2.2.1 p.2.2.2.2.1 p.2.2.2.2.2.1 p.2.2.2.2.2.2 v (fun u0 => kn u0) (kx 0) (kx 1)⟩
def m_r5_uses_pt : List (Nat × PFun) := [(36, p_r5_Day), (87, p_r5_Since)]
def m_r5_uses_tab (ρ : Type) : List (LEnt ρ) := [m_r5_uses_L0_e ρ]
def m_r5_uses_E (ρ : Type) : Env ρ := mkEnv m_r5_uses_pt (m_r5_uses_tab ρ)
def p_r5_loans : PFun := ⟨[tyBook], [tI], fun (x : Val tyBook) => f_r5_loans x⟩
def m_r5_loans_L1_S : LoopSpec := { pin := 0, cs := [tI, tI, tI, (.slice tyGauge), (.slice tySpan), (.slice tyLoan), (.slice tyCompare), (.slice tySpan), tI, tI, tI, tI], vs := [tI], head := ⟨111, [.any, .box 0 0, .any, .con tI, .box 1 0, .any, .var tI], [.cells [.con tI, .con tI, .con (.slice tyGauge), .con (.slice tySpan), .con (.slice tyLoan), .con (.slice tyCompare), .con (.slice tySpan)], .cells [.con tI, .con tI, .con tI, .con tI]]⟩, exits := [(.ret, ⟨111, [.any, .box 0 0, .var tI, .con tI, .box 1 0], [.cells [.con tI, .con tI, .con (.slice tyGauge), .con (.slice tySpan), .con (.slice tyLoan), .con (.slice tyCompare), .con (.slice tySpan)], .cells [.con tI, .con tI, .con tI, .con tI]]⟩, [tI]), (.exit 2, ⟨111, [.any, .box 0 0, .any, .con tI, .box 1 0], [.cells [.con tI, .con tI, .con (.slice tyGauge), .con (.slice tySpan), .con (.slice tyLoan), .con (.slice tyCompare), .con (.slice tySpan)], .cells [.con tI, .con tI, .con tI, .con tI]]⟩, [])] }
def m_r5_loans_L1_e (ρ : Type) : LEnt ρ := ⟨[], 84, 2, m_r5_loans_L1_S, fun (p : Val (.pair tI (.pair tI (.pair tI (.pair (.slice tyGauge) (.pair (.slice tySpan) (.pair (.slice tyLoan) (.pair (.slice tyCompare) (.pair (.slice tySpan) (.pair tI tyLink)))))))))) (v : Val tI) kn kx => m_r5_loans_L1 p.1 p.2.2.2.2.2.1 p.2.2.2.2.2.2.2.2.1 p.2.2.2.2.2.2.2.2.2.1 p.2.2.2.2.2.2.2.2.2.2.1 v (fun u0 => kn u0) (kx 0) (kx 1)⟩
def m_r5_loans_L2_S : LoopSpec := { pin := 0, cs := [tI, tI, tI, (.slice tyGauge), (.slice tySpan), (.slice tyLoan), (.slice tyCompare), (.slice tySpan), tI, tI, tI, tI], vs := [tI], head := ⟨111, [.any, .box 0 0, .any, .con tI, .box 1 0, .any, .any, .var tI], [.cells [.con tI, .con tI, .con (.slice tyGauge), .con (.slice tySpan), .con (.slice tyLoan), .con (.slice tyCompare), .con (.slice tySpan)], .cells [.con tI, .con tI, .con tI, .con tI]]⟩, exits := [(.ret, ⟨111, [.any, .box 0 0, .var tI, .con tI, .box 1 0], [.cells [.con tI, .con tI, .con (.slice tyGauge), .con (.slice tySpan), .con (.slice tyLoan), .con (.slice tyCompare), .con (.slice tySpan)], .cells [.con tI, .con tI, .con tI, .con tI]]⟩, [tI]), (.exit 4, ⟨111, [.any, .box 0 0, .any, .con tI, .box 1 0], [.cells [.con tI, .con tI, .con (.slice tyGauge), .con (.slice tySpan), .con (.slice tyLoan), .con (.slice tyCompare), .con (.slice tySpan)], .cells [.con tI, .con tI, .con tI, .con tI]]⟩, [])] }
def m_r5_loans_L2_e (ρ : Type) : LEnt ρ := ⟨[], 84, 4, m_r5_loans_L2_S, fun (p : Val (.pair tI (.pair tI (.pair tI (.pair (.slice tyGauge) (.pair (.slice tySpan) (.pair (.slice tyLoan) (.pair (.slice tyCompare) (.pair (.slice tySpan) (.pair tI tyLink)))))))))) (v : Val tI) kn kx => m_r5_loans_L2 p.2.2.2.2.1 p.2.2.2.2.2.2.2.2.1 p.2.2.2.2.2.2.2.2.2.1 p.2.2.2.2.2.2.2.2.2.2.1 v (fun u0 => kn u0) (kx 0) (kx 1)⟩
def m_r5_loans_L0_S : LoopSpec := { pin := 0, cs := [tI, tI, (.slice tyGauge), (.slice tySpan), (.slice tyLoan), (.slice tyCompare), (.slice tySpan)], vs := [tI], head := ⟨111, [.any, .box 0 0, .any, .var tI], [.cells [.con tI, .con tI, .con (.slice tyGauge), .con (.slice tySpan), .con (.slice tyLoan), .con (.slice tyCompare), .con (.slice tySpan)]]⟩, exits := [(.ret, ⟨111, [.any, .box 0 0, .var tI], [.cells [.con tI, .con tI, .con (.slice tyGauge), .con (.slice tySpan), .con (.slice tyLoan), .con (.slice tyCompare), .con (.slice tySpan)]]⟩, [tI]), (.exit 0, ⟨111, [.any, .box 0 0], [.cells [.con tI, .con tI, .con (.slice tyGauge), .con (.slice tySpan), .con (.slice tyLoan), .con (.slice tyCompare), .con (.slice tySpan)]]⟩, [])] }
def m_r5_loans_L0_e (ρ : Type) : LEnt ρ := ⟨[], 84, 0, m_r5_loans_L0_S, fun (p : Val (.pair tI (.pair tI (.pair (.slice tyGauge) (.pair (.slice tySpan) (.pair (.slice tyLoan) (.pair (.slice tyCompare) (.slice tySpan)))))))) (v : Val tI) kn kx => m_r5_loans_L0 p.1 p.2.1 p.2.2.1 p.2.2.2.1 p.2.2.2.2.1 p.2.2.2.2.2.1 p.2.2.2.2.2.2 v (fun u0 => kn u0) (kx 0) (kx 1)⟩
def m_r5_loans_pt : List (Nat × PFun) := [(41, p_r5_In), (81, p_r5_spanned), (87, p_r5_Since)]
def m_r5_loans_tab (ρ : Type) : List (LEnt ρ) := [m_r5_loans_L1_e ρ, m_r5_loans_L2_e ρ, m_r5_loans_L0_e ρ]
def m_r5_loans_E (ρ : Type) : Env ρ := mkEnv m_r5_loans_pt (m_r5_loans_tab ρ)
def p_r5_Pile : PFun := ⟨[(.slice tI)], [.bool], fun (x : Val (.slice tI)) => f_r5_Pile x⟩
def m_r5_Pile_L0_S : LoopSpec := { pin := 0, cs := [(.slice tI)], vs := [tI], head := ⟨35, [.con (.slice tI), .any, .any, .var tI], []⟩, exits := [(.ret, ⟨35, [.con (.slice tI), .any, .var .bool], []⟩, [.bool]), (.exit 0, ⟨35, [.con (.slice tI)], []⟩, [])] }
def m_r5_Pile_L0_e (ρ : Type) : LEnt ρ := ⟨[], 33, 0, m_r5_Pile_L0_S, fun (p : Val (.slice tI)) (v : Val tI) kn kx => m_r5_Pile_L0 p v (fun u0 => kn u0) (kx 0) (kx 1)⟩
def m_r5_Pile_pt : List (Nat × PFun) := [(41, p_r5_In)]
def m_r5_Pile_tab (ρ : Type) : List (LEnt ρ) := [m_r5_Pile_L0_e ρ]
def m_r5_Pile_E (ρ : Type) : Env ρ := mkEnv m_r5_Pile_pt (m_r5_Pile_tab ρ)
def p_r5_plain : PFun := ⟨[tyCompare], [.bool], fun (x : Val tyCompare) => f_r5_plain x⟩
def m_r5_plain_pt : List (Nat × PFun) := [(33, p_r5_Pile), (36, p_r5_Day), (41, p_r5_In), (81, p_r5_spanned)]
def m_r5_plain_tab (ρ : Type) : List (LEnt ρ) := []
def m_r5_plain_E (ρ : Type) : Env ρ := mkEnv m_r5_plain_pt (m_r5_plain_tab ρ)
def p_r5_compared : PFun := ⟨[tyBook, tyCompare], [tI], fun (x : Val (.pair tyBook tyCompare)) => f_r5_compared x.1 x.2⟩
def m_r5_compared_L0_S : LoopSpec := { pin := 0, cs := [tI, tI, (.slice tyGauge), (.slice tySpan), (.slice tyLoan), (.slice tyCompare), (.slice tySpan), tI, tI, (.slice tI), (.slice tI), tI, tI, tI, tI, (.slice tI)], vs := [tI], head := ⟨90, [.any, .any, .box 0 0, .box 1 0, .any, .own 2, .var tI], [.cells [.con tI, .con tI, .con (.slice tyGauge), .con (.slice tySpan), .con (.slice tyLoan), .con (.slice tyCompare), .con (.slice tySpan)], .cells [.con tI, .con tI, .con (.slice tI), .con (.slice tI), .con tI, .con tI, .con tI, .con tI], .rowc tI]⟩, exits := [(.ret, ⟨90, [.any, .any, .box 0 0, .box 1 0, .var tI, .own 2], [.cells [.con tI, .con tI, .con (.slice tyGauge), .con (.slice tySpan), .con (.slice tyLoan), .con (.slice tyCompare), .con (.slice tySpan)], .cells [.con tI, .con tI, .con (.slice tI), .con (.slice tI), .con tI, .con tI, .con tI, .con tI], .rowc tI]⟩, [tI]), (.exit 0, ⟨90, [.any, .any, .box 0 0, .box 1 0, .any, .own 2], [.cells [.con tI, .con tI, .con (.slice tyGauge), .con (.slice tySpan), .con (.slice tyLoan), .con (.slice tyCompare), .con (.slice tySpan)], .cells [.con tI, .con tI, .con (.slice tI), .con (.slice tI), .con tI, .con tI, .con tI, .con tI], .rowc tI]⟩, [])] }
def m_r5_compared_L0_e (ρ : Type) : LEnt ρ := ⟨[], 86, 0, m_r5_compared_L0_S, fun (p : Val (.pair tI (.pair tI (.pair (.slice tyGauge) (.pair (.slice tySpan) (.pair (.slice tyLoan) (.pair (.slice tyCompare) (.pair (.slice tySpan) (.pair tI (.pair tI (.pair (.slice tI) (.pair (.slice tI) (.pair tI (.pair tI (.pair tI (.pair tI (.slice tI))))))))))))))))) (v : Val tI) kn kx => m_r5_compared_L0 p.1 p.2.1 p.2.2.1 p.2.2.2.1 p.2.2.2.2.1 p.2.2.2.2.2.1 p.2.2.2.2.2.2.1 p.2.2.2.2.2.2.2.2.2.2.2.2.2.2.2 v (fun u0 => kn u0) (kx 0) (kx 1)⟩
def m_r5_compared_L1_S : LoopSpec := { pin := 0, cs := [tI, tI, (.slice tyGauge), (.slice tySpan), (.slice tyLoan), (.slice tyCompare), (.slice tySpan), tI, tI, (.slice tI), (.slice tI), tI, tI, tI, tI, (.slice tI)], vs := [tI], head := ⟨90, [.any, .any, .box 0 0, .box 1 0, .any, .own 2, .any, .var tI], [.cells [.con tI, .con tI, .con (.slice tyGauge), .con (.slice tySpan), .con (.slice tyLoan), .con (.slice tyCompare), .con (.slice tySpan)], .cells [.con tI, .con tI, .con (.slice tI), .con (.slice tI), .con tI, .con tI, .con tI, .con tI], .rowc tI]⟩, exits := [(.ret, ⟨90, [.any, .any, .box 0 0, .box 1 0, .var tI, .own 2], [.cells [.con tI, .con tI, .con (.slice tyGauge), .con (.slice tySpan), .con (.slice tyLoan), .con (.slice tyCompare), .con (.slice tySpan)], .cells [.con tI, .con tI, .con (.slice tI), .con (.slice tI), .con tI, .con tI, .con tI, .con tI], .rowc tI]⟩, [tI]), (.exit 2, ⟨90, [.any, .any, .box 0 0, .box 1 0, .any, .own 2], [.cells [.con tI, .con tI, .con (.slice tyGauge), .con (.slice tySpan), .con (.slice tyLoan), .con (.slice tyCompare), .con (.slice tySpan)], .cells [.con tI, .con tI, .con (.slice tI), .con (.slice tI), .con tI, .con tI, .con tI, .con tI], .rowc tI]⟩, [])] }
def m_r5_compared_L1_e (ρ : Type) : LEnt ρ := ⟨[], 86, 2, m_r5_compared_L1_S, fun (p : Val (.pair tI (.pair tI (.pair (.slice tyGauge) (.pair (.slice tySpan) (.pair (.slice tyLoan) (.pair (.slice tyCompare) (.pair (.slice tySpan) (.pair tI (.pair tI (.pair (.slice tI) (.pair (.slice tI) (.pair tI (.pair tI (.pair tI (.pair tI (.slice tI))))))))))))))))) (v : Val tI) kn kx => m_r5_compared_L1 p.1 p.2.1 p.2.2.1 p.2.2.2.1 p.2.2.2.2.1 p.2.2.2.2.2.1 p.2.2.2.2.2.2.1 p.2.2.2.2.2.2.2.2.1 p.2.2.2.2.2.2.2.2.2.2.2.2.2.2.2 v (fun u0 => kn u0) (kx 0) (kx 1)⟩
def m_r5_compared_L2_S : LoopSpec := { pin := 0, cs := [tI, tI, (.slice tyGauge), (.slice tySpan), (.slice tyLoan), (.slice tyCompare), (.slice tySpan), tI, tI, (.slice tI), (.slice tI), tI, tI, tI, tI, (.slice tI)], vs := [tI], head := ⟨90, [.any, .any, .box 0 0, .box 1 0, .any, .own 2, .any, .any, .var tI], [.cells [.con tI, .con tI, .con (.slice tyGauge), .con (.slice tySpan), .con (.slice tyLoan), .con (.slice tyCompare), .con (.slice tySpan)], .cells [.con tI, .con tI, .con (.slice tI), .con (.slice tI), .con tI, .con tI, .con tI, .con tI], .rowc tI]⟩, exits := [(.ret, ⟨90, [.any, .any, .box 0 0, .box 1 0, .var tI, .own 2], [.cells [.con tI, .con tI, .con (.slice tyGauge), .con (.slice tySpan), .con (.slice tyLoan), .con (.slice tyCompare), .con (.slice tySpan)], .cells [.con tI, .con tI, .con (.slice tI), .con (.slice tI), .con tI, .con tI, .con tI, .con tI], .rowc tI]⟩, [tI]), (.exit 4, ⟨90, [.any, .any, .box 0 0, .box 1 0, .any, .own 2], [.cells [.con tI, .con tI, .con (.slice tyGauge), .con (.slice tySpan), .con (.slice tyLoan), .con (.slice tyCompare), .con (.slice tySpan)], .cells [.con tI, .con tI, .con (.slice tI), .con (.slice tI), .con tI, .con tI, .con tI, .con tI], .rowc tI]⟩, [])] }
def m_r5_compared_L2_e (ρ : Type) : LEnt ρ := ⟨[], 86, 4, m_r5_compared_L2_S, fun (p : Val (.pair tI (.pair tI (.pair (.slice tyGauge) (.pair (.slice tySpan) (.pair (.slice tyLoan) (.pair (.slice tyCompare) (.pair (.slice tySpan) (.pair tI (.pair tI (.pair (.slice tI) (.pair (.slice tI) (.pair tI (.pair tI (.pair tI (.pair tI (.slice tI))))))))))))))))) (v : Val tI) kn kx => m_r5_compared_L2 p.1 p.2.1 p.2.2.1 p.2.2.2.1 p.2.2.2.2.1 p.2.2.2.2.2.1 p.2.2.2.2.2.2.1 p.2.2.2.2.2.2.2.2.1 p.2.2.2.2.2.2.2.2.2.2.2.2.2.2.2 v (fun u0 => kn u0) (kx 0) (kx 1)⟩
def m_r5_compared_pt : List (Nat × PFun) := [(35, p_r5_Left), (59, p_r5_Lent), (61, p_r5_Find), (87, p_r5_Since)]
def m_r5_compared_tab (ρ : Type) : List (LEnt ρ) := [m_r5_compared_L0_e ρ, m_r5_compared_L1_e ρ, m_r5_compared_L2_e ρ]
def m_r5_compared_E (ρ : Type) : Env ρ := mkEnv m_r5_compared_pt (m_r5_compared_tab ρ)
def p_r5_Check : PFun := ⟨[tyBook], [tI], fun (x : Val tyBook) => f_r5_Check x⟩
def m_r5_Check_L0_S : LoopSpec := { pin := 0, cs := [tI, tI, (.slice tyGauge), (.slice tySpan), (.slice tyLoan), (.slice tyCompare), (.slice tySpan)], vs := [tI], head := ⟨170, [.any, .box 0 0, .any, .var tI], [.cells [.con tI, .con tI, .con (.slice tyGauge), .con (.slice tySpan), .con (.slice tyLoan), .con (.slice tyCompare), .con (.slice tySpan)]]⟩, exits := [(.ret, ⟨170, [.any, .box 0 0, .var tI], [.cells [.con tI, .con tI, .con (.slice tyGauge), .con (.slice tySpan), .con (.slice tyLoan), .con (.slice tyCompare), .con (.slice tySpan)]]⟩, [tI]), (.exit 0, ⟨170, [.any, .box 0 0], [.cells [.con tI, .con tI, .con (.slice tyGauge), .con (.slice tySpan), .con (.slice tyLoan), .con (.slice tyCompare), .con (.slice tySpan)]]⟩, [])] }
def m_r5_Check_L0_e (ρ : Type) : LEnt ρ := ⟨[], 21, 0, m_r5_Check_L0_S, fun (p : Val (.pair tI (.pair tI (.pair (.slice tyGauge) (.pair (.slice tySpan) (.pair (.slice tyLoan) (.pair (.slice tyCompare) (.slice tySpan)))))))) (v : Val tI) kn kx => m_r5_Check_L0 p.2.2.1 v (fun u0 => kn u0) (kx 0) (kx 1)⟩
def m_r5_Check_L2_S : LoopSpec := { pin := 0, cs := [tI, tI, tI, (.slice tyGauge), (.slice tySpan), (.slice tyLoan), (.slice tyCompare), (.slice tySpan)], vs := [tI], head := ⟨170, .any :: .box 0 0 :: aN 4 [.con tI, .any, .var tI], [.cells [.con tI, .con tI, .con (.slice tyGauge), .con (.slice tySpan), .con (.slice tyLoan), .con (.slice tyCompare), .con (.slice tySpan)]]⟩, exits := [(.ret, ⟨170, [.any, .box 0 0, .var tI, .any, .any, .any, .con tI], [.cells [.con tI, .con tI, .con (.slice tyGauge), .con (.slice tySpan), .con (.slice tyLoan), .con (.slice tyCompare), .con (.slice tySpan)]]⟩, [tI]), (.exit 4, ⟨170, .any :: .box 0 0 :: aN 4 [.con tI], [.cells [.con tI, .con tI, .con (.slice tyGauge), .con (.slice tySpan), .con (.slice tyLoan), .con (.slice tyCompare), .con (.slice tySpan)]]⟩, [])] }
def m_r5_Check_L2_e (ρ : Type) : LEnt ρ := ⟨[], 21, 4, m_r5_Check_L2_S, fun (p : Val (.pair tI (.pair tI (.pair tI (.pair (.slice tyGauge) (.pair (.slice tySpan) (.pair (.slice tyLoan) (.pair (.slice tyCompare) (.slice tySpan))))))))) (v : Val tI) kn kx => m_r5_Check_L2 p.1 p.2.2.2.2.2.2.1 v (fun u0 => kn u0) (kx 0) (kx 1)⟩
def m_r5_Check_L1_S : LoopSpec := { pin := 0, cs := [tI, tI, (.slice tyGauge), (.slice tySpan), (.slice tyLoan), (.slice tyCompare), (.slice tySpan)], vs := [tI], head := ⟨170, .any :: .box 0 0 :: aN 4 [.var tI], [.cells [.con tI, .con tI, .con (.slice tyGauge), .con (.slice tySpan), .con (.slice tyLoan), .con (.slice tyCompare), .con (.slice tySpan)]]⟩, exits := [(.ret, ⟨170, [.any, .box 0 0, .var tI], [.cells [.con tI, .con tI, .con (.slice tyGauge), .con (.slice tySpan), .con (.slice tyLoan), .con (.slice tyCompare), .con (.slice tySpan)]]⟩, [tI]), (.exit 2, ⟨170, [.any, .box 0 0], [.cells [.con tI, .con tI, .con (.slice tyGauge), .con (.slice tySpan), .con (.slice tyLoan), .con (.slice tyCompare), .con (.slice tySpan)]]⟩, [])] }
def m_r5_Check_L1_e (ρ : Type) : LEnt ρ := ⟨[], 21, 2, m_r5_Check_L1_S, fun (p : Val (.pair tI (.pair tI (.pair (.slice tyGauge) (.pair (.slice tySpan) (.pair (.slice tyLoan) (.pair (.slice tyCompare) (.slice tySpan)))))))) (v : Val tI) kn kx => m_r5_Check_L1 p.1 p.2.1 p.2.2.1 p.2.2.2.1 p.2.2.2.2.1 p.2.2.2.2.2.1 p.2.2.2.2.2.2 v (fun u0 => kn u0) (kx 0) (kx 1)⟩
def m_r5_Check_L3_S : LoopSpec := { pin := 0, cs := [tI, tI, (.slice tyGauge), (.slice tySpan), (.slice tyLoan), (.slice tyCompare), (.slice tySpan)], vs := [tI], head := ⟨170, .any :: .box 0 0 :: aN 7 [.var tI], [.cells [.con tI, .con tI, .con (.slice tyGauge), .con (.slice tySpan), .con (.slice tyLoan), .con (.slice tyCompare), .con (.slice tySpan)]]⟩, exits := [(.ret, ⟨170, [.any, .box 0 0, .var tI], [.cells [.con tI, .con tI, .con (.slice tyGauge), .con (.slice tySpan), .con (.slice tyLoan), .con (.slice tyCompare), .con (.slice tySpan)]]⟩, [tI]), (.exit 6, ⟨170, [.any, .box 0 0], [.cells [.con tI, .con tI, .con (.slice tyGauge), .con (.slice tySpan), .con (.slice tyLoan), .con (.slice tyCompare), .con (.slice tySpan)]]⟩, [])] }
def m_r5_Check_L3_e (ρ : Type) : LEnt ρ := ⟨[], 21, 6, m_r5_Check_L3_S, fun (p : Val (.pair tI (.pair tI (.pair (.slice tyGauge) (.pair (.slice tySpan) (.pair (.slice tyLoan) (.pair (.slice tyCompare) (.slice tySpan)))))))) (v : Val tI) kn kx => m_r5_Check_L3 p.1 p.2.1 p.2.2.1 p.2.2.2.1 p.2.2.2.2.1 p.2.2.2.2.2.1 p.2.2.2.2.2.2 v (fun u0 => kn u0) (kx 0) (kx 1)⟩
def m_r5_Check_pt : List (Nat × PFun) := [(36, p_r5_Day), (53, p_r5_Tie), (54, p_r5_Nodes), (81, p_r5_spanned), (82, p_r5_gauge), (83, p_r5_uses), (84, p_r5_loans), (85, p_r5_plain), (86, p_r5_compared), (87, p_r5_Since)]
def m_r5_Check_tab (ρ : Type) : List (LEnt ρ) := [m_r5_Check_L0_e ρ, m_r5_Check_L2_e ρ, m_r5_Check_L1_e ρ, m_r5_Check_L3_e ρ]
def m_r5_Check_E (ρ : Type) : Env ρ := mkEnv m_r5_Check_pt (m_r5_Check_tab ρ)
def p_r5_more : PFun := ⟨[tyBook, tyCompare], [tyBook], fun (x : Val (.pair tyBook tyCompare)) => f_r5_more x.1 x.2⟩
def m_r5_more_pt : List (Nat × PFun) := []
def m_r5_more_tab (ρ : Type) : List (LEnt ρ) := []
def m_r5_more_E (ρ : Type) : Env ρ := mkEnv m_r5_more_pt (m_r5_more_tab ρ)
def p_r5_With : PFun := ⟨[tyBook, tyCompare], [tyBook, tI], fun (x : Val (.pair tyBook tyCompare)) => f_r5_With x.1 x.2⟩
def m_r5_With_pt : List (Nat × PFun) := [(21, p_r5_Check), (88, p_r5_more)]
def m_r5_With_tab (ρ : Type) : List (LEnt ρ) := []
def m_r5_With_E (ρ : Type) : Env ρ := mkEnv m_r5_With_pt (m_r5_With_tab ρ)
def p_r5_Shown : PFun := ⟨[tyBook, tyCompare, tI], [tySpan], fun (x : Val (.pair tyBook (.pair tyCompare tI))) => f_r5_Shown x.1 x.2.1 x.2.2⟩
def m_r5_Shown_pt : List (Nat × PFun) := [(42, p_r5_Growth), (43, p_r5_Films), (118, p_r1_Floor), (119, p_r1_Ceil)]
def m_r5_Shown_tab (ρ : Type) : List (LEnt ρ) := []
def m_r5_Shown_E (ρ : Type) : Env ρ := mkEnv m_r5_Shown_pt (m_r5_Shown_tab ρ)
def p_r5_Open : PFun := ⟨[tySystem], [.bool], fun (x : Val tySystem) => f_r5_Open x⟩
def m_r5_Open_L1_S : LoopSpec := { pin := 0, cs := [tI, tI, (.slice tyLink)], vs := [.bool, tI, (.slice tI)], head := ⟨60, [.any, .box 0 0, .any, .own 1, .var .bool, .con tI, .var tI], [.cells [.con tI, .con (.slice tyLink)], .rowv tI]⟩, exits := [(.exit 2, ⟨60, [.any, .box 0 0, .any, .own 1, .var .bool, .con tI], [.cells [.con tI, .con (.slice tyLink)], .rowv tI]⟩, [.bool, (.slice tI)])] }
def m_r5_Open_L1_e (ρ : Type) : LEnt ρ := ⟨[], 89, 2, m_r5_Open_L1_S, fun (p : Val (.pair tI tySystem)) (v : Val (.pair .bool (.pair tI (.slice tI)))) kn kx => m_r5_Open_L1 p.2.2 v.1 v.2.1 v.2.2 (fun u0 u1 u2 => kn (u0, u1, u2)) (kx 0)⟩
def m_r5_Open_L0_S : LoopSpec := { pin := 0, cs := [tI, (.slice tyLink)], vs := [.bool, tI, (.slice tI)], head := ⟨60, [.any, .box 0 0, .any, .own 1, .var .bool, .var tI], [.cells [.con tI, .con (.slice tyLink)], .rowv tI]⟩, exits := [(.exit 0, ⟨60, [.any, .box 0 0, .any, .own 1, .var .bool], [.cells [.con tI, .con (.slice tyLink)], .rowv tI]⟩, [.bool, (.slice tI)])] }
def m_r5_Open_L0_e (ρ : Type) : LEnt ρ := ⟨[], 89, 0, m_r5_Open_L0_S, fun (p : Val tySystem) (v : Val (.pair .bool (.pair tI (.slice tI)))) kn kx => m_r5_Open_L0 p.1 p.2 v.1 v.2.1 v.2.2 (fun u0 u1 u2 => kn (u0, u1, u2)) (kx 0)⟩
def m_r5_Open_pt : List (Nat × PFun) := []
def m_r5_Open_tab (ρ : Type) : List (LEnt ρ) := [m_r5_Open_L1_e ρ, m_r5_Open_L0_e ρ]
def m_r5_Open_E (ρ : Type) : Env ρ := mkEnv m_r5_Open_pt (m_r5_Open_tab ρ)
def p_r5_System : PFun := ⟨[tyBook], [tySystem], fun (x : Val tyBook) => f_r5_System x⟩
def m_r5_System_pt : List (Nat × PFun) := [(53, p_r5_Tie), (54, p_r5_Nodes)]
def m_r5_System_tab (ρ : Type) : List (LEnt ρ) := []
def m_r5_System_E (ρ : Type) : Env ρ := mkEnv m_r5_System_pt (m_r5_System_tab ρ)
def p_r5_Bounds : PFun := ⟨[tySystem, tI], [(.slice tI)], fun (x : Val (.pair tySystem tI)) => f_r5_Bounds x.1 x.2⟩
def m_r5_Bounds_L0_S : LoopSpec := { pin := 0, cs := [tI, tI, (.slice tyLink)], vs := [tI, (.slice tI)], head := ⟨82, [.any, .con tI, .box 0 0, .any, .any, .own 1, .var tI], [.cells [.con tI, .con (.slice tyLink)], .rowv tI]⟩, exits := [(.exit 0, ⟨82, [.any, .con tI, .box 0 0, .any, .any, .own 1], [.cells [.con tI, .con (.slice tyLink)], .rowv tI]⟩, [(.slice tI)])] }
def m_r5_Bounds_L0_e (ρ : Type) : LEnt ρ := ⟨[], 92, 0, m_r5_Bounds_L0_S, fun (p : Val (.pair tI tySystem)) (v : Val (.pair tI (.slice tI))) kn kx => m_r5_Bounds_L0 p.2.1 v.1 v.2 (fun u0 u1 => kn (u0, u1)) (kx 0)⟩
def m_r5_Bounds_L2_S : LoopSpec := { pin := 0, cs := [tI, tI, (.slice tyLink)], vs := [.bool, tI, (.slice tI)], head := ⟨82, [.any, .any, .box 0 0, .any, .any, .own 1, .any, .var .bool, .con tI, .var tI], [.cells [.con tI, .con (.slice tyLink)], .rowv tI]⟩, exits := [(.exit 4, ⟨82, [.any, .any, .box 0 0, .any, .any, .own 1, .any, .var .bool, .con tI], [.cells [.con tI, .con (.slice tyLink)], .rowv tI]⟩, [.bool, (.slice tI)])] }
def m_r5_Bounds_L2_e (ρ : Type) : LEnt ρ := ⟨[], 92, 4, m_r5_Bounds_L2_S, fun (p : Val (.pair tI tySystem)) (v : Val (.pair .bool (.pair tI (.slice tI)))) kn kx => m_r5_Bounds_L2 p.2.2 v.1 v.2.1 v.2.2 (fun u0 u1 u2 => kn (u0, u1, u2)) (kx 0)⟩
def m_r5_Bounds_L1_S : LoopSpec := { pin := 0, cs := [tI, (.slice tyLink)], vs := [.bool, tI, (.slice tI)], head := ⟨82, [.any, .any, .box 0 0, .any, .any, .own 1, .any, .var .bool, .var tI], [.cells [.con tI, .con (.slice tyLink)], .rowv tI]⟩, exits := [(.exit 2, ⟨82, [.any, .any, .box 0 0, .any, .any, .own 1], [.cells [.con tI, .con (.slice tyLink)], .rowv tI]⟩, [(.slice tI)])] }
def m_r5_Bounds_L1_e (ρ : Type) : LEnt ρ := ⟨[], 92, 2, m_r5_Bounds_L1_S, fun (p : Val tySystem) (v : Val (.pair .bool (.pair tI (.slice tI)))) kn kx => m_r5_Bounds_L1 p.1 p.2 v.1 v.2.1 v.2.2 (fun u0 u1 u2 => kn (u0, u1, u2)) (kx 0)⟩
def m_r5_Bounds_pt : List (Nat × PFun) := []
def m_r5_Bounds_tab (ρ : Type) : List (LEnt ρ) := [m_r5_Bounds_L0_e ρ, m_r5_Bounds_L2_e ρ, m_r5_Bounds_L1_e ρ]
def m_r5_Bounds_E (ρ : Type) : Env ρ := mkEnv m_r5_Bounds_pt (m_r5_Bounds_tab ρ)
def p_r5_Predict : PFun := ⟨[tyBook, tyCompare], [tySpan, tI], fun (x : Val (.pair tyBook tyCompare)) => f_r5_Predict x.1 x.2⟩
def m_r5_Predict_pt : List (Nat × PFun) := [(52, p_r5_Index), (73, p_r5_Shown), (88, p_r5_more), (89, p_r5_Open), (90, p_r5_System), (91, p_r5_one), (92, p_r5_Bounds)]
def m_r5_Predict_tab (ρ : Type) : List (LEnt ρ) := []
def m_r5_Predict_E (ρ : Type) : Env ρ := mkEnv m_r5_Predict_pt (m_r5_Predict_tab ρ)
def p_w5_ComparePredicts : PFun := ⟨[tyBook, tyCompare], [.bool], fun (x : Val (.pair tyBook tyCompare)) => f_w5_ComparePredicts x.1 x.2⟩
def m_w5_ComparePredicts_pt : List (Nat × PFun) := [(17, p_w5_small), (18, p_w5_brief), (19, p_w5_sanity), (20, p_c_Predict), (21, p_r5_Check), (22, p_r5_With), (23, p_r5_Predict)]
def m_w5_ComparePredicts_tab (ρ : Type) : List (LEnt ρ) := []
def m_w5_ComparePredicts_E (ρ : Type) : Env ρ := mkEnv m_w5_ComparePredicts_pt (m_w5_ComparePredicts_tab ρ)
end Go.Proofs.ZzM
end
