/- lemmas -/
import Derived.Test.YtjlkjopcjcbooaaGreatDoorAmG
import Derived.Test.YtjlkjopcjcbooaaGreatDoorMdTA
import Derived.Test.YtjlkjopcjcbooaaGreatDoorMdCA
import Derived.Test.YtjlkjopcjcbooaaGreatDoorPlA
import Derived.Test.YtjlkjopcjcbooaaGreatDoorPlB
set_option linter.all false
noncomputable section
set_option maxRecDepth 1000000
namespace Go.Proofs.ZzM
open Go Go.Am
abbrev Ï : Ty := (.pair tI tI)
abbrev abQ : Ty := (.pair Ï tI)
abbrev mu : Ty := (.pair tI (.pair tI (.pair tI (.pair Ï abQ))))
abbrev EA : Ty := (.pair tI abQ)
abbrev Cy : Ty := (.pair tI Ï)
abbrev Ĵ : Ty := (.pair tI (.pair tI (.pair (.slice tI) (.pair (.slice tI) (.pair tI Cy)))))
abbrev ç : Ty := (.pair Ï (.pair (.slice mu) (.pair (.slice Ï) (.pair (.slice EA) (.pair (.slice Ĵ) (.slice Ï))))))
abbrev Br : Ty := (.pair ç (.pair Ï (.pair .bool (.pair tI (.slice tI)))))
abbrev Ă : Ty := (.pair tI (.slice Cy))
abbrev l7 : Ty := (.pair ç Ă)
abbrev qQ : Ty := (.pair Ï (.pair Cy Cy))
abbrev uW : Ty := (.pair ç (.pair (.slice Ï) (.pair Ă (.slice Ï))))
abbrev yp : Ty := (.pair Ï Ï)
abbrev zT1 : Type := (Int × Int) × Int
abbrev zT2 : Type := (Int × Int) × zT1
abbrev zT3 : Type := Int × (Int × zT2)
abbrev zT4 : Type := Int × (Int × Int)
abbrev zT5 : Type := (y5 Int) × (Int × zT4)
abbrev zT6 : Type := (y5 Int) × zT5
abbrev zT7 : Type := y5 (Int × Int)
abbrev zT8 : Type := y5 (Int × zT1)
abbrev zT9 : Type := Int × (Int × zT6)
abbrev zT10 : Type := (y5 zT9) × zT7
abbrev zT11 : Type := zT7 × (zT8 × zT10)
abbrev zT12 : Type := y5 (Int × zT3)
abbrev Cr : Type := (Int × Int) × (zT12 × zT11)
abbrev zT14 : Type := Cr × (zT7 × zT7)
abbrev abN : Type := Int × (y5 zT4)
abbrev ZF : Type := zT7 × (abN × zT7)
abbrev zT17 : Type := y5 (Int × Bool)
abbrev zT18 : Type := (y5 Int) × Bool
abbrev zT19 : Type := abN × (zT17 × Int)
abbrev zT20 : Type := Cr × (Int × Int)
abbrev zT21 : Type := Int × (y5 Int)
abbrev zT22 : Type := abN × (Int × Int)
abbrev zT23 : Type := y5 (y5 Int)
abbrev zT24 : Type := (Int × Int) × Bool
abbrev zT25 : Type := (Cr × abN) × zT24
abbrev zT26 : Type := (Int × Int) × (Bool × zT21)
abbrev zT27 : Type := (Cr × zT26) × Int
abbrev zT28 : Type := (Int × Int) × zT9
abbrev zT29 : Type := (Cr × abN) × zT28
abbrev zT30 : Type := (Int × Int) × (zT4 × zT4)
abbrev zT31 : Type := zT30 × (y5 Int)
abbrev zT32 : Type := (Int × Int) × zT28
abbrev zT33 : Type := Cr × (Cr × zT26)
noncomputable def z1 : Int × zT3 := (1, (0, (1000, (((-5), 5), ((1, 10), 1)))))
noncomputable def z2 : Int × zT3 := (2, (0, (1000, (((-50), 50), ((1, 4), 0)))))
noncomputable def z3 : Int × zT6 := (10, ([1], ([2], ((-20), (1, (100, 200))))))
noncomputable def z4 : zT11 := ([(1, 10)], ([(1, ((20, 29), 3))], ([(7, z3)], [])))
noncomputable def z5 : Cr := ((0, 2), ([z1, z2], z4))
noncomputable def z6 : zT8 × zT10 := ([(1, ((20, 29), 3))], ([(7, z3)], [(1, 30)]))
noncomputable def z7 : Cr := ((0, 2), ([z1, z2], ([(1, 10)], z6)))
noncomputable def z8 : zT14 := (((0, 2), ([z1, z2], z4)), ([(1, 0), (2, 0), (3, 0)], [(2, 10)]))
noncomputable def z9 : zT8 × zT10 := ([(1, ((20, 29), 3))], ([(7, z3)], [(2, 10)]))
noncomputable def z10 : Cr := ((0, 2), ([z1, z2], ([(1, 10)], z9)))
noncomputable def z11 : zT9 := (8, (10, ([1], ([2], (0, (0, (0, 0)))))))
noncomputable def z12 : zT8 × zT10 := ([(1, ((20, 29), 3))], ([(7, z3), z11], []))
noncomputable def z13 : Cr := ((0, 2), ([z1, z2], ([(1, 10)], z12)))
noncomputable def z14 : y5 zT4 := [(0, (1, 1005)), (1, (0, (-995))), (1, (2, 0)), (2, (1, 0)), (0, (3, 1050)), (3, (0, (-950))), (3, (4, 0)), (4, (3, 0)), (4, (2, 11)), (2, (4, 6))]
noncomputable def z15 : zT7 := [(1, 0), (1, 0), (2, 0), (2, 0), (1, 1), (1, 1), (2, 1), (2, 1), (3, 0), (3, 0)]
noncomputable def z16 : ZF := ([(1, 0), (1, 10), (2, 0), (2, 10)], ((5, z14), z15))
noncomputable def z17 : abN × zT17 := ((5, z14), [])
noncomputable def z18 : zT19 := ((5, z14), ([], 4))
noncomputable def z19 : zT19 := ((5, z14), ([], 0))
noncomputable def z20 : zT7 := [(1, 0), (1, 10), (1, 30), (2, 0), (2, 10)]
noncomputable def z21 : y5 zT4 := [(0, (1, 1005)), (1, (0, (-995))), (1, (2, 0)), (2, (1, 0)), (2, (3, 0)), (3, (2, 31)), (0, (4, 1050)), (4, (0, (-950))), (4, (5, 0)), (5, (4, 0)), (5, (2, 11)), (2, (5, 6))]
noncomputable def z22 : zT7 := [(1, 0), (1, 0), (2, 0), (2, 0), (2, 0), (2, 0), (1, 1), (1, 1), (2, 1), (2, 1), (3, 0), (3, 0)]
noncomputable def z23 : Cr × ZF := (((0, 2), ([z1, z2], ([(1, 10)], z6))), (z20, ((6, z21), z22)))
noncomputable def z24 : abN × zT17 := ((6, z21), [])
noncomputable def z25 : zT19 := ((6, z21), ([], 3))
noncomputable def z26 : zT19 := ((6, z21), ([], 0))
noncomputable def z27 : zT20 := (((0, 2), ([z1, z2], z4)), (1, 30))
noncomputable def z28 : zT19 := ((5, z14), ([], 2))
noncomputable def z29 : Cr × zT21 := (((0, 2), ([z1, z2], z4)), (10, [1, 2]))
noncomputable def z30 : zT19 := ((5, z14), ([], 3))
noncomputable def z31 : zT22 := ((5, z14), (4, 5))
noncomputable def z32 : y5 Int := [1152921504606846976, 1152921504606846976, 1152921504606846976, 1152921504606846976, 0]
noncomputable def z33 : y5 Int := [1152921504606846976, 1152921504606846976, 6, 0, 1152921504606846976]
noncomputable def z34 : y5 Int := [1050, 6, 1152921504606846976, 1152921504606846976, 0]
noncomputable def z35 : zT23 := [z32, z33, z34, [1011, 55, 6, 0, 1152921504606846976], [1050, 6, 55, 61, 0], [1011, 55, 6, 0, 61]]
noncomputable def z36 : zT25 := ((((0, 2), ([z1, z2], z4)), (5, z14)), ((2, 10), true))
noncomputable def z37 : Cr × ZF := (((0, 2), ([z1, z2], ([(1, 10)], z9))), z16)
noncomputable def z38 : Cr × abN := (((0, 2), ([z1, z2], ([(1, 10)], z9))), (5, z14))
noncomputable def z39 : zT25 := (z38, ((2, 10), true))
noncomputable def z40 : Cr × zT24 := (((0, 2), ([z1, z2], z4)), ((2, 10), true))
noncomputable def z41 : Cr × zT26 := (((0, 2), ([z1, z2], ([(1, 10)], z9))), ((2, 10), (true, (1011, [0, 2, 9]))))
noncomputable def z42 : y5 zT4 := [(0, (1, 1005)), (1, (0, (-995))), (1, (2, 0)), (2, (1, 0)), (0, (3, 1050)), (3, (0, (-950))), (3, (4, 0)), (4, (3, 0)), (4, (2, 11)), (2, (4, 6)), (4, (2, 0)), (2, (4, 0))]
noncomputable def z43 : zT7 := [(1, 0), (1, 0), (2, 0), (2, 0), (1, 1), (1, 1), (2, 1), (2, 1), (3, 0), (3, 0), (3, 1), (3, 1)]
noncomputable def z44 : ZF := ([(1, 0), (1, 10), (2, 0), (2, 10)], ((5, z42), z43))
noncomputable def z45 : Cr × ZF := (((0, 2), ([z1, z2], ([(1, 10)], z12))), z44)
noncomputable def z46 : Cr × zT9 := (((0, 2), ([z1, z2], z4)), z11)
noncomputable def z47 : zT29 := ((((0, 2), ([z1, z2], z4)), (5, z14)), ((2, 10), z11))
noncomputable def z48 : zT4 × zT4 := ((1011, (1017, 1005)), ((-984), ((-995), (-973))))
noncomputable def z49 : zT30 := (((-6), 11), z48)
noncomputable def z50 : y5 Int := [(-6), (-6), (-6), (-7), (-5), 11, 11, 11, 10, 12, (-117), 105, 95, (-73), 83, (-95), (-105), 127]
noncomputable def z51 : zT31 := ((((-6), 11), z48), z50)
noncomputable def z52 : y5 Int := [(-6), 11, (-5), (-4), (-5), (-4), (-5), (-4), (-5), (-5), (-4), (-3), 9, 10, 9, 10, 9, 10, 8, 9, 10, 10]
noncomputable def z53 : Cr × zT32 := (((0, 2), ([z1, z2], z4)), ((2, 10), ((900, 1100), z11)))
noncomputable def z54 : zT33 := (((0, 2), ([z1, z2], z4)), z41)
noncomputable def runSig : Nat -> x9 (y5 Ty × y5 Ty)
  | 6 => some ([], [.bool])
  | 12 => some ([ç, Ï], [Ï, tI])
  | 13 => some ([ç, Ï, .bool], [Br, tI])
  | 14 => some ([ç, Br], [.bool, tI])
  | 15 => some ([Br], [tI])
  | 17 => some ([], [ç])
  | 18 => some ([ç, Ï, Ï], [Ï, tI])
  | 19 => some ([ç, tI, (.slice tI)], [Ï, tI])
  | 20 => some ([ç, Ï, Ï], [tI, tI])
  | 21 => some ([ç, Ï, Ĵ], [tI, tI])
  | 22 => some ([ç, Ï, Ï, Ĵ], [.bool, tI])
  | 23 => some ([ç], [Br, tI])
  | 47 => some ([(.ptr l7), Ï], [Ï])
  | 48 => some ([(.ptr l7), (.ptr Ï), (.ptr .bool)], [(.slice tI)])
  | 49 => some ([(.ptr l7), Ï], [tI])
  | 50 => some ([Ă, tI, tI], [(.slice tI), tI])
  | 52 => some ([ç, (.slice tI)], [(.slice Ï)])
  | 53 => some ([(.ptr l7), Ï], [tI])
  | 54 => some ([(.ptr l7), Ï], [tI])
  | 57 => some ([ç, ç], [.bool])
  | 58 => some ([ç, Ï], [tI, tI])
  | 59 => some ([ç], [Ă, (.slice Ï), tI])
  | 60 => some ([Ă, tI, tI, (.slice tI)], [tI, tI])
  | 61 => some ([(.ptr l7), tI, tI], [tI])
  | 62 => some ([(.slice tI), tI], [.bool])
  | 63 => some ([tI], [.bool])
  | 64 => some ([tI, (.slice (.slice tI))], [(.slice Ï)])
  | 65 => some ([Ï, Ï], [tI])
  | 66 => some ([(.ptr l7), Ï, Ĵ], [qQ, tI])
  | 67 => some ([qQ], [tI])
  | 68 => some ([(.slice (.slice tI))], [(.slice tI)])
  | 69 => some ([Cy], [(.slice tI)])
  | 70 => some ([tI], [tI])
  | 71 => some ([Cy, tI], [(.slice tI)])
  | 73 => some ([qQ, tI], [Ï])
  | 75 => some ([qQ, (.slice tI)], [(.slice tI)])
  | 76 => some ([Ă], [(.slice tI), tI])
  | 101 => some ([ç, Ï], [ç, tI])
  | 102 => some ([Ă], [.bool, tI])
  | 103 => some ([Ă, tI, tI], [tI, tI])
  | 104 => some ([Ă, tI, tI], [(.slice (.slice tI))])
  | 115 => some ([ç], [(.map tI mu)])
  | 117 => some ([ç], [(.slice Ï)])
  | 128 => some ([(.slice Ï), Ï], [tI])
  | 129 => some ([ç], [(.ptr uW)])
  | 130 => some ([Ă], [tI, tI])
  | 131 => some ([Ă, tI], [.bool])
  | 132 => some ([Ă, (.slice tI)], [tI])
  | 133 => some ([Ă, tI, (.slice tI)], [tI, tI, .bool])
  | 134 => some ([(.slice tI), (.slice tI)], [(.slice tI), (.slice tI), tI])
  | 135 => some ([ç, Ĵ], [Ï, tI])
  | 136 => some ([ç, Ĵ], [ç, tI])
  | 137 => some ([ç, tI], [Ï, tI])
  | 138 => some ([(.slice tI), (.ptr l7), (.ptr Ĵ)], [tI])
  | 139 => some ([tI, tI, (.ptr l7), (.ptr tI), (.ptr Ï), (.ptr tI)], [Cy])
  | 141 => some ([Cy, tI], [tI])
  | 143 => some ([Ă, (.map tI .bool)], [(.slice tI), .bool])
  | 179 => some ([Ă, (.slice tI)], [tI])
  | 180 => some ([Ă, (.map tI .bool), tI], [(.slice tI)])
  | 190 => some ([ç, mu], [(.slice tI)])
  | 194 => some ([(.slice mu), mu], [.bool])
  | 197 => some ([(.slice Ï), Ï], [.bool])
  | 200 => some ([(.slice EA), EA], [.bool])
  | 203 => some ([(.slice tI)], [.bool])
  | 204 => some ([(.slice tI), (.slice tI)], [(.slice tI)])
  | 205 => some ([(.ptr uW), (.slice tI), tI], [tI])
  | 206 => some ([ç, Ĵ, Ï], [Ï, tI])
  | 208 => some ([ç, tI], [Ĵ, tI])
  | 209 => some ([ç, Ĵ], [Ï])
  | 233 => some ([Ï], [.bool])
  | 234 => some ([tI, tI, tI], [.bool])
  | 239 => some ([(.slice tI), tI], [.bool])
  | 243 => some ([(.slice mu), mu], [tI])
  | 245 => some ([(.slice Ï), Ï], [tI])
  | 247 => some ([(.slice EA), EA], [tI])
  | 249 => some ([ç, mu, tI, tI], [tI])
  | 252 => some ([ç, Ĵ], [yp])
  | 253 => some ([ç, Ĵ], [Ï])
  | 254 => some ([Ï], [tI, tI])
  | 255 => some ([Ï], [tI, tI])
  | 282 => some ([tI], [(.int .u64)])
  | 283 => some ([(.int .u64), (.int .u64)], [(.int .u64)])
  | 285 => some ([(.slice tI), tI], [tI])
  | 288 => some ([(.map tI mu), (.slice tI)], [Ï])
  | 289 => some ([Ï, Ï], [Ï])
  | 290 => some ([Ï, Ï], [yp])
  | 291 => some ([(.slice Ï)], [tI])
  | 292 => some ([tI, tI], [tI])
  | 309 => some ([Ï, Ï], [Ï, tI])
  | 310 => some ([yp, Ï], [yp, tI])
  | 319 => some ([tI, tI], [Ï, tI])
  | 320 => some ([yp], [.bool])
  | 323 => some ([Ï, Ï], [Ï, tI])
  | 325 => some ([Ï, Ï], [tI])
  | _ => none
noncomputable def acA : Nat -> Nat -> x9 Nat
  | 13 => xS [(34, 48), (56, 48)]
  | 22 => xS [(51, 70), (55, 70)]
  | 47 => xS [(12, 53), (16, 54)]
  | 66 => xS [(110, 138), (113, 138), (120, 139), (123, 139)]
  | _ => fun _ => none
noncomputable def ac7 (f : Nat) (ρ : Type) (pr : Nat -> x9 Č) : Env ρ := { P := Tryz.prog, hint := acA f, wp := fun f => f Tryz.prog, lazy := true, eat := adf, clone := xR, sort := Gi, compact := nP, inl := fun _ => true, fz := isFz, pure := pr, loops := fun _ _ _ _ _ _ => none, ranges := ż [] }
def libOfR {ρ : Type} (E : Env ρ) (h : ∀ f p, E.pure f = some p -> Þ Tryz.prog f p) (hP : E.P = Tryz.prog) (h2 : E.sort = Gi) (h3 : E.compact = nP) (h4 : E.clone = xR) (hj : E.joins = fun _ _ _ _ => none) (hx : E.ext = fun _ => none) (hy : E.yld = none) [É] : uR E := by
  have := BT (pt := []) Ä { E with pure := Iu [] } hP rfl h2 h3 h4 (Ń hj) (lh hx) (ľ hy)
  exact ⟨fun f p hf => by rw [hP]; exact h f p hf, this.sort, this.compact, this.plain, this.clone, this.joins, this.yld, this.ext⟩
def libRun : ∀ (f : Nat) (ρ : Type) (pr : Nat -> x9 Č), (∀ f p, pr f = some p -> Þ Tryz.prog f p) -> ∀ k [É], uR (CY (ac7 f ρ pr) k) := fun f ρ pr h k => by
  cases k <;> exact libOfR _ h rfl rfl rfl rfl rfl rfl rfl
def l6 (L : y5 (Kn Tryz.prog)) {f : Nat} {ts rs : y5 Ty} {x : Val (tyL ts)} {y : Val (tyL rs)} (law : acz (CY (ac7 f (Val (tyL rs)) (PG ac7 runSig (kn L) 8 14)) 8) f ts x = some y) : Þ Tryz.prog f (P8 ts rs x y) := Z3 (fun _ _ _ => rfl) libRun (fun _ _ _ => rfl) hmix (kn_ok L) 14 law
def b_k1 : Ā z5 = some (0 : Int) := (ix (vw (by decide +kernel)) (by unfold I64; decide +kernel)).trans (congrArg some (by decide +kernel))
def b_k2 : Ā z7 = some (0 : Int) := (ix (vw (by decide +kernel)) (by unfold I64; decide +kernel)).trans (congrArg some (by decide +kernel))
def b_k3 : GJ z8.1 z8.2.1 z8.2.2 = some (((0, 2), ([z1, z2], ([(1, 10)], z9))) : Cr) := (ab9 (vw (by decide +kernel)) (by decide +kernel) (by decide +kernel) (by unfold Zi; decide +kernel)).trans (congrArg some (AX ç _ _ (by decide +kernel)))
def b_k4 : Ā z10 = some (0 : Int) := (ix (vw (by decide +kernel)) (by unfold I64; decide +kernel)).trans (congrArg some (by decide +kernel))
def b_k5 : Ā z13 = some (0 : Int) := (ix (vw (by decide +kernel)) (by unfold I64; decide +kernel)).trans (congrArg some (by decide +kernel))
def k1 : Þ Tryz.prog 55 (iL [ç] [tI] ((z5, (0 : Int)) :: [])) := õ (ET Ζ (b_k1)) Ź
def k2 : Þ Tryz.prog 55 (iL [ç] [tI] ((z7, (0 : Int)) :: (z5, (0 : Int)) :: [])) := õ (ET Ζ (b_k2)) k1
def k3 : Þ Tryz.prog 51 (iL [ç, (.slice Ï), (.slice Ï)] [ç] ((z8, (((0, 2), ([z1, z2], ([(1, 10)], z9))) : Cr)) :: [])) := õ (ET YL (b_k3)) Ź
def k4 : Þ Tryz.prog 55 (iL [ç] [tI] ((z10, (0 : Int)) :: (z7, (0 : Int)) :: (z5, (0 : Int)) :: [])) := õ (ET Ζ (b_k4)) k2
def k5 : Þ Tryz.prog 55 (iL [ç] [tI] ((z13, (0 : Int)) :: (z10, (0 : Int)) :: (z7, (0 : Int)) :: (z5, (0 : Int)) :: [])) := õ (ET Ζ (b_k5)) k4
noncomputable def tb0 : y5 (Kn Tryz.prog) := [⟨55, _, k5⟩, ⟨51, _, k3⟩]
end Go.Proofs.ZzM
end
