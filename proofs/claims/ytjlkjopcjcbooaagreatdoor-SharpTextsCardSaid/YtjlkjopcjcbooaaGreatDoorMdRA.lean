/- lemmas -/
import Derived.Test.YtjlkjopcjcbooaaGreatDoorAmG
import Derived.Test.YtjlkjopcjcbooaaGreatDoorMdTA
import Derived.Test.YtjlkjopcjcbooaaGreatDoorMdCA
import Derived.Test.YtjlkjopcjcbooaaGreatDoorPlA
set_option linter.all false
noncomputable section
set_option maxRecDepth 1000000
namespace Go.Proofs.ZzM
open Go Go.Am
abbrev Î : Ty := (.pair tI tI)
abbrev Vx : Ty := (.pair Î tI)
abbrev jd : Ty := (.pair tI (.pair tI (.pair tI (.pair Î Vx))))
abbrev zV : Ty := (.pair tI Vx)
abbrev xJ : Ty := (.pair tI Î)
abbrev ę : Ty := (.pair tI (.pair tI (.pair (.slice tI) (.pair (.slice tI) (.pair tI xJ)))))
abbrev å : Ty := (.pair Î (.pair (.slice jd) (.pair (.slice Î) (.pair (.slice zV) (.pair (.slice ę) (.slice Î))))))
abbrev wD : Ty := (.pair å (.pair Î (.pair .bool (.pair tI (.slice tI)))))
abbrev õ : Ty := (.pair tI (.slice xJ))
abbrev iV : Ty := (.pair å õ)
abbrev mT : Ty := (.pair Î (.pair xJ xJ))
abbrev qr : Ty := (.pair å (.pair (.slice Î) (.pair õ (.slice Î))))
abbrev uq : Ty := (.pair Î Î)
abbrev zT1 : Type := (Int × Int) × Int
abbrev zT2 : Type := (Int × Int) × zT1
abbrev zT3 : Type := Int × (Int × zT2)
abbrev zT4 : Type := Int × (Int × Int)
abbrev zT5 : Type := (th Int) × (Int × zT4)
abbrev zT6 : Type := (th Int) × zT5
abbrev zT7 : Type := th (Int × Int)
abbrev zT8 : Type := th (Int × zT1)
abbrev zT9 : Type := Int × (Int × zT6)
abbrev zT10 : Type := (th zT9) × zT7
abbrev zT11 : Type := zT7 × (zT8 × zT10)
abbrev zT12 : Type := th (Int × zT3)
abbrev xA : Type := (Int × Int) × (zT12 × zT11)
abbrev zT14 : Type := xA × (zT7 × zT7)
abbrev Vv : Type := Int × (th zT4)
abbrev TE : Type := zT7 × (Vv × zT7)
abbrev zT17 : Type := th (Int × Bool)
abbrev zT18 : Type := (th Int) × Bool
abbrev zT19 : Type := Vv × (zT17 × Int)
abbrev zT20 : Type := xA × (Int × Int)
abbrev zT21 : Type := Int × (th Int)
abbrev zT22 : Type := Vv × (Int × Int)
abbrev zT23 : Type := th (th Int)
abbrev zT24 : Type := (Int × Int) × Bool
abbrev zT25 : Type := (xA × Vv) × zT24
abbrev zT26 : Type := (Int × Int) × (Bool × zT21)
abbrev zT27 : Type := (xA × zT26) × Int
abbrev zT28 : Type := (Int × Int) × zT9
abbrev zT29 : Type := (xA × Vv) × zT28
abbrev zT30 : Type := (Int × Int) × (zT4 × zT4)
abbrev zT31 : Type := zT30 × (th Int)
abbrev zT32 : Type := (Int × Int) × zT28
abbrev zT33 : Type := xA × (xA × zT26)
noncomputable def z1 : Int × zT3 := (1, (0, (1000, (((-5), 5), ((1, 10), 1)))))
noncomputable def z2 : Int × zT3 := (2, (0, (1000, (((-50), 50), ((1, 4), 0)))))
noncomputable def z3 : Int × zT6 := (10, ([1], ([2], ((-20), (1, (100, 200))))))
noncomputable def z4 : zT11 := ([(1, 10)], ([(1, ((20, 29), 3))], ([(7, z3)], [])))
noncomputable def z5 : xA := ((0, 2), ([z1, z2], z4))
noncomputable def z6 : zT8 × zT10 := ([(1, ((20, 29), 3))], ([(7, z3)], [(1, 30)]))
noncomputable def z7 : xA := ((0, 2), ([z1, z2], ([(1, 10)], z6)))
noncomputable def z8 : zT14 := (((0, 2), ([z1, z2], z4)), ([(1, 0), (2, 0), (3, 0)], [(2, 10)]))
noncomputable def z9 : zT8 × zT10 := ([(1, ((20, 29), 3))], ([(7, z3)], [(2, 10)]))
noncomputable def z10 : xA := ((0, 2), ([z1, z2], ([(1, 10)], z9)))
noncomputable def z11 : zT9 := (8, (10, ([1], ([2], (0, (0, (0, 0)))))))
noncomputable def z12 : zT8 × zT10 := ([(1, ((20, 29), 3))], ([(7, z3), z11], []))
noncomputable def z13 : xA := ((0, 2), ([z1, z2], ([(1, 10)], z12)))
noncomputable def z14 : th zT4 := [(0, (1, 1005)), (1, (0, (-995))), (1, (2, 0)), (2, (1, 0)), (0, (3, 1050)), (3, (0, (-950))), (3, (4, 0)), (4, (3, 0)), (4, (2, 11)), (2, (4, 6))]
noncomputable def z15 : zT7 := [(1, 0), (1, 0), (2, 0), (2, 0), (1, 1), (1, 1), (2, 1), (2, 1), (3, 0), (3, 0)]
noncomputable def z16 : TE := ([(1, 0), (1, 10), (2, 0), (2, 10)], ((5, z14), z15))
noncomputable def z17 : Vv × zT17 := ((5, z14), [])
noncomputable def z18 : zT19 := ((5, z14), ([], 4))
noncomputable def z19 : zT19 := ((5, z14), ([], 0))
noncomputable def z20 : zT7 := [(1, 0), (1, 10), (1, 30), (2, 0), (2, 10)]
noncomputable def z21 : th zT4 := [(0, (1, 1005)), (1, (0, (-995))), (1, (2, 0)), (2, (1, 0)), (2, (3, 0)), (3, (2, 31)), (0, (4, 1050)), (4, (0, (-950))), (4, (5, 0)), (5, (4, 0)), (5, (2, 11)), (2, (5, 6))]
noncomputable def z22 : zT7 := [(1, 0), (1, 0), (2, 0), (2, 0), (2, 0), (2, 0), (1, 1), (1, 1), (2, 1), (2, 1), (3, 0), (3, 0)]
noncomputable def z23 : xA × TE := (((0, 2), ([z1, z2], ([(1, 10)], z6))), (z20, ((6, z21), z22)))
noncomputable def z24 : Vv × zT17 := ((6, z21), [])
noncomputable def z25 : zT19 := ((6, z21), ([], 3))
noncomputable def z26 : zT19 := ((6, z21), ([], 0))
noncomputable def z27 : zT20 := (((0, 2), ([z1, z2], z4)), (1, 30))
noncomputable def z28 : zT19 := ((5, z14), ([], 2))
noncomputable def z29 : xA × zT21 := (((0, 2), ([z1, z2], z4)), (10, [1, 2]))
noncomputable def z30 : zT19 := ((5, z14), ([], 3))
noncomputable def z31 : zT22 := ((5, z14), (4, 5))
noncomputable def z32 : th Int := [1152921504606846976, 1152921504606846976, 1152921504606846976, 1152921504606846976, 0]
noncomputable def z33 : th Int := [1152921504606846976, 1152921504606846976, 6, 0, 1152921504606846976]
noncomputable def z34 : th Int := [1050, 6, 1152921504606846976, 1152921504606846976, 0]
noncomputable def z35 : zT23 := [z32, z33, z34, [1011, 55, 6, 0, 1152921504606846976], [1050, 6, 55, 61, 0], [1011, 55, 6, 0, 61]]
noncomputable def z36 : zT25 := ((((0, 2), ([z1, z2], z4)), (5, z14)), ((2, 10), true))
noncomputable def z37 : xA × TE := (((0, 2), ([z1, z2], ([(1, 10)], z9))), z16)
noncomputable def z38 : xA × Vv := (((0, 2), ([z1, z2], ([(1, 10)], z9))), (5, z14))
noncomputable def z39 : zT25 := (z38, ((2, 10), true))
noncomputable def z40 : xA × zT24 := (((0, 2), ([z1, z2], z4)), ((2, 10), true))
noncomputable def z41 : xA × zT26 := (((0, 2), ([z1, z2], ([(1, 10)], z9))), ((2, 10), (true, (1011, [0, 2, 9]))))
noncomputable def z42 : th zT4 := [(0, (1, 1005)), (1, (0, (-995))), (1, (2, 0)), (2, (1, 0)), (0, (3, 1050)), (3, (0, (-950))), (3, (4, 0)), (4, (3, 0)), (4, (2, 11)), (2, (4, 6)), (4, (2, 0)), (2, (4, 0))]
noncomputable def z43 : zT7 := [(1, 0), (1, 0), (2, 0), (2, 0), (1, 1), (1, 1), (2, 1), (2, 1), (3, 0), (3, 0), (3, 1), (3, 1)]
noncomputable def z44 : TE := ([(1, 0), (1, 10), (2, 0), (2, 10)], ((5, z42), z43))
noncomputable def z45 : xA × TE := (((0, 2), ([z1, z2], ([(1, 10)], z12))), z44)
noncomputable def z46 : xA × zT9 := (((0, 2), ([z1, z2], z4)), z11)
noncomputable def z47 : zT29 := ((((0, 2), ([z1, z2], z4)), (5, z14)), ((2, 10), z11))
noncomputable def z48 : zT4 × zT4 := ((1011, (1017, 1005)), ((-984), ((-995), (-973))))
noncomputable def z49 : zT30 := (((-6), 11), z48)
noncomputable def z50 : th Int := [(-6), (-6), (-6), (-7), (-5), 11, 11, 11, 10, 12, (-117), 105, 95, (-73), 83, (-95), (-105), 127]
noncomputable def z51 : zT31 := ((((-6), 11), z48), z50)
noncomputable def z52 : th Int := [(-6), 11, (-5), (-4), (-5), (-4), (-5), (-4), (-5), (-5), (-4), (-3), 9, 10, 9, 10, 9, 10, 8, 9, 10, 10]
noncomputable def z53 : xA × zT32 := (((0, 2), ([z1, z2], z4)), ((2, 10), ((900, 1100), z11)))
noncomputable def z54 : zT33 := (((0, 2), ([z1, z2], z4)), z41)
noncomputable def runSig : Nat -> so (th Ty × th Ty)
  | 6 => some ([], [.bool])
  | 12 => some ([å, Î], [Î, tI])
  | 13 => some ([å, Î, .bool], [wD, tI])
  | 14 => some ([å, wD], [.bool, tI])
  | 15 => some ([wD], [tI])
  | 17 => some ([], [å])
  | 18 => some ([å, Î, Î], [Î, tI])
  | 19 => some ([å, tI, (.slice tI)], [Î, tI])
  | 20 => some ([å, Î, Î], [tI, tI])
  | 21 => some ([å, Î, ę], [tI, tI])
  | 22 => some ([å, Î, Î, ę], [.bool, tI])
  | 23 => some ([å], [wD, tI])
  | 47 => some ([(.ptr iV), Î], [Î])
  | 48 => some ([(.ptr iV), (.ptr Î), (.ptr .bool)], [(.slice tI)])
  | 49 => some ([(.ptr iV), Î], [tI])
  | 50 => some ([õ, tI, tI], [(.slice tI), tI])
  | 52 => some ([å, (.slice tI)], [(.slice Î)])
  | 53 => some ([(.ptr iV), Î], [tI])
  | 54 => some ([(.ptr iV), Î], [tI])
  | 57 => some ([å, å], [.bool])
  | 58 => some ([å, Î], [tI, tI])
  | 59 => some ([å], [õ, (.slice Î), tI])
  | 60 => some ([õ, tI, tI, (.slice tI)], [tI, tI])
  | 61 => some ([(.ptr iV), tI, tI], [tI])
  | 62 => some ([(.slice tI), tI], [.bool])
  | 63 => some ([tI], [.bool])
  | 64 => some ([tI, (.slice (.slice tI))], [(.slice Î)])
  | 65 => some ([Î, Î], [tI])
  | 66 => some ([(.ptr iV), Î, ę], [mT, tI])
  | 67 => some ([mT], [tI])
  | 68 => some ([(.slice (.slice tI))], [(.slice tI)])
  | 69 => some ([xJ], [(.slice tI)])
  | 70 => some ([tI], [tI])
  | 71 => some ([xJ, tI], [(.slice tI)])
  | 73 => some ([mT, tI], [Î])
  | 75 => some ([mT, (.slice tI)], [(.slice tI)])
  | 76 => some ([õ], [(.slice tI), tI])
  | 101 => some ([å, Î], [å, tI])
  | 102 => some ([õ], [.bool, tI])
  | 103 => some ([õ, tI, tI], [tI, tI])
  | 104 => some ([õ, tI, tI], [(.slice (.slice tI))])
  | 115 => some ([å], [(.map tI jd)])
  | 117 => some ([å], [(.slice Î)])
  | 128 => some ([(.slice Î), Î], [tI])
  | 129 => some ([å], [(.ptr qr)])
  | 130 => some ([õ], [tI, tI])
  | 131 => some ([õ, tI], [.bool])
  | 132 => some ([õ, (.slice tI)], [tI])
  | 133 => some ([õ, tI, (.slice tI)], [tI, tI, .bool])
  | 134 => some ([(.slice tI), (.slice tI)], [(.slice tI), (.slice tI), tI])
  | 135 => some ([å, ę], [Î, tI])
  | 136 => some ([å, ę], [å, tI])
  | 137 => some ([å, tI], [Î, tI])
  | 138 => some ([(.slice tI), (.ptr iV), (.ptr ę)], [tI])
  | 139 => some ([tI, tI, (.ptr iV), (.ptr tI), (.ptr Î), (.ptr tI)], [xJ])
  | 141 => some ([xJ, tI], [tI])
  | 143 => some ([õ, (.map tI .bool)], [(.slice tI), .bool])
  | 179 => some ([õ, (.slice tI)], [tI])
  | 180 => some ([õ, (.map tI .bool), tI], [(.slice tI)])
  | 190 => some ([å, jd], [(.slice tI)])
  | 194 => some ([(.slice jd), jd], [.bool])
  | 197 => some ([(.slice Î), Î], [.bool])
  | 200 => some ([(.slice zV), zV], [.bool])
  | 203 => some ([(.slice tI)], [.bool])
  | 204 => some ([(.slice tI), (.slice tI)], [(.slice tI)])
  | 205 => some ([(.ptr qr), (.slice tI), tI], [tI])
  | 206 => some ([å, ę, Î], [Î, tI])
  | 208 => some ([å, tI], [ę, tI])
  | 209 => some ([å, ę], [Î])
  | 233 => some ([Î], [.bool])
  | 234 => some ([tI, tI, tI], [.bool])
  | 239 => some ([(.slice tI), tI], [.bool])
  | 243 => some ([(.slice jd), jd], [tI])
  | 245 => some ([(.slice Î), Î], [tI])
  | 247 => some ([(.slice zV), zV], [tI])
  | 249 => some ([å, jd, tI, tI], [tI])
  | 252 => some ([å, ę], [uq])
  | 253 => some ([å, ę], [Î])
  | 254 => some ([Î], [tI, tI])
  | 255 => some ([Î], [tI, tI])
  | 282 => some ([tI], [(.int .u64)])
  | 283 => some ([(.int .u64), (.int .u64)], [(.int .u64)])
  | 285 => some ([(.slice tI), tI], [tI])
  | 288 => some ([(.map tI jd), (.slice tI)], [Î])
  | 289 => some ([Î, Î], [Î])
  | 290 => some ([Î, Î], [uq])
  | 291 => some ([(.slice Î)], [tI])
  | 292 => some ([tI, tI], [tI])
  | 309 => some ([Î, Î], [Î, tI])
  | 310 => some ([uq, Î], [uq, tI])
  | 319 => some ([tI, tI], [Î, tI])
  | 320 => some ([uq], [.bool])
  | 323 => some ([Î, Î], [Î, tI])
  | 325 => some ([Î, Î], [tI])
  | _ => none
noncomputable def Wf : Nat -> Nat -> so Nat
  | 13 => B6 [(34, 48), (56, 48)]
  | 22 => B6 [(51, 70), (55, 70)]
  | 47 => B6 [(12, 53), (16, 54)]
  | 66 => B6 [(110, 138), (113, 138), (120, 139), (123, 139)]
  | _ => fun _ => none
noncomputable def WM (f : Nat) (ρ : Type) (pr : Nat -> so ą) : Env ρ := { P := Tryz.prog, hint := Wf f, wp := fun f => f Tryz.prog, lazy := true, eat := isEat, clone := wZ, sort := ET, compact := mE, inl := fun _ => true, fz := isFz, pure := pr, loops := fun _ _ _ _ _ _ => none, ranges := π [] }
def libOfR {ρ : Type} (E : Env ρ) (h : ∀ f p, E.pure f = some p -> Ý Tryz.prog f p) (hP : E.P = Tryz.prog) (h2 : E.sort = ET) (h3 : E.compact = mE) (h4 : E.clone = wZ) (hj : E.joins = fun _ _ _ _ => none) (hx : E.ext = fun _ => none) (hy : E.yld = none) [È] : wx E := by
  have := DJ (pt := []) Ä { E with pure := GD [] } hP rfl h2 h3 h4 (Œ hj) (nO hx) (ō hy)
  exact ⟨fun f p hf => by rw [hP]; exact h f p hf, this.sort, this.compact, this.plain, this.clone, this.joins, this.yld, this.ext⟩
def libRun : ∀ (f : Nat) (ρ : Type) (pr : Nat -> so ą), (∀ f p, pr f = some p -> Ý Tryz.prog f p) -> ∀ k [È], wx (yf (WM f ρ pr) k) := fun f ρ pr h k => by
  cases k <;> exact libOfR _ h rfl rfl rfl rfl rfl rfl rfl
def iU (L : th (Kn Tryz.prog)) {f : Nat} {ts rs : th Ty} {x : Val (tyL ts)} {y : Val (tyL rs)} (law : We (yf (WM f (Val (tyL rs)) (Kk WM runSig (kn L) 8 14)) 8) f ts x = some y) : Ý Tryz.prog f (KR ts rs x y) := TX (fun _ _ _ => rfl) libRun (fun _ _ _ => rfl) hmix (kn_ok L) 14 law
def b_k1 : Ŕ z5 = some (0 : Int) := (zI (qN (by decide +kernel)) (by unfold I64; decide +kernel)).trans (congrArg some (by decide +kernel))
def b_k2 : Ŕ z7 = some (0 : Int) := (zI (qN (by decide +kernel)) (by unfold I64; decide +kernel)).trans (congrArg some (by decide +kernel))
def b_k3 : GH z8.1 z8.2.1 z8.2.2 = some (((0, 2), ([z1, z2], ([(1, 10)], z9))) : xA) := (cut_ok (qN (by decide +kernel)) (by decide +kernel) (by decide +kernel) (by unfold SrcOk; decide +kernel)).trans (congrArg some (wa å _ _ (by decide +kernel)))
def b_k4 : Ŕ z10 = some (0 : Int) := (zI (qN (by decide +kernel)) (by unfold I64; decide +kernel)).trans (congrArg some (by decide +kernel))
def b_k5 : Ŕ z13 = some (0 : Int) := (zI (qN (by decide +kernel)) (by unfold I64; decide +kernel)).trans (congrArg some (by decide +kernel))
def k1 : Ý Tryz.prog 55 (χ [å] [tI] ((z5, (0 : Int)) :: [])) := ñ (Al qe (b_k1)) Ŏ
def k2 : Ý Tryz.prog 55 (χ [å] [tI] ((z7, (0 : Int)) :: (z5, (0 : Int)) :: [])) := ñ (Al qe (b_k2)) k1
def k3 : Ý Tryz.prog 51 (χ [å, (.slice Î), (.slice Î)] [å] ((z8, (((0, 2), ([z1, z2], ([(1, 10)], z9))) : xA)) :: [])) := ñ (Al Xn (b_k3)) Ŏ
def k4 : Ý Tryz.prog 55 (χ [å] [tI] ((z10, (0 : Int)) :: (z7, (0 : Int)) :: (z5, (0 : Int)) :: [])) := ñ (Al qe (b_k4)) k2
def k5 : Ý Tryz.prog 55 (χ [å] [tI] ((z13, (0 : Int)) :: (z10, (0 : Int)) :: (z7, (0 : Int)) :: (z5, (0 : Int)) :: [])) := ñ (Al qe (b_k5)) k4
noncomputable def tb0 : th (Kn Tryz.prog) := [⟨55, _, k5⟩, ⟨51, _, k3⟩]
end Go.Proofs.ZzM
end
