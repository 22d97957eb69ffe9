/- lemmas -/
import Derived.Test.YthhhehllmdfhiaaGreatAmC
import Derived.Test.YthhhehllmdfhiaaGreatAmD
import Derived.Ground.NamesProg
import Derived.Ground.Names2Prog
import Derived.KernelRfl
import Derived.Test.YthhhehllmdfhiaaGreatMdMA
import Derived.Test.YthhhehllmdfhiaaGreatMdKA
import Derived.RangeFuncBox
import Derived.Lib.SliceRun
import Derived.RangeFuncLeaves
import Derived.WalkKit
import Derived.OwnWalkIn
import Derived.TacticsInMore
import Derived.LoopNIn
import Derived.LoopIn
import Derived.Test.YthhhehllmdfhiaaGreatProg
import Derived.RangeFuncFrom
import Derived.RangeFuncRecord
set_option linter.all false
set_option linter.unusedSectionVars false
set_option linter.unusedVariables false
set_option linter.unusedSimpArgs false
noncomputable section
namespace Go.Proofs
open Go.Shelf
def Tryz.laysSort_ren : Go.Shelf.Ren := ⟨fun | 189 => 127 | 125 => 197 | 257 => 196 | 128 => 251 | 129 => 252 | 294 => 242 | 295 => 243 | 296 => 244 | 297 => 245 | 298 => 246 | 299 => 247 | 216 => 248 | 300 => 249 | 301 => 250 | 328 => 269 | 329 => 270 | 330 => 271 | 331 => 272 | 332 => 273 | 215 => 274 | 343 => 286 | n => n, fun | 28 => 43 | 3 => 3 | 46 => 248 | 0 => 0 | 51 => 288 | 53 => 290 | 4 => 4 | 183 => 281 | 182 => 280 | 131 => 57 | 5 => 5 | 9 => 9 | 218 => 312 | 222 => 316 | 228 => 326 | 229 => 327 | n => n, fun | n => n⟩
theorem Tryz.laysSort : Go.Proofs.Lays.n189 Tryz.prog Tryz.laysSort_ren := {
 mixed := by kernel_rfl
 f125 := Tryz.func197.trans (congrArg some (by kernel_rfl))
 f128 := Tryz.func251.trans (congrArg some (by kernel_rfl))
 f129 := Tryz.func252.trans (congrArg some (by kernel_rfl))
 f189 := Tryz.func127.trans (congrArg some (by kernel_rfl))
 f215 := Tryz.func274.trans (congrArg some (by kernel_rfl))
 f216 := Tryz.func248.trans (congrArg some (by kernel_rfl))
 f257 := Tryz.func196.trans (congrArg some (by kernel_rfl))
 f294 := Tryz.func242.trans (congrArg some (by kernel_rfl))
 f295 := Tryz.func243.trans (congrArg some (by kernel_rfl))
 f296 := Tryz.func244.trans (congrArg some (by kernel_rfl))
 f297 := Tryz.func245.trans (congrArg some (by kernel_rfl))
 f298 := Tryz.func246.trans (congrArg some (by kernel_rfl))
 f299 := Tryz.func247.trans (congrArg some (by kernel_rfl))
 f300 := Tryz.func249.trans (congrArg some (by kernel_rfl))
 f301 := Tryz.func250.trans (congrArg some (by kernel_rfl))
 f328 := Tryz.func269.trans (congrArg some (by kernel_rfl))
 f329 := Tryz.func270.trans (congrArg some (by kernel_rfl))
 f330 := Tryz.func271.trans (congrArg some (by kernel_rfl))
 f331 := Tryz.func272.trans (congrArg some (by kernel_rfl))
 f332 := Tryz.func273.trans (congrArg some (by kernel_rfl))
 f343 := Tryz.func286.trans (congrArg some (by kernel_rfl))
 t0 := Tryz.underlying0
 a0 := Tryz.isAgg0
 z0 := Tryz.sizeOf0
 v0 := Tryz.zeroValue0
 t3 := Tryz.underlying3
 a3 := Tryz.isAgg3
 z3 := Tryz.sizeOf3
 v3 := Tryz.zeroValue3
 t4 := Tryz.underlying4
 a4 := Tryz.isAgg4
 z4 := Tryz.sizeOf4
 v4 := Tryz.zeroValue4
 t5 := Tryz.underlying5
 a5 := Tryz.isAgg5
 z5 := Tryz.sizeOf5
 v5 := Tryz.zeroValue5
 t9 := Tryz.underlying9
 a9 := Tryz.isAgg9
 z9 := Tryz.sizeOf9
 v9 := Tryz.zeroValue9
 t28 := Tryz.underlying43
 a28 := Tryz.isAgg43
 z28 := Tryz.sizeOf43
 v28 := Tryz.zeroValue43
 t46 := Tryz.underlying248
 a46 := Tryz.isAgg248
 z46 := Tryz.sizeOf248
 v46 := Tryz.zeroValue248
 t51 := Tryz.underlying288
 a51 := Tryz.isAgg288
 z51 := Tryz.sizeOf288
 v51 := Tryz.zeroValue288
 t53 := Tryz.underlying290
 a53 := Tryz.isAgg290
 z53 := Tryz.sizeOf290
 v53 := Tryz.zeroValue290
 t131 := Tryz.underlying57
 a131 := Tryz.isAgg57
 z131 := Tryz.sizeOf57
 v131 := Tryz.zeroValue57
 t182 := Tryz.underlying280
 a182 := Tryz.isAgg280
 z182 := Tryz.sizeOf280
 v182 := Tryz.zeroValue280
 t183 := Tryz.underlying281
 a183 := Tryz.isAgg281
 z183 := Tryz.sizeOf281
 v183 := Tryz.zeroValue281
 t218 := Tryz.underlying312
 a218 := Tryz.isAgg312
 z218 := Tryz.sizeOf312
 v218 := Tryz.zeroValue312
 t222 := Tryz.underlying316
 a222 := Tryz.isAgg316
 z222 := Tryz.sizeOf316
 v222 := Tryz.zeroValue316
 t228 := Tryz.underlying326
 a228 := Tryz.isAgg326
 z228 := Tryz.sizeOf326
 v228 := Tryz.zeroValue326
 t229 := Tryz.underlying327
 a229 := Tryz.isAgg327
 z229 := Tryz.sizeOf327
 v229 := Tryz.zeroValue327 }
def Tryz.laysCompact_ren : Go.Shelf.Ren := ⟨fun | 20 => 128 | n => n, fun | 22 => 43 | 3 => 3 | 4 => 4 | 0 => 0 | n => n, fun | n => n⟩
theorem Tryz.laysCompact : Go.Proofs.Lays2.n20 Tryz.prog Tryz.laysCompact_ren := {
 mixed := by kernel_rfl
 f20 := Tryz.func128.trans (congrArg some (by kernel_rfl))
 t0 := Tryz.underlying0
 a0 := Tryz.isAgg0
 z0 := Tryz.sizeOf0
 v0 := Tryz.zeroValue0
 t3 := Tryz.underlying3
 a3 := Tryz.isAgg3
 z3 := Tryz.sizeOf3
 v3 := Tryz.zeroValue3
 t4 := Tryz.underlying4
 a4 := Tryz.isAgg4
 z4 := Tryz.sizeOf4
 v4 := Tryz.zeroValue4
 t22 := Tryz.underlying43
 a22 := Tryz.isAgg43
 z22 := Tryz.sizeOf43
 v22 := Tryz.zeroValue43
 i3 := by kernel_rfl }
end Go.Proofs
namespace Go.Proofs.ZzM
open Go Go.Am
theorem hmix : Tryz.prog.follows .mixedOrders = true := by kernel_rfl
theorem plain_ : (Tryz.prog.funcs.toList.all fun fn => !(fn.name == "runtime.NumGoroutine")) = true := by kernel_rfl
theorem plain (f : Nat) (fn : Func) (h : Tryz.prog.funcs[f]? = some fn) : (fn.name == "runtime.NumGoroutine") = false := by
 have := List.all_eq_true.1 plain_ fn (List.mem_of_getElem? (i := f) (by simpa using h))
 simpa using this
theorem aTt : Tryz.laysSort_ren.f 189 = 127 := by kernel_rfl
theorem aNJ : Tryz.laysCompact_ren.f 20 = 128 := by kernel_rfl
section
variable [acI] {ρ : Type}
theorem sortOk (f : Nat) (hf : aJF f = true) (h : List Blk) (x : AV) (K : AV → List Blk → Option ρ) (q : ρ) (e : aEV h x K = some q) (ν : Nat → Value) (w : World) (u : Value) (H : HR ν h w) (hx : VR ν h w x u) : axS Tryz.prog f ν h w [u] K q := by
 have h1 : f = 127 := by
  unfold aJF at hf
  split at hf
  ·rfl
  ·cases hf
 subst h1
 have := aTm Tryz.laysSort e H hx ⟨_, rfl⟩
 rwa [aTt] at this
theorem aQE (f : Nat) (hf : apg f = true) (h : List Blk) (x : AV) (K : AV → List Blk → Option ρ) (q : ρ) (e : ajm h x K = some q) (ν : Nat → Value) (w : World) (u : Value) (H : HR ν h w) (hx : VR ν h w x u) : axS Tryz.prog f ν h w [u] K q := by
 have h1 : f = 128 := by
  unfold apg at hf
  split at hf
  ·rfl
  ·cases hf
 subst h1
 have := aOm Tryz.laysCompact e H hx ⟨_, rfl⟩
 rwa [aNJ] at this
theorem aTY : awN Tryz.prog aA9 := by
 intro g hg fz S nid x v S' e ν w u H hx hn hd
 unfold aA9 at hg
 split at hg
 ·exact anr Tryz.func91 (T := 43) (by kernel_rfl) (by kernel_rfl) e H hx hn hd
 ·exact anr Tryz.func140 (T := 47) (by kernel_rfl) (by kernel_rfl) e H hx hn hd
 ·exact anr Tryz.func229 (T := 24) (by kernel_rfl) (by kernel_rfl) e H hx hn hd
 ·exact anr Tryz.func230 (T := 25) (by kernel_rfl) (by kernel_rfl) e H hx hn hd
 ·exact anr Tryz.func231 (T := 26) (by kernel_rfl) (by kernel_rfl) e H hx hn hd
 ·exact anr Tryz.func232 (T := 28) (by kernel_rfl) (by kernel_rfl) e H hx hn hd
 ·exact anr Tryz.func233 (T := 27) (by kernel_rfl) (by kernel_rfl) e H hx hn hd
 ·cases hg
theorem aA5 {pt : List (Nat × acq)} (h : ∀ e ∈ pt, acf Tryz.prog e.1 e.2) (E : Env ρ) (hP : E.P = Tryz.prog) (h1 : E.pure = aOd pt) (h2 : E.sort = aJF) (h3 : E.compact = apg) (h4 : E.clone = aA9) (hj : aNw E) : ayw E := by
 constructor
 ·intro f p hf
  rw [h1] at hf
  rw [hP]
  exact h (f, p) (aEy hf)
 ·intro f hf
  rw [h2] at hf
  rw [hP]
  exact sortOk f hf
 ·intro f hf
  rw [h3] at hf
  rw [hP]
  exact aQE f hf
 ·rw [hP]; exact plain
 ·rw [hP, h4]; exact aTY
 ·exact hj
theorem adT {pt : List (Nat × acq)} (h : ∀ e ∈ pt, acf Tryz.prog e.1 e.2) (tab : List (acD ρ)) : ayw (acr pt tab) := aA5 h _ rfl rfl rfl rfl rfl (afi rfl)
end
end Go.Proofs.ZzM
end
noncomputable section
set_option maxRecDepth 100000
namespace Go.Proofs.ZzM
open Go Go.Am
theorem aBR : acf Tryz.prog 53 arD := ab7 (amW _) (fun {_} => adT ab5 _) hmix (tab := aoY _) rfl (ab0 av2 ab5) (ab4 fun x => aAN x some)
theorem aqe : acf Tryz.prog 82 alG := ab7 (axw _) (fun {_} => adT ab5 _) hmix (tab := aq9 _) rfl ab5 (ab4 fun x => aDe x some)
theorem ag6 : acf Tryz.prog 126 af8 := ab7 (axr _) (fun {_} => adT ab5 _) hmix (tab := aq4 _) rfl ab5 (ab4 fun x => aC0 x some)
theorem aBT : acf Tryz.prog 125 asR := ab7 (aAV _) (fun {_} => adT (ab0 ag6 ab5) _) hmix (tab := aul _) rfl ab5 (ab4 fun x => aGy x some)
theorem aNi : acf Tryz.prog 259 aE8 := ab7 (aD9 _) (fun {_} => adT ab5 _) hmix (tab := axm _) rfl ab5 (ab4 fun x => aI2 x some)
theorem aQU : acf Tryz.prog 260 aKU := ab7 (aAy _) (fun {_} => adT ab5 _) hmix (tab := aAx _) rfl (ab0 aGc ab5) (ab4 fun x => aLi x some)
theorem auZ : acf Tryz.prog 219 asN := ab7 (aAC _) (fun {_} => adT (ab0 aNi (ab0 aQU ab5)) _) hmix (tab := atX _) rfl ab5 (ab4 fun x => aGe x some)
theorem aL2 : acf Tryz.prog 162 azy := ab7 (auk _) (fun {_} => adT (ab0 aqe (ab0 aBT (ab0 ag6 (ab0 auZ ab5)))) _) hmix (tab := ao6 _) rfl ab5 (ab4 fun x => aAU x some)
theorem aBU : acf Tryz.prog 83 aop := ab7 (ah3 _) (fun {_} => adT (ab0 aL2 ab5) _) hmix (tab := ajU _) rfl (ab0 ao7 ab5) (ab4 fun x => asc x some)
theorem awD : acf Tryz.prog 73 alD := ab7 (agN _) (fun {_} => adT ab5 _) hmix (tab := ais _) rfl (ab0 amy ab5) (ab4 fun x => aov x some)
theorem ai6 : acf Tryz.prog 65 agp := ab7 (ahJ _) (fun {_} => adT (ab0 awD ab5) _) hmix (tab := agZ _) rfl ab5 (ab4 fun x => alK x some)
theorem aNl : acf Tryz.prog 168 aFb := ab7 (apZ _) (fun {_} => adT (ab0 ai6 ab5) _) hmix (tab := axy _) rfl (ab0 aDh (ab0 aDg ab5)) (ab4 fun x => aJl x some)
theorem aBS : acf Tryz.prog 85 asQ := ab7 (amZ _) (fun {_} => adT (ab0 aNl ab5) _) hmix (tab := aub _) rfl (ab0 aAP (ab0 aAQ ab5)) (ab4 fun x => aGm x some)
theorem alw : acf Tryz.prog 164 aie := ab7 (anZ _) (fun {_} => adT ab5 _) hmix (tab := akO _) rfl ab5 (ab4 fun x => at7 x some)
theorem aL1 : acf Tryz.prog 163 aKW := ab7 (aua _) (fun {_} => adT (ab0 aBT (ab0 alw ab5)) _) hmix (tab := ao1 _) rfl ab5 (ab4 fun x => aAO x some)
theorem aHi : acf Tryz.prog 166 aFc := ab7 (ahq _) (fun {_} => adT (ab0 aqe (ab0 ag6 (ab0 alw ab5))) _) hmix (tab := al7 _) rfl (ab0 asb (ab0 asa ab5)) (ab4 fun x => awa x some)
theorem au0 : acf Tryz.prog 88 apN := ab7 (apY _) (fun {_} => adT (ab0 ai6 ab5) _) hmix (tab := axv _) rfl (ab0 aDb (ab0 aDa ab5)) (ab4 fun x => aJi x some)
theorem ad7 : acf Tryz.prog 94 ad4 := ab7 (afa _) (fun {_} => adT ab5 _) hmix (tab := ahK _) rfl (ab0 alM (ab0 alL ab5)) (ab4 fun x => an6 x some)
theorem aEG : acf Tryz.prog 198 avl := ab7 (ao5 _) (fun {_} => adT (ab0 ag6 ab5) _) hmix (tab := aq8 _) rfl (ab0 ayo ab5) (ab4 fun x => aDc x some)
theorem aSE : acf Tryz.prog 223 aMK := ab7 (awb _) (fun {_} => adT (ab0 ag6 ab5) _) hmix (tab := axz _) rfl (ab0 aDi ab5) (ab4 fun x => aJm x some)
theorem ays : acf Tryz.prog 167 axX := ab7 (ad6 _) (fun {_} => adT (ab0 aqe (ab0 au0 (ab0 ad7 (ab0 aBT (ab0 ag6 (ab0 alw (ab0 aEG (ab0 aSE ab5)))))))) _) hmix (tab := ai4 _) rfl (ab0 aob (ab0 an9 (ab0 aoa (ab0 an8 ab5)))) (ab4 fun x => aqt x some)
theorem azU : ∀ e ∈ avC, acf Tryz.prog e.1 e.2 := (ab0 ad7 ab5)
theorem aK8 {ρ : Type} : ∀ e ∈ arS ρ, e.Ok (aex ρ) := (ab0 aFO (ab0 aFP (ab0 aFN (ab0 aFM (ab0 aFL (ab0 aFK ab5))))))
theorem aw7 {ρ : Type} : ∀ e ∈ aky ρ, e.Ok (adg ρ) := (ab0 aCB (ab0 aCA (ab0 aCz ab5)))
end Go.Proofs.ZzM
end
noncomputable section
namespace Go.Proofs
open Go.RowKit
attribute [local go_sem] Oper.semAt_some
def aB8 (sel : Nat → Bool) (k : Nat) : List Nat := (List.range k).filter sel
theorem asC (sel : Nat → Bool) (k : Nat) : aB8 sel (k + 1) = if sel k then aB8 sel k ++ [k] else aB8 sel k := by
 unfold aB8
 rw [List.range_succ, List.filter_append]
 cases h : sel k <;> simp [h]
theorem aKJ (sel : Nat → Bool) (k : Nat) : (aB8 sel k).length ≤ k := by
 unfold aB8
 exact Nat.le_trans (List.length_filter_le _ _) (by simp)
theorem aO9 (sel : Nat → Bool) {j k : Nat} (h : j ≤ k) : (aB8 sel j).length ≤ (aB8 sel k).length := by
 obtain ⟨d, rfl⟩ : ∃ d, k = j + d := ⟨k - j, by omega⟩
 unfold aB8
 rw [List.range_add, List.filter_append, List.length_append]
 omega
theorem aTn {sel : Nat → Bool} {k n : Nat} (h : k < n) (hs : sel k = true) : (aB8 sel k).length < (aB8 sel n).length := by
 have h1 := aO9 sel (j := k + 1) (k := n) h
 rw [asC, hs] at h1
 simp at h1
 omega
set_option maxRecDepth 100000 in
set_option maxHeartbeats 1000000 in
theorem aTK (te : TypeId) (n : Nat) (hn : 1 ≤ n) (l bb tb : Nat) (flo fhi us lo co ko : Value) (gb go len cap : Nat) (gbase : Option Addr) (hgb : 0 < len → gbase = some ⟨gb, go, none⟩)
 (c0 c1 c2 c3 c4 c5 c6 c7 : Nat → Int) (sel : Nat → Bool) (hlen : (len : Int) < 9223372036854775807) (Nd : World → Prop)
 (W : World) (hb0 : W.heap[bb]? = some (.cells #[flo, fhi, .slice gbase len cap, us, lo, co, ko] te (0, 0)))
 (hNc : ∀ W', Nd W' → ∀ j, j < len → W'.cell? ⟨gb, go + j * 8, none⟩ = some (.int .i64 (c0 j)) ∧ W'.cell? ⟨gb, go + j * 8 + 1, none⟩ = some (.int .i64 (c1 j)) ∧ W'.cell? ⟨gb, go + j * 8 + 2, none⟩ = some (.int .i64 (c2 j)) ∧ W'.cell? ⟨gb, go + j * 8 + 3, none⟩ = some (.int .i64 (c3 j)) ∧
  W'.cell? ⟨gb, go + j * 8 + 4, none⟩ = some (.int .i64 (c4 j)) ∧ W'.cell? ⟨gb, go + j * 8 + 5, none⟩ = some (.int .i64 (c5 j)) ∧ W'.cell? ⟨gb, go + j * 8 + 6, none⟩ = some (.int .i64 (c6 j)) ∧ W'.cell? ⟨gb, go + j * 8 + 7, none⟩ = some (.int .i64 (c7 j)))
 (hNm : ∀ W', Nd W' → ∃ mv, ∀ W'', W'.grownBy W'' none → W''.cell? ⟨tb, 0, none⟩ = some mv ∧ ∀ j, j < len → (Instr.lookup 197 mv (.int .i64 (c0 j)) false).run Tryz.prog W'' = .ok (.bool (sel j)) W'')
 (hNs : ∀ W1 W2, Nd W1 → W1.grownBy W2 none → Nd W2) (hN : Nd W)
 (J Jx : List Nat → World → Prop) (hJ : ∀ pre W W', J pre W → W.grownBy W' none → J pre W') (hJx : ∀ pre W W', Jx pre W → W.grownBy W' none → Jx pre W')
 (hY : ∀ pre x W, J pre W → pre.length < (aB8 sel len).length → YieldAt Fence.wide (n - 1) Tryz.prog l #[.agg #[.int .i64 (c0 x), .int .i64 (c1 x), .int .i64 (c2 x), .int .i64 (c3 x), .int .i64 (c4 x), .int .i64 (c5 x), .int .i64 (c6 x), .int .i64 (c7 x)]] W fun e W' =>
  (e = .returned (.bool true) ∧ J (pre ++ [x]) W' ∧ (Nd W → Nd W')) ∨ (e = .returned (.bool false) ∧ Jx (pre ++ [x]) W'))
 (h0 : J [] W) :
  CallsIn Fence.wide n Tryz.prog 218 #[.func (.yield l) #[] #[], .pointer (some ⟨bb, 0, none⟩), .pointer (some ⟨tb, 0, none⟩)] W fun e W' => (∃ v, e = .returned v) ∧
   ((∃ xs, xs = aB8 sel len ∧ J xs W') ∨ (∃ pre, True ∧ Jx pre W')) := by
 have hb3 : W.cell? ⟨bb, 2, none⟩ = some (.slice gbase len cap) := by simp [World.cell?, hb0]
 refine callsIn_of_wp Tryz.func218 rfl trivial ?_ rfl
 simp only [Tryz.ntmps218, List.size_toArray, List.length_cons, List.length_nil, Nat.reduceAdd, Nat.reduceSub, Array.replicate_succ, Array.replicate_zero, List.push_toArray, List.append_toArray, List.nil_append, List.cons_append]
 gi_wp2
 gi_loopw [9] (fun i wr => ∃ k : Nat, k ≤ len ∧ i = .int .i64 k ∧ J (aB8 sel k) wr ∧ Nd wr)
  (fun i _ => len - (intOf i).toNat)
 case atStart => exact ⟨0, Nat.zero_le _, rfl, h0, hN⟩
 case round =>
  obtain ⟨k, hk, rfl, hJs, hNw⟩ := hrel
  by_cases hlt : k < len
  ·have hg := hgb (by omega)
   subst hg
   obtain ⟨q0, q1, q2, q3, q4, q5, q6, q7⟩ := hNc _ hNw k hlt
   obtain ⟨mv, hmv⟩ := hNm _ hNw
   have hta : ∀ o, (wr.alloc o).cell? ⟨tb, 0, none⟩ = some mv := fun o => (hmv _ (World.grownBy_alloc _ o none)).1
   have hlk : ∀ o, (Instr.lookup 197 mv (.int .i64 (c0 k)) false).run Tryz.prog (wr.alloc o) = .ok (.bool (sel k)) (wr.alloc o) := fun o => (hmv _ (World.grownBy_alloc _ o none)).2 k hlt
   have hNa : ∀ o, Nd (wr.alloc o) := fun o => hNs _ _ hNw (World.grownBy_alloc _ o none)
   have hJa : ∀ o, J (aB8 sel k) (wr.alloc o) := fun o => hJ _ _ _ hJs (World.grownBy_alloc _ o none)
   clear hmv hNm hNc
   cases hsel : sel k with
   | false =>
     rw [hsel] at hlk
     iterate 52 (first | go_values | gi_guarded | gi_step | gi_upon)
     refine ⟨fun f hf => by simp [undef, go_sem] at hf, ?_⟩
     gi_wp2
     go_roundw
     case rel => exact ⟨k + 1, by omega, by simp, by rw [asC, hsel]; exact hJa _, hNa _⟩
     case measure => simp [intOf]; omega
   | true =>
     rw [hsel] at hlk
     gi_wp2
     obtain ⟨fn, tmps, assign, body, hy, hR⟩ := hY (aB8 sel k) k (wr.alloc (.cells #[.int .i64 (c0 k), .int .i64 (c1 k), .int .i64 (c2 k), .int .i64 (c3 k), .int .i64 (c4 k), .int .i64 (c5 k), .int .i64 (c6 k), .int .i64 (c7 k)] 104)) (hJa _) (aTn hlt hsel)
     rw [hy]
     refine ⟨fun h => (by cases h), hR.mono ?_⟩
     rintro e W3 (⟨rfl, hJ3, hk3⟩ | ⟨rfl, hJx3⟩)
     ·gi_wp2
      go_roundw
      case rel => exact ⟨k + 1, by omega, by simp, by rw [asC, hsel]; exact hJ3, hk3 (hNa _)⟩
      case measure => simp [intOf]; omega
     ·gi_wp2
      refine bodyPost_ret (results_none rfl _ _ _) rfl ?_
      exact ⟨⟨_, rfl⟩, .inr ⟨_, trivial, hJx3⟩⟩
  ·obtain rfl : len = k := by omega
   gi_wp2
   go_end0
   exact ⟨⟨_, rfl⟩, .inl ⟨_, rfl, hJs⟩⟩
end Go.Proofs
end
noncomputable section
namespace Go.Proofs
open Go.RowKit
attribute [local go_sem] Oper.semAt_some
def upE (f : Nat → Int) (k : Nat) : List Int := (List.range k).map f
theorem akl (f : Nat → Int) (k : Nat) : upE f (k + 1) = upE f k ++ [f k] := by simp [upE, List.range_succ]
theorem apI (f : Nat → Int) (k : Nat) : (upE f k).length = k := by simp [upE]
theorem ayy (f : Nat → Int) {j k : Nat} (h : j ≤ k) : upE f j <+: upE f k := by
 have : k = j + (k - j) := by omega
 rw [this, upE, upE, List.range_add, List.map_append]
 exact List.prefix_append _ _
set_option maxRecDepth 100000 in
set_option maxHeartbeats 1000000 in
theorem aRK (te : TypeId) (n : Nat) (hn : 1 ≤ n) (l n₀ bb tb sb : Nat) (flo fhi ga mv : Value) (hbb : bb < n₀) (htb : tb < n₀) (hsb : sb < n₀)
 (ub uo ul uc kb ko kl kc : Nat) (ubase kbase lbase cbase : Option Addr) (ll lc cl cc : Nat) (hub : 0 < ul → ubase = some ⟨ub, uo, none⟩ ∧ ub < n₀) (hkb : 0 < kl → kbase = some ⟨kb, ko, none⟩ ∧ kb < n₀)
 (U K : Nat → Int × Int) (eU eL eC eK : Nat → Int)
 (hul : ul ≤ 1000) (hll : ll ≤ 1000) (hcl : cl ≤ 1000) (hkl : kl ≤ 1000)
 (W : World) (hb0 : W.heap[bb]? = some (.cells #[flo, fhi, ga, .slice ubase ul uc, .slice lbase ll lc, .slice cbase cl cc, .slice kbase kl kc] te (0, 0)))
 (ht : W.cell? ⟨tb, 0, none⟩ = some (.func (.func 163) #[] #[.pointer (some ⟨sb, 0, none⟩)])) (hs : W.cell? ⟨sb, 0, none⟩ = some mv)
 (hU : ∀ j, j < ul → W.cell? ⟨ub, uo + j * 2, none⟩ = some (.int .i64 (U j).1) ∧ W.cell? ⟨ub, uo + j * 2 + 1, none⟩ = some (.int .i64 (U j).2))
 (hK : ∀ j, j < kl → W.cell? ⟨kb, ko + j * 2, none⟩ = some (.int .i64 (K j).1) ∧ W.cell? ⟨kb, ko + j * 2 + 1, none⟩ = some (.int .i64 (K j).2))
 (cU : ∀ j, j < ul → ∀ W', Below n₀ W W' → CallsIn Fence.wide (n - 1) Tryz.prog 163 #[.int .i64 (U j).1, .int .i64 (U j).2, .pointer (some ⟨sb, 0, none⟩)] W' fun e W'' => e = .returned (.int .i64 (eU j)) ∧ W'.grownBy W'' none)
 (cK : ∀ j, j < kl → ∀ W', Below n₀ W W' → CallsIn Fence.wide (n - 1) Tryz.prog 163 #[.int .i64 (K j).1, .int .i64 (K j).2, .pointer (some ⟨sb, 0, none⟩)] W' fun e W'' => e = .returned (.int .i64 (eK j)) ∧ W'.grownBy W'' none)
 (cL : ∀ j, j < ll → ∀ W', Below n₀ W W' → CallsIn Fence.wide (n - 1) Tryz.prog 166 #[.agg #[flo, fhi, ga, .slice ubase ul uc, .slice lbase ll lc, .slice cbase cl cc, .slice kbase kl kc], mv, .int .i64 j] W' fun e W'' => e = .returned (.int .i64 (eL j)) ∧ W'.grownBy W'' none)
 (cC : ∀ j, j < cl → ∀ W', Below n₀ W W' → CallsIn Fence.wide (n - 1) Tryz.prog 167 #[.agg #[flo, fhi, ga, .slice ubase ul uc, .slice lbase ll lc, .slice cbase cl cc, .slice kbase kl kc], mv, .int .i64 j] W' fun e W'' => e = .returned (.int .i64 (eC j)) ∧ W'.grownBy W'' none)
 (J Jx : List Int → World → Prop) (hJ : ∀ pre W W', J pre W → W.grownBy W' none → J pre W') (hJx : ∀ pre W W', Jx pre W → W.grownBy W' none → Jx pre W')
 (hY : ∀ pre x W, J pre W → pre.length < ul + (ll + (cl + kl)) → YieldAt Fence.wide (n - 1) Tryz.prog l #[.int .i64 x] W fun e W' =>
  (e = .returned (.bool true) ∧ J (pre ++ [x]) W' ∧ Below n₀ W W') ∨ (e = .returned (.bool false) ∧ Jx (pre ++ [x]) W'))
 (h0 : J [] W) (hn₀ : n₀ ≤ W.heap.size) :
  CallsIn Fence.wide n Tryz.prog 165 #[.func (.yield l) #[] #[], .pointer (some ⟨bb, 0, none⟩), .pointer (some ⟨tb, 0, none⟩), .pointer (some ⟨sb, 0, none⟩)] W fun e W' => (∃ v, e = .returned v) ∧
   ((∃ xs, xs = upE eU ul ++ (upE eL ll ++ (upE eC cl ++ upE eK kl)) ∧ J xs W') ∨ (∃ pre, (pre <+: upE eU ul ++ (upE eL ll ++ (upE eC cl ++ upE eK kl))) ∧ Jx pre W')) := by
 have grown_alloc : ∀ (X : World) (o : Obj), X.grownBy (X.alloc o) none := fun X o => World.grownBy_alloc X o none
 have bel : ∀ {X Y : World}, Below n₀ W X → X.grownBy Y none → Below n₀ W Y := fun {X Y} h g =>
  ⟨g.os.trans h.os, g.tape.trans h.tape, g.output.trans h.output, Nat.le_trans h.size g.size, fun k hk => (g.block k (Nat.lt_of_lt_of_le (Nat.lt_of_lt_of_le hk hn₀) h.size) (by simp)).trans (h.block k hk)⟩
 have hc : ∀ {X : World}, Below n₀ W X → X.heap[bb]? = some (.cells #[flo, fhi, ga, .slice ubase ul uc, .slice lbase ll lc, .slice cbase cl cc, .slice kbase kl kc] te (0, 0)) := fun h => (h.block bb hbb).trans hb0
 refine callsIn_of_wp Tryz.func165 rfl trivial ?_ rfl
 simp only [Tryz.ntmps165, List.size_toArray, List.length_cons, List.length_nil, Nat.reduceAdd, Nat.reduceSub, Array.replicate_succ, Array.replicate_zero, List.push_toArray, List.append_toArray, List.nil_append, List.cons_append]
 have hb3 : W.cell? ⟨bb, 3, none⟩ = some (.slice ubase ul uc) := by simp [World.cell?, hb0]
 gi_wp2
 gi_loopw [14] (fun i wr => ∃ k : Nat, k ≤ ul ∧ i = .int .i64 k ∧ J (upE eU k) wr ∧ Below n₀ W wr)
  (fun i _ => ul - (intOf i).toNat)
 case atStart => exact ⟨0, Nat.zero_le _, rfl, h0, Below.refl _ _⟩
 case round =>
  obtain ⟨k, hk, rfl, hJs, hnx⟩ := hrel
  by_cases hlt : k < ul
  ·obtain ⟨rfl, hlu⟩ := hub (by omega)
   have hu1 := (hnx.cell (p := ⟨ub, uo + k * 2, none⟩) hlu).trans (hU k hlt).1
   have hu2 := (hnx.cell (p := ⟨ub, uo + k * 2 + 1, none⟩) hlu).trans (hU k hlt).2
   have ht' := (hnx.cell (p := ⟨tb, 0, none⟩) htb).trans ht
   have hta : ∀ o, (wr.alloc o).cell? ⟨tb, 0, none⟩ = some (.func (.func 163) #[] #[.pointer (some ⟨sb, 0, none⟩)]) := fun o => Lib.cell?_alloc_some _ ht'
   gi_wp2
   refine ⟨trivial, (cU k hlt _ (bel hnx (grown_alloc _ _))).mono ?_⟩
   rintro e W2 ⟨rfl, hg2⟩
   obtain ⟨fn, tmps, assign, body, hy, hR⟩ := hY _ (eU k) W2 (hJ _ _ _ (hJ _ _ _ hJs (grown_alloc _ _)) hg2) (by rw [apI]; omega)
   have hb2 := bel (bel hnx (grown_alloc _ _)) hg2
   gi_wp2
   refine hR.mono ?_
   rintro e W3 (⟨rfl, hJ3, hk3⟩ | ⟨rfl, hJx3⟩)
   ·gi_wp2
    go_roundw
    case rel => exact ⟨k + 1, by omega, by simp, by rw [akl]; exact hJ3, hb2.trans hk3⟩
    case measure => simp [intOf]; omega
   ·gi_wp2
    refine bodyPost_ret (results_none rfl _ _ _) rfl ?_
    refine ⟨⟨_, rfl⟩, .inr ⟨_, ?_, hJx3⟩⟩
    rw [← akl]
    exact (ayy eU (by omega)).trans (List.prefix_append _ _)
  ·obtain rfl : ul = k := by omega
   have hb4 : wr.cell? ⟨bb, 4, none⟩ = some (.slice lbase ll lc) := by simp [World.cell?, hc hnx]
   gi_wp2
   gi_loopw [31] (fun i wr => ∃ k : Nat, k ≤ ll ∧ i = .int .i64 k ∧ J (upE eU ul ++ upE eL k) wr ∧ Below n₀ W wr)
    (fun i _ => ll - (intOf i).toNat)
   case atStart => exact ⟨0, Nat.zero_le _, rfl, by simpa [upE] using hJs, hnx⟩
   case round =>
    clear hJs hnx
    obtain ⟨k, hk, rfl, hJs, hnx⟩ := hrel
    by_cases hlt : k < ll
    ·have q0 : wr.cell? ⟨bb, 0, none⟩ = some flo := by simp [World.cell?, hc hnx]
     have q1 : wr.cell? ⟨bb, 1, none⟩ = some fhi := by simp [World.cell?, hc hnx]
     have q2 : wr.cell? ⟨bb, 2, none⟩ = some ga := by simp [World.cell?, hc hnx]
     have q3 : wr.cell? ⟨bb, 3, none⟩ = some (.slice ubase ul uc) := by simp [World.cell?, hc hnx]
     have q4 : wr.cell? ⟨bb, 4, none⟩ = some (.slice lbase ll lc) := by simp [World.cell?, hc hnx]
     have q5 : wr.cell? ⟨bb, 5, none⟩ = some (.slice cbase cl cc) := by simp [World.cell?, hc hnx]
     have q6 : wr.cell? ⟨bb, 6, none⟩ = some (.slice kbase kl kc) := by simp [World.cell?, hc hnx]
     have hs' := (hnx.cell (p := ⟨sb, 0, none⟩) hsb).trans hs
     gi_wp2
     refine ⟨trivial, (cL k hlt _ hnx).mono ?_⟩
     rintro e W2 ⟨rfl, hg2⟩
     obtain ⟨fn, tmps, assign, body, hy, hR⟩ := hY _ (eL k) W2 (hJ _ _ _ hJs hg2) (by simp only [List.length_append, apI]; omega)
     have hb2 := bel hnx hg2
     gi_wp2
     refine hR.mono ?_
     rintro e W3 (⟨rfl, hJ3, hk3⟩ | ⟨rfl, hJx3⟩)
     ·gi_wp2
      go_roundw
      case rel => exact ⟨k + 1, by omega, by simp, by rw [akl, ← List.append_assoc]; exact hJ3, hb2.trans hk3⟩
      case measure => simp [intOf]; omega
     ·gi_wp2
      refine bodyPost_ret (results_none rfl _ _ _) rfl ?_
      refine ⟨⟨_, rfl⟩, .inr ⟨_, ?_, hJx3⟩⟩
      rw [List.append_assoc, ← akl]
      exact (List.prefix_append_right_inj _).2 ((ayy eL (by omega)).trans (List.prefix_append _ _))
    ·obtain rfl : ll = k := by omega
     have hb5 : wr.cell? ⟨bb, 5, none⟩ = some (.slice cbase cl cc) := by simp [World.cell?, hc hnx]
     gi_wp2
     gi_loopw [45] (fun i wr => ∃ k : Nat, k ≤ cl ∧ i = .int .i64 k ∧ J (upE eU ul ++ upE eL ll ++ upE eC k) wr ∧ Below n₀ W wr)
      (fun i _ => cl - (intOf i).toNat)
     case atStart => exact ⟨0, Nat.zero_le _, rfl, by simpa [upE] using hJs, hnx⟩
     case round =>
      clear hJs hnx
      obtain ⟨k, hk, rfl, hJs, hnx⟩ := hrel
      by_cases hlt : k < cl
      ·have q0 : wr.cell? ⟨bb, 0, none⟩ = some flo := by simp [World.cell?, hc hnx]
       have q1 : wr.cell? ⟨bb, 1, none⟩ = some fhi := by simp [World.cell?, hc hnx]
       have q2 : wr.cell? ⟨bb, 2, none⟩ = some ga := by simp [World.cell?, hc hnx]
       have q3 : wr.cell? ⟨bb, 3, none⟩ = some (.slice ubase ul uc) := by simp [World.cell?, hc hnx]
       have q4 : wr.cell? ⟨bb, 4, none⟩ = some (.slice lbase ll lc) := by simp [World.cell?, hc hnx]
       have q5 : wr.cell? ⟨bb, 5, none⟩ = some (.slice cbase cl cc) := by simp [World.cell?, hc hnx]
       have q6 : wr.cell? ⟨bb, 6, none⟩ = some (.slice kbase kl kc) := by simp [World.cell?, hc hnx]
       have hs' := (hnx.cell (p := ⟨sb, 0, none⟩) hsb).trans hs
       gi_wp2
       refine ⟨trivial, (cC k hlt _ hnx).mono ?_⟩
       rintro e W2 ⟨rfl, hg2⟩
       obtain ⟨fn, tmps, assign, body, hy, hR⟩ := hY _ (eC k) W2 (hJ _ _ _ hJs hg2) (by simp only [List.length_append, apI]; omega)
       have hb2 := bel hnx hg2
       gi_wp2
       refine hR.mono ?_
       rintro e W3 (⟨rfl, hJ3, hk3⟩ | ⟨rfl, hJx3⟩)
       ·gi_wp2
        go_roundw
        case rel => exact ⟨k + 1, by omega, by simp, by rw [akl, ← List.append_assoc]; exact hJ3, hb2.trans hk3⟩
        case measure => simp [intOf]; omega
       ·gi_wp2
        refine bodyPost_ret (results_none rfl _ _ _) rfl ?_
        refine ⟨⟨_, rfl⟩, .inr ⟨_, ?_, hJx3⟩⟩
        rw [List.append_assoc, ← akl]
        exact by rw [List.append_assoc]; exact (List.prefix_append_right_inj _).2 ((List.prefix_append_right_inj _).2 ((ayy eC (by omega)).trans (List.prefix_append _ _)))
      ·obtain rfl : cl = k := by omega
       have hb6 : wr.cell? ⟨bb, 6, none⟩ = some (.slice kbase kl kc) := by simp [World.cell?, hc hnx]
       gi_wp2
       gi_loopw [59] (fun i wr => ∃ k : Nat, k ≤ kl ∧ i = .int .i64 k ∧ J ((upE eU ul ++ upE eL ll ++ upE eC cl) ++ upE eK k) wr ∧ Below n₀ W wr)
        (fun i _ => kl - (intOf i).toNat)
       case atStart => exact ⟨0, Nat.zero_le _, rfl, by simpa [upE] using hJs, hnx⟩
       case round =>
        clear hJs hnx
        obtain ⟨k, hk, rfl, hJs, hnx⟩ := hrel
        by_cases hlt : k < kl
        ·obtain ⟨rfl, hlk⟩ := hkb (by omega)
         have hu1 := (hnx.cell (p := ⟨kb, ko + k * 2, none⟩) hlk).trans (hK k hlt).1
         have hu2 := (hnx.cell (p := ⟨kb, ko + k * 2 + 1, none⟩) hlk).trans (hK k hlt).2
         have ht' := (hnx.cell (p := ⟨tb, 0, none⟩) htb).trans ht
         have hta : ∀ o, (wr.alloc o).cell? ⟨tb, 0, none⟩ = some (.func (.func 163) #[] #[.pointer (some ⟨sb, 0, none⟩)]) := fun o => Lib.cell?_alloc_some _ ht'
         gi_wp2
         refine ⟨trivial, (cK k hlt _ (bel hnx (grown_alloc _ _))).mono ?_⟩
         rintro e W2 ⟨rfl, hg2⟩
         obtain ⟨fn, tmps, assign, body, hy, hR⟩ := hY _ (eK k) W2 (hJ _ _ _ (hJ _ _ _ hJs (grown_alloc _ _)) hg2) (by simp only [List.length_append, apI]; omega)
         have hb2 := bel (bel hnx (grown_alloc _ _)) hg2
         gi_wp2
         refine hR.mono ?_
         rintro e W3 (⟨rfl, hJ3, hk3⟩ | ⟨rfl, hJx3⟩)
         ·gi_wp2
          go_roundw
          case rel => exact ⟨k + 1, by omega, by simp, by rw [akl, ← List.append_assoc]; exact hJ3, hb2.trans hk3⟩
          case measure => simp [intOf]; omega
         ·gi_wp2
          refine bodyPost_ret (results_none rfl _ _ _) rfl ?_
          refine ⟨⟨_, rfl⟩, .inr ⟨_, ?_, hJx3⟩⟩
          rw [List.append_assoc, ← akl, List.append_assoc, List.append_assoc]
          exact (List.prefix_append_right_inj _).2 ((List.prefix_append_right_inj _).2 ((List.prefix_append_right_inj _).2 (ayy eK (by omega))))
        ·obtain rfl : kl = k := by omega
         gi_wp2
         go_end0
         exact ⟨⟨_, rfl⟩, .inl ⟨_, rfl, by simpa [List.append_assoc] using hJs⟩⟩
end Go.Proofs
end
noncomputable section
set_option maxRecDepth 100000
namespace Go.Proofs.ZzM
open Go Go.Am Go.RowKit
def aMy (p : String) : Code := .region 10 #[{ dst := some 5, op := .assign (.tmp 49), type := 34, pos := p, after := #[], guard := none }] false
def aSW (q r : String) : Code := .block 1 (.seq (.region 11 #[{ dst := some 50, op := .move (.tmp 5), type := 34, pos := q, after := #[], guard := none }, { dst := some 51, op := .binOp .neq 34 (.tmp 50) (.const (.int .i64 0)) 34, type := 4, pos := q, after := #[{ on := 0, ground := .data }], guard := none }] false)
 (.cond (.tmp 51) (.seq (.region 12 #[{ dst := some 52, op := .move (.tmp 5), type := 34, pos := r, after := #[], guard := none }, { dst := none, op := .store 34 (.tmp 2) (.tmp 52), type := 0, pos := r, after := #[{ on := 0, ground := .data }, { on := 0, ground := .phase }], guard := none }] false) .ret) .skip))
section
variable {P : Program} {F : Fence} {n : Nat}
theorem asS {ops : Array Oper} {i d : Nat} {o : Oper} {u : Value} {w w' : World} {a : Act} {next : Act → World → Prop} {Q : Exit → Act → World → Prop} (hF : ∀ f, F.fn f) (ho : ops[i]? = some o) (hg : o.guard = none) (hd : o.dst = some d) (hdf : ∀ c, o.op ≠ .defer c)
 (hrun : (execOp a.eval o).run P w = .ok (.value u) w') (k : next (a.put (some d) u) w') : wpOpIn F n P ops Q i next a w := by
 unfold wpOpIn
 rw [ho]
 have hw : Region.wanted o (yielded ops a.tmps) = true := by simp [Region.wanted, hg]
 simp only [hw, if_true]
 refine ⟨fun _ _ => hF _, ?_⟩
 rw [Oper.semAt_eq _ _ _ hdf, hrun]
 rw [← hd] at k
 exact k
theorem aNP {ops : Array Oper} {i : Nat} {o : Oper} {w w' : World} {a : Act} {next : Act → World → Prop} {Q : Exit → Act → World → Prop} (hF : ∀ f, F.fn f) (ho : ops[i]? = some o) (hg : o.guard = none) (hd : o.dst = none) (hdf : ∀ c, o.op ≠ .defer c)
 (hrun : (execOp a.eval o).run P w = .ok .skip w') (k : next a w') : wpOpIn F n P ops Q i next a w := by
 unfold wpOpIn
 rw [ho]
 have hw : Region.wanted o (yielded ops a.tmps) = true := by simp [Region.wanted, hg]
 simp only [hw, if_true]
 refine ⟨fun _ _ => hF _, ?_⟩
 rw [Oper.semAt_eq _ _ _ hdf, hrun]
 show next (a.put o.dst undef) w'
 rw [hd]
 exact k
end
theorem age (T : Array Value) (i j : Nat) (v : Value) : (T.setIfInBounds i v).getD j undef = if i = j ∧ i < T.size then v else T.getD j undef := by
 simp only [Array.getD_eq_getD_getElem?, Array.getElem?_setIfInBounds]
 by_cases h : i = j
 ·subst h
  by_cases h2 : i < T.size
  ·simp [h2]
  ·simp [h2]
 ·simp [h]
def aMR (D : Nat) : Deferred := { target := .collected D, args := #[] }
structure Put1 (n₀ rb : Nat) (x : Int) (w W : World) : Prop where
 os : W.os = w.os
 tape : W.tape = w.tape
 output : W.output = w.output
 size : w.heap.size ≤ W.heap.size
 block : ∀ k, k < n₀ → k ≠ rb → W.heap[k]? = w.heap[k]?
 cell : ∃ e, W.heap[rb]? = some (.cells #[.int .i64 x] e (0, 0))
set_option maxHeartbeats 4000000 in
theorem aTr {a : Act} {w : World} {Q : Exit → Act → World → Prop} {lb : Array Value} {L : List Int} {rb : Nat} {e0 : TypeId} {v0 : Value} {p q r : String}
 (hseq : SeqStopsK Fence.wide 1 Tryz.prog 165 lb (fun x : Int => #[.int .i64 x]) (Below w.heap.size) (fun xs => xs = L) (fun pre => pre <+: L) L.length w)
 (hg : a.tmps.getD 48 undef = .func (.func 165) #[] lb) (h2 : a.tmps.getD 2 undef = .pointer (some ⟨rb, 0, none⟩)) (hsz : 78 ≤ a.tmps.size)
 (hrb : w.heap[rb]? = some (.cells #[v0] e0 (0, 0)))
 (hdone : ∀ D W, (∀ x ∈ L, x = 0) → Below w.heap.size w W → w.heap.size ≤ D → W.heap[D]? = some (.deferred (some [])) → Q .normal { a with defers := aMR D :: a.defers } W)
 (hstop : ∀ D W x, L.find? (fun e => e != 0) = some x → Put1 w.heap.size rb x w W → w.heap.size ≤ D → W.heap[D]? = some (.deferred (some [])) → Q .ret { a with defers := aMR D :: a.defers } W) :
 (Code.rangeFunc (.tmp 48) #[49] (aMy p) (aSW q r)).wpIn Fence.wide 2 Tryz.prog Q a w := by
 have hT : ∀ f, Fence.wide.fn f := fun _ => trivial
 have hrl := adI hrb
 refine wpIn_rangeFunc_ownF (α := Int) (encs := fun x => #[.int .i64 x]) (Kp := Below w.heap.size) (S := fun xs => xs = L) (Sp := fun pre => pre <+: L) (N := L.length) (w0 := w) rfl (by omega) hg trivial (fun args w => ?eg) hseq
  (fun h k => h.trans k) (fun W l o o' hl ho hc hw => belowK_b (Nat.le_refl _) W l o o' hl ho hc hw) (Below.refl _ _) (fun _ => rfl)
  (fun pre W => (∀ x ∈ pre, x = 0) ∧ Below w.heap.size w W)
  (fun c pre W => c = .ret ∧ ∃ pre' x, pre = pre' ++ [x] ∧ (∀ x ∈ pre', x = 0) ∧ x ≠ 0 ∧ Put1 w.heap.size rb x w W)
  ?hI ?hIx ⟨by simp, Below.refl _ _⟩ (fun x => { tmps := (a.tmps.setIfInBounds 49 (.int .i64 x)).setIfInBounds 5 (.int .i64 x), defers := [] }) ?hassign ?hbody ?hdone ?hstop
 case eg => simp [callFunc, Sem.run_bind, run_program, Result.andThen_ok, Tryz.func165, plain 165 _ Tryz.func165, show Tryz.f165.body.isNone = false from rfl]; rfl
 case hI =>
  intro s W W' row ⟨h1, h2⟩ hgr hr
  exact ⟨h1, hgr.os.trans h2.os, hgr.tape.trans h2.tape, hgr.output.trans h2.output, Nat.le_trans h2.size hgr.size, fun k hk => (hgr.block k (Nat.lt_of_lt_of_le hk h2.size) (fun e => by have := (hr k e.symm).1; omega)).trans (h2.block k hk)⟩
 case hIx =>
  intro c s W W' row ⟨h1, pre', x, h3, h4, h5, h6⟩ hgr hr
  have hb : ∀ k, k < w.heap.size → W'.heap[k]? = W.heap[k]? := fun k hk => hgr.block k (Nat.lt_of_lt_of_le hk h6.size) (fun e => by have := (hr k e.symm).1; omega)
  exact ⟨h1, pre', x, h3, h4, h5, hgr.os.trans h6.os, hgr.tape.trans h6.tape, hgr.output.trans h6.output, Nat.le_trans h6.size hgr.size, fun k hk hne => (hb k hk).trans (h6.block k hk hne), by
   obtain ⟨e, he⟩ := h6.cell
   exact ⟨e, (hb rb hrl).trans he⟩⟩
 case hassign =>
  intro l x W K hK
  have hf : ((#[49] : Array Tmp).zip #[Value.int .i64 x]).foldl (fun t (p, v) => t.setIfInBounds p v) a.tmps = a.tmps.setIfInBounds 49 (.int .i64 x) := by simp
  rw [hf]
  refine wpIn_region ?_
  rw [show ∀ o : Oper, List.range (#[o] : Array Oper).size = [0] from fun _ => rfl, wpOpsIn_cons]
  refine asS (d := 5) (u := .int .i64 x) (w' := W) hT rfl rfl rfl (by simp) ?_ hK
  show Result.ok (Next.value ((a.tmps.setIfInBounds 49 (.int .i64 x)).getD 49 undef)) W = _
  rw [age, if_pos ⟨rfl, by omega⟩]
 case hbody =>
  intro l pre x W ⟨h1, hbel⟩ hpre
  refine wpIn_block (wpIn_seq (wpIn_region ?_))
  rw [show ∀ o p : Oper, List.range (#[o, p] : Array Oper).size = [0, 1] from fun _ _ => rfl, wpOpsIn_cons]
  refine asS (d := 50) (u := .int .i64 x) (w' := W) hT rfl rfl rfl (by simp) (by
   show Result.ok (Next.value (((a.tmps.setIfInBounds 49 (.int .i64 x)).setIfInBounds 5 (.int .i64 x)).getD 5 undef)) W = _
   rw [age, if_pos ⟨rfl, by simp; omega⟩]) ?_
  rw [wpOpsIn_cons]
  refine asS (d := 51) (u := .bool (x != 0)) (w' := W) hT rfl rfl rfl (by simp) (by
   show ((do let u ← (do eqGuard .neq 34 (.tmp 50) (.const (.int .i64 0)) ((((a.tmps.setIfInBounds 49 (.int .i64 x)).setIfInBounds 5 (.int .i64 x)).setIfInBounds 50 (.int .i64 x)).getD 50 undef) (.int .i64 0); binOp .neq 34 ((((a.tmps.setIfInBounds 49 (.int .i64 x)).setIfInBounds 5 (.int .i64 x)).setIfInBounds 50 (.int .i64 x)).getD 50 undef) (.int .i64 0)); pure (.value u)) : Sem Next).run Tryz.prog W = _
   rw [age, if_pos ⟨rfl, by simp; omega⟩]
   simp [eqGuard, binOp, Op.intCmp]) ?_
  show Code.wpIn (Fence.wide.inRound l) (2 - 1 - 1) Tryz.prog (Code.cond (.tmp 51) _ .skip) _ { tmps := ((((a.tmps.setIfInBounds 49 (.int .i64 x)).setIfInBounds 5 (.int .i64 x)).setIfInBounds 50 (.int .i64 x)).setIfInBounds 51 (.bool (x != 0))), defers := [] } W
  obtain ⟨T, hTd⟩ : ∃ T, T = ((((a.tmps.setIfInBounds 49 (.int .i64 x)).setIfInBounds 5 (.int .i64 x)).setIfInBounds 50 (.int .i64 x)).setIfInBounds 51 (.bool (x != 0))) := ⟨_, rfl⟩
  rw [← hTd]
  have t51 : T.getD 51 undef = .bool (x != 0) := by rw [hTd, age, if_pos ⟨rfl, by simp; omega⟩]
  have t5 : T.getD 5 undef = .int .i64 x := by rw [hTd, age, if_neg (by simp), age, if_neg (by simp), age, if_pos ⟨rfl, by simp; omega⟩]
  have t2 : T.getD 2 undef = .pointer (some ⟨rb, 0, none⟩) := by rw [hTd, age, if_neg (by simp), age, if_neg (by simp), age, if_neg (by simp), age, if_neg (by simp), h2]
  have tsz : 78 ≤ T.size := by rw [hTd]; simpa using hsz
  clear hTd
  by_cases hx : x = 0
  ·have e51 : Act.eval { tmps := T, defers := [] } (.tmp 51) = .bool false := t51.trans (by simp [hx])
   refine wpIn_cond_false e51 (wpIn_skip ?_)
   simp only [Exit.inBlock, ownPostK]
   exact ⟨KeepsOthers.refl _, Below.refl _ _, fun y hy => (List.mem_append.1 hy).elim (h1 y) (fun h => by rw [List.mem_singleton] at h; rw [h, hx]), hbel⟩
  ·have e51 : Act.eval { tmps := T, defers := [] } (.tmp 51) = .bool true := t51.trans (by simp [hx])
   refine wpIn_cond_true e51 (wpIn_seq (wpIn_region ?_))
   rw [show ∀ o p : Oper, List.range (#[o, p] : Array Oper).size = [0, 1] from fun _ _ => rfl, wpOpsIn_cons]
   have e5 : (execOp (Act.eval { tmps := T, defers := [] }) { dst := some 52, op := .move (.tmp 5), type := 34, pos := r, after := #[], guard := none }).run Tryz.prog W = .ok (.value (.int .i64 x)) W := by
    show Result.ok (Next.value (T.getD 5 undef)) W = _
    rw [t5]
   refine asS (d := 52) (u := .int .i64 x) (w' := W) hT rfl rfl rfl (by simp) e5 ?_
   rw [wpOpsIn_cons]
   have hW : W.heap[rb]? = some (.cells #[v0] e0 (0, 0)) := (hbel.block rb hrl).trans hrb
   letI : acI := ⟨fun _ => False, [], none⟩
   have hst := aoh (P := Tryz.prog) (w := W) (t := 34) (u := .int .i64 x) (n := 1) (b := rb) (o := 0) (by kernel_rfl) rfl hW (by simp) (by simp [Value.cells, Value.oneCell'])
   have hst' : (storeVar 34 ⟨rb, 0, none⟩ (.int .i64 x)).run Tryz.prog W = .ok () (W.setRow rb #[.int .i64 x]) := by simpa [Value.cells] using hst
   have t52 : (T.setIfInBounds 52 (.int .i64 x)).getD 52 undef = .int .i64 x := by rw [age, if_pos ⟨rfl, by omega⟩]
   have t2' : (T.setIfInBounds 52 (.int .i64 x)).getD 2 undef = .pointer (some ⟨rb, 0, none⟩) := by rw [age, if_neg (by simp), t2]
   have e6 : (execOp (Act.eval { tmps := T.setIfInBounds 52 (.int .i64 x), defers := [] }) { dst := none, op := .store 34 (.tmp 2) (.tmp 52), type := 0, pos := r, after := #[{ on := 0, ground := .data }, { on := 0, ground := .phase }], guard := none }).run Tryz.prog W = .ok .skip (W.setRow rb #[.int .i64 x]) := by
    show ((do Instr.storeAt 34 ((T.setIfInBounds 52 (.int .i64 x)).getD 2 undef) ((T.setIfInBounds 52 (.int .i64 x)).getD 52 undef); pure .skip) : Sem Next).run Tryz.prog W = _
    rw [t52, t2']
    simp [Instr.storeAt, Instr.sureAddr, hst']
   refine aNP (w' := W.setRow rb #[.int .i64 x]) hT rfl rfl rfl (by simp) e6 ?_
   refine wpIn_ret ?_
   simp only [Exit.inBlock, ownPostK]
   refine ⟨⟨by simp, fun k o hk ho => ?_⟩, trivial, pre, x, rfl, h1, hx, hbel.os, hbel.tape, hbel.output, by simpa using hbel.size, fun k hk hne => (setRow_other _ _ _ _ hne).trans (hbel.block k hk), ⟨_, setRow_heap _ _ _ _ _ _ hW⟩⟩
   by_cases hk2 : k = rb
   ·subst hk2; rw [hW] at hk; cases hk; simp [Obj.isCells] at ho
   ·rw [setRow_other _ _ _ _ hk2]; exact hk
 case hdone =>
  intro D xs W hD hS ⟨h1, hbel⟩ hDo
  subst hS
  exact hdone D W h1 hbel hD hDo
 case hstop =>
  intro D c pre W hD hS ⟨hc, pre', x, h3, h4, h5, h6⟩ hDo
  subst hc
  refine wpIn_ret (hstop D W x ?_ h6 hD hDo)
  obtain ⟨t, rfl⟩ := hS
  rw [h3, List.append_assoc, List.find?_append]
  have : List.find? (fun e => e != 0) pre' = none := List.find?_eq_none.2 fun y hy => by simp [h4 y hy]
  rw [this]
  simp [h5]
end Go.Proofs.ZzM
end
noncomputable section
set_option maxRecDepth 100000
namespace Go.Proofs.ZzM
open Go Go.Am Go.RowKit
def fstC : Code → Code
 | .seq a _ => a
 | c => c
def sndC : Code → Code
 | .seq _ b => b
 | c => c
def aPz : Nat → Code → Code
 | 0, c => fstC c
 | n + 1, c => aPz n (sndC c)
def aSj : Nat → Code → Code
 | 0, c => c
 | n + 1, c => aSj n (sndC c)
def ckB : Code := Tryz.f38.body.getD .skip
def ckA5 : Code := fstC (aSj 5 ckB |> fstC)
def ckRF : Code := sndC (aSj 5 ckB |> fstC)
def aED : Code := sndC (aSj 5 ckB)
def ckPre : Code := .seq (aPz 0 ckB) (.seq (aPz 1 ckB) (.seq (aPz 2 ckB) (.seq (aPz 3 ckB) (.seq (aPz 4 ckB) ckA5))))
theorem aTd : Tryz.f38.body = some (.seq (aPz 0 ckB) (.seq (aPz 1 ckB) (.seq (aPz 2 ckB) (.seq (aPz 3 ckB) (.seq (aPz 4 ckB) (.seq (.seq ckA5 ckRF) aED)))))) := by kernel_rfl
def ck_pt : List (Nat × acq) := [(85, asQ), (53, arD), (82, alG), (83, aop)]
def ckE (ρ : Type) : Env ρ := acr ck_pt []
abbrev ckR : Type := Int ⊕ (List AV × List Blk)
def aQH (S : St) : Option Int := match ajE Tryz.prog Tryz.f38 S with
 | some v => adB [tI] S.h v
 | none => none
def ckK (e : Exit) (S : St) : Option ckR := match e with
 | .ret => match aQH S with
   | some n => some (.inl n)
   | none => none
 | .normal => match decide (78 ≤ S.t.length) with
   | true => some (.inr ([lk S.t 1, lk S.t 2, lk S.t 48], S.h))
   | false => none
 | _ => none
def ckH (x : Val ab3) (s : Val (.map tI acd)) (n : Int) : List Blk :=
 [.cells (flat ab3 x), .cells [.int .i64 n], .cells (flat ab3 x), .cells [.mp tI acd s], .cells [.fn (.func 163) [] [.box 3 0]]]
def ckM (x : Val ab3) : Option ckR :=
 ab2 (aeM x.1 (0 : Int) (1000000 : Int)) fun r1 => ifb (!r1) (some (.inl 1)) (ifb (igt (aco x.2.1) (12 : Int)) (some (.inl 2)) (ifb (igt (aco x.2.2.1) (40 : Int)) (some (.inl 2)) (ifb (igt (aco x.2.2.2.1) (12 : Int)) (some (.inl 2)) (ifb (igt (aco x.2.2.2.2.1) (40 : Int)) (some (.inl 2)) (ifb (igt (aco x.2.2.2.2.2) (10 : Int)) (some (.inl 2))
  (ab2 (aez x) fun r2 => ifb (ine r2 (0 : Int)) (some (.inl r2)) (ab2 (ae0 x) fun r3 => some (.inr ([.box 0 0, .box 1 0, .fn (.func 165) [] [.box 2 0, .box 4 0, .box 3 0]], ckH x r3 0)))))))))
theorem ck_pre (x : Val ab3) : goC (ckE ckR) (agE (ckE ckR) 10) 38 [] 0 0 ckPre { t := adr [ab3] x ++ List.replicate 77 .any, h := [] } ckK = ckM x := by kernel_rfl
def aSu (ρ : Type) : Env ρ := { ckE ρ with inl := fun _ => false }
def ckS (x : Val ab3) : Option Int :=
 ab2 (aka x) fun r5 => ifb (igt (aco r5) (59 : Int)) (some (2 : Int)) (ck ((2 : Int) * (aco x.2.1)) fun n6 => ck ((aco r5) - (aco x.2.1)) fun n7 => ck ((2 : Int) * n7) fun n8 => ck (n6 + n8) fun n9 => ck ((2 : Int) * (aco x.2.2.2.2.1)) fun n10 => ck (n9 + n10) fun n11 => ifb (igt n11 (300 : Int)) (some (2 : Int)) (some (0 : Int)))
def ckK2 (e : Exit) (S : St) : Option Int := match e with
 | .ret => match lk S.t 2 with
   | .box 1 0 => match lkB S.h 1 with
     | .cells [.int .i64 n] => some n
     | _ => none
   | _ => none
 | _ => none
theorem ck_suf (x : Val ab3) (s : Val (.map tI acd)) : goC (aSu Int) (agE (aSu Int) 10) 38 [] 0 0 aED { t := [.any, .box 0 0, .box 1 0] ++ List.replicate 75 .any, h := ckH x s 0 } ckK2 = ckS x := by kernel_rfl
theorem aSt (x : Val ab3) : acM x = match ckM x with
 | none => none
 | some (.inl n) => some n
 | some (.inr _) => ab2 (ae0 x) fun s => aHY (aiG x s) some (ckS x) := by
 unfold acM aA2 ckM ckS
 cases aeM x.1 (0 : Int) (1000000 : Int) with
 | none => rfl
 | some r1 =>
 cases r1 with
 | false => rfl
 | true =>
 simp only [ab2, ifb, Bool.not_true]
 cases igt (aco x.2.1) (12 : Int) with
 | true => rfl
 | false =>
 cases igt (aco x.2.2.1) (40 : Int) with
 | true => rfl
 | false =>
 cases igt (aco x.2.2.2.1) (12 : Int) with
 | true => rfl
 | false =>
 cases igt (aco x.2.2.2.2.1) (40 : Int) with
 | true => rfl
 | false =>
 cases igt (aco x.2.2.2.2.2) (10 : Int) with
 | true => rfl
 | false =>
 cases aez x with
 | none => rfl
 | some r2 =>
 simp only
 cases ine r2 (0 : Int) with
 | true => rfl
 | false =>
 cases ae0 x with
 | none => rfl
 | some r3 => rfl
theorem aT1 {x : Val ab3} {q : List AV × List Blk} (h : ckM x = some (.inr q)) : ((x.2.2.1 : List (Val ab1)).length ≤ 1000 ∧ (x.2.2.2.1 : List (Val adD)).length ≤ 1000 ∧ (x.2.2.2.2.1 : List (Val ab9)).length ≤ 1000 ∧ (x.2.2.2.2.2 : List (Val ab1)).length ≤ 1000) ∧
 ∃ s, ae0 x = some s ∧ q = ([.box 0 0, .box 1 0, .fn (.func 165) [] [.box 2 0, .box 4 0, .box 3 0]], ckH x s 0) := by
 unfold ckM at h
 cases h0 : aeM x.1 (0 : Int) (1000000 : Int) with
 | none => rw [h0] at h; cases h
 | some r1 =>
 rw [h0] at h
 cases r1 with
 | false => cases h
 | true =>
 simp only [ab2, ifb, Bool.not_true] at h
 cases h1 : igt (aco x.2.1) (12 : Int) with
 | true => rw [h1] at h; cases h
 | false =>
 rw [h1] at h
 cases h2 : igt (aco x.2.2.1) (40 : Int) with
 | true => rw [h2] at h; cases h
 | false =>
 rw [h2] at h
 cases h3 : igt (aco x.2.2.2.1) (12 : Int) with
 | true => rw [h3] at h; cases h
 | false =>
 rw [h3] at h
 cases h4 : igt (aco x.2.2.2.2.1) (40 : Int) with
 | true => rw [h4] at h; cases h
 | false =>
 rw [h4] at h
 cases h5 : igt (aco x.2.2.2.2.2) (10 : Int) with
 | true => rw [h5] at h; cases h
 | false =>
 rw [h5] at h
 cases h6 : aez x with
 | none => rw [h6] at h; cases h
 | some r2 =>
 rw [h6] at h
 simp only at h
 cases h7 : ine r2 (0 : Int) with
 | true => rw [h7] at h; cases h
 | false =>
 rw [h7] at h
 cases h8 : ae0 x with
 | none => rw [h8] at h; cases h
 | some r3 =>
 rw [h8] at h
 have lt : ∀ {α : Type} (l : List α) (n : Nat), igt (aco l) (n : Int) = false → l.length ≤ n := by
  intro α l n h
  unfold aco at h
  rw [azD] at h
  simp only [igt, gt_iff_lt, decide_eq_false_iff_not] at h
  omega
 simp only [Option.some.injEq, Sum.inr.injEq] at h
 exact ⟨⟨by have := lt x.2.2.1 40 h2; omega, by have := lt x.2.2.2.1 12 h3; omega, by have := lt x.2.2.2.2.1 40 h4; omega, by have := lt x.2.2.2.2.2 10 h5; omega⟩, r3, rfl, h.symm⟩
theorem asZ {α β : Type} {f : α → Option β} : ∀ {l : List α} {m : List β}, azH f l = some m → m.length = l.length ∧ ∀ (i : Nat) (a : α), l[i]? = some a → ∃ b, m[i]? = some b ∧ f a = some b
 | [], m, h => by cases h; exact ⟨rfl, fun i a ha => by simp at ha⟩
 | a :: l, m, h => by
   unfold azH at h
   cases ha : f a with
   | none => rw [ha] at h; cases h
   | some b =>
     rw [ha] at h
     cases hl : azH f l with
     | none => rw [hl] at h; cases h
     | some m' =>
       rw [hl] at h
       cases h
       obtain ⟨h1, h2⟩ := asZ hl
       refine ⟨by simp [h1], fun i c hc => ?_⟩
       cases i with
       | zero => simp at hc; subst hc; exact ⟨b, by simp, ha⟩
       | succ i => simpa using h2 i c (by simpa using hc)
theorem ayz (l : List Int) : upE (fun j => l[j]?.getD 0) l.length = l := by
 unfold upE
 refine List.ext_getElem (by simp) fun i h1 h2 => ?_
 simp at h1
 simp [h1]
theorem CR.below {n₀ : Nat} {w W : World} {av : Nat → Prop} (hb : Below n₀ w W) (hn : w.heap.size ≤ n₀) {t : Ty} {x : Val t} {vs : List Value} (h : CR w av t x vs) : CR W av t x vs :=
 h.keep fun b hlt ha => ⟨hb.block b (Nat.lt_of_lt_of_le hlt hn), ha⟩
theorem ay9 {w : World} {av : Nat → Prop} {xs : List (Int × Int)} {v : Value} (h : CR w av (.slice ab1) xs [v]) : ∃ base cap b off, v = .slice base xs.length cap ∧ (0 < xs.length → base = some ⟨b, off, none⟩ ∧ b < w.heap.size) ∧
 ∀ j, j < xs.length → w.cell? ⟨b, off + j * 2, none⟩ = some (.int .i64 (xs[j]?.getD (0, 0)).1) ∧ w.cell? ⟨b, off + j * 2 + 1, none⟩ = some (.int .i64 (xs[j]?.getD (0, 0)).2) := by
 obtain ⟨base, cap, e, hc, hx⟩ := h
 cases e
 rcases hx with hx | ⟨b, off, hb, hav, hlt, hx⟩
 ·refine ⟨base, cap, 0, 0, rfl, fun h => ?_, fun j hj => ?_⟩
  ·rw [show xs = [] from hx] at h; simp at h
  ·rw [show xs = [] from hx] at hj; simp at hj
 ·refine ⟨base, cap, b, off, rfl, fun _ => ⟨hb, hlt⟩, fun j hj => ?_⟩
  obtain ⟨us, h1, h2⟩ := hx j xs[j] (List.getElem?_eq_getElem hj)
  obtain ⟨u1, u2, e1, h3, h4⟩ := h1
  have e3 : u1 = [.int .i64 xs[j].1] := h3
  have e4 : u2 = [.int .i64 xs[j].2] := h4
  subst e3 e4 e1
  have s : (ab1).size = 2 := rfl
  rw [s] at h2
  have c1 := h2 0 _ rfl
  have c2 := h2 1 _ rfl
  rw [List.getElem?_eq_getElem hj]
  exact ⟨by simpa using c1, by simpa [Nat.add_assoc] using c2⟩
end Go.Proofs.ZzM
end
noncomputable section
set_option maxRecDepth 100000
namespace Go.Proofs.ZzM
open Go Go.Am Go.RowKit
section
variable {w W W' : World}
abbrev noG : Nat → Prop := fun _ => False
theorem aGY (w : World) (n : Int) : ag8 w noG tI n (.int .i64 n) := ⟨[.int .i64 n], rfl, rfl⟩
theorem aTI {sb : Nat} {mv : Value} {e : TypeId} {s : Val (.map tI acd)} (h : w.heap[sb]? = some (.cells #[mv] e (0, 0))) (hm : CR w noG (.map tI acd) s [mv]) : ag8 w noG (.ptr (.map tI acd)) s (.pointer (some ⟨sb, 0, none⟩)) := by
 letI : acI := ⟨fun _ => False, [], none⟩
 exact ⟨[.pointer (some ⟨sb, 0, none⟩)], ⟨sb, 0, [mv], rfl, id, adI h, hm, adO.of_cells h⟩, rfl⟩
theorem aTs {y : Int} {u : Value} (h : RR w noG [tI] y u) : u = .int .i64 y := by
 obtain ⟨us, h1, rfl⟩ := h
 have : us = [.int .i64 y] := h1
 rw [this]; rfl
theorem aR9 (h1 : ∀ b, b < W.heap.size → W'.heap[b]? = W.heap[b]?) (h2 : W.heap.size ≤ W'.heap.size) (h3 : W'.os = W.os) (h4 : W'.tape = W.tape) (h5 : W'.output = W.output) : W.grownBy W' none :=
 ⟨h3, h4, h5, h2, fun b hb _ => h1 b hb⟩
theorem aHc {f : Nat} {p : acq} (hp : acf Tryz.prog f p) (hrs : p.rs = [tI]) {x : Val (tyL p.ts)} {y : Int} (hF : p.F x = some (hrs ▸ (show Val (tyL [tI]) from y))) {vals : List Value} (ha : AL W noG p.ts x vals) :
 CallsIn Fence.wide 0 Tryz.prog f vals.toArray W fun e W'' => e = .returned (.int .i64 y) ∧ W.grownBy W'' none := by
 obtain ⟨ts, rs, F⟩ := p
 dsimp only at hrs hF ha x
 subst hrs
 refine (hp noG x y hF W vals (fun _ h => h.elim) ha).2.mono fun e w' ⟨u, h0, h1, h2, h3, h4, h5, h6⟩ => ⟨?_, aR9 h2 h3 h4 h5 h6⟩
 rw [h0, aTs h1]
theorem aHB {s : Val (.map tI acd)} {a b y : Int} (hF : adJ a b s = some y) {sb : Nat} {mv : Value} {e : TypeId} (h : W.heap[sb]? = some (.cells #[mv] e (0, 0))) (hm : CR W noG (.map tI acd) s [mv]) :
 CallsIn Fence.wide 0 Tryz.prog 163 #[.int .i64 a, .int .i64 b, .pointer (some ⟨sb, 0, none⟩)] W fun e W'' => e = .returned (.int .i64 y) ∧ W.grownBy W'' none :=
 aHc aL1 rfl (x := (a, b, s)) (y := y) hF (vals := [.int .i64 a, .int .i64 b, .pointer (some ⟨sb, 0, none⟩)]) ⟨_, _, rfl, aGY _ _, _, _, rfl, aGY _ _, _, rfl, aTI h hm⟩
theorem aPM {mv : Value} {s : Val (.map tI acd)} (hm : CR W noG (.map tI acd) s [mv]) : ag8 W noG (.map tI acd) s mv := ⟨[mv], hm, rfl⟩
theorem aNn {x : Val ab3} {cs : Array Value} (hb : CR W noG ab3 x cs.toList) : ag8 W noG ab3 x (.agg cs) := ⟨cs.toList, hb, by show Value.agg cs = Value.agg cs.toList.toArray; rw [Array.toArray_toList]⟩
theorem aPW {x : Val ab3} {s : Val (.map tI acd)} {i y : Int} (hF : aeQ x s i = some y) {mv : Value} {cs : Array Value} (hb : CR W noG ab3 x cs.toList) (hm : CR W noG (.map tI acd) s [mv]) :
 CallsIn Fence.wide 0 Tryz.prog 166 #[.agg cs, mv, .int .i64 i] W fun e W'' => e = .returned (.int .i64 y) ∧ W.grownBy W'' none :=
 aHc aHi rfl (x := (x, s, i)) (y := y) hF (vals := [.agg cs, mv, .int .i64 i]) ⟨_, _, rfl, aNn hb, _, _, rfl, aPM hm, _, rfl, aGY _ _⟩
theorem aJ5 {x : Val ab3} {s : Val (.map tI acd)} {i y : Int} (hF : adL x s i = some y) {mv : Value} {cs : Array Value} (hb : CR W noG ab3 x cs.toList) (hm : CR W noG (.map tI acd) s [mv]) :
 CallsIn Fence.wide 0 Tryz.prog 167 #[.agg cs, mv, .int .i64 i] W fun e W'' => e = .returned (.int .i64 y) ∧ W.grownBy W'' none :=
 aHc ays rfl (x := (x, s, i)) (y := y) hF (vals := [.agg cs, mv, .int .i64 i]) ⟨_, _, rfl, aNn hb, _, _, rfl, aPM hm, _, rfl, aGY _ _⟩
end
theorem ajD {w : World} {av : Nat → Prop} {t : Ty} {xs : List (Val t)} {vs : List Value} (h : CR w av (.slice t) xs vs) : ∃ base cap, vs = [.slice base xs.length cap] := by
 obtain ⟨base, cap, e, _⟩ := h
 exact ⟨base, cap, e⟩
theorem aRF {x : Val ab3} {s : Val (.map tI acd)} {l1 l2 l3 l4 : List Int} (h1 : azH (fun u => adJ u.1 u.2 s) (x.2.2.1 : List (Int × Int)) = some l1) (h2 : azH (fun i => aeQ x s i) (aod (x.2.2.2.1 : List (Val adD)).length) = some l2)
 (h3 : azH (fun i => adL x s i) (aod (x.2.2.2.2.1 : List (Val ab9)).length) = some l3) (h4 : azH (fun u => adJ u.1 u.2 s) (x.2.2.2.2.2 : List (Int × Int)) = some l4)
 (hlen : (x.2.2.1 : List (Val ab1)).length ≤ 1000 ∧ (x.2.2.2.1 : List (Val adD)).length ≤ 1000 ∧ (x.2.2.2.2.1 : List (Val ab9)).length ≤ 1000 ∧ (x.2.2.2.2.2 : List (Val ab1)).length ≤ 1000)
 {w : World} {bb tb sb : Nat} {te te2 te3 : TypeId} {cb : Array Value} {mv : Value} (hbb : w.heap[bb]? = some (.cells cb te (0, 0))) (hbk : CR w noG ab3 x cb.toList) (htb : w.heap[tb]? = some (.cells #[.func (.func 163) #[] #[.pointer (some ⟨sb, 0, none⟩)]] te2 (0, 0)))
 (hsb : w.heap[sb]? = some (.cells #[mv] te3 (0, 0))) (hmv : CR w noG (.map tI acd) s [mv]) :
 SeqStopsK Fence.wide 1 Tryz.prog 165 #[.pointer (some ⟨bb, 0, none⟩), .pointer (some ⟨tb, 0, none⟩), .pointer (some ⟨sb, 0, none⟩)] (fun x : Int => #[.int .i64 x]) (Below w.heap.size) (fun xs => xs = l1 ++ (l2 ++ (l3 ++ l4))) (fun pre => pre <+: (l1 ++ (l2 ++ (l3 ++ l4)))) (l1 ++ (l2 ++ (l3 ++ l4))).length w := by
 intro l J Jx W hbel hJ hJx hY h0
 obtain ⟨fl, r0, e0, hfl, hr0⟩ := id hbk
 obtain ⟨ga, r1, e1, hga, hr1⟩ := hr0
 obtain ⟨us, r2, e2, hus, hr2⟩ := hr1
 obtain ⟨lo, r3, e3, hlo, hr3⟩ := hr2
 obtain ⟨co, ko, e4, hco, hko⟩ := hr3
 obtain ⟨f1, f2, e5, hf1, hf2⟩ := hfl
 have e6 : f1 = [.int .i64 x.1.1] := hf1
 have e7 : f2 = [.int .i64 x.1.2] := hf2
 obtain ⟨gab, gac, e8⟩ := ajD hga
 obtain ⟨lob, loc, e9⟩ := ajD hlo
 obtain ⟨cob, coc, e10⟩ := ajD hco
 obtain ⟨usb0, usc0, e11⟩ := ajD hus
 obtain ⟨kob0, koc0, e12⟩ := ajD hko
 rw [e11] at hus
 rw [e12] at hko
 obtain ⟨usb, usc, ub, uo, e13, hub, hU⟩ := ay9 hus
 obtain ⟨kob, koc, kb, kof, e14, hkb, hK⟩ := ay9 hko
 rw [e13] at e11
 rw [e14] at e12
 have hcb : cb = #[.int .i64 x.1.1, .int .i64 x.1.2, .slice gab (x.2.1 : List (Val acd)).length gac, .slice usb (x.2.2.1 : List (Val ab1)).length usc, .slice lob (x.2.2.2.1 : List (Val adD)).length loc, .slice cob (x.2.2.2.2.1 : List (Val ab9)).length coc, .slice kob (x.2.2.2.2.2 : List (Val ab1)).length koc] := by
  rw [← Array.toList_inj, e0, e1, e2, e3, e4, e5, e6, e7, e8, e9, e10, e11, e12]
  rfl
 obtain ⟨g1, q1⟩ := asZ h1
 obtain ⟨g2, q2⟩ := asZ h2
 obtain ⟨g3, q3⟩ := asZ h3
 obtain ⟨g4, q4⟩ := asZ h4
 have gl2 : l2.length = (x.2.2.2.1 : List (Val adD)).length := by rw [g2]; simp [aod]
 have gl3 : l3.length = (x.2.2.2.2.1 : List (Val ab9)).length := by rw [g3]; simp [aod]
 have up1 : upE (fun j => l1[j]?.getD 0) (x.2.2.1 : List (Val ab1)).length = l1 := by rw [← g1]; exact ayz l1
 have up2 : upE (fun j => l2[j]?.getD 0) (x.2.2.2.1 : List (Val adD)).length = l2 := by rw [← gl2]; exact ayz l2
 have up3 : upE (fun j => l3[j]?.getD 0) (x.2.2.2.2.1 : List (Val ab9)).length = l3 := by rw [← gl3]; exact ayz l3
 have up4 : upE (fun j => l4[j]?.getD 0) (x.2.2.2.2.2 : List (Val ab1)).length = l4 := by rw [← g4]; exact ayz l4
 have at1 : ∀ {xs : List (Int × Int)} {ls : List Int}, (∀ (i : Nat) (a : Int × Int), xs[i]? = some a → ∃ b, ls[i]? = some b ∧ adJ a.1 a.2 s = some b) → ∀ j, j < xs.length → adJ (xs[j]?.getD (0, 0)).1 (xs[j]?.getD (0, 0)).2 s = some (ls[j]?.getD 0) := by
  intro xs ls hq j hj
  obtain ⟨b, hb, hf⟩ := hq j xs[j] (List.getElem?_eq_getElem hj)
  rw [List.getElem?_eq_getElem hj, hb]
  exact hf
 have at2 : ∀ {n : Nat} {ls : List Int} {f : Int → Option Int}, (∀ (i : Nat) (a : Int), (aod n)[i]? = some a → ∃ b, ls[i]? = some b ∧ f a = some b) → ∀ j, j < n → f (j : Int) = some (ls[j]?.getD 0) := by
  intro n ls f hq j hj
  obtain ⟨b, hb, hf⟩ := hq j j (by simp [aod, hj])
  rw [hb]; exact hf
 have hbel' : ∀ {W' : World}, Below w.heap.size W W' → Below w.heap.size w W' := fun h => hbel.trans h
 have hcell : ∀ {W' : World} {p : Addr} {v : Value}, Below w.heap.size w W' → w.cell? p = some v → p.block < w.heap.size → W'.cell? p = some v := fun {W'} {p} {v} h hc hp => (h.cell (p := p) hp).trans hc
 have lb := adI hbb
 have lt := adI htb
 have ls := adI hsb
 have := aRK te 1 (by omega) l w.heap.size bb tb sb (.int .i64 x.1.1) (.int .i64 x.1.2) (.slice gab (x.2.1 : List (Val acd)).length gac) mv lb lt ls
  ub uo (x.2.2.1 : List (Val ab1)).length usc kb kof (x.2.2.2.2.2 : List (Val ab1)).length koc usb kob lob cob (x.2.2.2.1 : List (Val adD)).length loc (x.2.2.2.2.1 : List (Val ab9)).length coc hub hkb
  (fun j => (x.2.2.1 : List (Int × Int))[j]?.getD (0, 0)) (fun j => (x.2.2.2.2.2 : List (Int × Int))[j]?.getD (0, 0)) (fun j => l1[j]?.getD 0) (fun j => l2[j]?.getD 0) (fun j => l3[j]?.getD 0) (fun j => l4[j]?.getD 0)
  hlen.1 hlen.2.1 hlen.2.2.1 hlen.2.2.2 W ((hbel.block bb lb).trans (by rw [hbb, hcb])) (hcell hbel (by simp [World.cell?, htb]) lt) (hcell hbel (by simp [World.cell?, hsb]) ls)
  (fun j hj => ⟨hcell hbel (hU j hj).1 (hub (by omega)).2, hcell hbel (hU j hj).2 (hub (by omega)).2⟩) (fun j hj => ⟨hcell hbel (hK j hj).1 (hkb (by omega)).2, hcell hbel (hK j hj).2 (hkb (by omega)).2⟩)
  (fun j hj W' hW => aHB (at1 q1 j hj) (((hbel' hW).block sb ls).trans hsb) (CR.below (hbel' hW) (Nat.le_refl _) hmv))
  (fun j hj W' hW => aHB (at1 q4 j hj) (((hbel' hW).block sb ls).trans hsb) (CR.below (hbel' hW) (Nat.le_refl _) hmv))
  (fun j hj W' hW => aPW (at2 q2 j hj) (by have := CR.below (hbel' hW) (Nat.le_refl _) hbk; rwa [hcb] at this) (CR.below (hbel' hW) (Nat.le_refl _) hmv))
  (fun j hj W' hW => aJ5 (at2 q3 j hj) (by have := CR.below (hbel' hW) (Nat.le_refl _) hbk; rwa [hcb] at this) (CR.below (hbel' hW) (Nat.le_refl _) hmv))
  J Jx (fun pre W1 W2 hj hg => hJ pre W1 W2 none hj hg (fun r e => by cases e)) (fun pre W1 W2 hj hg => hJx pre W1 W2 none hj hg (fun r e => by cases e))
  (fun pre y W1 hj hl => hY pre y W1 hj (by simp only [List.length_append]; omega)) h0 hbel.size
 rw [up1, up2, up3, up4] at this
 exact this
end Go.Proofs.ZzM
end
noncomputable section
set_option maxRecDepth 100000
namespace Go.Proofs.ZzM
open Go Go.Am Go.RowKit
section
variable [acI] {ρ : Type} {ν : Nat → Value} {w : World}
theorem peel (hq : acI.Q = none) {E : Env ρ} {call : List Nat → Bool → Nat → List AV → List Blk → (AV → List Blk → Option ρ) → Option ρ} {L : Nat} (hE : ahA E L call) (hD : ahM E L call) (hj : E.joins = fun _ _ _ _ => none) {fid : Nat} {path : List Nat} (hp : path.length + 2 = L) {x y c : Code} {bid n : Nat} {S : St} {K : Exit → St → Option ρ} {r : ρ} {a : Act} {Q : Exit → Act → World → Prop}
 (hL : ∀ z ∈ acz bid x, ai7 E path fid z.1 z.2) (e : goC E call fid path 0 bid (.seq x y) S K = some r) (H : Sim ν S a w)
 (hn : ∀ ν' S' a' w', Sim ν' S' a' w' → Ev 0 ν S.h w ν' S'.h w' → goC E call fid path 0 bid y S' K = some r → c.wpIn Fence.wide n E.P Q a' w')
 (hx : ∀ ν' S' a' w' e, e ≠ .normal → Sim ν' S' a' w' → Ev 0 ν S.h w ν' S'.h w' → K e S' = some r → Q e a' w') : (Code.seq x c).wpIn Fence.wide n E.P Q a w := by
 simp only [goC, hj] at e
 have hgo := ahs hE hD hp x bid S _ ν a w hL e H (Nat.zero_le _)
 rw [auK hq] at hgo
 refine wpIn_seq (wpIn_wide.2 (wpIn_wide.1 (wpIn_mono hgo fun e' a' w' ha => ?_)))
 obtain ⟨ν', S', h1, h2, h3, h4, h5⟩ := ha
 cases e' with
 | normal => exact hn ν' S' a' w' h1 h2 h5
 | exit id => exact hx ν' S' a' w' _ (by simp) h1 h2 h5
 | goto l => exact hx ν' S' a' w' _ (by simp) h1 h2 h5
 | ret => exact hx ν' S' a' w' _ (by simp) h1 h2 h5
 | panic ch => exact hx ν' S' a' w' _ (by simp) h1 h2 h5
 | outgrown => exact hx ν' S' a' w' _ (by simp) h1 h2 h5
end
theorem aPg {T : Array Value} {rb : Nat} {n : Int} {e : TypeId} {W : World} (h2 : T.getD 2 undef = .pointer (some ⟨rb, 0, none⟩)) (hc : W.heap[rb]? = some (.cells #[.int .i64 n] e (0, 0))) : (results Tryz.f38 T).run Tryz.prog W = .ok (.int .i64 n) W := by
 letI : acI := ⟨fun _ => False, [], none⟩
 have hl : (loadVar 34 ⟨rb, 0, none⟩).run Tryz.prog W = .ok (.int .i64 n) W := by
  have := azh (P := Tryz.prog) (w := W) (t := 34) (agg := false) (n := 1) (by kernel_rfl) (us := [.int .i64 n]) rfl (fun _ => rfl) (a := ⟨rb, 0, none⟩) (fun j v hj => by
   have := adO.of_cells hc j v (by simpa using hj)
   cases j with
   | zero => simpa [Addr.add] using this
   | succ j => simp at hj)
  exact this
 have hr : Tryz.f38.results = #[.cell 2 34] := by kernel_rfl
 unfold results
 rw [hr, Array.mapM_eq_mapM_toList]
 simp only [Sem.run_bind, Sem.run_map, List.mapM_cons, List.mapM_nil, h2, asAddr, Sem.run_pure, Result.andThen_ok, hl]
 rfl
theorem HR_ghost {G : Nat → Prop} {D D' : List Deferred} {Q Q' : Option Nat} {ν : Nat → Value} {h : List Blk} {w : World} (H : @HR ⟨G, D, Q⟩ ν h w) : @HR ⟨G, D', Q'⟩ ν h w :=
 @HR.mk ⟨G, D', Q'⟩ ν h w (@HR.blk ⟨G, D, Q⟩ ν h w H) (@HR.inj ⟨G, D, Q⟩ ν h w H) (@HR.ghlt ⟨G, D, Q⟩ ν h w H) (@HR.ghne ⟨G, D, Q⟩ ν h w H)
theorem aT7 [acI] {ν : Nat → Value} {h : List Blk} {w : World} {x : Val ab3} {us : List Value} (hv : ade (VRc ν h w) (flat ab3 x) us) : CR w noG ab3 x us := by
 have h1 : acn ab3 (flat ab3 x) = some x := rfl
 have h2 : ade (VRs w (Av ν h)) (flat ab3 x) us := hv.mono fun c u hu => hu.1.data
 exact CR.mono (fun _ hf => hf.elim) (aeh h1 h2)
def aro (G : Nat → Prop) (y : Int) (w : World) (e : Ending) (w' : World) : Prop :=
 ∃ u, e = .returned u ∧ RR w' G [tI] y u ∧ (∀ b, b < w.heap.size → w'.heap[b]? = w.heap[b]?) ∧ w.heap.size ≤ w'.heap.size ∧ w'.os = w.os ∧ w'.tape = w.tape ∧ w'.output = w.output
theorem aNg {G : Nat → Prop} {y : Int} {w0 w : World} {a : Act} {D rb : Nat} {e : TypeId} (hd : a.defers = [aMR D]) (hD : w.heap[D]? = some (.deferred (some []))) (h2 : a.tmps.getD 2 undef = .pointer (some ⟨rb, 0, none⟩)) (hc : w.heap[rb]? = some (.cells #[.int .i64 y] e (0, 0)))
 (hb : ∀ b, b < w0.heap.size → w.heap[b]? = w0.heap[b]?) (hDl : w0.heap.size ≤ D) (hsz : w0.heap.size ≤ w.heap.size) (h3 : w.os = w0.os) (h4 : w.tape = w0.tape) (h5 : w.output = w0.output) : LeavesInM Fence.wide 2 Tryz.prog Tryz.f38 a.tmps (aro G y w0) a.defers .returning w := by
 rw [hd]
 have hne : rb ≠ D := fun h => by rw [h, hD] at hc; cases hc
 have ho : ∀ b, b ≠ D → (w.putObj D (.deferred none)).heap[b]? = w.heap[b]? := fun b hb => by
  simp only [World.putObj, Array.getElem?_setIfInBounds]
  rw [if_neg (fun h => hb h.symm)]
 refine ⟨by simp, .inl ⟨D, _, rfl, run_takeDeferred hD, ?_⟩⟩
 refine ⟨.int .i64 y, aPg h2 ((ho rb hne).trans hc), .int .i64 y, rfl, ⟨[.int .i64 y], rfl, rfl⟩, fun b hlt => (ho b (by omega)).trans (hb b hlt), by simpa [World.putObj] using hsz, h3, h4, h5⟩
theorem aT2 (S : St) : ckK .ret S = (aQH S).map .inl := by
 unfold ckK
 cases aQH S <;> rfl
theorem aOp (S : St) : ckK .normal S = if decide (78 ≤ S.t.length) = true then some (.inr ([lk S.t 1, lk S.t 2, lk S.t 48], S.h)) else none := by
 unfold ckK
 cases decide (78 ≤ S.t.length) <;> rfl
theorem af9 [acI] {ρ : Type} {E : Env ρ} (h0 : E.loops = ajf []) {path : List Nat} {fid bid : Nat} {b : Code} : ai7 E path fid bid b := fun m S K r ν a w e => by
 rw [h0] at e
 cases e
def aTw : Code → String
 | .region _ ops _ => ((ops[0]?).map fun o => o.pos).getD ""
 | _ => ""
def rfA : Code → Code
 | .block _ (.rangeFunc _ _ a _) => a
 | _ => .skip
def rfB : Code → Code
 | .block _ (.rangeFunc _ _ _ (.block _ (.seq a _))) => a
 | _ => .skip
def rfC : Code → Code
 | .block _ (.rangeFunc _ _ _ (.block _ (.seq _ (.cond _ (.seq a _) _)))) => a
 | _ => .skip
theorem aT0 : ckRF = Code.block 0 (Code.rangeFunc (.tmp 48) #[49] (aMy (aTw (rfA ckRF))) (aSW (aTw (rfB ckRF)) (aTw (rfC ckRF)))) := by kernel_rfl
theorem aTc : ∀ e ∈ ck_pt, acf Tryz.prog e.1 e.2 := ab0 aBS (ab0 aBR (ab0 aqe (ab0 aBU ab5)))
theorem aQI {e : Exit} {S : St} {n : Int} (h : ckK2 e S = some n) : e = .ret ∧ lk S.t 2 = .box 1 0 ∧ lkB S.h 1 = .cells [.int .i64 n] := by
 unfold ckK2 at h
 split at h
 ·split at h
  ·rename_i h2
   split at h
   ·rename_i h3
    cases h
    exact ⟨rfl, h2, h3⟩
   ·cases h
  ·cases h
 ·cases h
theorem aJI [acI] {ν : Nat → Value} {h : List Blk} {w : World} {n : Int} {id : Nat} (H : HR ν h w) (hl : lkB h id = .cells [.int .i64 n]) : ∃ b e, ν id = .pointer (some ⟨b, 0, none⟩) ∧ w.heap[b]? = some (.cells #[.int .i64 n] e (0, 0)) := by
 have hB := H.blk id
 rw [hl] at hB
 obtain ⟨b, c, e, h1, h2, h3⟩ := hB
 obtain ⟨u, h4, h5⟩ := h3.one
 have h6 : u = .int .i64 n := h5.1
 refine ⟨b, e, h1, ?_⟩
 rw [h2]
 have : c = #[.int .i64 n] := by rw [← Array.toList_inj, h4, h6]
 rw [this]
theorem apA [acI] {ν : Nat → Value} {h : List Blk} {w : World} {id off : Nat} {v : Value} {b : Nat} (hv : VR ν h w (.box id off) v) (hb : ν id = .pointer (some ⟨b, 0, none⟩)) : v = .pointer (some ⟨b, off, none⟩) := by
 obtain ⟨cs, b', h1, h2, h3⟩ := hv
 rw [hb] at h2
 cases h2
 exact h3
theorem aTZ {G : Nat → Prop} {x : Val ab3} {s : Val (.map tI acd)} {y : Int} (hS : ckS x = some y) {ν : Nat → Value} {w0 w6 W : World} {a : Act} {D : Nat} (H : @HR ⟨G, [], none⟩ ν (ckH x s 0) w6) (hb : Below w6.heap.size w6 W) (hD : w6.heap.size ≤ D) (hDo : W.heap[D]? = some (.deferred (some []))) (hd : a.defers = [aMR D]) (hlen : 78 ≤ a.tmps.size)
 (t1 : @VR ⟨G, [], none⟩ ν (ckH x s 0) w6 (.box 0 0) (a.tmps.getD 1 undef)) (t2 : @VR ⟨G, [], none⟩ ν (ckH x s 0) w6 (.box 1 0) (a.tmps.getD 2 undef))
 (h0 : ∀ b, b < w0.heap.size → w6.heap[b]? = w0.heap[b]? ∧ ¬ aMb ν (ckH x s 0) b) (hsz : w0.heap.size ≤ w6.heap.size) (h3 : w6.os = w0.os) (h4 : w6.tape = w0.tape) (h5 : w6.output = w0.output) :
 aED.wpIn Fence.wide 2 Tryz.prog (bodyPostM Fence.wide 2 Tryz.prog Tryz.f38 (aro G y w0)) a W := by
 have hlive : ∀ b, aMb ν (ckH x s 0) b → b < w6.heap.size := fun b hl => @HR.ltA ⟨G, [], none⟩ _ _ _ H b (.inl hl)
 have t1' : ∃ b, ν 0 = .pointer (some ⟨b, 0, none⟩) ∧ a.tmps.getD 1 undef = .pointer (some ⟨b, 0, none⟩) := by
  obtain ⟨cs, b, _, h2, h3⟩ := t1
  exact ⟨b, h2, h3⟩
 have t2' : ∃ b, ν 1 = .pointer (some ⟨b, 0, none⟩) ∧ a.tmps.getD 2 undef = .pointer (some ⟨b, 0, none⟩) := by
  obtain ⟨cs, b, _, h2, h3⟩ := t2
  exact ⟨b, h2, h3⟩
 letI : acI := ⟨G, [aMR D], none⟩
 have H1 : HR ν (ckH x s 0) w6 := HR_ghost H
 have H2 : HR ν (ckH x s 0) W := (H1.grow (fun b hlt => hb.block b hlt) hb.size hb.os hb.tape hb.output 0).2
 have hlib : ayw (aSu Int) := aA5 aTc (aSu Int) rfl rfl rfl rfl rfl (afi rfl)
 have hdraw : ∀ L call, ahA (aSu Int) L call → ahM (aSu Int) L call := asq hmix
 have hl0 : (aSu Int).loops = ajf [] := rfl
 have hcall := aia (.inr fun _ => rfl) hlib hdraw (fun n hn hE path f fn c _ _ _ z _ => af9 hl0) 10 (Nat.le_refl _)
 have hEnv : ahA (aSu Int) 2 (agE (aSu Int) 10) := ⟨.inr (akc 9), hcall, hlib.plain, hlib.clone, hlib.joins⟩
 have law := ck_suf x s
 rw [hS] at law
 have sim : Sim ν { t := [.any, .box 0 0, .box 1 0] ++ List.replicate 75 .any, h := ckH x s 0 } a W := by
  refine ⟨hd, by simpa using hlen, fun i => ?_, H2⟩
  simp only [aA4]
  rcases i with _ | _ | _ | i
  ·trivial
  ·obtain ⟨b, g1, g2⟩ := t1'
   exact ⟨_, b, rfl, g1, g2⟩
  ·obtain ⟨b, g1, g2⟩ := t2'
   exact ⟨_, b, rfl, g1, g2⟩
  ·trivial
 refine wpIn_wide.2 (wpIn_wide.1 (wpIn_mono (ahs hEnv (hdraw _ _ hEnv) rfl aED 0 _ _ ν a W (fun z _ => af9 hl0) law sim (Nat.zero_le _)) fun e a' w' ha => ?_))
 obtain ⟨ν', S', g1, g2, _, _, g5⟩ := ha
 obtain ⟨rfl, k2, k3⟩ := aQI g5
 obtain ⟨rb, te, r1, r2⟩ := aJI g1.heap k3
 have r3 := g1.tmps 2
 rw [k2] at r3
 have r4 := apA r3 r1
 have hDlt := adI hDo
 refine aNg (w := w') (a := a') (G := G) (y := y) (w0 := w0) (D := D) (rb := rb) g1.defers ((g2.keep D hDlt fun hl => by have := hlive D hl; omega).1.trans hDo) r4 r2 (fun b hlt => ?_) (by omega) (by have := g2.size; have := hb.size; omega) (g2.os.trans (hb.os.trans h3)) (g2.tape.trans (hb.tape.trans h4)) (g2.output.trans (hb.output.trans h5))
 have h01 := h0 b hlt
 have hlt6 : b < w6.heap.size := by omega
 have hltW : b < W.heap.size := by have := hb.size; omega
 exact (g2.keep b hltW h01.2).1.trans ((hb.block b hlt6).trans h01.1)
set_option maxHeartbeats 2000000 in
theorem aOq (G : Nat → Prop) (x : Val ab3) (y : Int) (hF' : acM x = some y) (w : World) (vals : List Value) (hG : ∀ b, G b → b < w.heap.size) (hAL : AL w G [ab3] x vals) :
 (∃ fn c, Tryz.prog.funcs[38]? = some fn ∧ fn.body = some c) ∧ CallsIn Fence.wide 0 Tryz.prog 38 vals.toArray w (aro G y w) := by
 rw [aSt] at hF'
 letI : acI := ⟨G, [], none⟩
 have hpt := aTc
 have hlib : ayw (ckE ckR) := aA5 hpt (ckE ckR) rfl rfl rfl rfl rfl (afi rfl)
 have hdraw : ∀ L call, ahA (ckE ckR) L call → ahM (ckE ckR) L call := asq hmix
 have h0 : (ckE ckR).loops = ajf [] := rfl
 have hcall := aia (.inl ⟨rfl, rfl⟩) hlib hdraw (fun n hn hE path f fn c _ _ _ z _ => af9 h0) 10 (Nat.le_refl _)
 have hEnv : ahA (ckE ckR) 2 (agE (ckE ckR) 10) := ⟨.inr (akc 9), hcall, hlib.plain, hlib.clone, hlib.joins⟩
 have hD := hdraw _ _ hEnv
 have H : HR (fun _ => undef) [] w := ⟨fun _ => trivial, fun _ _ _ h => (by cases h), hG, fun _ _ h => (by cases h)⟩
 have hav : ∀ b, Av (fun _ => undef) [] b → G b := fun b hb => hb.elim (fun ⟨_, h, _⟩ => by cases h) id
 have hargs : ade (VR (fun _ => undef) [] w) (adr [ab3] x) vals := AL.VR (hAL.mono hav)
 refine ⟨⟨Tryz.f38, _, Tryz.func38, aTd⟩, ?_⟩
 have hlen : vals.length = 1 := by
  have := hargs.length
  simpa [adr, aQr] using this.symm
 cases hM : ckM x with
 | none => rw [hM] at hF'; cases hF'
 | some r0 =>
 rw [hM] at hF'
 have law := ck_pre x
 rw [hM] at law
 refine callsIn_wide.2 (callsIn_wide.1 (callsIn_of_wp_marks (n := 2) Tryz.func38 aTd trivial ?_ (R := aro G y w)))
 have hS : Sim (fun _ => undef) { t := adr [ab3] x ++ List.replicate 77 .any, h := [] } { tmps := vals.toArray ++ Array.replicate (Tryz.f38.ntmps - vals.toArray.size) undef, defers := [] } w := by
  refine ⟨rfl, ?_, fun i => ?_, H⟩
  ·have : Tryz.f38.ntmps = 78 := by kernel_rfl
   have hl2 : (adr [ab3] x).length = 1 := rfl
   simp [this, hlen, hl2]
  ·simp only [aA4]
   rcases Nat.lt_or_ge i (adr [ab3] x).length with hi | hi
   ·have := ade.lk (R := VR (fun _ => undef) [] w) (fun _ => trivial) i hargs
    have hv : i < vals.length := by rw [← hargs.length]; exact hi
    have h2 : (vals.toArray ++ Array.replicate (Tryz.f38.ntmps - vals.toArray.size) undef).getD i undef = vals.getD i undef := by
     simp [Array.getD_eq_getD_getElem?, Array.getElem?_append, hv]
    rw [h2]; exact this
   ·rw [aPZ _ _ hi]; trivial
 -- the ways out ahead of the loop
 have out : ∀ ν' S' a' w' e, e ≠ .normal → Sim ν' S' a' w' → Ev 0 (fun _ => undef) [] w ν' S'.h w' → ckK e S' = some r0 → bodyPostM Fence.wide 2 Tryz.prog Tryz.f38 (aro G y w) e a' w' := by
  intro ν' S' a' w' e hne hS' hE' hk
  cases e with
  | normal => exact (hne rfl).elim
  | ret =>
    rw [aT2] at hk
    cases hr : aQH S' with
    | none => rw [hr] at hk; cases hk
    | some n =>
      rw [hr, Option.map_some] at hk
      cases hk
      have hyn : n = y := by simpa using hF'
      subst hyn
      unfold aQH at hr
      split at hr
      ·rename_i v hv
       obtain ⟨u, q1, q2⟩ := avd hS' hv
       show LeavesInM _ _ _ _ _ _ a'.defers _ _
       rw [show a'.defers = [] from hS'.defers]
       exact ⟨u, q1, u, rfl, aE0 hS'.heap [tI] q2 hr, fun b hb => (hE'.keep b hb fun ⟨_, h, _⟩ => by cases h).1, hE'.size, hE'.os, hE'.tape, hE'.output⟩
      ·cases hr
  | exit id => cases hk
  | goto l => cases hk
  | panic ch => cases hk
  | outgrown => cases hk
 have outT : ∀ {ν₁ : Nat → Value} {h₁ : List Blk} {w₁ : World}, Ev 0 (fun _ => undef) [] w ν₁ h₁ w₁ → ∀ ν' S' a' w' e, e ≠ .normal → Sim ν' S' a' w' → Ev 0 ν₁ h₁ w₁ ν' S'.h w' → ckK e S' = some r0 → bodyPostM Fence.wide 2 Tryz.prog Tryz.f38 (aro G y w) e a' w' :=
  fun hE ν' S' a' w' e hne hS' hE' hk => out ν' S' a' w' e hne hS' (hE.trans hE' (Nat.le_refl _)) hk
 refine peel rfl hEnv hD rfl rfl (fun z _ => af9 h0) law hS (fun ν1 S1 a1 w1 s1 e1 k1 => ?_) out
 refine peel rfl hEnv hD rfl rfl (fun z _ => af9 h0) k1 s1 (fun ν2 S2 a2 w2 s2 e2 k2 => ?_) (outT e1)
 have t2 := e1.trans e2 (Nat.le_refl _)
 refine peel rfl hEnv hD rfl rfl (fun z _ => af9 h0) k2 s2 (fun ν3 S3 a3 w3 s3 e3 k3 => ?_) (outT t2)
 have t3 := t2.trans e3 (Nat.le_refl _)
 refine peel rfl hEnv hD rfl rfl (fun z _ => af9 h0) k3 s3 (fun ν4 S4 a4 w4 s4 e4 k4 => ?_) (outT t3)
 have t4 := t3.trans e4 (Nat.le_refl _)
 refine peel rfl hEnv hD rfl rfl (fun z _ => af9 h0) k4 s4 (fun ν5 S5 a5 w5 s5 e5 k5 => ?_) (outT t4)
 have t5 := t4.trans e5 (Nat.le_refl _)
 refine wpIn_seq (wpIn_seq (wpIn_wide.2 (wpIn_wide.1 (wpIn_mono (ahs hEnv hD rfl ckA5 0 S5 _ ν5 a5 w5 (fun z _ => af9 h0) k5 s5 (Nat.zero_le _)) fun e' a6 w6 ha => ?_))))
 obtain ⟨ν, S, s6, e6, _, _, k6⟩ := ha
 have t6 := t5.trans e6 (Nat.le_refl _)
 have other : ∀ e, e ≠ .normal → ckK e S = some r0 → Exit.then (Code.wpIn Fence.wide 2 Tryz.prog aED (bodyPostM Fence.wide 2 Tryz.prog Tryz.f38 (aro G y w))) (bodyPostM Fence.wide 2 Tryz.prog Tryz.f38 (aro G y w)) e a6 w6 := by
  intro e hne hk
  have := out ν S a6 w6 e hne s6 t6 hk
  cases e <;> first | exact (hne rfl).elim | exact this
 cases e' with
 | exit id => exact other _ (by simp) k6
 | goto l => exact other _ (by simp) k6
 | ret => exact other _ (by simp) k6
 | panic ch => exact other _ (by simp) k6
 | outgrown => exact other _ (by simp) k6
 | normal =>
 clear other
 rw [aOp] at k6
 split at k6 <;> try (cases k6; done)
 rename_i h78
 have h78' : 78 ≤ S.t.length := by simpa using h78
 cases k6
 obtain ⟨hlens, s, hs, hq⟩ := aT1 hM
 simp only [Prod.mk.injEq, List.cons.injEq, and_true] at hq
 obtain ⟨⟨q1, q2, q48⟩, qh⟩ := hq
 have hF2 : aHY (aiG x s) some (ckS x) = some y := by
  simp only at hF'
  rw [hs] at hF'
  exact hF'
 -- what the errors are
 obtain ⟨L, hL, hLy⟩ : ∃ L, aiG x s = some L ∧ (match L.find? (fun e => e != 0) with | some e => some e | none => ckS x) = some y := by
  unfold aHY at hF2
  cases hl : aiG x s with
  | none => rw [hl] at hF2; cases hF2
  | some L => rw [hl] at hF2; exact ⟨L, rfl, hF2⟩
 obtain ⟨l1, l2, l3, l4, m1, m2, m3, m4, rfl⟩ : ∃ l1 l2 l3 l4, azH (fun u => adJ u.1 u.2 s) (x.2.2.1 : List (Int × Int)) = some l1 ∧ azH (fun i => aeQ x s i) (aod (x.2.2.2.1 : List (Val adD)).length) = some l2 ∧
  azH (fun i => adL x s i) (aod (x.2.2.2.2.1 : List (Val ab9)).length) = some l3 ∧ azH (fun u => adJ u.1 u.2 s) (x.2.2.2.2.2 : List (Int × Int)) = some l4 ∧ L = l1 ++ (l2 ++ (l3 ++ l4)) := by
  unfold aiG at hL
  cases m1 : azH (fun u => adJ u.1 u.2 s) (x.2.2.1 : List (Int × Int)) with
  | none => rw [m1] at hL; cases hL
  | some l1 =>
  rw [m1] at hL
  cases m2 : azH (fun i => aeQ x s i) (aod (x.2.2.2.1 : List (Val adD)).length) with
  | none => simp only [ab2, m2] at hL; cases hL
  | some l2 =>
  cases m3 : azH (fun i => adL x s i) (aod (x.2.2.2.2.1 : List (Val ab9)).length) with
  | none => simp only [ab2, m2, m3] at hL; cases hL
  | some l3 =>
  cases m4 : azH (fun u => adJ u.1 u.2 s) (x.2.2.2.2.2 : List (Int × Int)) with
  | none => simp only [ab2, m2, m3, m4] at hL; cases hL
  | some l4 =>
  simp only [ab2, m2, m3, m4] at hL
  cases hL
  exact ⟨l1, l2, l3, l4, rfl, rfl, rfl, rfl, rfl⟩
 -- the blocks
 obtain ⟨T, Hh⟩ := S
 dsimp only at q1 q2 q48 qh h78'
 subst qh
 have p1 := s6.tmps 1
 have p2 := s6.tmps 2
 have p48 := s6.tmps 48
 dsimp only at p1 p2 p48
 rw [q1] at p1
 rw [q2] at p2
 rw [q48] at p48
 obtain ⟨rb, te1, n1, hrb⟩ := aJI (id := 1) (n := 0) s6.heap rfl
 have hB2 : BR ν (ckH x s 0) w6 2 (.cells (flat ab3 x)) := s6.heap.blk 2
 have hB3 : BR ν (ckH x s 0) w6 3 (.cells [.mp tI acd s]) := s6.heap.blk 3
 have hB4 : BR ν (ckH x s 0) w6 4 (.cells [.fn (.func 163) [] [.box 3 0]]) := s6.heap.blk 4
 obtain ⟨bb, cb, te, n2, hbb, hb2⟩ := hB2
 obtain ⟨sb, cs3, te3, n3, hsb, hb3⟩ := hB3
 obtain ⟨tb, cs4, te2, n4, htb, hb4⟩ := hB4
 obtain ⟨mv, z3, hm3⟩ := hb3.one
 obtain ⟨fv, z4, hm4⟩ := hb4.one
 have hmv : CR w6 noG (.map tI acd) s [mv] := CR.mono (fun _ hf => hf.elim) (show CR w6 (Av ν (ckH x s 0)) (.map tI acd) s [mv] from hm3.1)
 have hc3 : cs3 = #[mv] := by rw [← Array.toList_inj, z3]
 have hfv : fv = .func (.func 163) #[] #[.pointer (some ⟨sb, 0, none⟩)] := by
  obtain ⟨fs, cs, h1, h2, h3⟩ := hm4.1
  have e1 : fs = #[] := by rw [← Array.toList_inj]; exact h2.nil_left
  obtain ⟨u, e2, h4⟩ := h3.one
  have e3 : u = .pointer (some ⟨sb, 0, none⟩) := apA (w := w6) (id := 3) (off := 0) h4 n3
  have e4 : cs = #[.pointer (some ⟨sb, 0, none⟩)] := by rw [← Array.toList_inj, e2, e3]
  rw [h1, e1, e4]
 have hc4 : cs4 = #[fv] := by rw [← Array.toList_inj, z4]
 rw [hc3] at hsb
 rw [hc4, hfv] at htb
 have hg : a6.tmps.getD 48 undef = .func (.func 165) #[] #[.pointer (some ⟨bb, 0, none⟩), .pointer (some ⟨tb, 0, none⟩), .pointer (some ⟨sb, 0, none⟩)] := by
  obtain ⟨fs, cs, h1, h2, h3⟩ := p48
  have e1 : fs = #[] := by rw [← Array.toList_inj]; exact h2.nil_left
  have hl := h3.length
  obtain ⟨u1, u2, u3, e2⟩ : ∃ u1 u2 u3, cs.toList = [u1, u2, u3] := by
   rcases hcs : cs.toList with _ | ⟨u1, _ | ⟨u2, _ | ⟨u3, _ | ⟨u4, t⟩⟩⟩⟩ <;> rw [hcs] at hl <;> simp at hl
   exact ⟨u1, u2, u3, rfl⟩
  rw [e2] at h3
  have e3 : u1 = .pointer (some ⟨bb, 0, none⟩) := apA (w := w6) (id := 2) (off := 0) h3.1 n2
  have e4 : u2 = .pointer (some ⟨tb, 0, none⟩) := apA (w := w6) (id := 4) (off := 0) h3.2.1 n4
  have e5 : u3 = .pointer (some ⟨sb, 0, none⟩) := apA (w := w6) (id := 3) (off := 0) h3.2.2.1 n3
  rw [h1, e1]
  congr 1
  rw [← Array.toList_inj, e2, e3, e4, e5]
 have hseq := aRF m1 m2 m3 m4 hlens hbb (aT7 hb2) htb hsb hmv
 have h2 := apA p2 n1
 have hsz : 78 ≤ a6.tmps.size := Nat.le_trans h78' s6.len
 have hkeep : ∀ b, b < w.heap.size → w6.heap[b]? = w.heap[b]? ∧ ¬ aMb ν (ckH x s 0) b := fun b hb => t6.keep b hb fun ⟨_, h, _⟩ => by cases h
 have hdef : a6.defers = [] := s6.defers
 show ckRF.wpIn Fence.wide 2 Tryz.prog (Exit.then (aED.wpIn Fence.wide 2 Tryz.prog (bodyPostM Fence.wide 2 Tryz.prog Tryz.f38 (aro G y w))) (bodyPostM Fence.wide 2 Tryz.prog Tryz.f38 (aro G y w))) a6 w6
 rw [aT0]
 refine wpIn_block (aTr hseq hg h2 hsz hrb (fun D W hall hbel hDl hDo => ?_) (fun D W z hz hput hDl hDo => ?_))
 ·have hck : ckS x = some y := by
   have : (l1 ++ (l2 ++ (l3 ++ l4))).find? (fun e => e != 0) = none := List.find?_eq_none.2 fun z hz => by rw [hall z hz]; simp
   rw [this] at hLy
   exact hLy
  exact aTZ (s := s) hck s6.heap hbel hDl hDo (by show aMR D :: a6.defers = _; rw [hdef]) hsz p1 p2 hkeep t6.size t6.os t6.tape t6.output
 ·have hzy : z = y := by
   rw [hz] at hLy
   simpa using hLy
  subst hzy
  obtain ⟨te5, hcell⟩ := hput.cell
  have hlb := adI hrb
  have hlive : aMb ν (ckH x s 0) rb := ⟨1, rfl, by rw [n1]; rfl⟩
  exact aNg (a := { a6 with defers := aMR D :: a6.defers }) (w := W) (by show aMR D :: a6.defers = _; rw [hdef]) hDo h2 hcell
   (fun b hb => (hput.block b (by have := t6.size; omega) (fun e => (hkeep b hb).2 (e ▸ hlive))).trans (hkeep b hb).1) (by have := t6.size; omega) (by have := t6.size; have := hput.size; omega) (hput.os.trans t6.os) (hput.tape.trans t6.tape) (hput.output.trans t6.output)
theorem ad3 : acf Tryz.prog 38 adY := fun G x y hF w vals hG hAL => aOq G x y hF w vals hG hAL
end Go.Proofs.ZzM
end
noncomputable section
set_option maxRecDepth 100000
namespace Go.Proofs.ZzM
open Go Go.Am Go.RowKit
abbrev cP : Type := Val (tyL afI)
abbrev cV : Type := Val (tyL ah0)
abbrev cS (p : cP) (v : cV) : St := afT alP afI ah0 p v
abbrev cU (p : cP) (v : cV) (x : Val acd) : St := afT azV afI apR p (arT v x)
theorem aSn (im : List (Int × Bool)) (n : Int) : aiV Tryz.prog [.map tI .bool im] 197 (.omp 0) (.int .i64 n) false some = (match (alI (k := tI) (v := .bool) n im : Option Bool) with | some y => some (.bool y) | none => some (.bool false)) := by kernel_rfl
noncomputable def MapAt (W : World) (mb : Nat) (im : List (Int × Bool)) : Prop := ∃ (entries : Array MapEntry) (clock : Nat), W.heap[mb]? = some (.map entries clock) ∧ entries.size = im.length ∧ ∀ (i : Nat) (e : Int × Bool), im[i]? = some e → ∃ m, entries[i]? = some m ∧ m.key = .int .i64 e.1 ∧ m.val = .bool e.2
noncomputable def axU (im : List (Int × Bool)) (n : Int) : Bool := ((alI (k := tI) (v := .bool) n im : Option Bool)).getD false
theorem aRY {W : World} {mb : Nat} {im : List (Int × Bool)} (h : MapAt W mb im) (n : Int) : (Instr.lookup 197 (.map (some mb)) (.int .i64 n) false).run Tryz.prog W = .ok (.bool (axU im n)) W := by
 letI : acI := ⟨fun _ => False, [], none⟩
 obtain ⟨entries, clock, h1, h2, h3⟩ := h
 have H : HR (fun _ => .map (some mb)) [.map tI .bool im] W := by
  refine ⟨fun id => ?_, fun i j b hi hj _ _ => ?_, fun b hb => hb.elim, fun id b _ _ hb => hb.elim⟩
  ·rcases id with _ | id
   ·refine ⟨mb, entries, clock, rfl, h1, h2, fun i e he => ?_⟩
    obtain ⟨m, q1, q2, q3⟩ := h3 i e he
    exact ⟨m, [.bool e.2], q1, by rw [q2]; rfl, rfl, by rw [q3]; rfl⟩
   ·rw [aEg _ _ (by simp)]; trivial
  ·have one : ∀ i, (lkB [Blk.map tI .bool im] i).live = true → i = 0 := fun i hi => by
    rcases i with _ | i
    ·rfl
    ·rw [aEg _ _ (by simp)] at hi; cases hi
   rw [one i hi, one j hj]
 have hom : VR (fun _ => .map (some mb)) [.map tI .bool im] W (.omp 0) (.map (some mb)) := ⟨rfl, _, _, _, rfl, rfl⟩
 have hk : aiV Tryz.prog [.map tI .bool im] 197 (.omp 0) (.int .i64 n) false some = some (.bool (axU im n)) := by
  rw [aSn]
  unfold axU
  cases (alI (k := tI) (v := .bool) n im : Option Bool) <;> rfl
 obtain ⟨u, q1, q2⟩ := aJv H hk hom (ui := .int .i64 n) rfl
 rw [q1]
 have : u = .bool (axU im n) := q2
 rw [this]
noncomputable def gz (l : List (Val acd)) (j : Nat) : Val acd := l[j]?.getD (0, 0, 0, (0, 0), (0, 0), 0)
theorem aLI {w : World} {av : Nat → Prop} {g : Val acd} {us : List Value} (h : CR w av acd g us) :
 us = [.int .i64 g.1, .int .i64 g.2.1, .int .i64 g.2.2.1, .int .i64 g.2.2.2.1.1, .int .i64 g.2.2.2.1.2, .int .i64 g.2.2.2.2.1.1, .int .i64 g.2.2.2.2.1.2, .int .i64 g.2.2.2.2.2] := by
 obtain ⟨a1, r1, rfl, h1, a2, r2, rfl, h2, a3, r3, rfl, h3, a4, r4, rfl, ⟨b1, b2, rfl, h4, h5⟩, ⟨b3, r5, rfl, ⟨b5, b6, rfl, h6, h7⟩, h8⟩⟩ := h
 have e1 : a1 = [.int .i64 g.1] := h1
 have e2 : a2 = [.int .i64 g.2.1] := h2
 have e3 : a3 = [.int .i64 g.2.2.1] := h3
 have e4 : b1 = [.int .i64 g.2.2.2.1.1] := h4
 have e5 : b2 = [.int .i64 g.2.2.2.1.2] := h5
 have e6 : b5 = [.int .i64 g.2.2.2.2.1.1] := h6
 have e7 : b6 = [.int .i64 g.2.2.2.2.1.2] := h7
 have e8 : r5 = [.int .i64 g.2.2.2.2.2] := h8
 subst e1 e2 e3 e4 e5 e6 e7 e8
 rfl
noncomputable def KNd (w1 : World) (R : Nat → Prop) (tb : Nat) (im : List (Int × Bool)) (W : World) : Prop := w1.heap.size ≤ W.heap.size ∧ (∀ b, R b → W.heap[b]? = w1.heap[b]?) ∧ tb < w1.heap.size ∧ ∃ mb, mb < w1.heap.size ∧ W.cell? ⟨tb, 0, none⟩ = some (.map (some mb)) ∧ MapAt W mb im
theorem KNd.below {w1 W W' : World} {R : Nat → Prop} {tb : Nat} {im : List (Int × Bool)} (hR : ∀ b, R b → b < w1.heap.size) (h : KNd w1 R tb im W) (hz : W.heap.size ≤ W'.heap.size) (hb : ∀ b, b < w1.heap.size → W'.heap[b]? = W.heap[b]?) : KNd w1 R tb im W' := by
 obtain ⟨h1, h2, h3, mb, h4, h5, en, cl, h6, h7, h8⟩ := h
 exact ⟨Nat.le_trans h1 hz, fun b hr => (hb b (hR b hr)).trans (h2 b hr), h3, mb, h4, by rw [World.cell?_of_block (w := W) (hb tb h3)]; exact h5, en, cl, (hb mb h4).trans h6, h7, h8⟩
theorem KNd.grown {w1 W W' : World} {R : Nat → Prop} {tb : Nat} {im : List (Int × Bool)} (hR : ∀ b, R b → b < w1.heap.size) (h : KNd w1 R tb im W) (hg : W.grownBy W' none) : KNd w1 R tb im W' :=
 h.below hR hg.size fun b hb => hg.block b (Nat.lt_of_lt_of_le hb h.1) (by simp)
theorem aJy {f : AV → Bool} (h0 : f .any = true) : ∀ (l : List AV), l.all f = true → ∀ i, f (lk l i) = true
 | [], _, i => by cases i <;> exact h0
 | x :: l, h, 0 => by simp only [List.all_cons, Bool.and_eq_true] at h; exact h.1
 | x :: l, h, i + 1 => by simp only [List.all_cons, Bool.and_eq_true] at h; exact aJy h0 l h.2 i
theorem aGT {f : Blk → Bool} (h0 : f .dead = true) : ∀ (l : List Blk), l.all f = true → ∀ i, f (lkB l i) = true
 | [], _, i => by cases i <;> exact h0
 | x :: l, h, 0 => by simp only [List.all_cons, Bool.and_eq_true] at h; exact h.1
 | x :: l, h, i + 1 => by simp only [List.all_cons, Bool.and_eq_true] at h; exact aGT h0 l h.2 i
theorem cS_mf (p : cP) (v : cV) : (cS p v).h.all mfB = true := by kernel_rfl
theorem cU_mf (p : cP) (v : cV) (x : Val acd) : (cU p v x).h.all mfB = true := by kernel_rfl
theorem cU_mft (p : cP) (v : cV) (x : Val acd) : (cU p v x).t.all mfV3 = true := by kernel_rfl
theorem cR_mf (y : Val ab3) : (afT ajR [] agb () (ag0 y)).h.all mfB = true := by kernel_rfl
theorem cR_mft (y : Val ab3) : (afT ajR [] agb () (ag0 y)).t.all mfV3 = true := by kernel_rfl
noncomputable def pin0 (m : Nat) : AV → Bool
 | .any => true
 | .box id _ => Nat.blt id m
 | _ => false
noncomputable def pin3 (m : Nat) : AV → Bool
 | .fn _ a b => a.all (pin0 m) && b.all (pin0 m)
 | a => pin0 m a
section
variable [acI] {ν ν' : Nat → Value} {h h' : List Blk} {w w' : World} {m : Nat}
theorem VR0.pin (e : Ev m ν h w ν' h' w') {a : AV} {v : Value} (hp : pin0 m a = true) (hv : VR0 ν h w a v) : VR0 ν' h' w' a v := by
 cases a with
 | any => trivial
 | box id off =>
   obtain ⟨cs, b, hl, h1, h2⟩ := hv
   have hlt : id < m := Nat.le_of_ble_eq_true hp
   have hb := e.blk id hlt
   rw [hl] at hb
   obtain ⟨⟨cs', hl'⟩, he⟩ := hb
   exact ⟨cs', b, hl', by rw [he]; exact h1, h2⟩
 | _ => cases hp
theorem VR.pin (e : Ev m ν h w ν' h' w') {a : AV} {v : Value} (hp : pin3 m a = true) (hv : VR ν h w a v) : VR ν' h' w' a v := by
 cases a with
 | fn f fa fb =>
   obtain ⟨fs, cs, h1, h2, h3⟩ := hv
   simp only [pin3, Bool.and_eq_true, List.all_eq_true] at hp
   exact ⟨fs, cs, h1, h2.mem fun a ha _ => VR0.pin e (hp.1 a ha), h3.mem fun a ha _ => VR0.pin e (hp.2 a ha)⟩
 | any => trivial
 | box id off => exact VR0.pin (a := .box id off) e (show pin0 m (.box id off) = true from hp) hv
 | _ => cases hp
end
theorem aTe (p : cP) (v : cV) : (cS p v).t.all (pin3 9) = true := by kernel_rfl
theorem cS_len (p : cP) (v : cV) : (cS p v).h.length = 10 := by kernel_rfl
theorem cU_len (p : cP) (v : cV) (x : Val acd) : (cU p v x).h.length = 11 := by kernel_rfl
theorem cS_t (p : cP) (v : cV) (z : List (Val acd)) : (cS p (adj v z)).t = (cS p v).t := by kernel_rfl
theorem cS_5 (p : cP) (v : cV) : ∃ a b us lo co ko, lkB (cS p v).h 5 = .cells [.int .i64 a, .int .i64 b, .slc acd (acG v), .slc ab1 us, .slc adD lo, .slc ab9 co, .slc ab1 ko] := ⟨_, _, _, _, _, _, rfl⟩
theorem cS_6 (p : cP) (v : cV) : lkB (cS p v).h 6 = .cells [.omp 7] := by kernel_rfl
theorem cS_7 (p : cP) (v : cV) : lkB (cS p v).h 7 = .map tI .bool (ad5 v) := by kernel_rfl
theorem cS_59 (p : cP) (v : cV) : lk (cS p v).t 59 = .fn (.func 218) [] [.box 5 0, .box 6 0] := by kernel_rfl
noncomputable def aJG : Blk → Bool
 | .map _ _ _ => true
 | _ => false
theorem aL4 (p : cP) (v : cV) : (cS p v).h.map aJG = [false, false, false, false, false, false, false, true, true, false] := by kernel_rfl
theorem aT4 (p : cP) (v : cV) (x : Val acd) : (cU p v x).h.map aJG = [false, false, false, false, false, false, false, true, true, false, false] := by kernel_rfl
theorem awh : ∀ (l : List Blk) (i : Nat), aJG (lkB l i) = true → (l.map aJG)[i]? = some true
 | [], i, h => by cases i <;> cases h
 | x :: l, 0, h => by have : aJG x = true := h; simp [this]
 | x :: l, i + 1, h => by simpa using awh l i h
theorem aMS {l : List Blk} {t : List Bool} (hl : l.map aJG = [false, false, false, false, false, false, false, true, true] ++ t) (ht : ∀ b ∈ t, b = false) {id : Nat} {k u : Ty} {es : List (Val k × Val u)} (h : lkB l id = .map k u es) : id = 7 ∨ id = 8 := by
 have := awh l id (by rw [h]; rfl)
 rw [hl] at this
 rcases id with _ | _ | _ | _ | _ | _ | _ | _ | _ | id <;> simp at this ⊢
 have := ht _ (List.mem_of_getElem? this)
 cases this
noncomputable def aS8 {ρ : Type} : List (Val acd) → Option ρ → Option ρ
 | [], x => x
 | _ :: _, _ => none
theorem aLR {ρ : Type} {l : List (Val acd)} {x : Option ρ} {r : ρ} (h : aS8 l x = some r) : l = [] ∧ x = some r := by
 cases l with
 | nil => exact ⟨rfl, h⟩
 | cons => cases h
noncomputable def cutK (p : cP) (v : cV) : Option (Val ab3) := aS8 (amH v) (ab2 (ap2 (acG v) (ad5 v)) fun z => aiy p (adj v z) some)
theorem aP6 {l : List (Val acd)} {im : List (Int × Bool)} {z : List (Val acd)} (h : ap2 l im = some z) : acK l.length = true ∧ z = (aB8 (fun j => axU im (gz l j).1) l.length).map (gz l) := by
 unfold ap2 at h
 simp only [acO] at h
 split at h
 ·rename_i ho
  cases h
  refine ⟨ho, ?_⟩
  have key : ∀ (n : Nat), n ≤ l.length → (l.take n).filter (fun g => ((alI (k := tI) (v := .bool) g.1 im : Option Bool)).getD false) = (aB8 (fun j => axU im (gz l j).1) n).map (gz l) := by
   intro n
   induction n with
   | zero => intro _; rfl
   | succ n ih =>
     intro hn
     have hg : l[n]? = some (gz l n) := by simp [gz, List.getElem?_eq_getElem (show n < l.length from hn)]
     rw [List.take_succ, List.filter_append, ih (by omega), asC, hg]
     have : ((alI (k := tI) (v := .bool) (gz l n).1 im : Option Bool)).getD false = axU im (gz l n).1 := rfl
     simp only [Option.toList_some, List.filter_cons, List.filter_nil, this]
     split <;> simp
  have := key l.length (Nat.le_refl _)
  rwa [List.take_length] at this
 ·cases h
theorem aRM {n m : Nat} (h : acK n = true) (hm : m ≤ n) : acK m = true := by
 unfold acK at h ⊢
 simp only [Bool.and_eq_true, decide_eq_true_eq] at h ⊢
 first | omega | (constructor <;> omega)
theorem aNu {G : Nat → Prop} {D D' : List Deferred} {Q Q' : Option Nat} {ν : Nat → Value} {h : List Blk} {w : World} {a : AV} {v : Value} (hv : @VR ⟨G, D, Q⟩ ν h w a v) : @VR ⟨G, D', Q'⟩ ν h w a v := hv
theorem apQ [acI] {ν2 ν' : Nat → Value} {h1 h' : List Blk} {w1 W : World} (H1 : HR ν2 h1 w1) (ev : Ev 9 ν2 h1 w1 ν' h' W) (hl1 : ∀ id, id = 7 ∨ id = 8 → ∃ k u es, lkB h1 id = .map k u es)
 {t : List Bool} (hl : h'.map aJG = [false, false, false, false, false, false, false, true, true] ++ t) (ht : ∀ b ∈ t, b = false) : aRe w1.heap.size ν' h' := by
 intro id k u es b hm hν
 have h9 : id < 9 := by rcases aMS hl ht hm with rfl | rfl <;> omega
 obtain ⟨k1, u1, es1, h7⟩ := hl1 id (aMS hl ht hm)
 have hb := ev.blk id h9
 rw [h7] at hb
 obtain ⟨_, he⟩ := hb
 have hB := H1.blk id
 rw [h7] at hB
 obtain ⟨b0, _, _, q1, q2, _⟩ := hB
 rw [he, q1] at hν
 cases hν
 exact adI q2
theorem aSH (p : cP) (v : cV) : ∀ id, id = 7 ∨ id = 8 → ∃ k u es, lkB (cS p v).h id = .map k u es := by
 rintro id (rfl | rfl)
 ·exact ⟨_, _, _, rfl⟩
 ·exact ⟨_, _, _, rfl⟩
noncomputable def CI (G : Nat → Prop) (p : cP) (v : cV) (ν2 : Nat → Value) (w1 : World) (pre : List Nat) (W : World) : Prop :=
 ∃ ν', @HR ⟨G, [], none⟩ ν' (cS p (adj v (pre.map (gz (acG v))))).h W ∧ Ev 9 ν2 (cS p v).h w1 ν' (cS p (adj v (pre.map (gz (acG v))))).h W
theorem CI.own {G : Nat → Prop} {p : cP} {v : cV} {ν2 : Nat → Value} {w1 : World} (H1 : @HR ⟨G, [], none⟩ ν2 (cS p v).h w1) : OwnFrom w1.heap.size (CI G p v ν2 w1) := by
 intro pre W W' row hI hg hr
 letI : acI := ⟨G, [], none⟩
 obtain ⟨ν', H, ev⟩ := hI
 have hml := apQ H1 ev (aSH p v) (aL4 _ _) (t := [false]) (by simp)
 refine ⟨ν', H.ckeep (aBI hg hr) (fun id k u es b hl hν => ?_) (aGT rfl _ (cS_mf _ _)), ev.own hg fun r e => (hr r e).1⟩
 have hb := hml id k u es b hl hν
 exact hg.block b (Nat.lt_of_lt_of_le hb ev.size) fun e => by have := (hr b e.symm).1; omega
theorem CI.nd {G : Nat → Prop} {p : cP} {v : cV} {ν2 : Nat → Value} {w1 W : World} {pre : List Nat} {R : Nat → Prop} {tb : Nat} (H1 : @HR ⟨G, [], none⟩ ν2 (cS p v).h w1) (hR : ∀ b, R b → b < w1.heap.size ∧ ¬ aMb ν2 (cS p v).h b) (htb : ν2 6 = .pointer (some ⟨tb, 0, none⟩)) (hI : CI G p v ν2 w1 pre W) : KNd w1 R tb (ad5 v) W := by
 letI : acI := ⟨G, [], none⟩
 obtain ⟨ν', H, ev⟩ := hI
 have h6 := H1.blk 6
 rw [cS_6] at h6
 obtain ⟨b6, _, _, q1, q2, _⟩ := h6
 rw [htb] at q1
 cases q1
 have h7 := H1.blk 7
 rw [cS_7] at h7
 obtain ⟨mb, _, _, r1, r2, _⟩ := h7
 have e6 := ev.blk 6 (by omega)
 rw [cS_6] at e6
 have e7 := ev.blk 7 (by omega)
 rw [cS_7] at e7
 have k6 := H.blk 6
 rw [show lkB (cS p (adj v (pre.map (gz (acG v))))).h 6 = .cells [.omp 7] from cS_6 _ _] at k6
 obtain ⟨b, c, e, s1, s2, s3⟩ := k6
 rw [e6.2, htb] at s1
 cases s1
 obtain ⟨mv, s4, s5⟩ := s3.one
 obtain ⟨_, k, u, es, _, s6⟩ := s5.1
 have k7 := H.blk 7
 rw [show lkB (cS p (adj v (pre.map (gz (acG v))))).h 7 = .map tI .bool (ad5 v) from cS_7 _ _] at k7
 obtain ⟨mb', en, cl, t1, t2, t3, t4⟩ := k7
 have e1 : mv = .map (some mb') := s6.trans t1
 have e2 : mb' = mb := by rw [e7.2, r1] at t1; cases t1; rfl
 subst e2
 refine ⟨ev.size, fun b hb => (ev.keep b (hR b hb).1 (hR b hb).2).1, adI q2, mb', adI r2, ?_, en, cl, t2, t3, fun i x hx => ?_⟩
 ·have hc : c = #[mv] := by rw [← Array.toList_inj, s4]
  rw [hc, e1] at s2
  simp [World.cell?, s2]
 ·obtain ⟨m, us, u1, u2, u3, u4⟩ := t4 i x hx
  have v1 : [m.key] = [.int .i64 x.1] := u2
  have v2 : us = [.bool x.2] := u3
  refine ⟨m, u1, by simpa using v1, ?_⟩
  rw [u4, v2]
  rfl
theorem aOl : drawn (Am.rfA (Am.rfC 7 adk)) = false := by kernel_rfl
theorem aOk : drawn (Am.rfB (Am.rfC 7 adk)) = false := by kernel_rfl
theorem aOj : acz 4 (Am.rfA (Am.rfC 7 adk)) = [] := by kernel_rfl
theorem aOi : acz 4 (Am.rfB (Am.rfC 7 adk)) = [] := by kernel_rfl
theorem aHa [acI] (ρ : Type) : ahA (adg ρ) 2 (agE (adg ρ) 10) := by
 have hlib : ayw (adg ρ) := aA5 azU (adg ρ) rfl rfl rfl rfl rfl (afi rfl)
 have hdraw : ∀ L call, ahA (adg ρ) L call → ahM (adg ρ) L call := asq hmix
 have hcall := aia (.inr fun _ => rfl) hlib hdraw (fun n hn hE path f fn c hp hf hc => auy (tab := aky ρ) rfl aw7 hn hE (hdraw _ _ hE) hp hf hc) 10 (Nat.le_refl _)
 exact ⟨.inr (akc 9), hcall, hlib.plain, hlib.clone, hlib.joins⟩
theorem aQD {G : Nat → Prop} {p : cP} {v : cV} {ν2 : Nat → Value} {a : Act} {w1 : World} (H1 : @Sim ⟨G, [], none⟩ ν2 (cS p v) a w1) (l : Nat) (pre : List Nat) (x : Nat) (W : World) (hl : w1.heap.size ≤ l) (hI : CI G p v ν2 w1 pre W) (hok : acK (pre.length + 1) = true) {u : Value} (hu : ∀ [acI] (ν : Nat → Value) (h : List Blk) (w : World), VR ν h w (.agg (flat acd (gz (acG v) x))) u) :
 (Am.rfA (Am.rfC 7 adk)).wpIn (Fence.wide.inRound l) 0 Tryz.prog (Exit.then (fun a' Wa => KeepsFrom w1.heap.size W Wa ∧ ∀ r', (∃ r, Wa.heap[l]? = some (.loop r)) →
  (Am.rfB (Am.rfC 7 adk)).wpIn (Fence.wide.inRound l) 0 Tryz.prog (Exit.then (fun _ W3 => KeepsFrom w1.heap.size (Wa.putObj l (.loop r')) W3 ∧ CI G p v ν2 w1 (pre ++ [x]) W3) (fun _ _ _ => False)) a' (Wa.putObj l (.loop r'))) (fun _ _ _ => False)) { tmps := a.tmps.setIfInBounds 60 u, defers := [] } W := by
 letI : acI := ⟨G, [], some l⟩
 have H1h : HR ν2 (cS p v).h w1 := HR_ghost (@Sim.heap ⟨G, [], none⟩ _ _ _ _ H1)
 obtain ⟨ν', H0, ev⟩ := hI
 have H : HR ν' (cS p (adj v (pre.map (gz (acG v))))).h W := HR_ghost H0
 obtain ⟨v', hv'⟩ : ∃ v', v' = adj v (pre.map (gz (acG v))) := ⟨_, rfl⟩
 rw [← hv'] at H ev
 have ht : (cS p v').t = (cS p v).t := by rw [hv']; exact cS_t _ _ _
 have hml := apQ H1h ev (aSH p v) (aL4 _ _) (t := [false]) (by simp)
 have simA : Sim ν' (cS p v') { tmps := a.tmps, defers := [] } W := by
  refine ⟨rfl, ?_, fun i => ?_, H⟩
  ·rw [ht]; show _ ≤ a.tmps.size; exact @Sim.len ⟨G, [], none⟩ _ _ _ _ H1
  ·rw [ht]; exact VR.pin ev (aJy rfl _ (aTe p v) i) (aNu (@Sim.tmps ⟨G, [], none⟩ _ _ _ _ H1 i))
 have sim0 := simA.put (Ev.refl _ _ _ _) H (some 60) (hu ν' _ W)
 have hEnv := aHa (cP × Val (tyL apR))
 have hgo := awo hEnv (path := []) rfl (Am.rfA (Am.rfC 7 adk)) 4 _ _ ν' _ W (fun h => by rw [aOl] at h; cases h) (fun z hz => by rw [aOj] at hz; cases hz) (aNX p v' (gz (acG v) x) fun p u => some (p, u)) sim0 (Nat.le_trans (show 9 ≤ 10 by decide) (Nat.le_of_eq (cS_len p v').symm))
 refine wpIn_mono hgo fun e a' Wa ha => ?_
 obtain ⟨νa, Sa, sA, evA, lenA, ddA, kA⟩ := ha
 obtain ⟨rfl, p', u', hm', hk'⟩ := asX kA
 cases hk'
 obtain ⟨νb, sB, evB, lB, dB⟩ := asU _ _ _ _ _ _ _ νa a' Wa hm' sA
 have evAB : Ev 9 ν' (cS p v').h W νb (cU p v' (gz (acG v) x)).h Wa := evA.trans evB (Nat.le_refl _)
 have evT := ev.trans evAB (Nat.le_refl _)
 have hmu := apQ H1h evT (aSH p v) (aT4 _ _ _) (t := [false, false]) (by simp)
 refine ⟨axH H hml evAB, fun r' ⟨r, hr⟩ => ?_⟩
 have hlt : l < Wa.heap.size := adI hr
 have K : aeS Wa (Wa.putObj l (.loop r')) := ⟨by simp [World.putObj], fun b c e q hb => by
  rw [World.putObj_heap_other (fun e' => by subst e'; rw [hr] at hb; cases hb)]; exact hb⟩
 have sC : Sim νb (cU p v' (gz (acG v) x)) a' (Wa.putObj l (.loop r')) := sB.ckeep K (fun id k q es b hb hν => World.putObj_heap_other (by have := hmu id k q es b hb hν; omega)) (aGT rfl _ (cU_mf _ _ _)) (aJy rfl _ (cU_mft _ _ _))
 have evO : Ev 9 ν2 (cS p v).h w1 νb (cU p v' (gz (acG v) x)).h (Wa.putObj l (.loop r')) := evT.own (grownBy_putObj' Wa l _) fun q e => by cases e; exact hl
 have hEnv2 := aHa (cP × cV)
 have law := aNW p v' (gz (acG v) x) fun p v => some (p, v)
 have hrow : amH v' = pre.map (gz (acG v)) := by rw [hv']; rfl
 rw [hrow] at law
 simp only [List.length_map, List.length_cons, List.length_nil, Nat.zero_add, hok, acO] at law
 have hgo2 := awo hEnv2 (path := []) rfl (Am.rfB (Am.rfC 7 adk)) 4 _ _ νb _ _ (fun h => by rw [aOk] at h; cases h) (fun z hz => by rw [aOi] at hz; cases hz) law sC (Nat.le_trans (show 9 ≤ 11 by decide) (Nat.le_of_eq (cU_len p v' (gz (acG v) x)).symm))
 refine wpIn_mono hgo2 fun e a3 W3 hb => ?_
 obtain ⟨νc, Sc, sD, evC, lenC, ddC, kC⟩ := hb
 obtain ⟨rfl, p', u', hm', hk'⟩ := asX kC
 cases hk'
 obtain ⟨νd, sE, evD, lD, dD⟩ := asU _ _ _ _ _ _ _ νc a3 W3 hm' sD
 have evCD := evC.trans evD (Nat.le_refl _)
 refine ⟨axH sC.heap hmu evCD, νd, ?_⟩
 have hput : adj v' (pre.map (gz (acG v)) ++ [gz (acG v) x]) = adj v ((pre ++ [x]).map (gz (acG v))) := by
  rw [hv', List.map_append]; rfl
 rw [← hput]
 exact ⟨HR_ghost sE.heap, evO.trans evCD (Nat.le_refl _)⟩
noncomputable def aMd (G : Nat → Prop) (y : Val ab3) (w : World) (e : Ending) (w' : World) : Prop :=
 ∃ u, e = .returned u ∧ RR w' G [ab3] y u ∧ (∀ b, b < w.heap.size → w'.heap[b]? = w.heap[b]?) ∧ w.heap.size ≤ w'.heap.size ∧ w'.os = w.os ∧ w'.tape = w.tape ∧ w'.output = w.output
noncomputable def aLS (u : Val (tyL agb)) : Val ab3 := ((u.1, u.2.1), u.2.2.1, u.2.2.2.1, u.2.2.2.2.1, u.2.2.2.2.2.1, u.2.2.2.2.2.2)
theorem aSp (p : cP) (v : cV) : aiy p v (fun y => (fun u => some (aLS u)) (ag0 y)) = aiy p v some := by kernel_rfl
theorem aQC (u : Val (tyL agb)) : ag0 (aLS u) = u := by kernel_rfl
theorem aT5 (y : Val ab3) : (afT ajR [] agb () (ag0 y)).h.map aJG = [false] := by kernel_rfl
theorem aSm {G : Nat → Prop} {p : cP} {v : cV} {y : Val ab3} {ν : Nat → Value} {a : Act} {w0 W : World} {D : Nat} (H : @Sim ⟨G, [], none⟩ ν (cS p v) a W) (hB : aiy p v some = some y) (hD : W.heap[D]? = some (.deferred (some []))) (hnl : ¬ aMb ν (cS p v).h D)
 (hev : Ev 0 (fun _ => undef) [] w0 ν (cS p v).h W) (hDl : w0.heap.size ≤ D) :
 (Am.postC 7 adk).wpIn Fence.wide 2 Tryz.prog (bodyPostM Fence.wide 2 Tryz.prog Tryz.f79 (aMd G y w0)) { a with defers := aMR D :: a.defers } W := by
 have hdf : a.defers = [] := @Sim.defers ⟨G, [], none⟩ _ _ _ _ H
 letI : acI := ⟨G, [aMR D], none⟩
 have sim : Sim ν (cS p v) { a with defers := aMR D :: a.defers } W := ⟨by show aMR D :: a.defers = [aMR D]; rw [hdf], (show _ ≤ a.tmps.size from @Sim.len ⟨G, [], none⟩ _ _ _ _ H), fun i => aNu (@Sim.tmps ⟨G, [], none⟩ _ _ _ _ H i), HR_ghost (@Sim.heap ⟨G, [], none⟩ _ _ _ _ H)⟩
 have hEnv := aHa (Val ab3)
 have hdraw : ∀ L call, ahA (adg (Val ab3)) L call → ahM (adg (Val ab3)) L call := asq hmix
 have law := aIH p v fun u => some (aLS u)
 rw [aSp, hB] at law
 have hL : ∀ z ∈ acz 0 (Am.postC 7 adk), ai7 (adg (Val ab3)) [] 79 z.1 z.2 := fun z hz =>
  auy (E := adg (Val ab3)) (tab := aky _) rfl aw7 (n := 10) (Nat.le_refl _) hEnv (hdraw _ _ hEnv) rfl Tryz.func79 akz z (aMT 7 adk 0 atl hz)
 have hgo := ahs hEnv (hdraw _ _ hEnv) rfl (Am.postC 7 adk) 0 _ _ ν _ W hL law sim (Nat.zero_le _)
 rw [auK rfl] at hgo
 refine wpIn_wide.2 (wpIn_wide.1 (wpIn_mono hgo fun e a' W' ha => ?_))
 obtain ⟨νa, Sa, sA, evA, _, _, kA⟩ := ha
 obtain ⟨rfl, u, hm, hk⟩ := aPK kA
 cases hk
 obtain ⟨νb, sB, evB, _, _⟩ := asU _ _ _ _ _ _ _ νa a' W' hm sA
 have hu : afT ajR [] agb () u = afT ajR [] agb () (ag0 (aLS u)) := by rw [aQC]
 rw [hu] at sB evB
 have evT := (evA.trans evB (Nat.le_refl _))
 have hD' : W'.heap[D]? = some (.deferred (some [])) := (evT.keep D (adI hD) hnl).1.trans hD
 have hd' : a'.defers = [aMR D] := sB.defers
 show LeavesInM _ _ _ _ _ _ a'.defers _ _
 rw [hd']
 refine ⟨by simp, .inl ⟨D, _, rfl, run_takeDeferred hD', ?_⟩⟩
 have hlt := adI hD'
 have K : aeS W' (W'.putObj D (.deferred none)) := ⟨by simp [World.putObj], fun b c e q hb => by
  rw [World.putObj_heap_other (fun e' => by subst e'; rw [hD'] at hb; cases hb)]; exact hb⟩
 have sC := sB.ckeep K (fun id k q es b hb hν => by
  have := awh _ id (by rw [hb]; rfl)
  rw [aT5] at this
  rcases id with _ | id <;> simp at this) (aGT rfl _ (cR_mf _)) (aJy rfl _ (cR_mft _))
 obtain ⟨uu, q1, q2⟩ := avd sC (aK6 (aLS u))
 have hall := hev.trans evT (Nat.le_refl _)
 refine ⟨uu, q1, uu, rfl, aE0 sC.heap [ab3] q2 (show adB [ab3] _ (enc ab3 (aLS u)) = some (aLS u) from rfl), fun b hb => ?_, ?_, hall.os, hall.tape, hall.output⟩
 ·rw [World.putObj_heap_other (by omega)]
  exact (hall.keep b hb fun ⟨_, h, _⟩ => by cases h).1
 ·have := hall.size
  simpa [World.putObj] using this
theorem aSq (x : Val (.pair ab3 (.pair (.slice ab1) (.slice ab1)))) : atm x.1 x.2.1 x.2.2 cutK = ajG.F x := by kernel_rfl
noncomputable def encG (g : Val acd) : Value := .agg #[.int .i64 g.1, .int .i64 g.2.1, .int .i64 g.2.2.1, .int .i64 g.2.2.2.1.1, .int .i64 g.2.2.2.1.2, .int .i64 g.2.2.2.2.1.1, .int .i64 g.2.2.2.2.1.2, .int .i64 g.2.2.2.2.2]
theorem aTU [acI] (g : Val acd) (ν : Nat → Value) (h : List Blk) (w : World) : VR ν h w (.agg (flat acd g)) (encG g) :=
 ⟨_, rfl, ⟨rfl, rfl⟩, ⟨rfl, rfl⟩, ⟨rfl, rfl⟩, ⟨rfl, rfl⟩, ⟨rfl, rfl⟩, ⟨rfl, rfl⟩, ⟨rfl, rfl⟩, ⟨rfl, rfl⟩, trivial⟩
theorem aSo (G : Nat → Prop) (x : Val (tyL ajG.ts)) (y : Val ab3) (hF : ajG.F x = some y) (w : World) (vals : List Value) (hG : ∀ b, G b → b < w.heap.size) (hAL : AL w G ajG.ts x vals) :
 (∃ fn c, Tryz.prog.funcs[79]? = some fn ∧ fn.body = some c) ∧ CallsIn Fence.wide 0 Tryz.prog 79 vals.toArray w (aMd G y w) := by
 letI : acI := ⟨G, [], none⟩
 have hlib : ayw (aex (Val ab3)) := aA5 azU _ rfl rfl rfl rfl rfl (afi rfl)
 have hdraw : ∀ L call, ahA (aex (Val ab3)) L call → ahM (aex (Val ab3)) L call := asq hmix
 have hloops : aMa (aex (Val ab3)) := fun n hn hE hD path f fn c hp hf hc => auy (tab := arS _) rfl aK8 hn hE hD hp hf hc
 have hcall := aia (.inl ⟨rfl, rfl⟩) hlib hdraw (fun n hn hE => hloops n hn hE (hdraw _ _ hE)) 10 (Nat.le_refl _)
 have hEnv : ahA (aex (Val ab3)) 2 (agE (aex (Val ab3)) 10) := ⟨.inr (akc 9), hcall, hlib.plain, hlib.clone, hlib.joins⟩
 have H : HR (fun _ => undef) [] w := ⟨fun _ => trivial, fun _ _ _ h => (by cases h), hG, fun _ _ h => (by cases h)⟩
 have hav : ∀ b, Av (fun _ => undef) [] b → G b := fun b hb => hb.elim (fun ⟨_, h, _⟩ => by cases h) id
 have hargs : ade (VR (fun _ => undef) [] w) (adr ajG.ts x) vals := AL.VR (hAL.mono hav)
 refine ⟨⟨Tryz.f79, _, Tryz.func79, akz⟩, ?_⟩
 have hlen : vals.length = 3 := hargs.length.symm
 refine callsIn_wide.2 (callsIn_wide.1 (callsIn_of_wp_marks (n := 2) Tryz.func79 akz trivial ?_ (R := aMd G y w)))
 have hS : Sim (fun _ => undef) { t := adr ajG.ts x ++ List.replicate 127 .any, h := [] } { tmps := vals.toArray ++ Array.replicate (Tryz.f79.ntmps - vals.toArray.size) undef, defers := [] } w := by
  refine ⟨rfl, ?_, fun i => ?_, H⟩
  ·have : Tryz.f79.ntmps = 130 := by kernel_rfl
   have hl2 : (adr ajG.ts x).length = 3 := rfl
   simp [this, hlen, hl2]
  ·simp only [aA4]
   rcases Nat.lt_or_ge i (adr ajG.ts x).length with hi | hi
   ·have := ade.lk (R := VR (fun _ => undef) [] w) (fun _ => trivial) i hargs
    have hv : i < vals.length := by rw [← hargs.length]; exact hi
    have h2 : (vals.toArray ++ Array.replicate (Tryz.f79.ntmps - vals.toArray.size) undef).getD i undef = vals.getD i undef := by
     simp [Array.getD_eq_getD_getElem?, Array.getElem?_append, hv]
    rw [h2]; exact this
   ·rw [aPZ _ _ hi]; trivial
 have law := (aK7 x cutK).trans ((aSq x).trans hF)
 refine peelN rfl hEnv (hdraw _ _ hEnv) rfl (path := []) rfl (fun e S hne h => hne (asX h).1) 7 adk _ _ _ _ atl (fun z hz => hloops 10 (Nat.le_refl _) hEnv (hdraw _ _ hEnv) [] 79 Tryz.f79 adk rfl Tryz.func79 akz z hz) law hS (fun ν1 S1 a1 w1 s1 e1 k1 => ?_)
 obtain ⟨_, p, v, hm, hk⟩ := asX k1
 obtain ⟨hrow, hk⟩ := aLR hk
 cases hz : ap2 (acG v) (ad5 v) with
 | none => rw [hz] at hk; cases hk
 | some z =>
 rw [hz] at hk
 have hB : aiy p (adj v z) some = some y := hk
 obtain ⟨hzl, hzs⟩ := aP6 hz
 obtain ⟨ν2, s2, e2, _, _⟩ := asU _ _ _ _ _ _ _ ν1 a1 w1 hm s1
 have evw := e1.trans e2 (Nat.le_refl _)
 have hv0 : adj v [] = v := by rw [← hrow]; rfl
 have s2' : Sim ν2 (cS p v) a1 w1 := s2
 -- the blocks
 obtain ⟨fa, fb, us, lo, co, ko, h5⟩ := cS_5 p v
 have hB5 := s2'.heap.blk 5
 rw [h5] at hB5
 obtain ⟨bb, cb, te, n5, hbb, hc5⟩ := hB5
 have hB6 := s2'.heap.blk 6
 rw [cS_6] at hB6
 obtain ⟨tb, ct, tt, n6, htb, hc6⟩ := hB6
 have hl5 := hc5.length
 obtain ⟨u1, u2, u3, u4, u5, u6, u7, hcb⟩ : ∃ u1 u2 u3 u4 u5 u6 u7, cb.toList = [u1, u2, u3, u4, u5, u6, u7] := by
  rcases hcs : cb.toList with _ | ⟨u1, _ | ⟨u2, _ | ⟨u3, _ | ⟨u4, _ | ⟨u5, _ | ⟨u6, _ | ⟨u7, _ | ⟨u8, t⟩⟩⟩⟩⟩⟩⟩⟩ <;> rw [hcs] at hl5 <;> simp at hl5
  exact ⟨u1, u2, u3, u4, u5, u6, u7, rfl⟩
 rw [hcb] at hc5
 obtain ⟨_, _, hc3, _⟩ := hc5
 have hg3 : CR w1 (Av ν2 (cS p v).h) (.slice acd) (acG v) [u3] := hc3.1
 obtain ⟨base, cap, eu3, hcap, hgl⟩ := hg3
 have eu3 : u3 = .slice base (acG v).length cap := by simpa using eu3
 obtain ⟨gb, go, hgb⟩ : ∃ gb go, 0 < (acG v).length → base = some ⟨gb, go, none⟩ ∧ ¬ Av ν2 (cS p v).h gb ∧ gb < w1.heap.size ∧ ∀ (i : Nat) (g : Val acd), (acG v)[i]? = some g → ∃ us, CR w1 (Av ν2 (cS p v).h) acd g us ∧ adO w1 gb (go + i * 8) us := by
  rcases hgl with hgl | ⟨gb, go, q1, q2, q3, q4⟩
  ·exact ⟨0, 0, fun h => by rw [show (acG v) = [] from hgl] at h; simp at h⟩
  ·exact ⟨gb, go, fun _ => ⟨q1, q2, q3, q4⟩⟩
 obtain ⟨gl, hgle⟩ : ∃ gl, gl = acG v := ⟨_, rfl⟩
 rw [← hgle] at hgb eu3
 have hR : ∀ b, (0 < gl.length ∧ b = gb) → b < w1.heap.size ∧ ¬ aMb ν2 (cS p v).h b := fun b ⟨h, e⟩ => by subst e; obtain ⟨_, q2, q3, _⟩ := hgb h; exact ⟨q3, fun hl => q2 (.inl hl)⟩
 have hnd : ∀ pre W, CI G p v ν2 w1 pre W → KNd w1 (fun b => 0 < gl.length ∧ b = gb) tb (ad5 v) W := fun pre W hI => hI.nd s2'.heap hR n6
 have hI0 : CI G p v ν2 w1 [] w1 := by
  refine ⟨ν2, ?_, ?_⟩
  ·rw [show adj v (([] : List Nat).map (gz (acG v))) = v from hv0]; exact s2'.heap
  ·rw [show adj v (([] : List Nat).map (gz (acG v))) = v from hv0]; exact Ev.refl _ _ _ _
 have hp59 := s2'.tmps 59
 rw [cS_59] at hp59
 have hg : a1.tmps.getD 59 undef = .func (.func 218) #[] #[.pointer (some ⟨bb, 0, none⟩), .pointer (some ⟨tb, 0, none⟩)] := by
  obtain ⟨fs, cs, h1, h2, h3⟩ := hp59
  have e1 : fs = #[] := by rw [← Array.toList_inj]; exact h2.nil_left
  have hl := h3.length
  obtain ⟨v1, v2, e2⟩ : ∃ v1 v2, cs.toList = [v1, v2] := by
   rcases hcs : cs.toList with _ | ⟨v1, _ | ⟨v2, _ | ⟨v3, t⟩⟩⟩ <;> rw [hcs] at hl <;> simp at hl
   exact ⟨v1, v2, rfl⟩
  rw [e2] at h3
  have e3 : v1 = .pointer (some ⟨bb, 0, none⟩) := apA (w := w1) (id := 5) (off := 0) h3.1 n5
  have e4 : v2 = .pointer (some ⟨tb, 0, none⟩) := apA (w := w1) (id := 6) (off := 0) h3.2.1 n6
  rw [h1, e1]
  congr 1
  rw [← Array.toList_inj, e2, e3, e4]
 have hcbe : cb = #[u1, u2, .slice base gl.length cap, u4, u5, u6, u7] := by rw [← Array.toList_inj, hcb, eu3]
 have hseq : SeqStopsK Fence.wide 1 Tryz.prog 218 #[.pointer (some ⟨bb, 0, none⟩), .pointer (some ⟨tb, 0, none⟩)] (fun j : Nat => #[encG (gz gl j)]) (fun A B => KNd w1 (fun b => 0 < gl.length ∧ b = gb) tb (ad5 v) A → KNd w1 (fun b => 0 < gl.length ∧ b = gb) tb (ad5 v) B)
  (fun xs => xs = aB8 (fun j => axU (ad5 v) (gz gl j).1) gl.length) (fun _ => True) (aB8 (fun j => axU (ad5 v) (gz gl j).1) gl.length).length w1 := by
  intro l J Jx W hbel hJ hJx hY h0
  refine aTK te 1 (by omega) l bb tb u1 u2 u4 u5 u6 u7 gb go gl.length cap base (fun h => (hgb h).1) (fun j => (gz gl j).1) (fun j => (gz gl j).2.1) (fun j => (gz gl j).2.2.1) (fun j => (gz gl j).2.2.2.1.1) (fun j => (gz gl j).2.2.2.1.2) (fun j => (gz gl j).2.2.2.2.1.1) (fun j => (gz gl j).2.2.2.2.1.2) (fun j => (gz gl j).2.2.2.2.2)
   (fun j => axU (ad5 v) (gz gl j).1) ?len (KNd w1 (fun b => 0 < gl.length ∧ b = gb) tb (ad5 v)) W ((hbel.block bb (adI hbb)).trans (by rw [hbb, hcbe])) ?cells ?maps (fun W1 W2 h hg => h.grown (fun b hb => (hR b hb).1) hg) ((hnd [] w1 hI0).below (fun b hb => (hR b hb).1) hbel.size hbel.block)
   J Jx (fun pre W1 W2 hj hg => hJ pre W1 W2 none hj hg (fun r e => by cases e)) (fun pre W1 W2 hj hg => hJx pre W1 W2 none hj hg (fun r e => by cases e)) (fun pre j W1 hj hl => hY pre j W1 hj hl) h0
  case len =>
   have := hzl
   rw [← hgle] at this
   simp only [acK, decide_eq_true_eq] at this
   omega
  case cells =>
   intro W' hW j hj
   obtain ⟨q1, q2, q3, q4⟩ := hgb (by omega)
   obtain ⟨vs, r1, r2⟩ := q4 j (gz gl j) (by simp [gz, List.getElem?_eq_getElem hj])
   have r2 := r2.keep (w' := W') (hW.2.1 gb ⟨by omega, rfl⟩)
   rw [aLI r1] at r2
   refine ⟨?_, ?_, ?_, ?_, ?_, ?_, ?_, ?_⟩
   ·simpa using r2 0 _ rfl
   ·simpa [Nat.add_assoc] using r2 1 _ rfl
   ·simpa [Nat.add_assoc] using r2 2 _ rfl
   ·simpa [Nat.add_assoc] using r2 3 _ rfl
   ·simpa [Nat.add_assoc] using r2 4 _ rfl
   ·simpa [Nat.add_assoc] using r2 5 _ rfl
   ·simpa [Nat.add_assoc] using r2 6 _ rfl
   ·simpa [Nat.add_assoc] using r2 7 _ rfl
  case maps =>
   intro W' hW
   obtain ⟨_, _, h3, mb, h4, h5, h6⟩ := id hW
   refine ⟨.map (some mb), fun W'' hg => ?_⟩
   obtain ⟨k1, _, k3, mb', k4, k5, k6⟩ := hW.grown (fun b hb => (hR b hb).1) hg
   have : mb' = mb := by
    have e := World.cell?_of_block (a := ⟨tb, 0, none⟩) (hg.block tb (Nat.lt_of_lt_of_le h3 hW.1) (by simp))
    rw [e, h5] at k5
    cases k5; rfl
   subst this
   exact ⟨k5, fun j _ => aRY k6 _⟩
 rw [aNV]
 refine wpIn_block (aCb (n := 2) rfl (by omega) hg trivial (fun args w => ?eg) hseq (fun h k => fun q => k (h q)) (fun W l o o' hl ho _ _ hW => ?kb) (Below.refl _ _) (fun _ => rfl) (CI G p v ν2 w1) (CI.own s2'.heap) hI0 (fun l pre j W hl _ hI hlt => ?round) (fun D xs W hD hxs hI hDo => ?done))
 case eg => simp [callFunc, Sem.run_bind, run_program, Result.andThen_ok, Tryz.func218, plain 218 _ Tryz.func218, show Tryz.f218.body.isNone = false from rfl]; rfl
 case kb => exact hW.below (fun b hb => (hR b hb).1) (by simp [World.putObj]) fun b hb => World.putObj_heap_other (by omega)
 case round =>
  have hf : ∀ u : Value, ((#[60] : Array Tmp).zip #[u]).foldl (fun t (p, v) => t.setIfInBounds p v) a1.tmps = a1.tmps.setIfInBounds 60 u := fun u => by simp
  show Code.wpIn (Fence.wide.inRound l) 0 Tryz.prog _ _ ⟨((#[60] : Array Tmp).zip #[encG (gz gl j)]).foldl (fun t (p, v) => t.setIfInBounds p v) a1.tmps, []⟩ W
  rw [hf]
  refine wpIn_mono (aQD s2' l pre j W hl hI ?_ (u := encG (gz gl j)) (by rw [hgle]; exact fun ν h w => aTU _ ν h w)) fun e a' Wa ha => ?_
  ·refine aRM hzl ?_
   have := aKJ (fun j => axU (ad5 v) (gz gl j).1) gl.length
   rw [← hgle]
   omega
  ·cases e with
   | normal =>
     refine ⟨ha.1, fun r' hr => wpIn_mono (ha.2 r' hr) fun e a3 W3 hb => ?_⟩
     cases e with
     | normal => exact ⟨hb.1, fun _ => hnd _ _ hb.2, hb.2⟩
     | _ => exact hb
   | _ => exact ha
 case done =>
  subst hxs
  obtain ⟨ν', Hd, evd⟩ := hI
  have hzz : (aB8 (fun j => axU (ad5 v) (gz gl j).1) gl.length).map (gz (acG v)) = z := by rw [hzs, hgle]
  rw [hzz] at Hd evd
  have hml := apQ s2'.heap evd (aSH p v) (aL4 _ _) (t := [false]) (by simp)
  have ht : (cS p (adj v z)).t = (cS p v).t := cS_t _ _ _
  have simD : Sim ν' (cS p (adj v z)) a1 W := by
   refine ⟨s2'.defers, ?_, fun i => ?_, Hd⟩
   ·rw [ht]; exact s2'.len
   ·rw [ht]; exact VR.pin evd (aJy rfl _ (aTe p v) i) (s2'.tmps i)
  exact aSm simD hB hDo (aEh Hd hml hD hDo rfl) (evw.trans (evd.mono (Nat.zero_le _)) (Nat.le_refl _)) (Nat.le_trans evw.size hD)
theorem aQN : acf Tryz.prog 79 ajG := fun G x y hF w vals hG hAL => aSo G x y hF w vals hG hAL
end Go.Proofs.ZzM
end
noncomputable section
set_option maxRecDepth 100000
namespace Go.Proofs.ZzM
open Go Go.Am
theorem aOw : acf Tryz.prog 29 aDP := ab7 (aw3 _) (fun {_} => adT ab5 _) hmix (tab := aqI _) rfl ab5 (ab4 fun x => aCi x some)
theorem aSy : acf Tryz.prog 13 aME := ab7 (avr _) (fun {_} => adT (ab0 aOw ab5) _) hmix (tab := aw2 _) rfl (ab0 aCh ab5) (ab4 fun x => aIC x some)
theorem aSD : acf Tryz.prog 54 aMJ := ab7 (apX _) (fun {_} => adT (ab0 ag6 ab5) _) hmix (tab := axu _) rfl (ab0 aC9 (ab0 aC8 ab5)) (ab4 fun x => aJh x some)
theorem af2 : acf Tryz.prog 130 aes := ab7 (ad8 _) (fun {_} => adT ab5 _) hmix (tab := afe _) rfl (ab0 ahi ab5) (ab4 fun x => ahS x some)
theorem axQ : acf Tryz.prog 87 aoo := ab7 (aq7 _) (fun {_} => adT (ab0 af2 ab5) _) hmix (tab := an1 _) rfl ab5 (ab4 fun x => ayn x some)
theorem ayr : acf Tryz.prog 224 anF := ab7 (akN _) (fun {_} => adT ab5 _) hmix (tab := ai2 _) rfl ab5 (ab4 fun x => aqq x some)
theorem apz : acf Tryz.prog 227 alE := ab7 (ar2 _) (fun {_} => adT (ab0 auZ ab5) _) hmix (tab := atU _) rfl (ab0 aAu ab5) (ab4 fun x => aGa x some)
theorem aBQ : acf Tryz.prog 277 arC := ab7 (atV _) (fun {_} => adT (ab0 aNi (ab0 aQU ab5)) _) hmix (tab := aoX _) rfl ab5 (ab4 fun x => aAw x some)
theorem aT3 : acf Tryz.prog 262 aPl := ab7 (aI7 _) (fun {_} => adT (ab0 apz (ab0 aBQ ab5)) _) hmix (tab := aAE _) rfl ab5 (ab4 fun x => aLm x some)
theorem aHg : acf Tryz.prog 225 asP := ab7 (ao0 _) (fun {_} => adT (ab0 aT3 ab5) _) hmix (tab := al5 _) rfl ab5 (ab4 fun x => av5 x some)
theorem aL0 : acf Tryz.prog 287 aKV := ab7 (aI5 _) (fun {_} => adT ab5 _) hmix (tab := aAB _) rfl ab5 (ab4 fun x => aLk x some)
theorem arl : acf Tryz.prog 278 aqD := ab7 (anX _) (fun {_} => adT (ab0 apz (ab0 aL0 ab5)) _) hmix (tab := akM _) rfl ab5 (ab4 fun x => atY x some)
theorem aQW : acf Tryz.prog 281 aPm := ab7 (aI9 _) (fun {_} => adT (ab0 apz (ab0 aBQ ab5)) _) hmix (tab := aAG _) rfl ab5 (ab4 fun x => aLo x some)
theorem aQV : acf Tryz.prog 263 aIi := aHZ (ar5 _) (aI8 _) (fun {_} => aA5 (ab0 auZ (ab0 arl (ab0 aQW (ab0 aL0 ab5)))) (ar5 _) rfl rfl rfl rfl rfl (afi rfl)) (fun {_} => adT (ab0 auZ (ab0 arl (ab0 aQW (ab0 aL0 ab5)))) _) rfl hmix (tab := amV _) rfl ab5 (us := axo) rfl (ab0 (by kernel_rfl) ab5) (ab4 fun x => aGf x some)
theorem aHf : acf Tryz.prog 226 asO := ab7 (aoZ _) (fun {_} => adT (ab0 aQV ab5) _) hmix (tab := al4 _) rfl ab5 (ab4 fun x => av4 x some)
theorem aEH : acf Tryz.prog 171 avm := ab7 (axx _) (fun {_} => adT (ab0 aBR (ab0 au0 (ab0 ayr (ab0 aHg (ab0 aHf ab5))))) _) hmix (tab := ara _) rfl ab5 (ab4 fun x => aDf x some)
theorem aKg : acf Tryz.prog 172 azz := ab7 (aAX _) (fun {_} => adT ab5 _) hmix (tab := aum _) rfl ab5 (ab4 fun x => aGB x some)
theorem aKe : acf Tryz.prog 228 azw := ab7 (aAz _) (fun {_} => adT ab5 _) hmix (tab := atW _) rfl ab5 (ab4 fun x => aGd x some)
theorem aNj : acf Tryz.prog 173 aE9 := ab7 (aEa _) (fun {_} => adT (ab0 apz (ab0 aKe ab5)) _) hmix (tab := axq _) rfl ab5 (ab4 fun x => aJb x some)
theorem aKf : acf Tryz.prog 174 azx := ab7 (aAH _) (fun {_} => adT (ab0 apz (ab0 aKe ab5)) _) hmix (tab := atZ _) rfl ab5 (ab4 fun x => aGg x some)
theorem aNk : acf Tryz.prog 200 aFa := ab7 (aEb _) (fun {_} => adT (ab0 aEH (ab0 aKg (ab0 aNj (ab0 aKf ab5)))) _) hmix (tab := axs _) rfl ab5 (ab4 fun x => aJe x some)
theorem aHh : acf Tryz.prog 62 ayH := ab7 (al6 _) (fun {_} => adT (ab0 aSD (ab0 aBS (ab0 axQ (ab0 au0 (ab0 aNl (ab0 aNk ab5)))))) _) hmix (tab := axt _) rfl (ab0 aC6 (ab0 aC7 (ab0 aC5 ab5))) (ab4 fun x => aJg x some)
theorem aeo : acf Tryz.prog 20 ael := ab7 (axB _) (fun {_} => adT (ab0 ad3 (ab0 aHh ab5)) _) hmix (tab := arb _) rfl ab5 (ab4 fun x => aDk x some)
theorem af4 : acf Tryz.prog 60 afV := ab7 (aA0 _) (fun {_} => adT (ab0 ad3 (ab0 aBS (ab0 af2 ab5))) _) hmix (tab := auw _) rfl ab5 (ab4 fun x => aGN x some)
theorem aic : acf Tryz.prog 55 agL := ab7 (as8 _) (fun {_} => adT (ab0 af4 ab5) _) hmix (tab := aoC _) rfl ab5 (ab4 fun x => azM x some)
theorem aHe : acf Tryz.prog 134 ayG := ab7 (aD4 _) (fun {_} => adT ab5 _) hmix (tab := axe _) rfl ab5 (ab4 fun x => aIT x some)
theorem amn : acf Tryz.prog 133 ajH := ab7 (ar1 _) (fun {_} => adT (ab0 aHe ab5) _) hmix (tab := atN _) rfl (ab0 aAm ab5) (ab4 fun x => aF7 x some)
theorem apy : acf Tryz.prog 135 akn := ab7 (aeV _) (fun {_} => adT ab5 _) hmix (tab := anS _) rfl (ab0 atF (ab0 atD (ab0 atB (ab0 atC (ab0 atA ab5))))) (ab4 fun x => ayd x some)
theorem aQR : acf Tryz.prog 63 aIf := ab7 (ar0 _) (fun {_} => adT (ab0 amn (ab0 aHe (ab0 apy ab5))) _) hmix (tab := atI _) rfl (ab0 aAe ab5) (ab4 fun x => aF2 x some)
theorem aOy : acf Tryz.prog 64 aDR := ab7 (afY _) (fun {_} => adT ab5 _) hmix (tab := aqS _) rfl (ab0 ayj (ab0 ayi (ab0 ayh (ab0 ayf (ab0 ayg ab5))))) (ab4 fun x => aCL x some)
theorem aBP : acf Tryz.prog 89 asM := ab7 (aAs _) (fun {_} => adT (ab0 aQR (ab0 aOy ab5)) _) hmix (tab := atT _) rfl ab5 (ab4 fun x => aF9 x some)
theorem aio : acf Tryz.prog 56 agw := ab7 (anK _) (fun {_} => adT (ab0 aBP ab5) _) hmix (tab := akv _) rfl ab5 (ab4 fun x => as7 x some)
theorem ark : acf Tryz.prog 121 ak4 := ab7 (anJ _) (fun {_} => adT (ab0 aic (ab0 aio ab5)) _) hmix (tab := aku _) rfl ab5 (ab4 fun x => as6 x some)
theorem amm : acf Tryz.prog 122 ahO := ab7 (ajN _) (fun {_} => adT (ab0 aic (ab0 aio ab5)) _) hmix (tab := aix _) rfl ab5 (ab4 fun x => aoB x some)
theorem aib : acf Tryz.prog 51 af7 := ab7 (agQ _) (fun {_} => aA5 (ab0 ark (ab0 amm ab5)) (agQ _) rfl rfl rfl rfl rfl (afi rfl)) hmix (tab := aiw _) rfl ab5 (ab4 fun x => aoA x some)
theorem ak0 : acf Tryz.prog 61 ako := ab7 (awe _) (fun {_} => adT (ab0 ad3 ab5) _) hmix (tab := axD _) rfl (ab0 aDm ab5) (ab4 fun x => aJp x some)
theorem aek : acf Tryz.prog 123 aei := ab7 (anU _) (fun {_} => adT (ab0 amn (ab0 apy ab5)) _) hmix (tab := akF _) rfl ab5 (ab4 fun x => atL x some)
theorem axP : acf Tryz.prog 15 aon := ab7 (alc _) (fun {_} => adT (ab0 aeo (ab0 ad3 (ab0 aib (ab0 af4 (ab0 ak0 (ab0 aek ab5)))))) _) hmix (tab := anN _) rfl (ab0 atw ab5) (ab4 fun x => ax7 x some)
theorem aLZ : acf Tryz.prog 17 azu := ab7 (amO _) (fun {_} => adT (ab0 aeo (ab0 ad3 (ab0 aic (ab0 aio (ab0 af4 (ab0 ak0 (ab0 aek ab5))))))) _) hmix (tab := aoP _) rfl (ab0 avN ab5) (ab4 fun x => az5 x some)
theorem aEI : acf Tryz.prog 129 avn := ab7 (axF _) (fun {_} => adT (ab0 au0 (ab0 aEG ab5)) _) hmix (tab := arc _) rfl ab5 (ab4 fun x => aDn x some)
theorem aSz : acf Tryz.prog 57 aMF := ab7 (aD3 _) (fun {_} => adT (ab0 aEI ab5) _) hmix (tab := aw4 _) rfl ab5 (ab4 fun x => aID x some)
theorem aQM : acf Tryz.prog 58 aIb := ab7 (azS _) (fun {_} => adT ab5 _) hmix (tab := atk _) rfl ab5 (ab4 fun x => aFI x some)
theorem aQL : acf Tryz.prog 59 aIa := ab7 (arR _) (fun {_} => adT (ab0 ad7 ab5) _) hmix (tab := atj _) rfl (ab0 azN ab5) (ab4 fun x => aFG x some)
theorem aSB : acf Tryz.prog 18 aMH := ab7 (apT _) (fun {_} => adT (ab0 aeo (ab0 ad3 (ab0 aib (ab0 aSz (ab0 aQM (ab0 aQL (ab0 af4 (ab0 ak0 (ab0 aek ab5))))))))) _) hmix (tab := axc _) rfl (ab0 aCF (ab0 aCE ab5)) (ab4 fun x => aIP x some)
theorem ass : acf Tryz.prog 69 arz := ab7 (as5 _) (fun {_} => adT ab5 _) hmix (tab := aoy _) rfl ab5 (ab4 fun x => azK x some)
theorem aQP : acf Tryz.prog 25 aId := ab7 (arW _) (fun {_} => adT (ab0 aeo (ab0 ad3 (ab0 aib (ab0 af4 (ab0 ak0 (ab0 ass (ab0 aek ab5))))))) _) hmix (tab := atv _) rfl (ab0 azZ ab5) (ab4 fun x => aFV x some)
theorem aNm : acf Tryz.prog 41 aFd := ab7 (awc _) (fun {_} => adT (ab0 ad3 ab5) _) hmix (tab := axA _) rfl (ab0 aDj ab5) (ab4 fun x => aJn x some)
theorem aQY : acf Tryz.prog 90 aIk := ab7 (aAL _) (fun {_} => adT (ab0 aEH (ab0 aKg (ab0 aNj (ab0 aKf ab5)))) _) hmix (tab := at6 _) rfl ab5 (ab4 fun x => aGk x some)
theorem aL3 : acf Tryz.prog 40 azA := ab7 (auu _) (fun {_} => adT (ab0 aNm (ab0 aHh (ab0 axQ (ab0 au0 (ab0 aBP (ab0 aQY ab5)))))) _) hmix (tab := apc _) rfl ab5 (ab4 fun x => aAZ x some)
theorem aQX : acf Tryz.prog 205 aIj := ab7 (aAJ _) (fun {_} => adT (ab0 ad3 ab5) _) hmix (tab := at0 _) rfl ab5 (ab4 fun x => aGj x some)
theorem aSF : acf Tryz.prog 142 aML := ab7 (aEc _) (fun {_} => adT (ab0 aNk (ab0 aQX ab5)) _) hmix (tab := axC _) rfl ab5 (ab4 fun x => aJo x some)
theorem aKc : acf Tryz.prog 143 awZ := ab7 (aqM _) (fun {_} => adT (ab0 aic ab5) _) hmix (tab := anM _) rfl ab5 (ab4 fun x => ax3 x some)
theorem aKb : acf Tryz.prog 144 awY := ab7 (aqL _) (fun {_} => adT (ab0 aio ab5) _) hmix (tab := anL _) rfl ab5 (ab4 fun x => ax2 x some)
theorem awE : acf Tryz.prog 71 avj := ab7 (akx _) (fun {_} => aA5 (ab0 aeo (ab0 aL3 (ab0 aNm (ab0 aic (ab0 aEI (ab0 aSF (ab0 aKc (ab0 aKb ab5)))))))) (akx _) rfl rfl rfl rfl rfl (afi rfl)) hmix (tab := aqK _) rfl (ab0 ax1 ab5) (ab4 fun x => aCx x some)
theorem anu : acf Tryz.prog 95 ams := ab7 (aoG _) (fun {_} => adT ab5 _) hmix (tab := alN _) rfl ab5 (ab4 fun x => avz x some)
theorem aOx : acf Tryz.prog 177 aDQ := ab7 (aw6 _) (fun {_} => adT ab5 _) hmix (tab := aqN _) rfl ab5 (ab4 fun x => aCy x some)
theorem alu : acf Tryz.prog 99 ak2 := ab7 (anH _) (fun {_} => adT (ab0 aOx ab5) _) hmix (tab := aks _) rfl ab5 (ab4 fun x => as3 x some)
theorem alv : acf Tryz.prog 101 ak3 := ab7 (agF _) (fun {_} => adT ab5 _) hmix (tab := akt _) rfl (ab0 aqm (ab0 aqn ab5)) (ab4 fun x => as4 x some)
theorem aBM : acf Tryz.prog 72 aom := ab7 (ahV _) (fun {_} => adT (ab0 ad7 (ab0 anu (ab0 alu (ab0 alv ab5)))) _) hmix (tab := ajJ _) rfl (ab0 aox ab5) (ab4 fun x => arL x some)
theorem aQO : acf Tryz.prog 31 aIc := ab7 (arU _) (fun {_} => adT (ab0 aeo (ab0 ad3 (ab0 af4 (ab0 ak0 (ab0 awE (ab0 aBM (ab0 aek ab5))))))) _) hmix (tab := atn _) rfl (ab0 azW ab5) (ab4 fun x => aFQ x some)
theorem aBO : acf Tryz.prog 145 arB := ab7 (amQ _) (fun {_} => adT ab5 _) hmix (tab := aoR _) rfl (ab0 avU ab5) (ab4 fun x => az7 x some)
theorem aNh : acf Tryz.prog 146 aE7 := ab7 (avO _) (fun {_} => adT ab5 _) hmix (tab := axd _) rfl (ab0 aCJ ab5) (ab4 fun x => aIS x some)
theorem aDu : acf Tryz.prog 76 aqC := ab7 (anW _) (fun {_} => adT (ab0 amn (ab0 aHe (ab0 aBO (ab0 aNh ab5)))) _) hmix (tab := akI _) rfl ab5 (ab4 fun x => atQ x some)
theorem anv : acf Tryz.prog 33 ajb := ab7 (aoM _) (fun {_} => adT (ab0 aeo (ab0 ad3 (ab0 af4 (ab0 aDu ab5)))) _) hmix (tab := alX _) rfl ab5 (ab4 fun x => avJ x some)
theorem aDt : acf Tryz.prog 86 aqB := ab7 (anV _) (fun {_} => adT (ab0 amn (ab0 aBO (ab0 aNh ab5))) _) hmix (tab := akH _) rfl ab5 (ab4 fun x => atO x some)
theorem aDs : acf Tryz.prog 39 aqA := ab7 (anO _) (fun {_} => adT (ab0 aeo (ab0 ad3 (ab0 aDt ab5))) _) hmix (tab := akD _) rfl ab5 (ab4 fun x => aty x some)
theorem aiZ : acf Tryz.prog 254 afE := ab7 (adP _) (fun {_} => adT ab5 _) hmix (tab := aeP _) rfl (ab0 agO ab5) (ab4 fun x => ahk x some)
theorem ahF : acf Tryz.prog 210 ae2 := ab7 (aeE _) (fun {_} => adT (ab0 aiZ ab5) _) hmix (tab := aej _) rfl ab5 (ab4 fun x => agy x some)
theorem alt : acf Tryz.prog 256 agv := ab7 (aeu _) (fun {_} => adT ab5 _) hmix (tab := afF _) rfl (ab0 ahR ab5) (ab4 fun x => aiQ x some)
theorem ajn : acf Tryz.prog 213 afO := ab7 (afp _) (fun {_} => adT (ab0 alt ab5) _) hmix (tab := ae5 _) rfl ab5 (ab4 fun x => ahE x some)
theorem akd : acf Tryz.prog 258 afU := ab7 (ad9 _) (fun {_} => adT ab5 _) hmix (tab := aff _) rfl (ab0 ahj ab5) (ab4 fun x => ahT x some)
theorem aiL : acf Tryz.prog 216 afm := ab7 (ae6 _) (fun {_} => adT (ab0 akd ab5) _) hmix (tab := aeD _) rfl ab5 (ab4 fun x => aha x some)
theorem aSA : acf Tryz.prog 77 aMG := ab7 (aeI _) (fun {_} => adT (ab0 ahF (ab0 ajn (ab0 aiL ab5))) _) hmix (tab := aw5 _) rfl (ab0 aCv (ab0 aCs (ab0 aCr (ab0 aCt (ab0 aCu (ab0 aCq (ab0 aCp (ab0 aCo (ab0 aCn (ab0 aCm ab5)))))))))) (ab4 fun x => aIE x some)
theorem aEF : acf Tryz.prog 35 avk := ab7 (axb _) (fun {_} => adT (ab0 anv (ab0 ad3 (ab0 aDs (ab0 aSA ab5)))) _) hmix (tab := aqP _) rfl ab5 (ab4 fun x => aCD x some)
theorem aKd : acf Tryz.prog 156 azv := ab7 (avV _) (fun {_} => adT ab5 _) hmix (tab := aIU _) rfl (ab0 aLf (ab0 aLd (ab0 aLc (ab0 aLe ab5)))) (ab4 fun x => aPO x some)
theorem aQS : acf Tryz.prog 78 aIg := ab7 (agS _) (fun {_} => adT (ab0 amn (ab0 apy (ab0 aKd ab5))) _) hmix (tab := atM _) rfl (ab0 aAk (ab0 aAg (ab0 aAh (ab0 aAi (ab0 aAj ab5))))) (ab4 fun x => aF6 x some)
theorem aBN : acf Tryz.prog 80 arA := ab7 (amC _) (fun {_} => adT (ab0 aeo ab5) _) hmix (tab := aoz _) rfl (ab0 avv ab5) (ab4 fun x => azL x some)
theorem aQQ : acf Tryz.prog 36 aIe := ab7 (az2 _) (fun {_} => adT (ab0 aeo (ab0 aQS (ab0 aQN (ab0 aBN ab5)))) _) hmix (tab := atx _) rfl ab5 (ab4 fun x => aFW x some)
theorem auY : acf Tryz.prog 96 asK := ab7 (aoJ _) (fun {_} => adT ab5 _) hmix (tab := alV _) rfl ab5 (ab4 fun x => avG x some)
theorem auX : acf Tryz.prog 97 asJ := ab7 (aoH _) (fun {_} => adT ab5 _) hmix (tab := alO _) rfl ab5 (ab4 fun x => avA x some)
theorem aLX : acf Tryz.prog 42 azs := aHZ (amI _) (ac3 _) (fun {_} => aA5 (ab0 aeo (ab0 ad3 (ab0 af4 (ab0 ak0 (ab0 ass (ab0 awE (ab0 ad7 (ab0 anu (ab0 auY (ab0 auX (ab0 alu (ab0 alv (ab0 aek ab5))))))))))))) (amI _) rfl rfl rfl rfl rfl (afi rfl)) (fun {_} => aA5 (ab0 aeo (ab0 ad3 (ab0 af4 (ab0 ak0 (ab0 ass (ab0 awE (ab0 ad7 (ab0 anu (ab0 auY (ab0 auX (ab0 alu (ab0 alv (ab0 aek ab5))))))))))))) (ac3 _) rfl rfl rfl rfl rfl (afi rfl)) rfl hmix (tab := ajS _) rfl (ab0 avF (ab0 avE ab5)) (us := ala) rfl (ab0 (by kernel_rfl) ab5) (ab4 fun x => azY x some)
theorem aKa : acf Tryz.prog 48 awX := ab7 (aqH _) (fun {_} => adT ab5 _) hmix (tab := anG _) rfl ab5 (ab4 fun x => axZ x some)
theorem aQT : acf Tryz.prog 120 aIh := ab7 (ajT _) (fun {_} => adT (ab0 aBP (ab0 aKd ab5)) _) hmix (tab := atS _) rfl (ab0 aAq (ab0 aAo (ab0 aAp ab5))) (ab4 fun x => aF8 x some)
theorem aHd : acf Tryz.prog 119 asL := ab7 (aoO _) (fun {_} => adT (ab0 aic (ab0 aQT ab5)) _) hmix (tab := alY _) rfl ab5 (ab4 fun x => avM x some)
theorem aLY : acf Tryz.prog 49 azt := ab7 (ahp _) (fun {_} => aA5 (ab0 aeo (ab0 ad3 (ab0 af4 (ab0 ak0 (ab0 aQN (ab0 aBN (ab0 aHd (ab0 ark (ab0 amm (ab0 aek ab5)))))))))) (ahp _) rfl rfl rfl rfl rfl (afi rfl)) hmix (tab := aoN _) rfl (ab0 avL (ab0 avK ab5)) (ab4 fun x => az4 x some)
theorem aLW : acf Tryz.prog 14 azr := ab7 (as0 _) (fun {_} => adT (ab0 axP (ab0 aLZ (ab0 aSB (ab0 aQP (ab0 aQO (ab0 anv (ab0 aEF (ab0 aQQ (ab0 aLX (ab0 aKa (ab0 aLY ab5))))))))))) _) hmix (tab := aos _) rfl ab5 (ab4 fun x => azI x some)
theorem awF : acf Tryz.prog 67 alF := ab7 (agT _) (fun {_} => adT (ab0 ag6 ab5) _) hmix (tab := aiz _) rfl (ab0 am0 ab5) (ab4 fun x => ao2 x some)
theorem aSC : acf Tryz.prog 138 aMI := ab7 (apV _) (fun {_} => adT (ab0 amn ab5) _) hmix (tab := axf _) rfl (ab0 aCO (ab0 aCN ab5)) (ab4 fun x => aIW x some)
theorem aDv : acf Tryz.prog 68 aqE := ab7 (an0 _) (fun {_} => adT (ab0 aSC ab5) _) hmix (tab := akR _) rfl ab5 (ab4 fun x => auc x some)
theorem aSG : acf Tryz.prog 23 aMM := ab7 (aEd _) (fun {_} => adT (ab0 ad3 (ab0 aHh (ab0 awF (ab0 aDv ab5)))) _) hmix (tab := axE _) rfl ab5 (ab4 fun x => aJr x some)
theorem aEE : acf Tryz.prog 27 avi := ab7 (aw0 _) (fun {_} => adT (ab0 af4 ab5) _) hmix (tab := aqF _) rfl ab5 (ab4 fun x => aCf x some)
theorem aOv : acf Tryz.prog 34 aDO := ab7 (aw1 _) (fun {_} => adT (ab0 aEE ab5) _) hmix (tab := aqG _) rfl ab5 (ab4 fun x => aCg x some)
theorem c_w6_SharpStranger : acf Tryz.prog 8 afN := ab7 (ai0 _) (fun {_} => adT (ab0 aSy (ab0 aLW (ab0 axP (ab0 aSG (ab0 aEE (ab0 anv (ab0 aOv (ab0 aEF ab5)))))))) _) hmix (tab := ahH _) rfl ab5 (ab4 fun x => an4 x some)
end Go.Proofs.ZzM
end