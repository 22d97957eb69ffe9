/- lemmas: ZzLib ZzIt ZzC1 ZzCkA ZzCheck ZzCheckB ZzCheckC ZzC2 -/
import Derived.Test.YtfkfjebiaelniaaGreatAmF
import Derived.Test.YtfkfjebiaelniaaGreatAmG
import Derived.Ground.NamesProg
import Derived.Ground.Names2Prog
import Derived.KernelRfl
import Derived.Test.YtfkfjebiaelniaaGreatMdM
import Derived.RangeFuncBox
import Derived.Lib.SliceRun
import Derived.RangeFuncLeaves
import Derived.WalkKit
import Derived.OwnWalkIn
import Derived.TacticsInMore
import Derived.LoopNIn
import Derived.LoopIn
import Derived.Test.YtfkfjebiaelniaaGreatProg
import Derived.Test.YtfkfjebiaelniaaGreatMdK
import Derived.RangeFuncFrom
import Derived.RangeFuncRecord
set_option linter.all false
set_option linter.unusedSectionVars false
set_option linter.unusedVariables false
set_option linter.unusedSimpArgs false
noncomputable section
namespace Go.Proofs
open Go.Shelf
def Tryz.laysSort_ren : Go.Shelf.Ren := ⟨fun | 189 => 170 | 125 => 197 | 257 => 196 | 128 => 219 | 129 => 220 | 294 => 210 | 295 => 211 | 296 => 212 | 297 => 213 | 298 => 214 | 299 => 215 | 216 => 216 | 300 => 217 | 301 => 218 | 328 => 224 | 329 => 225 | 330 => 226 | 331 => 227 | 332 => 228 | 215 => 229 | 343 => 230 | n => n, fun | 28 => 31 | 3 => 3 | 46 => 113 | 0 => 0 | 51 => 259 | 53 => 246 | 4 => 4 | 183 => 252 | 182 => 251 | 131 => 237 | 5 => 5 | 9 => 9 | 218 => 266 | 222 => 270 | 228 => 272 | 229 => 273 | n => n, fun | n => n⟩
theorem Tryz.laysSort : Go.Proofs.Lays.n189 Tryz.prog Tryz.laysSort_ren := {
  mixed := by kernel_rfl
  f125 := Tryz.func197.trans (congrArg some (by kernel_rfl))
  f128 := Tryz.func219.trans (congrArg some (by kernel_rfl))
  f129 := Tryz.func220.trans (congrArg some (by kernel_rfl))
  f189 := Tryz.func170.trans (congrArg some (by kernel_rfl))
  f215 := Tryz.func229.trans (congrArg some (by kernel_rfl))
  f216 := Tryz.func216.trans (congrArg some (by kernel_rfl))
  f257 := Tryz.func196.trans (congrArg some (by kernel_rfl))
  f294 := Tryz.func210.trans (congrArg some (by kernel_rfl))
  f295 := Tryz.func211.trans (congrArg some (by kernel_rfl))
  f296 := Tryz.func212.trans (congrArg some (by kernel_rfl))
  f297 := Tryz.func213.trans (congrArg some (by kernel_rfl))
  f298 := Tryz.func214.trans (congrArg some (by kernel_rfl))
  f299 := Tryz.func215.trans (congrArg some (by kernel_rfl))
  f300 := Tryz.func217.trans (congrArg some (by kernel_rfl))
  f301 := Tryz.func218.trans (congrArg some (by kernel_rfl))
  f328 := Tryz.func224.trans (congrArg some (by kernel_rfl))
  f329 := Tryz.func225.trans (congrArg some (by kernel_rfl))
  f330 := Tryz.func226.trans (congrArg some (by kernel_rfl))
  f331 := Tryz.func227.trans (congrArg some (by kernel_rfl))
  f332 := Tryz.func228.trans (congrArg some (by kernel_rfl))
  f343 := Tryz.func230.trans (congrArg some (by kernel_rfl))
  t0 := Tryz.underlying0
  a0 := Tryz.isAgg0
  z0 := Tryz.sizeOf0
  v0 := Tryz.zeroValue0
  t3 := Tryz.underlying3
  a3 := Tryz.isAgg3
  z3 := Tryz.sizeOf3
  v3 := Tryz.zeroValue3
  t4 := Tryz.underlying4
  a4 := Tryz.isAgg4
  z4 := Tryz.sizeOf4
  v4 := Tryz.zeroValue4
  t5 := Tryz.underlying5
  a5 := Tryz.isAgg5
  z5 := Tryz.sizeOf5
  v5 := Tryz.zeroValue5
  t9 := Tryz.underlying9
  a9 := Tryz.isAgg9
  z9 := Tryz.sizeOf9
  v9 := Tryz.zeroValue9
  t28 := Tryz.underlying31
  a28 := Tryz.isAgg31
  z28 := Tryz.sizeOf31
  v28 := Tryz.zeroValue31
  t46 := Tryz.underlying113
  a46 := Tryz.isAgg113
  z46 := Tryz.sizeOf113
  v46 := Tryz.zeroValue113
  t51 := Tryz.underlying259
  a51 := Tryz.isAgg259
  z51 := Tryz.sizeOf259
  v51 := Tryz.zeroValue259
  t53 := Tryz.underlying246
  a53 := Tryz.isAgg246
  z53 := Tryz.sizeOf246
  v53 := Tryz.zeroValue246
  t131 := Tryz.underlying237
  a131 := Tryz.isAgg237
  z131 := Tryz.sizeOf237
  v131 := Tryz.zeroValue237
  t182 := Tryz.underlying251
  a182 := Tryz.isAgg251
  z182 := Tryz.sizeOf251
  v182 := Tryz.zeroValue251
  t183 := Tryz.underlying252
  a183 := Tryz.isAgg252
  z183 := Tryz.sizeOf252
  v183 := Tryz.zeroValue252
  t218 := Tryz.underlying266
  a218 := Tryz.isAgg266
  z218 := Tryz.sizeOf266
  v218 := Tryz.zeroValue266
  t222 := Tryz.underlying270
  a222 := Tryz.isAgg270
  z222 := Tryz.sizeOf270
  v222 := Tryz.zeroValue270
  t228 := Tryz.underlying272
  a228 := Tryz.isAgg272
  z228 := Tryz.sizeOf272
  v228 := Tryz.zeroValue272
  t229 := Tryz.underlying273
  a229 := Tryz.isAgg273
  z229 := Tryz.sizeOf273
  v229 := Tryz.zeroValue273 }
def Tryz.laysCompact_ren : Go.Shelf.Ren := ⟨fun | 20 => 171 | n => n, fun | 22 => 31 | 3 => 3 | 4 => 4 | 0 => 0 | n => n, fun | n => n⟩
theorem Tryz.laysCompact : Go.Proofs.Lays2.n20 Tryz.prog Tryz.laysCompact_ren := {
  mixed := by kernel_rfl
  f20 := Tryz.func171.trans (congrArg some (by kernel_rfl))
  t0 := Tryz.underlying0
  a0 := Tryz.isAgg0
  z0 := Tryz.sizeOf0
  v0 := Tryz.zeroValue0
  t3 := Tryz.underlying3
  a3 := Tryz.isAgg3
  z3 := Tryz.sizeOf3
  v3 := Tryz.zeroValue3
  t4 := Tryz.underlying4
  a4 := Tryz.isAgg4
  z4 := Tryz.sizeOf4
  v4 := Tryz.zeroValue4
  t22 := Tryz.underlying31
  a22 := Tryz.isAgg31
  z22 := Tryz.sizeOf31
  v22 := Tryz.zeroValue31
  i3 := by kernel_rfl }
end Go.Proofs
namespace Go.Proofs.ZzM
open Go Go.Am
theorem hmix : Tryz.prog.follows .mixedOrders = true := by kernel_rfl
theorem plain_ : (Tryz.prog.funcs.toList.all fun fn => !(fn.name == "runtime.NumGoroutine")) = true := by kernel_rfl
theorem plain (f : Nat) (fn : Func) (h : Tryz.prog.funcs[f]? = some fn) : (fn.name == "runtime.NumGoroutine") = false := by
  have := List.all_eq_true.1 plain_ fn (List.mem_of_getElem? (i := f) (by simpa using h))
  simpa using this
theorem renSort : Tryz.laysSort_ren.f 189 = 170 := by kernel_rfl
theorem renCompact : Tryz.laysCompact_ren.f 20 = 171 := by kernel_rfl
section
variable [Ghost] {ρ : Type}
theorem sortOk (f : Nat) (hf : isSort f = true) (h : List Blk) (x : AV) (K : AV → List Blk → Option ρ) (q : ρ) (e : sortK h x K = some q) (ν : Nat → Value) (w : World) (u : Value) (H : HR ν h w) (hx : VR ν h w x u) : CallTo Tryz.prog f ν h w [u] K q := by
  have h1 : f = 170 := by
    unfold isSort at hf
    split at hf
    · rfl
    · cases hf
  subst h1
  have := sort_ok Tryz.laysSort e H hx ⟨_, rfl⟩
  rwa [renSort] at this
theorem compactOk (f : Nat) (hf : isCompact f = true) (h : List Blk) (x : AV) (K : AV → List Blk → Option ρ) (q : ρ) (e : compactK h x K = some q) (ν : Nat → Value) (w : World) (u : Value) (H : HR ν h w) (hx : VR ν h w x u) : CallTo Tryz.prog f ν h w [u] K q := by
  have h1 : f = 171 := by
    unfold isCompact at hf
    split at hf
    · rfl
    · cases hf
  subst h1
  have := compact_ok Tryz.laysCompact e H hx ⟨_, rfl⟩
  rwa [renCompact] at this
theorem cloneOk : CloneOk Tryz.prog isClone := by
  intro g hg fz S nid x v S' e ν w u H hx hn hd
  unfold isClone at hg
  split at hg
  · exact clone_ok Tryz.func95 (T := 31) (by kernel_rfl) (by kernel_rfl) e H hx hn hd
  · exact clone_ok Tryz.func180 (T := 24) (by kernel_rfl) (by kernel_rfl) e H hx hn hd
  · exact clone_ok Tryz.func181 (T := 25) (by kernel_rfl) (by kernel_rfl) e H hx hn hd
  · exact clone_ok Tryz.func182 (T := 26) (by kernel_rfl) (by kernel_rfl) e H hx hn hd
  · exact clone_ok Tryz.func183 (T := 28) (by kernel_rfl) (by kernel_rfl) e H hx hn hd
  · exact clone_ok Tryz.func184 (T := 27) (by kernel_rfl) (by kernel_rfl) e H hx hn hd
  · cases hg
theorem libOf {pt : List (Nat × PFun)} (h : ∀ e ∈ pt, PureOk Tryz.prog e.1 e.2) (E : Env ρ) (hP : E.P = Tryz.prog) (h1 : E.pure = findP pt) (h2 : E.sort = isSort) (h3 : E.compact = isCompact) (h4 : E.clone = isClone) (hj : JoinOk E) : LibOk E := by
  constructor
  · intro f p hf
    rw [h1] at hf
    rw [hP]
    exact h (f, p) (findP_spec hf)
  · intro f hf
    rw [h2] at hf
    rw [hP]
    exact sortOk f hf
  · intro f hf
    rw [h3] at hf
    rw [hP]
    exact compactOk f hf
  · rw [hP]; exact plain
  · rw [hP, h4]; exact cloneOk
  · exact hj
theorem libN {pt : List (Nat × PFun)} (h : ∀ e ∈ pt, PureOk Tryz.prog e.1 e.2) (tab : List (LEnt ρ)) : LibOk (mkEnv pt tab) := libOf h _ rfl rfl rfl rfl rfl (joins_none rfl)
end
end Go.Proofs.ZzM
end

noncomputable section
namespace Go.Proofs
open Go.RowKit
attribute [local go_sem] Oper.semAt_some
def upE (f : Nat → Int) (k : Nat) : List Int := (List.range k).map f
theorem upE_succ (f : Nat → Int) (k : Nat) : upE f (k + 1) = upE f k ++ [f k] := by simp [upE, List.range_succ]
theorem upE_length (f : Nat → Int) (k : Nat) : (upE f k).length = k := by simp [upE]
theorem upE_take (f : Nat → Int) {j k : Nat} (h : j ≤ k) : upE f j <+: upE f k := by
  have : k = j + (k - j) := by omega
  rw [this, upE, upE, List.range_add, List.map_append]
  exact List.prefix_append _ _
set_option maxRecDepth 100000 in
set_option maxHeartbeats 1000000 in
theorem parts_in (te : TypeId) (n : Nat) (hn : 1 ≤ n) (l n₀ bb tb sb : Nat) (flo fhi ga mv : Value) (hbb : bb < n₀) (htb : tb < n₀) (hsb : sb < n₀)
   (ub uo ul uc kb ko kl kc : Nat) (ubase kbase lbase cbase : Option Addr) (ll lc cl cc : Nat) (hub : 0 < ul → ubase = some ⟨ub, uo, none⟩ ∧ ub < n₀) (hkb : 0 < kl → kbase = some ⟨kb, ko, none⟩ ∧ kb < n₀)
   (U K : Nat → Int × Int) (eU eL eC eK : Nat → Int)
   (hul : ul ≤ 1000) (hll : ll ≤ 1000) (hcl : cl ≤ 1000) (hkl : kl ≤ 1000)
   (W : World) (hb0 : W.heap[bb]? = some (.cells #[flo, fhi, ga, .slice ubase ul uc, .slice lbase ll lc, .slice cbase cl cc, .slice kbase kl kc] te (0, 0)))
   (ht : W.cell? ⟨tb, 0, none⟩ = some (.func (.func 164) #[] #[.pointer (some ⟨sb, 0, none⟩)])) (hs : W.cell? ⟨sb, 0, none⟩ = some mv)
   (hU : ∀ j, j < ul → W.cell? ⟨ub, uo + j * 2, none⟩ = some (.int .i64 (U j).1) ∧ W.cell? ⟨ub, uo + j * 2 + 1, none⟩ = some (.int .i64 (U j).2))
   (hK : ∀ j, j < kl → W.cell? ⟨kb, ko + j * 2, none⟩ = some (.int .i64 (K j).1) ∧ W.cell? ⟨kb, ko + j * 2 + 1, none⟩ = some (.int .i64 (K j).2))
   (cU : ∀ j, j < ul → ∀ W', Below n₀ W W' → CallsIn Fence.wide (n - 1) Tryz.prog 164 #[.int .i64 (U j).1, .int .i64 (U j).2, .pointer (some ⟨sb, 0, none⟩)] W' fun e W'' => e = .returned (.int .i64 (eU j)) ∧ W'.grownBy W'' none)
   (cK : ∀ j, j < kl → ∀ W', Below n₀ W W' → CallsIn Fence.wide (n - 1) Tryz.prog 164 #[.int .i64 (K j).1, .int .i64 (K j).2, .pointer (some ⟨sb, 0, none⟩)] W' fun e W'' => e = .returned (.int .i64 (eK j)) ∧ W'.grownBy W'' none)
   (cL : ∀ j, j < ll → ∀ W', Below n₀ W W' → CallsIn Fence.wide (n - 1) Tryz.prog 166 #[.agg #[flo, fhi, ga, .slice ubase ul uc, .slice lbase ll lc, .slice cbase cl cc, .slice kbase kl kc], mv, .int .i64 j] W' fun e W'' => e = .returned (.int .i64 (eL j)) ∧ W'.grownBy W'' none)
   (cC : ∀ j, j < cl → ∀ W', Below n₀ W W' → CallsIn Fence.wide (n - 1) Tryz.prog 167 #[.agg #[flo, fhi, ga, .slice ubase ul uc, .slice lbase ll lc, .slice cbase cl cc, .slice kbase kl kc], mv, .int .i64 j] W' fun e W'' => e = .returned (.int .i64 (eC j)) ∧ W'.grownBy W'' none)
   (J Jx : List Int → World → Prop) (hJ : ∀ pre W W', J pre W → W.grownBy W' none → J pre W') (hJx : ∀ pre W W', Jx pre W → W.grownBy W' none → Jx pre W')
   (hY : ∀ pre x W, J pre W → pre.length < ul + (ll + (cl + kl)) → YieldAt Fence.wide (n - 1) Tryz.prog l #[.int .i64 x] W fun e W' =>
      (e = .returned (.bool true) ∧ J (pre ++ [x]) W' ∧ Below n₀ W W') ∨ (e = .returned (.bool false) ∧ Jx (pre ++ [x]) W'))
   (h0 : J [] W) (hn₀ : n₀ ≤ W.heap.size) :
    CallsIn Fence.wide n Tryz.prog 165 #[.func (.yield l) #[] #[], .pointer (some ⟨bb, 0, none⟩), .pointer (some ⟨tb, 0, none⟩), .pointer (some ⟨sb, 0, none⟩)] W fun e W' => (∃ v, e = .returned v) ∧
      ((∃ xs, xs = upE eU ul ++ (upE eL ll ++ (upE eC cl ++ upE eK kl)) ∧ J xs W') ∨ (∃ pre, (pre <+: upE eU ul ++ (upE eL ll ++ (upE eC cl ++ upE eK kl))) ∧ Jx pre W')) := by
  have grown_alloc : ∀ (X : World) (o : Obj), X.grownBy (X.alloc o) none := fun X o => World.grownBy_alloc X o none
  have bel : ∀ {X Y : World}, Below n₀ W X → X.grownBy Y none → Below n₀ W Y := fun {X Y} h g =>
    ⟨g.os.trans h.os, g.tape.trans h.tape, g.output.trans h.output, Nat.le_trans h.size g.size, fun k hk => (g.block k (Nat.lt_of_lt_of_le (Nat.lt_of_lt_of_le hk hn₀) h.size) (by simp)).trans (h.block k hk)⟩
  have hc : ∀ {X : World}, Below n₀ W X → X.heap[bb]? = some (.cells #[flo, fhi, ga, .slice ubase ul uc, .slice lbase ll lc, .slice cbase cl cc, .slice kbase kl kc] te (0, 0)) := fun h => (h.block bb hbb).trans hb0
  refine callsIn_of_wp Tryz.func165 rfl trivial ?_ rfl
  simp only [Tryz.ntmps165, List.size_toArray, List.length_cons, List.length_nil, Nat.reduceAdd, Nat.reduceSub, Array.replicate_succ, Array.replicate_zero, List.push_toArray, List.append_toArray, List.nil_append, List.cons_append]
  have hb3 : W.cell? ⟨bb, 3, none⟩ = some (.slice ubase ul uc) := by simp [World.cell?, hb0]
  gi_wp2
  gi_loopw [14] (fun i wr => ∃ k : Nat, k ≤ ul ∧ i = .int .i64 k ∧ J (upE eU k) wr ∧ Below n₀ W wr)
    (fun i _ => ul - (intOf i).toNat)
  case atStart => exact ⟨0, Nat.zero_le _, rfl, h0, Below.refl _ _⟩
  case round =>
    obtain ⟨k, hk, rfl, hJs, hnx⟩ := hrel
    by_cases hlt : k < ul
    · obtain ⟨rfl, hlu⟩ := hub (by omega)
      have hu1 := (hnx.cell (p := ⟨ub, uo + k * 2, none⟩) hlu).trans (hU k hlt).1
      have hu2 := (hnx.cell (p := ⟨ub, uo + k * 2 + 1, none⟩) hlu).trans (hU k hlt).2
      have ht' := (hnx.cell (p := ⟨tb, 0, none⟩) htb).trans ht
      have hta : ∀ o, (wr.alloc o).cell? ⟨tb, 0, none⟩ = some (.func (.func 164) #[] #[.pointer (some ⟨sb, 0, none⟩)]) := fun o => Lib.cell?_alloc_some _ ht'
      gi_wp2
      refine ⟨trivial, (cU k hlt _ (bel hnx (grown_alloc _ _))).mono ?_⟩
      rintro e W2 ⟨rfl, hg2⟩
      obtain ⟨fn, tmps, assign, body, hy, hR⟩ := hY _ (eU k) W2 (hJ _ _ _ (hJ _ _ _ hJs (grown_alloc _ _)) hg2) (by rw [upE_length]; omega)
      have hb2 := bel (bel hnx (grown_alloc _ _)) hg2
      gi_wp2
      refine hR.mono ?_
      rintro e W3 (⟨rfl, hJ3, hk3⟩ | ⟨rfl, hJx3⟩)
      · gi_wp2
        go_roundw
        case rel => exact ⟨k + 1, by omega, by simp, by rw [upE_succ]; exact hJ3, hb2.trans hk3⟩
        case measure => simp [intOf]; omega
      · gi_wp2
        refine bodyPost_ret (results_none rfl _ _ _) rfl ?_
        refine ⟨⟨_, rfl⟩, .inr ⟨_, ?_, hJx3⟩⟩
        rw [← upE_succ]
        exact (upE_take eU (by omega)).trans (List.prefix_append _ _)
    · obtain rfl : ul = k := by omega
      have hb4 : wr.cell? ⟨bb, 4, none⟩ = some (.slice lbase ll lc) := by simp [World.cell?, hc hnx]
      gi_wp2
      gi_loopw [31] (fun i wr => ∃ k : Nat, k ≤ ll ∧ i = .int .i64 k ∧ J (upE eU ul ++ upE eL k) wr ∧ Below n₀ W wr)
        (fun i _ => ll - (intOf i).toNat)
      case atStart => exact ⟨0, Nat.zero_le _, rfl, by simpa [upE] using hJs, hnx⟩
      case round =>
        clear hJs hnx
        obtain ⟨k, hk, rfl, hJs, hnx⟩ := hrel
        by_cases hlt : k < ll
        · have q0 : wr.cell? ⟨bb, 0, none⟩ = some flo := by simp [World.cell?, hc hnx]
          have q1 : wr.cell? ⟨bb, 1, none⟩ = some fhi := by simp [World.cell?, hc hnx]
          have q2 : wr.cell? ⟨bb, 2, none⟩ = some ga := by simp [World.cell?, hc hnx]
          have q3 : wr.cell? ⟨bb, 3, none⟩ = some (.slice ubase ul uc) := by simp [World.cell?, hc hnx]
          have q4 : wr.cell? ⟨bb, 4, none⟩ = some (.slice lbase ll lc) := by simp [World.cell?, hc hnx]
          have q5 : wr.cell? ⟨bb, 5, none⟩ = some (.slice cbase cl cc) := by simp [World.cell?, hc hnx]
          have q6 : wr.cell? ⟨bb, 6, none⟩ = some (.slice kbase kl kc) := by simp [World.cell?, hc hnx]
          have hs' := (hnx.cell (p := ⟨sb, 0, none⟩) hsb).trans hs
          gi_wp2
          refine ⟨trivial, (cL k hlt _ hnx).mono ?_⟩
          rintro e W2 ⟨rfl, hg2⟩
          obtain ⟨fn, tmps, assign, body, hy, hR⟩ := hY _ (eL k) W2 (hJ _ _ _ hJs hg2) (by simp only [List.length_append, upE_length]; omega)
          have hb2 := bel hnx hg2
          gi_wp2
          refine hR.mono ?_
          rintro e W3 (⟨rfl, hJ3, hk3⟩ | ⟨rfl, hJx3⟩)
          · gi_wp2
            go_roundw
            case rel => exact ⟨k + 1, by omega, by simp, by rw [upE_succ, ← List.append_assoc]; exact hJ3, hb2.trans hk3⟩
            case measure => simp [intOf]; omega
          · gi_wp2
            refine bodyPost_ret (results_none rfl _ _ _) rfl ?_
            refine ⟨⟨_, rfl⟩, .inr ⟨_, ?_, hJx3⟩⟩
            rw [List.append_assoc, ← upE_succ]
            exact (List.prefix_append_right_inj _).2 ((upE_take eL (by omega)).trans (List.prefix_append _ _))
        · obtain rfl : ll = k := by omega
          have hb5 : wr.cell? ⟨bb, 5, none⟩ = some (.slice cbase cl cc) := by simp [World.cell?, hc hnx]
          gi_wp2
          gi_loopw [45] (fun i wr => ∃ k : Nat, k ≤ cl ∧ i = .int .i64 k ∧ J (upE eU ul ++ upE eL ll ++ upE eC k) wr ∧ Below n₀ W wr)
            (fun i _ => cl - (intOf i).toNat)
          case atStart => exact ⟨0, Nat.zero_le _, rfl, by simpa [upE] using hJs, hnx⟩
          case round =>
            clear hJs hnx
            obtain ⟨k, hk, rfl, hJs, hnx⟩ := hrel
            by_cases hlt : k < cl
            · have q0 : wr.cell? ⟨bb, 0, none⟩ = some flo := by simp [World.cell?, hc hnx]
              have q1 : wr.cell? ⟨bb, 1, none⟩ = some fhi := by simp [World.cell?, hc hnx]
              have q2 : wr.cell? ⟨bb, 2, none⟩ = some ga := by simp [World.cell?, hc hnx]
              have q3 : wr.cell? ⟨bb, 3, none⟩ = some (.slice ubase ul uc) := by simp [World.cell?, hc hnx]
              have q4 : wr.cell? ⟨bb, 4, none⟩ = some (.slice lbase ll lc) := by simp [World.cell?, hc hnx]
              have q5 : wr.cell? ⟨bb, 5, none⟩ = some (.slice cbase cl cc) := by simp [World.cell?, hc hnx]
              have q6 : wr.cell? ⟨bb, 6, none⟩ = some (.slice kbase kl kc) := by simp [World.cell?, hc hnx]
              have hs' := (hnx.cell (p := ⟨sb, 0, none⟩) hsb).trans hs
              gi_wp2
              refine ⟨trivial, (cC k hlt _ hnx).mono ?_⟩
              rintro e W2 ⟨rfl, hg2⟩
              obtain ⟨fn, tmps, assign, body, hy, hR⟩ := hY _ (eC k) W2 (hJ _ _ _ hJs hg2) (by simp only [List.length_append, upE_length]; omega)
              have hb2 := bel hnx hg2
              gi_wp2
              refine hR.mono ?_
              rintro e W3 (⟨rfl, hJ3, hk3⟩ | ⟨rfl, hJx3⟩)
              · gi_wp2
                go_roundw
                case rel => exact ⟨k + 1, by omega, by simp, by rw [upE_succ, ← List.append_assoc]; exact hJ3, hb2.trans hk3⟩
                case measure => simp [intOf]; omega
              · gi_wp2
                refine bodyPost_ret (results_none rfl _ _ _) rfl ?_
                refine ⟨⟨_, rfl⟩, .inr ⟨_, ?_, hJx3⟩⟩
                rw [List.append_assoc, ← upE_succ]
                exact by rw [List.append_assoc]; exact (List.prefix_append_right_inj _).2 ((List.prefix_append_right_inj _).2 ((upE_take eC (by omega)).trans (List.prefix_append _ _)))
            · obtain rfl : cl = k := by omega
              have hb6 : wr.cell? ⟨bb, 6, none⟩ = some (.slice kbase kl kc) := by simp [World.cell?, hc hnx]
              gi_wp2
              gi_loopw [59] (fun i wr => ∃ k : Nat, k ≤ kl ∧ i = .int .i64 k ∧ J ((upE eU ul ++ upE eL ll ++ upE eC cl) ++ upE eK k) wr ∧ Below n₀ W wr)
                (fun i _ => kl - (intOf i).toNat)
              case atStart => exact ⟨0, Nat.zero_le _, rfl, by simpa [upE] using hJs, hnx⟩
              case round =>
                clear hJs hnx
                obtain ⟨k, hk, rfl, hJs, hnx⟩ := hrel
                by_cases hlt : k < kl
                · obtain ⟨rfl, hlk⟩ := hkb (by omega)
                  have hu1 := (hnx.cell (p := ⟨kb, ko + k * 2, none⟩) hlk).trans (hK k hlt).1
                  have hu2 := (hnx.cell (p := ⟨kb, ko + k * 2 + 1, none⟩) hlk).trans (hK k hlt).2
                  have ht' := (hnx.cell (p := ⟨tb, 0, none⟩) htb).trans ht
                  have hta : ∀ o, (wr.alloc o).cell? ⟨tb, 0, none⟩ = some (.func (.func 164) #[] #[.pointer (some ⟨sb, 0, none⟩)]) := fun o => Lib.cell?_alloc_some _ ht'
                  gi_wp2
                  refine ⟨trivial, (cK k hlt _ (bel hnx (grown_alloc _ _))).mono ?_⟩
                  rintro e W2 ⟨rfl, hg2⟩
                  obtain ⟨fn, tmps, assign, body, hy, hR⟩ := hY _ (eK k) W2 (hJ _ _ _ (hJ _ _ _ hJs (grown_alloc _ _)) hg2) (by simp only [List.length_append, upE_length]; omega)
                  have hb2 := bel (bel hnx (grown_alloc _ _)) hg2
                  gi_wp2
                  refine hR.mono ?_
                  rintro e W3 (⟨rfl, hJ3, hk3⟩ | ⟨rfl, hJx3⟩)
                  · gi_wp2
                    go_roundw
                    case rel => exact ⟨k + 1, by omega, by simp, by rw [upE_succ, ← List.append_assoc]; exact hJ3, hb2.trans hk3⟩
                    case measure => simp [intOf]; omega
                  · gi_wp2
                    refine bodyPost_ret (results_none rfl _ _ _) rfl ?_
                    refine ⟨⟨_, rfl⟩, .inr ⟨_, ?_, hJx3⟩⟩
                    rw [List.append_assoc, ← upE_succ, List.append_assoc, List.append_assoc]
                    exact (List.prefix_append_right_inj _).2 ((List.prefix_append_right_inj _).2 ((List.prefix_append_right_inj _).2 (upE_take eK (by omega))))
                · obtain rfl : kl = k := by omega
                  gi_wp2
                  go_end0
                  exact ⟨⟨_, rfl⟩, .inl ⟨_, rfl, by simpa [List.append_assoc] using hJs⟩⟩
end Go.Proofs
end

noncomputable section
set_option maxRecDepth 100000
namespace Go.Proofs.ZzM
open Go Go.Am
theorem c_s_Index_int_int : PureOk Tryz.prog 150 p_s_Index_int_int := pure_top (m_s_Index_int_int_E _) (fun {_} => libN allNil _) hmix (tab := m_s_Index_int_int_tab _) rfl (allCons m_s_Index_int_int_L0_ok allNil) (pureFun_of fun x => m_s_Index_int_int_law x some)
theorem c_s_Contains_int_int : PureOk Tryz.prog 103 p_s_Contains_int_int := pure_top (m_s_Contains_int_int_E _) (fun {_} => libN (allCons c_s_Index_int_int allNil) _) hmix (tab := m_s_Contains_int_int_tab _) rfl allNil (pureFun_of fun x => m_s_Contains_int_int_law x some)
theorem c_c_days : PureOk Tryz.prog 137 p_c_days := pure_top (m_c_days_E _) (fun {_} => libN (allCons c_s_Contains_int_int allNil) _) hmix (tab := m_c_days_tab _) rfl (allCons m_c_days_L0_ok (allCons m_c_days_L1_ok allNil)) (pureFun_of fun x => m_c_days_law x some)
theorem c_c_nodes : PureOk Tryz.prog 99 p_c_nodes := pure_top (m_c_nodes_E _) (fun {_} => libN (allCons c_c_days allNil) _) hmix (tab := m_c_nodes_tab _) rfl (allCons m_c_nodes_L1_ok (allCons m_c_nodes_L0_ok allNil)) (pureFun_of fun x => m_c_nodes_law x some)
theorem c_c_shelved : PureOk Tryz.prog 106 p_c_shelved := pure_top (m_c_shelved_E _) (fun {_} => libN allNil _) hmix (tab := m_c_shelved_tab _) rfl (allCons m_c_shelved_L0_ok allNil) (pureFun_of fun x => m_c_shelved_law x some)
theorem c_c_inside : PureOk Tryz.prog 121 p_c_inside := pure_top (m_c_inside_E _) (fun {_} => libN allNil _) hmix (tab := m_c_inside_tab _) rfl allNil (pureFun_of fun x => m_c_inside_law x some)
theorem c_c_within : PureOk Tryz.prog 147 p_c_within := pure_top (m_c_within_E _) (fun {_} => libN allNil _) hmix (tab := m_c_within_tab _) rfl allNil (pureFun_of fun x => m_c_within_law x some)
theorem c_c_isDay : PureOk Tryz.prog 105 p_c_isDay := pure_top (m_c_isDay_E _) (fun {_} => libN (allCons c_c_within allNil) _) hmix (tab := m_c_isDay_tab _) rfl allNil (pureFun_of fun x => m_c_isDay_law x some)
theorem c_e_size : PureOk Tryz.prog 207 p_e_size := pure_top (m_e_size_E _) (fun {_} => libN allNil _) hmix (tab := m_e_size_tab _) rfl allNil (pureFun_of fun x => m_e_size_law x some)
theorem c_e_gcd : PureOk Tryz.prog 208 p_e_gcd := pure_top (m_e_gcd_E _) (fun {_} => libN allNil _) hmix (tab := m_e_gcd_tab _) rfl (allCons m_e_gcd_L0_ok allNil) (pureFun_of fun x => m_e_gcd_law x some)
theorem c_e_Valid : PureOk Tryz.prog 188 p_e_Valid := pure_top (m_e_Valid_E _) (fun {_} => libN (allCons c_e_size (allCons c_e_gcd allNil)) _) hmix (tab := m_e_Valid_tab _) rfl allNil (pureFun_of fun x => m_e_Valid_law x some)
theorem c_c_isGauge : PureOk Tryz.prog 163 p_c_isGauge := pure_top (m_c_isGauge_E _) (fun {_} => libN (allCons c_c_isDay (allCons c_c_inside (allCons c_c_within (allCons c_e_Valid allNil)))) _) hmix (tab := m_c_isGauge_tab _) rfl allNil (pureFun_of fun x => m_c_isGauge_law x some)
theorem c_c_checkGauges : PureOk Tryz.prog 122 p_c_checkGauges := pure_top (m_c_checkGauges_E _) (fun {_} => libN (allCons c_c_isGauge allNil) _) hmix (tab := m_c_checkGauges_tab _) rfl (allCons m_c_checkGauges_L0_ok allNil) (pureFun_of fun x => m_c_checkGauges_law x some)
theorem c_c_shelf_made : PureOk Tryz.prog 109 p_c_shelf_made := pure_top (m_c_shelf_made_E _) (fun {_} => libN allNil _) hmix (tab := m_c_shelf_made_tab _) rfl allNil (pureFun_of fun x => m_c_shelf_made_law x some)
theorem c_c_parts_1 : PureOk Tryz.prog 164 p_c_parts_1 := pure_top (m_c_parts_1_E _) (fun {_} => libN (allCons c_c_isDay (allCons c_c_shelf_made allNil)) _) hmix (tab := m_c_parts_1_tab _) rfl allNil (pureFun_of fun x => m_c_parts_1_law x some)
theorem c_c_checkLoan : PureOk Tryz.prog 166 p_c_checkLoan := pure_top (m_c_checkLoan_E _) (fun {_} => libN (allCons c_c_shelf_made (allCons c_c_inside (allCons c_c_within allNil))) _) hmix (tab := m_c_checkLoan_tab _) rfl (allCons m_c_checkLoan_L0_ok (allCons m_c_checkLoan_L1_ok allNil)) (pureFun_of fun x => m_c_checkLoan_law x some)
theorem c_c_left : PureOk Tryz.prog 78 p_c_left := pure_top (m_c_left_E _) (fun {_} => libN (allCons c_s_Contains_int_int allNil) _) hmix (tab := m_c_left_tab _) rfl (allCons m_c_left_L0_ok (allCons m_c_left_L1_ok allNil)) (pureFun_of fun x => m_c_left_law x some)
theorem c_c_isPile : PureOk Tryz.prog 104 p_c_isPile := pure_top (m_c_isPile_E _) (fun {_} => libN (allCons c_c_within allNil) _) hmix (tab := m_c_isPile_tab _) rfl (allCons m_c_isPile_L0_ok allNil) (pureFun_of fun x => m_c_isPile_law x some)
theorem c_s_Concat_int_int : PureOk Tryz.prog 107 p_s_Concat_int_int := pure_top (m_s_Concat_int_int_E _) (fun {_} => libN allNil _) hmix (tab := m_s_Concat_int_int_tab _) rfl (allCons m_s_Concat_int_int_L0_ok (allCons m_s_Concat_int_int_L1_ok allNil)) (pureFun_of fun x => m_s_Concat_int_int_law x some)
theorem c_c_away : PureOk Tryz.prog 108 p_c_away := pure_top (m_c_away_E _) (fun {_} => libN (allCons c_c_within allNil) _) hmix (tab := m_c_away_tab _) rfl (allCons m_c_away_L0_ok allNil) (pureFun_of fun x => m_c_away_law x some)
theorem c_c_checkCompare : PureOk Tryz.prog 167 p_c_checkCompare := pure_top (m_c_checkCompare_E _) (fun {_} => libN (allCons c_c_left (allCons c_c_isPile (allCons c_c_isDay (allCons c_s_Concat_int_int (allCons c_c_away (allCons c_c_shelf_made (allCons c_c_inside (allCons c_c_within allNil)))))))) _) hmix (tab := m_c_checkCompare_tab _) rfl (allCons m_c_checkCompare_L0_ok (allCons m_c_checkCompare_L2_ok (allCons m_c_checkCompare_L1_ok (allCons m_c_checkCompare_L3_ok allNil)))) (pureFun_of fun x => m_c_checkCompare_law x some)
end Go.Proofs.ZzM
end

noncomputable section
set_option maxRecDepth 100000
namespace Go.Proofs.ZzM
open Go Go.Am Go.RowKit
def rfAssign (p : String) : Code := .region 10 #[{ dst := some 5, op := .assign (.tmp 49), type := 37, pos := p, after := #[], guard := none }] false
def rfBody (q r : String) : Code := .block 1 (.seq (.region 11 #[{ dst := some 50, op := .move (.tmp 5), type := 37, pos := q, after := #[], guard := none }, { dst := some 51, op := .binOp .neq 37 (.tmp 50) (.const (.int .i64 0)) 37, type := 4, pos := q, after := #[{ on := 0, ground := .data }], guard := none }] false)
  (.cond (.tmp 51) (.seq (.region 12 #[{ dst := some 52, op := .move (.tmp 5), type := 37, pos := r, after := #[], guard := none }, { dst := none, op := .store 37 (.tmp 2) (.tmp 52), type := 0, pos := r, after := #[{ on := 0, ground := .data }, { on := 0, ground := .phase }], guard := none }] false) .ret) .skip))
section
variable {P : Program} {F : Fence} {n : Nat}
theorem opIn_valF {ops : Array Oper} {i d : Nat} {o : Oper} {u : Value} {w w' : World} {a : Act} {next : Act → World → Prop} {Q : Exit → Act → World → Prop} (hF : ∀ f, F.fn f) (ho : ops[i]? = some o) (hg : o.guard = none) (hd : o.dst = some d) (hdf : ∀ c, o.op ≠ .defer c)
    (hrun : (execOp a.eval o).run P w = .ok (.value u) w') (k : next (a.put (some d) u) w') : wpOpIn F n P ops Q i next a w := by
  unfold wpOpIn
  rw [ho]
  have hw : Region.wanted o (yielded ops a.tmps) = true := by simp [Region.wanted, hg]
  simp only [hw, if_true]
  refine ⟨fun _ _ => hF _, ?_⟩
  rw [Oper.semAt_eq _ _ _ hdf, hrun]
  rw [← hd] at k
  exact k
theorem opIn_skipF {ops : Array Oper} {i : Nat} {o : Oper} {w w' : World} {a : Act} {next : Act → World → Prop} {Q : Exit → Act → World → Prop} (hF : ∀ f, F.fn f) (ho : ops[i]? = some o) (hg : o.guard = none) (hd : o.dst = none) (hdf : ∀ c, o.op ≠ .defer c)
    (hrun : (execOp a.eval o).run P w = .ok .skip w') (k : next a w') : wpOpIn F n P ops Q i next a w := by
  unfold wpOpIn
  rw [ho]
  have hw : Region.wanted o (yielded ops a.tmps) = true := by simp [Region.wanted, hg]
  simp only [hw, if_true]
  refine ⟨fun _ _ => hF _, ?_⟩
  rw [Oper.semAt_eq _ _ _ hdf, hrun]
  show next (a.put o.dst undef) w'
  rw [hd]
  exact k
end
theorem getD_set (T : Array Value) (i j : Nat) (v : Value) : (T.setIfInBounds i v).getD j undef = if i = j ∧ i < T.size then v else T.getD j undef := by
  simp only [Array.getD_eq_getD_getElem?, Array.getElem?_setIfInBounds]
  by_cases h : i = j
  · subst h
    by_cases h2 : i < T.size
    · simp [h2]
    · simp [h2]
  · simp [h]
def mark (D : Nat) : Deferred := { target := .collected D, args := #[] }
structure Put1 (n₀ rb : Nat) (x : Int) (w W : World) : Prop where
  os : W.os = w.os
  tape : W.tape = w.tape
  output : W.output = w.output
  size : w.heap.size ≤ W.heap.size
  block : ∀ k, k < n₀ → k ≠ rb → W.heap[k]? = w.heap[k]?
  cell : ∃ e, W.heap[rb]? = some (.cells #[.int .i64 x] e (0, 0))
set_option maxHeartbeats 4000000 in
theorem rf_loop {a : Act} {w : World} {Q : Exit → Act → World → Prop} {lb : Array Value} {L : List Int} {rb : Nat} {e0 : TypeId} {v0 : Value} {p q r : String}
    (hseq : SeqStopsK Fence.wide 1 Tryz.prog 165 lb (fun x : Int => #[.int .i64 x]) (Below w.heap.size) (fun xs => xs = L) (fun pre => pre <+: L) L.length w)
    (hg : a.tmps.getD 48 undef = .func (.func 165) #[] lb) (h2 : a.tmps.getD 2 undef = .pointer (some ⟨rb, 0, none⟩)) (hsz : 78 ≤ a.tmps.size)
    (hrb : w.heap[rb]? = some (.cells #[v0] e0 (0, 0)))
    (hdone : ∀ D W, (∀ x ∈ L, x = 0) → Below w.heap.size w W → w.heap.size ≤ D → W.heap[D]? = some (.deferred (some [])) → Q .normal { a with defers := mark D :: a.defers } W)
    (hstop : ∀ D W x, L.find? (fun e => e != 0) = some x → Put1 w.heap.size rb x w W → w.heap.size ≤ D → W.heap[D]? = some (.deferred (some [])) → Q .ret { a with defers := mark D :: a.defers } W) :
    (Code.rangeFunc (.tmp 48) #[49] (rfAssign p) (rfBody q r)).wpIn Fence.wide 2 Tryz.prog Q a w := by
  have hT : ∀ f, Fence.wide.fn f := fun _ => trivial
  have hrl := heap_lt hrb
  refine wpIn_rangeFunc_ownF (α := Int) (encs := fun x => #[.int .i64 x]) (Kp := Below w.heap.size) (S := fun xs => xs = L) (Sp := fun pre => pre <+: L) (N := L.length) (w0 := w) rfl (by omega) hg trivial (fun args w => ?eg) hseq
    (fun h k => h.trans k) (fun W l o o' hl ho hc hw => belowK_b (Nat.le_refl _) W l o o' hl ho hc hw) (Below.refl _ _) (fun _ => rfl)
    (fun pre W => (∀ x ∈ pre, x = 0) ∧ Below w.heap.size w W)
    (fun c pre W => c = .ret ∧ ∃ pre' x, pre = pre' ++ [x] ∧ (∀ x ∈ pre', x = 0) ∧ x ≠ 0 ∧ Put1 w.heap.size rb x w W)
    ?hI ?hIx ⟨by simp, Below.refl _ _⟩ (fun x => { tmps := (a.tmps.setIfInBounds 49 (.int .i64 x)).setIfInBounds 5 (.int .i64 x), defers := [] }) ?hassign ?hbody ?hdone ?hstop
  case eg => simp [callFunc, Sem.run_bind, run_program, Result.andThen_ok, Tryz.func165, plain 165 _ Tryz.func165, show Tryz.f165.body.isNone = false from rfl]; rfl
  case hI =>
    intro s W W' row ⟨h1, h2⟩ hgr hr
    exact ⟨h1, hgr.os.trans h2.os, hgr.tape.trans h2.tape, hgr.output.trans h2.output, Nat.le_trans h2.size hgr.size, fun k hk => (hgr.block k (Nat.lt_of_lt_of_le hk h2.size) (fun e => by have := (hr k e.symm).1; omega)).trans (h2.block k hk)⟩
  case hIx =>
    intro c s W W' row ⟨h1, pre', x, h3, h4, h5, h6⟩ hgr hr
    have hb : ∀ k, k < w.heap.size → W'.heap[k]? = W.heap[k]? := fun k hk => hgr.block k (Nat.lt_of_lt_of_le hk h6.size) (fun e => by have := (hr k e.symm).1; omega)
    exact ⟨h1, pre', x, h3, h4, h5, hgr.os.trans h6.os, hgr.tape.trans h6.tape, hgr.output.trans h6.output, Nat.le_trans h6.size hgr.size, fun k hk hne => (hb k hk).trans (h6.block k hk hne), by
      obtain ⟨e, he⟩ := h6.cell
      exact ⟨e, (hb rb hrl).trans he⟩⟩
  case hassign =>
    intro l x W K hK
    have hf : ((#[49] : Array Tmp).zip #[Value.int .i64 x]).foldl (fun t (p, v) => t.setIfInBounds p v) a.tmps = a.tmps.setIfInBounds 49 (.int .i64 x) := by simp
    rw [hf]
    refine wpIn_region ?_
    rw [show ∀ o : Oper, List.range (#[o] : Array Oper).size = [0] from fun _ => rfl, wpOpsIn_cons]
    refine opIn_valF (d := 5) (u := .int .i64 x) (w' := W) hT rfl rfl rfl (by simp) ?_ hK
    show Result.ok (Next.value ((a.tmps.setIfInBounds 49 (.int .i64 x)).getD 49 undef)) W = _
    rw [getD_set, if_pos ⟨rfl, by omega⟩]
  case hbody =>
    intro l pre x W ⟨h1, hbel⟩ hpre
    refine wpIn_block (wpIn_seq (wpIn_region ?_))
    rw [show ∀ o p : Oper, List.range (#[o, p] : Array Oper).size = [0, 1] from fun _ _ => rfl, wpOpsIn_cons]
    refine opIn_valF (d := 50) (u := .int .i64 x) (w' := W) hT rfl rfl rfl (by simp) (by
      show Result.ok (Next.value (((a.tmps.setIfInBounds 49 (.int .i64 x)).setIfInBounds 5 (.int .i64 x)).getD 5 undef)) W = _
      rw [getD_set, if_pos ⟨rfl, by simp; omega⟩]) ?_
    rw [wpOpsIn_cons]
    refine opIn_valF (d := 51) (u := .bool (x != 0)) (w' := W) hT rfl rfl rfl (by simp) (by
      show ((do let u ← (do eqGuard .neq 37 (.tmp 50) (.const (.int .i64 0)) ((((a.tmps.setIfInBounds 49 (.int .i64 x)).setIfInBounds 5 (.int .i64 x)).setIfInBounds 50 (.int .i64 x)).getD 50 undef) (.int .i64 0); binOp .neq 37 ((((a.tmps.setIfInBounds 49 (.int .i64 x)).setIfInBounds 5 (.int .i64 x)).setIfInBounds 50 (.int .i64 x)).getD 50 undef) (.int .i64 0)); pure (.value u)) : Sem Next).run Tryz.prog W = _
      rw [getD_set, if_pos ⟨rfl, by simp; omega⟩]
      simp [eqGuard, binOp, Op.intCmp]) ?_
    show Code.wpIn (Fence.wide.inRound l) (2 - 1 - 1) Tryz.prog (Code.cond (.tmp 51) _ .skip) _ { tmps := ((((a.tmps.setIfInBounds 49 (.int .i64 x)).setIfInBounds 5 (.int .i64 x)).setIfInBounds 50 (.int .i64 x)).setIfInBounds 51 (.bool (x != 0))), defers := [] } W
    obtain ⟨T, hTd⟩ : ∃ T, T = ((((a.tmps.setIfInBounds 49 (.int .i64 x)).setIfInBounds 5 (.int .i64 x)).setIfInBounds 50 (.int .i64 x)).setIfInBounds 51 (.bool (x != 0))) := ⟨_, rfl⟩
    rw [← hTd]
    have t51 : T.getD 51 undef = .bool (x != 0) := by rw [hTd, getD_set, if_pos ⟨rfl, by simp; omega⟩]
    have t5 : T.getD 5 undef = .int .i64 x := by rw [hTd, getD_set, if_neg (by simp), getD_set, if_neg (by simp), getD_set, if_pos ⟨rfl, by simp; omega⟩]
    have t2 : T.getD 2 undef = .pointer (some ⟨rb, 0, none⟩) := by rw [hTd, getD_set, if_neg (by simp), getD_set, if_neg (by simp), getD_set, if_neg (by simp), getD_set, if_neg (by simp), h2]
    have tsz : 78 ≤ T.size := by rw [hTd]; simpa using hsz
    clear hTd
    by_cases hx : x = 0
    · have e51 : Act.eval { tmps := T, defers := [] } (.tmp 51) = .bool false := t51.trans (by simp [hx])
      refine wpIn_cond_false e51 (wpIn_skip ?_)
      simp only [Exit.inBlock, ownPostK]
      exact ⟨KeepsOthers.refl _, Below.refl _ _, fun y hy => (List.mem_append.1 hy).elim (h1 y) (fun h => by rw [List.mem_singleton] at h; rw [h, hx]), hbel⟩
    · have e51 : Act.eval { tmps := T, defers := [] } (.tmp 51) = .bool true := t51.trans (by simp [hx])
      refine wpIn_cond_true e51 (wpIn_seq (wpIn_region ?_))
      rw [show ∀ o p : Oper, List.range (#[o, p] : Array Oper).size = [0, 1] from fun _ _ => rfl, wpOpsIn_cons]
      have e5 : (execOp (Act.eval { tmps := T, defers := [] }) { dst := some 52, op := .move (.tmp 5), type := 37, pos := r, after := #[], guard := none }).run Tryz.prog W = .ok (.value (.int .i64 x)) W := by
        show Result.ok (Next.value (T.getD 5 undef)) W = _
        rw [t5]
      refine opIn_valF (d := 52) (u := .int .i64 x) (w' := W) hT rfl rfl rfl (by simp) e5 ?_
      rw [wpOpsIn_cons]
      have hW : W.heap[rb]? = some (.cells #[v0] e0 (0, 0)) := (hbel.block rb hrl).trans hrb
      letI : Ghost := ⟨fun _ => False, [], none⟩
      have hst := run_storeVar (P := Tryz.prog) (w := W) (t := 37) (u := .int .i64 x) (n := 1) (b := rb) (o := 0) (by kernel_rfl) rfl hW (by simp) (by simp [Value.cells, Value.oneCell'])
      have hst' : (storeVar 37 ⟨rb, 0, none⟩ (.int .i64 x)).run Tryz.prog W = .ok () (W.setRow rb #[.int .i64 x]) := by simpa [Value.cells] using hst
      have t52 : (T.setIfInBounds 52 (.int .i64 x)).getD 52 undef = .int .i64 x := by rw [getD_set, if_pos ⟨rfl, by omega⟩]
      have t2' : (T.setIfInBounds 52 (.int .i64 x)).getD 2 undef = .pointer (some ⟨rb, 0, none⟩) := by rw [getD_set, if_neg (by simp), t2]
      have e6 : (execOp (Act.eval { tmps := T.setIfInBounds 52 (.int .i64 x), defers := [] }) { dst := none, op := .store 37 (.tmp 2) (.tmp 52), type := 0, pos := r, after := #[{ on := 0, ground := .data }, { on := 0, ground := .phase }], guard := none }).run Tryz.prog W = .ok .skip (W.setRow rb #[.int .i64 x]) := by
        show ((do Instr.storeAt 37 ((T.setIfInBounds 52 (.int .i64 x)).getD 2 undef) ((T.setIfInBounds 52 (.int .i64 x)).getD 52 undef); pure .skip) : Sem Next).run Tryz.prog W = _
        rw [t52, t2']
        simp [Instr.storeAt, Instr.sureAddr, hst']
      refine opIn_skipF (w' := W.setRow rb #[.int .i64 x]) hT rfl rfl rfl (by simp) e6 ?_
      refine wpIn_ret ?_
      simp only [Exit.inBlock, ownPostK]
      refine ⟨⟨by simp, fun k o hk ho => ?_⟩, trivial, pre, x, rfl, h1, hx, hbel.os, hbel.tape, hbel.output, by simpa using hbel.size, fun k hk hne => (setRow_other _ _ _ _ hne).trans (hbel.block k hk), ⟨_, setRow_heap _ _ _ _ _ _ hW⟩⟩
      by_cases hk2 : k = rb
      · subst hk2; rw [hW] at hk; cases hk; simp [Obj.isCells] at ho
      · rw [setRow_other _ _ _ _ hk2]; exact hk
  case hdone =>
    intro D xs W hD hS ⟨h1, hbel⟩ hDo
    subst hS
    exact hdone D W h1 hbel hD hDo
  case hstop =>
    intro D c pre W hD hS ⟨hc, pre', x, h3, h4, h5, h6⟩ hDo
    subst hc
    refine wpIn_ret (hstop D W x ?_ h6 hD hDo)
    obtain ⟨t, rfl⟩ := hS
    rw [h3, List.append_assoc, List.find?_append]
    have : List.find? (fun e => e != 0) pre' = none := List.find?_eq_none.2 fun y hy => by simp [h4 y hy]
    rw [this]
    simp [h5]
end Go.Proofs.ZzM
end

noncomputable section
set_option maxRecDepth 100000
namespace Go.Proofs.ZzM
open Go Go.Am Go.RowKit
def fstC : Code → Code
  | .seq a _ => a
  | c => c
def sndC : Code → Code
  | .seq _ b => b
  | c => c
def nthC : Nat → Code → Code
  | 0, c => fstC c
  | n + 1, c => nthC n (sndC c)
def dropC : Nat → Code → Code
  | 0, c => c
  | n + 1, c => dropC n (sndC c)
def ckB : Code := Tryz.f46.body.getD .skip
def ckA5 : Code := fstC (dropC 5 ckB |> fstC)
def ckRF : Code := sndC (dropC 5 ckB |> fstC)
def ckRest : Code := sndC (dropC 5 ckB)
def ckPre : Code := .seq (nthC 0 ckB) (.seq (nthC 1 ckB) (.seq (nthC 2 ckB) (.seq (nthC 3 ckB) (.seq (nthC 4 ckB) ckA5))))
theorem ckB_eq : Tryz.f46.body = some (.seq (nthC 0 ckB) (.seq (nthC 1 ckB) (.seq (nthC 2 ckB) (.seq (nthC 3 ckB) (.seq (nthC 4 ckB) (.seq (.seq ckA5 ckRF) ckRest)))))) := by kernel_rfl
def ck_pt : List (Nat × PFun) := [(99, p_c_nodes), (106, p_c_shelved), (121, p_c_inside), (122, p_c_checkGauges)]
def ckE (ρ : Type) : Env ρ := mkEnv ck_pt []
abbrev ckR : Type := Int ⊕ (List AV × List Blk)
def ckRes (S : St) : Option Int := match resultsOf Tryz.prog Tryz.f46 S with
  | some v => resH [tI] S.h v
  | none => none
def ckK (e : Exit) (S : St) : Option ckR := match e with
  | .ret => match ckRes S with
    | some n => some (.inl n)
    | none => none
  | .normal => match decide (78 ≤ S.t.length) with
    | true => some (.inr ([lk S.t 1, lk S.t 2, lk S.t 48], S.h))
    | false => none
  | _ => none
def ckH (x : Val tyBook) (s : Val (.map tI tyGauge)) (n : Int) : List Blk :=
  [.cells (flat tyBook x), .cells [.int .i64 n], .cells (flat tyBook x), .cells [.mp tI tyGauge s], .cells [.fn (.func 164) [] [.box 3 0]]]
def ckM (x : Val tyBook) : Option ckR :=
  bindF (f_c_inside x.1 (0 : Int) (1000000 : Int)) fun r1 => ifb (!r1) (some (.inl 1)) (ifb (igt (ilen x.2.1) (12 : Int)) (some (.inl 2)) (ifb (igt (ilen x.2.2.1) (40 : Int)) (some (.inl 2)) (ifb (igt (ilen x.2.2.2.1) (12 : Int)) (some (.inl 2)) (ifb (igt (ilen x.2.2.2.2.1) (40 : Int)) (some (.inl 2)) (ifb (igt (ilen x.2.2.2.2.2) (10 : Int)) (some (.inl 2))
    (bindF (f_c_checkGauges x) fun r2 => ifb (ine r2 (0 : Int)) (some (.inl r2)) (bindF (f_c_shelved x) fun r3 => some (.inr ([.box 0 0, .box 1 0, .fn (.func 165) [] [.box 2 0, .box 4 0, .box 3 0]], ckH x r3 0)))))))))
theorem ck_pre (x : Val tyBook) : goC (ckE ckR) (callN (ckE ckR) 10) 46 [] 0 0 ckPre { t := encL [tyBook] x ++ List.replicate 77 .any, h := [] } ckK = ckM x := by kernel_rfl
def ckE2 (ρ : Type) : Env ρ := { ckE ρ with inl := fun _ => false }
def ckS (x : Val tyBook) : Option Int :=
  bindF (f_c_nodes x) fun r5 => ifb (igt (ilen r5) (59 : Int)) (some (2 : Int)) (ck ((2 : Int) * (ilen x.2.1)) fun n6 => ck ((ilen r5) - (ilen x.2.1)) fun n7 => ck ((2 : Int) * n7) fun n8 => ck (n6 + n8) fun n9 => ck ((2 : Int) * (ilen x.2.2.2.2.1)) fun n10 => ck (n9 + n10) fun n11 => ifb (igt n11 (300 : Int)) (some (2 : Int)) (some (0 : Int)))
def ckK2 (e : Exit) (S : St) : Option Int := match e with
  | .ret => match lk S.t 2 with
    | .box 1 0 => match lkB S.h 1 with
      | .cells [.int .i64 n] => some n
      | _ => none
    | _ => none
  | _ => none
theorem ck_suf (x : Val tyBook) (s : Val (.map tI tyGauge)) : goC (ckE2 Int) (callN (ckE2 Int) 10) 46 [] 0 0 ckRest { t := [.any, .box 0 0, .box 1 0] ++ List.replicate 75 .any, h := ckH x s 0 } ckK2 = ckS x := by kernel_rfl
theorem ck_model (x : Val tyBook) : f_c_Check x = match ckM x with
    | none => none
    | some (.inl n) => some n
    | some (.inr _) => bindF (f_c_shelved x) fun s => rangeK (l_c_parts x s) some (ckS x) := by
  unfold f_c_Check m_c_Check ckM ckS
  cases f_c_inside x.1 (0 : Int) (1000000 : Int) with
  | none => rfl
  | some r1 =>
  cases r1 with
  | false => rfl
  | true =>
  simp only [bindF, ifb, Bool.not_true]
  cases igt (ilen x.2.1) (12 : Int) with
  | true => rfl
  | false =>
  cases igt (ilen x.2.2.1) (40 : Int) with
  | true => rfl
  | false =>
  cases igt (ilen x.2.2.2.1) (12 : Int) with
  | true => rfl
  | false =>
  cases igt (ilen x.2.2.2.2.1) (40 : Int) with
  | true => rfl
  | false =>
  cases igt (ilen x.2.2.2.2.2) (10 : Int) with
  | true => rfl
  | false =>
  cases f_c_checkGauges x with
  | none => rfl
  | some r2 =>
  simp only
  cases ine r2 (0 : Int) with
  | true => rfl
  | false =>
  cases f_c_shelved x with
  | none => rfl
  | some r3 => rfl
theorem ckM_inr {x : Val tyBook} {q : List AV × List Blk} (h : ckM x = some (.inr q)) : ((x.2.2.1 : List (Val tySpan)).length ≤ 1000 ∧ (x.2.2.2.1 : List (Val tyLoan)).length ≤ 1000 ∧ (x.2.2.2.2.1 : List (Val tyCompare)).length ≤ 1000 ∧ (x.2.2.2.2.2 : List (Val tySpan)).length ≤ 1000) ∧
    ∃ s, f_c_shelved x = some s ∧ q = ([.box 0 0, .box 1 0, .fn (.func 165) [] [.box 2 0, .box 4 0, .box 3 0]], ckH x s 0) := by
  unfold ckM at h
  cases h0 : f_c_inside x.1 (0 : Int) (1000000 : Int) with
  | none => rw [h0] at h; cases h
  | some r1 =>
  rw [h0] at h
  cases r1 with
  | false => cases h
  | true =>
  simp only [bindF, ifb, Bool.not_true] at h
  cases h1 : igt (ilen x.2.1) (12 : Int) with
  | true => rw [h1] at h; cases h
  | false =>
  rw [h1] at h
  cases h2 : igt (ilen x.2.2.1) (40 : Int) with
  | true => rw [h2] at h; cases h
  | false =>
  rw [h2] at h
  cases h3 : igt (ilen x.2.2.2.1) (12 : Int) with
  | true => rw [h3] at h; cases h
  | false =>
  rw [h3] at h
  cases h4 : igt (ilen x.2.2.2.2.1) (40 : Int) with
  | true => rw [h4] at h; cases h
  | false =>
  rw [h4] at h
  cases h5 : igt (ilen x.2.2.2.2.2) (10 : Int) with
  | true => rw [h5] at h; cases h
  | false =>
  rw [h5] at h
  cases h6 : f_c_checkGauges x with
  | none => rw [h6] at h; cases h
  | some r2 =>
  rw [h6] at h
  simp only at h
  cases h7 : ine r2 (0 : Int) with
  | true => rw [h7] at h; cases h
  | false =>
  rw [h7] at h
  cases h8 : f_c_shelved x with
  | none => rw [h8] at h; cases h
  | some r3 =>
  rw [h8] at h
  have lt : ∀ {α : Type} (l : List α) (n : Nat), igt (ilen l) (n : Int) = false → l.length ≤ n := by
    intro α l n h
    unfold ilen at h
    rw [natI_eq] at h
    simp only [igt, gt_iff_lt, decide_eq_false_iff_not] at h
    omega
  simp only [Option.some.injEq, Sum.inr.injEq] at h
  exact ⟨⟨by have := lt x.2.2.1 40 h2; omega, by have := lt x.2.2.2.1 12 h3; omega, by have := lt x.2.2.2.2.1 40 h4; omega, by have := lt x.2.2.2.2.2 10 h5; omega⟩, r3, rfl, h.symm⟩
theorem mapO_get {α β : Type} {f : α → Option β} : ∀ {l : List α} {m : List β}, mapO f l = some m → m.length = l.length ∧ ∀ (i : Nat) (a : α), l[i]? = some a → ∃ b, m[i]? = some b ∧ f a = some b
  | [], m, h => by cases h; exact ⟨rfl, fun i a ha => by simp at ha⟩
  | a :: l, m, h => by
    unfold mapO at h
    cases ha : f a with
    | none => rw [ha] at h; cases h
    | some b =>
      rw [ha] at h
      cases hl : mapO f l with
      | none => rw [hl] at h; cases h
      | some m' =>
        rw [hl] at h
        cases h
        obtain ⟨h1, h2⟩ := mapO_get hl
        refine ⟨by simp [h1], fun i c hc => ?_⟩
        cases i with
        | zero => simp at hc; subst hc; exact ⟨b, by simp, ha⟩
        | succ i => simpa using h2 i c (by simpa using hc)
theorem upE_list (l : List Int) : upE (fun j => l[j]?.getD 0) l.length = l := by
  unfold upE
  refine List.ext_getElem (by simp) fun i h1 h2 => ?_
  simp at h1
  simp [h1]
theorem CR.below {n₀ : Nat} {w W : World} {av : Nat → Prop} (hb : Below n₀ w W) (hn : w.heap.size ≤ n₀) {t : Ty} {x : Val t} {vs : List Value} (h : CR w av t x vs) : CR W av t x vs :=
  h.keep fun b hlt ha => ⟨hb.block b (Nat.lt_of_lt_of_le hlt hn), ha⟩
theorem spans_cells {w : World} {av : Nat → Prop} {xs : List (Int × Int)} {v : Value} (h : CR w av (.slice tySpan) xs [v]) : ∃ base cap b off, v = .slice base xs.length cap ∧ (0 < xs.length → base = some ⟨b, off, none⟩ ∧ b < w.heap.size) ∧
    ∀ j, j < xs.length → w.cell? ⟨b, off + j * 2, none⟩ = some (.int .i64 (xs[j]?.getD (0, 0)).1) ∧ w.cell? ⟨b, off + j * 2 + 1, none⟩ = some (.int .i64 (xs[j]?.getD (0, 0)).2) := by
  obtain ⟨base, cap, e, hc, hx⟩ := h
  cases e
  rcases hx with hx | ⟨b, off, hb, hav, hlt, hx⟩
  · refine ⟨base, cap, 0, 0, rfl, fun h => ?_, fun j hj => ?_⟩
    · rw [show xs = [] from hx] at h; simp at h
    · rw [show xs = [] from hx] at hj; simp at hj
  · refine ⟨base, cap, b, off, rfl, fun _ => ⟨hb, hlt⟩, fun j hj => ?_⟩
    obtain ⟨us, h1, h2⟩ := hx j xs[j] (List.getElem?_eq_getElem hj)
    obtain ⟨u1, u2, e1, h3, h4⟩ := h1
    have e3 : u1 = [.int .i64 xs[j].1] := h3
    have e4 : u2 = [.int .i64 xs[j].2] := h4
    subst e3 e4 e1
    have s : (tySpan).size = 2 := rfl
    rw [s] at h2
    have c1 := h2 0 _ rfl
    have c2 := h2 1 _ rfl
    rw [List.getElem?_eq_getElem hj]
    exact ⟨by simpa using c1, by simpa [Nat.add_assoc] using c2⟩
end Go.Proofs.ZzM
end

noncomputable section
set_option maxRecDepth 100000
namespace Go.Proofs.ZzM
open Go Go.Am Go.RowKit
section
variable {w W W' : World}
abbrev noG : Nat → Prop := fun _ => False
theorem int_arg (w : World) (n : Int) : ArgVal w noG tI n (.int .i64 n) := ⟨[.int .i64 n], rfl, rfl⟩
theorem map_ptr {sb : Nat} {mv : Value} {e : TypeId} {s : Val (.map tI tyGauge)} (h : w.heap[sb]? = some (.cells #[mv] e (0, 0))) (hm : CR w noG (.map tI tyGauge) s [mv]) : ArgVal w noG (.ptr (.map tI tyGauge)) s (.pointer (some ⟨sb, 0, none⟩)) := by
  letI : Ghost := ⟨fun _ => False, [], none⟩
  exact ⟨[.pointer (some ⟨sb, 0, none⟩)], ⟨sb, 0, [mv], rfl, id, heap_lt h, hm, CellsAt.of_cells h⟩, rfl⟩
theorem ret_int {y : Int} {u : Value} (h : RR w noG [tI] y u) : u = .int .i64 y := by
  obtain ⟨us, h1, rfl⟩ := h
  have : us = [.int .i64 y] := h1
  rw [this]; rfl
theorem grown_of (h1 : ∀ b, b < W.heap.size → W'.heap[b]? = W.heap[b]?) (h2 : W.heap.size ≤ W'.heap.size) (h3 : W'.os = W.os) (h4 : W'.tape = W.tape) (h5 : W'.output = W.output) : W.grownBy W' none :=
  ⟨h3, h4, h5, h2, fun b hb _ => h1 b hb⟩
theorem call_int {f : Nat} {p : PFun} (hp : PureOk Tryz.prog f p) (hrs : p.rs = [tI]) {x : Val (tyL p.ts)} {y : Int} (hF : p.F x = some (hrs ▸ (show Val (tyL [tI]) from y))) {vals : List Value} (ha : AL W noG p.ts x vals) :
    CallsIn Fence.wide 0 Tryz.prog f vals.toArray W fun e W'' => e = .returned (.int .i64 y) ∧ W.grownBy W'' none := by
  obtain ⟨ts, rs, F⟩ := p
  dsimp only at hrs hF ha x
  subst hrs
  refine (hp noG x y hF W vals (fun _ h => h.elim) ha).2.mono fun e w' ⟨u, h0, h1, h2, h3, h4, h5, h6⟩ => ⟨?_, grown_of h2 h3 h4 h5 h6⟩
  rw [h0, ret_int h1]
theorem uses_call {s : Val (.map tI tyGauge)} {a b y : Int} (hF : f_c_parts_1 a b s = some y) {sb : Nat} {mv : Value} {e : TypeId} (h : W.heap[sb]? = some (.cells #[mv] e (0, 0))) (hm : CR W noG (.map tI tyGauge) s [mv]) :
    CallsIn Fence.wide 0 Tryz.prog 164 #[.int .i64 a, .int .i64 b, .pointer (some ⟨sb, 0, none⟩)] W fun e W'' => e = .returned (.int .i64 y) ∧ W.grownBy W'' none :=
  call_int c_c_parts_1 rfl (x := (a, b, s)) (y := y) hF (vals := [.int .i64 a, .int .i64 b, .pointer (some ⟨sb, 0, none⟩)]) ⟨_, _, rfl, int_arg _ _, _, _, rfl, int_arg _ _, _, rfl, map_ptr h hm⟩
theorem map_arg {mv : Value} {s : Val (.map tI tyGauge)} (hm : CR W noG (.map tI tyGauge) s [mv]) : ArgVal W noG (.map tI tyGauge) s mv := ⟨[mv], hm, rfl⟩
theorem book_arg {x : Val tyBook} {cs : Array Value} (hb : CR W noG tyBook x cs.toList) : ArgVal W noG tyBook x (.agg cs) := ⟨cs.toList, hb, by show Value.agg cs = Value.agg cs.toList.toArray; rw [Array.toArray_toList]⟩
theorem loan_call {x : Val tyBook} {s : Val (.map tI tyGauge)} {i y : Int} (hF : f_c_checkLoan x s i = some y) {mv : Value} {cs : Array Value} (hb : CR W noG tyBook x cs.toList) (hm : CR W noG (.map tI tyGauge) s [mv]) :
    CallsIn Fence.wide 0 Tryz.prog 166 #[.agg cs, mv, .int .i64 i] W fun e W'' => e = .returned (.int .i64 y) ∧ W.grownBy W'' none :=
  call_int c_c_checkLoan rfl (x := (x, s, i)) (y := y) hF (vals := [.agg cs, mv, .int .i64 i]) ⟨_, _, rfl, book_arg hb, _, _, rfl, map_arg hm, _, rfl, int_arg _ _⟩
theorem compare_call {x : Val tyBook} {s : Val (.map tI tyGauge)} {i y : Int} (hF : f_c_checkCompare x s i = some y) {mv : Value} {cs : Array Value} (hb : CR W noG tyBook x cs.toList) (hm : CR W noG (.map tI tyGauge) s [mv]) :
    CallsIn Fence.wide 0 Tryz.prog 167 #[.agg cs, mv, .int .i64 i] W fun e W'' => e = .returned (.int .i64 y) ∧ W.grownBy W'' none :=
  call_int c_c_checkCompare rfl (x := (x, s, i)) (y := y) hF (vals := [.agg cs, mv, .int .i64 i]) ⟨_, _, rfl, book_arg hb, _, _, rfl, map_arg hm, _, rfl, int_arg _ _⟩
end
theorem slice_cells {w : World} {av : Nat → Prop} {t : Ty} {xs : List (Val t)} {vs : List Value} (h : CR w av (.slice t) xs vs) : ∃ base cap, vs = [.slice base xs.length cap] := by
  obtain ⟨base, cap, e, _⟩ := h
  exact ⟨base, cap, e⟩
theorem seqParts {x : Val tyBook} {s : Val (.map tI tyGauge)} {l1 l2 l3 l4 : List Int} (h1 : mapO (fun u => f_c_parts_1 u.1 u.2 s) (x.2.2.1 : List (Int × Int)) = some l1) (h2 : mapO (fun i => f_c_checkLoan x s i) (uptoI (x.2.2.2.1 : List (Val tyLoan)).length) = some l2)
    (h3 : mapO (fun i => f_c_checkCompare x s i) (uptoI (x.2.2.2.2.1 : List (Val tyCompare)).length) = some l3) (h4 : mapO (fun u => f_c_parts_1 u.1 u.2 s) (x.2.2.2.2.2 : List (Int × Int)) = some l4)
    (hlen : (x.2.2.1 : List (Val tySpan)).length ≤ 1000 ∧ (x.2.2.2.1 : List (Val tyLoan)).length ≤ 1000 ∧ (x.2.2.2.2.1 : List (Val tyCompare)).length ≤ 1000 ∧ (x.2.2.2.2.2 : List (Val tySpan)).length ≤ 1000)
    {w : World} {bb tb sb : Nat} {te te2 te3 : TypeId} {cb : Array Value} {mv : Value} (hbb : w.heap[bb]? = some (.cells cb te (0, 0))) (hbk : CR w noG tyBook x cb.toList) (htb : w.heap[tb]? = some (.cells #[.func (.func 164) #[] #[.pointer (some ⟨sb, 0, none⟩)]] te2 (0, 0)))
    (hsb : w.heap[sb]? = some (.cells #[mv] te3 (0, 0))) (hmv : CR w noG (.map tI tyGauge) s [mv]) :
    SeqStopsK Fence.wide 1 Tryz.prog 165 #[.pointer (some ⟨bb, 0, none⟩), .pointer (some ⟨tb, 0, none⟩), .pointer (some ⟨sb, 0, none⟩)] (fun x : Int => #[.int .i64 x]) (Below w.heap.size) (fun xs => xs = l1 ++ (l2 ++ (l3 ++ l4))) (fun pre => pre <+: (l1 ++ (l2 ++ (l3 ++ l4)))) (l1 ++ (l2 ++ (l3 ++ l4))).length w := by
  intro l J Jx W hbel hJ hJx hY h0
  obtain ⟨fl, r0, e0, hfl, hr0⟩ := id hbk
  obtain ⟨ga, r1, e1, hga, hr1⟩ := hr0
  obtain ⟨us, r2, e2, hus, hr2⟩ := hr1
  obtain ⟨lo, r3, e3, hlo, hr3⟩ := hr2
  obtain ⟨co, ko, e4, hco, hko⟩ := hr3
  obtain ⟨f1, f2, e5, hf1, hf2⟩ := hfl
  have e6 : f1 = [.int .i64 x.1.1] := hf1
  have e7 : f2 = [.int .i64 x.1.2] := hf2
  obtain ⟨gab, gac, e8⟩ := slice_cells hga
  obtain ⟨lob, loc, e9⟩ := slice_cells hlo
  obtain ⟨cob, coc, e10⟩ := slice_cells hco
  obtain ⟨usb0, usc0, e11⟩ := slice_cells hus
  obtain ⟨kob0, koc0, e12⟩ := slice_cells hko
  rw [e11] at hus
  rw [e12] at hko
  obtain ⟨usb, usc, ub, uo, e13, hub, hU⟩ := spans_cells hus
  obtain ⟨kob, koc, kb, kof, e14, hkb, hK⟩ := spans_cells hko
  rw [e13] at e11
  rw [e14] at e12
  have hcb : cb = #[.int .i64 x.1.1, .int .i64 x.1.2, .slice gab (x.2.1 : List (Val tyGauge)).length gac, .slice usb (x.2.2.1 : List (Val tySpan)).length usc, .slice lob (x.2.2.2.1 : List (Val tyLoan)).length loc, .slice cob (x.2.2.2.2.1 : List (Val tyCompare)).length coc, .slice kob (x.2.2.2.2.2 : List (Val tySpan)).length koc] := by
    rw [← Array.toList_inj, e0, e1, e2, e3, e4, e5, e6, e7, e8, e9, e10, e11, e12]
    rfl
  obtain ⟨g1, q1⟩ := mapO_get h1
  obtain ⟨g2, q2⟩ := mapO_get h2
  obtain ⟨g3, q3⟩ := mapO_get h3
  obtain ⟨g4, q4⟩ := mapO_get h4
  have gl2 : l2.length = (x.2.2.2.1 : List (Val tyLoan)).length := by rw [g2]; simp [uptoI]
  have gl3 : l3.length = (x.2.2.2.2.1 : List (Val tyCompare)).length := by rw [g3]; simp [uptoI]
  have up1 : upE (fun j => l1[j]?.getD 0) (x.2.2.1 : List (Val tySpan)).length = l1 := by rw [← g1]; exact upE_list l1
  have up2 : upE (fun j => l2[j]?.getD 0) (x.2.2.2.1 : List (Val tyLoan)).length = l2 := by rw [← gl2]; exact upE_list l2
  have up3 : upE (fun j => l3[j]?.getD 0) (x.2.2.2.2.1 : List (Val tyCompare)).length = l3 := by rw [← gl3]; exact upE_list l3
  have up4 : upE (fun j => l4[j]?.getD 0) (x.2.2.2.2.2 : List (Val tySpan)).length = l4 := by rw [← g4]; exact upE_list l4
  have at1 : ∀ {xs : List (Int × Int)} {ls : List Int}, (∀ (i : Nat) (a : Int × Int), xs[i]? = some a → ∃ b, ls[i]? = some b ∧ f_c_parts_1 a.1 a.2 s = some b) → ∀ j, j < xs.length → f_c_parts_1 (xs[j]?.getD (0, 0)).1 (xs[j]?.getD (0, 0)).2 s = some (ls[j]?.getD 0) := by
    intro xs ls hq j hj
    obtain ⟨b, hb, hf⟩ := hq j xs[j] (List.getElem?_eq_getElem hj)
    rw [List.getElem?_eq_getElem hj, hb]
    exact hf
  have at2 : ∀ {n : Nat} {ls : List Int} {f : Int → Option Int}, (∀ (i : Nat) (a : Int), (uptoI n)[i]? = some a → ∃ b, ls[i]? = some b ∧ f a = some b) → ∀ j, j < n → f (j : Int) = some (ls[j]?.getD 0) := by
    intro n ls f hq j hj
    obtain ⟨b, hb, hf⟩ := hq j j (by simp [uptoI, hj])
    rw [hb]; exact hf
  have hbel' : ∀ {W' : World}, Below w.heap.size W W' → Below w.heap.size w W' := fun h => hbel.trans h
  have hcell : ∀ {W' : World} {p : Addr} {v : Value}, Below w.heap.size w W' → w.cell? p = some v → p.block < w.heap.size → W'.cell? p = some v := fun {W'} {p} {v} h hc hp => (h.cell (p := p) hp).trans hc
  have lb := heap_lt hbb
  have lt := heap_lt htb
  have ls := heap_lt hsb
  have := parts_in te 1 (by omega) l w.heap.size bb tb sb (.int .i64 x.1.1) (.int .i64 x.1.2) (.slice gab (x.2.1 : List (Val tyGauge)).length gac) mv lb lt ls
    ub uo (x.2.2.1 : List (Val tySpan)).length usc kb kof (x.2.2.2.2.2 : List (Val tySpan)).length koc usb kob lob cob (x.2.2.2.1 : List (Val tyLoan)).length loc (x.2.2.2.2.1 : List (Val tyCompare)).length coc hub hkb
    (fun j => (x.2.2.1 : List (Int × Int))[j]?.getD (0, 0)) (fun j => (x.2.2.2.2.2 : List (Int × Int))[j]?.getD (0, 0)) (fun j => l1[j]?.getD 0) (fun j => l2[j]?.getD 0) (fun j => l3[j]?.getD 0) (fun j => l4[j]?.getD 0)
    hlen.1 hlen.2.1 hlen.2.2.1 hlen.2.2.2 W ((hbel.block bb lb).trans (by rw [hbb, hcb])) (hcell hbel (by simp [World.cell?, htb]) lt) (hcell hbel (by simp [World.cell?, hsb]) ls)
    (fun j hj => ⟨hcell hbel (hU j hj).1 (hub (by omega)).2, hcell hbel (hU j hj).2 (hub (by omega)).2⟩) (fun j hj => ⟨hcell hbel (hK j hj).1 (hkb (by omega)).2, hcell hbel (hK j hj).2 (hkb (by omega)).2⟩)
    (fun j hj W' hW => uses_call (at1 q1 j hj) (((hbel' hW).block sb ls).trans hsb) (CR.below (hbel' hW) (Nat.le_refl _) hmv))
    (fun j hj W' hW => uses_call (at1 q4 j hj) (((hbel' hW).block sb ls).trans hsb) (CR.below (hbel' hW) (Nat.le_refl _) hmv))
    (fun j hj W' hW => loan_call (at2 q2 j hj) (by have := CR.below (hbel' hW) (Nat.le_refl _) hbk; rwa [hcb] at this) (CR.below (hbel' hW) (Nat.le_refl _) hmv))
    (fun j hj W' hW => compare_call (at2 q3 j hj) (by have := CR.below (hbel' hW) (Nat.le_refl _) hbk; rwa [hcb] at this) (CR.below (hbel' hW) (Nat.le_refl _) hmv))
    J Jx (fun pre W1 W2 hj hg => hJ pre W1 W2 none hj hg (fun r e => by cases e)) (fun pre W1 W2 hj hg => hJx pre W1 W2 none hj hg (fun r e => by cases e))
    (fun pre y W1 hj hl => hY pre y W1 hj (by simp only [List.length_append]; omega)) h0 hbel.size
  rw [up1, up2, up3, up4] at this
  exact this
end Go.Proofs.ZzM
end

noncomputable section
set_option maxRecDepth 100000
namespace Go.Proofs.ZzM
open Go Go.Am Go.RowKit
section
variable [Ghost] {ρ : Type} {ν : Nat → Value} {w : World}
theorem peel (hq : Ghost.Q = none) {E : Env ρ} {call : List Nat → Bool → Nat → List AV → List Blk → (AV → List Blk → Option ρ) → Option ρ} {L : Nat} (hE : EnvOk E L call) (hD : DrawOk E L call) (hj : E.joins = fun _ _ _ _ => none) {fid : Nat} {path : List Nat} (hp : path.length + 2 = L) {x y c : Code} {bid n : Nat} {S : St} {K : Exit → St → Option ρ} {r : ρ} {a : Act} {Q : Exit → Act → World → Prop}
    (hL : ∀ z ∈ loopsOf bid x, LoopOk E path fid z.1 z.2) (e : goC E call fid path 0 bid (.seq x y) S K = some r) (H : Sim ν S a w)
    (hn : ∀ ν' S' a' w', Sim ν' S' a' w' → Ev 0 ν S.h w ν' S'.h w' → goC E call fid path 0 bid y S' K = some r → c.wpIn Fence.wide n E.P Q a' w')
    (hx : ∀ ν' S' a' w' e, e ≠ .normal → Sim ν' S' a' w' → Ev 0 ν S.h w ν' S'.h w' → K e S' = some r → Q e a' w') : (Code.seq x c).wpIn Fence.wide n E.P Q a w := by
  simp only [goC, hj] at e
  have hgo := goC_sound hE hD hp x bid S _ ν a w hL e H (Nat.zero_le _)
  rw [fen_wide hq] at hgo
  refine wpIn_seq (wpIn_wide.2 (wpIn_wide.1 (wpIn_mono hgo fun e' a' w' ha => ?_)))
  obtain ⟨ν', S', h1, h2, h3, h4, h5⟩ := ha
  cases e' with
  | normal => exact hn ν' S' a' w' h1 h2 h5
  | exit id => exact hx ν' S' a' w' _ (by simp) h1 h2 h5
  | goto l => exact hx ν' S' a' w' _ (by simp) h1 h2 h5
  | ret => exact hx ν' S' a' w' _ (by simp) h1 h2 h5
  | panic ch => exact hx ν' S' a' w' _ (by simp) h1 h2 h5
  | outgrown => exact hx ν' S' a' w' _ (by simp) h1 h2 h5
end
theorem results46 {T : Array Value} {rb : Nat} {n : Int} {e : TypeId} {W : World} (h2 : T.getD 2 undef = .pointer (some ⟨rb, 0, none⟩)) (hc : W.heap[rb]? = some (.cells #[.int .i64 n] e (0, 0))) : (results Tryz.f46 T).run Tryz.prog W = .ok (.int .i64 n) W := by
  letI : Ghost := ⟨fun _ => False, [], none⟩
  have hl : (loadVar 37 ⟨rb, 0, none⟩).run Tryz.prog W = .ok (.int .i64 n) W := by
    have := run_loadVar (P := Tryz.prog) (w := W) (t := 37) (agg := false) (n := 1) (by kernel_rfl) (us := [.int .i64 n]) rfl (fun _ => rfl) (a := ⟨rb, 0, none⟩) (fun j v hj => by
      have := CellsAt.of_cells hc j v (by simpa using hj)
      cases j with
      | zero => simpa [Addr.add] using this
      | succ j => simp at hj)
    exact this
  have hr : Tryz.f46.results = #[.cell 2 37] := by kernel_rfl
  unfold results
  rw [hr, Array.mapM_eq_mapM_toList]
  simp only [Sem.run_bind, Sem.run_map, List.mapM_cons, List.mapM_nil, h2, asAddr, Sem.run_pure, Result.andThen_ok, hl]
  rfl
theorem HR_ghost {G : Nat → Prop} {D D' : List Deferred} {Q Q' : Option Nat} {ν : Nat → Value} {h : List Blk} {w : World} (H : @HR ⟨G, D, Q⟩ ν h w) : @HR ⟨G, D', Q'⟩ ν h w :=
  @HR.mk ⟨G, D', Q'⟩ ν h w (@HR.blk ⟨G, D, Q⟩ ν h w H) (@HR.inj ⟨G, D, Q⟩ ν h w H) (@HR.ghlt ⟨G, D, Q⟩ ν h w H) (@HR.ghne ⟨G, D, Q⟩ ν h w H)
theorem book_CR [Ghost] {ν : Nat → Value} {h : List Blk} {w : World} {x : Val tyBook} {us : List Value} (hv : All2 (VRc ν h w) (flat tyBook x) us) : CR w noG tyBook x us := by
  have h1 : unflatAll tyBook (flat tyBook x) = some x := rfl
  have h2 : All2 (VRs w (Av ν h)) (flat tyBook x) us := hv.mono fun c u hu => hu.1.data
  exact CR.mono (fun _ hf => hf.elim) (unflatAll_CR h1 h2)
def CkPost (G : Nat → Prop) (y : Int) (w : World) (e : Ending) (w' : World) : Prop :=
  ∃ u, e = .returned u ∧ RR w' G [tI] y u ∧ (∀ b, b < w.heap.size → w'.heap[b]? = w.heap[b]?) ∧ w.heap.size ≤ w'.heap.size ∧ w'.os = w.os ∧ w'.tape = w.tape ∧ w'.output = w.output
theorem ck_leave {G : Nat → Prop} {y : Int} {w0 w : World} {a : Act} {D rb : Nat} {e : TypeId} (hd : a.defers = [mark D]) (hD : w.heap[D]? = some (.deferred (some []))) (h2 : a.tmps.getD 2 undef = .pointer (some ⟨rb, 0, none⟩)) (hc : w.heap[rb]? = some (.cells #[.int .i64 y] e (0, 0)))
    (hb : ∀ b, b < w0.heap.size → w.heap[b]? = w0.heap[b]?) (hDl : w0.heap.size ≤ D) (hsz : w0.heap.size ≤ w.heap.size) (h3 : w.os = w0.os) (h4 : w.tape = w0.tape) (h5 : w.output = w0.output) : LeavesInM Fence.wide 2 Tryz.prog Tryz.f46 a.tmps (CkPost G y w0) a.defers .returning w := by
  rw [hd]
  have hne : rb ≠ D := fun h => by rw [h, hD] at hc; cases hc
  have ho : ∀ b, b ≠ D → (w.putObj D (.deferred none)).heap[b]? = w.heap[b]? := fun b hb => by
    simp only [World.putObj, Array.getElem?_setIfInBounds]
    rw [if_neg (fun h => hb h.symm)]
  refine ⟨by simp, .inl ⟨D, _, rfl, run_takeDeferred hD, ?_⟩⟩
  refine ⟨.int .i64 y, results46 h2 ((ho rb hne).trans hc), .int .i64 y, rfl, ⟨[.int .i64 y], rfl, rfl⟩, fun b hlt => (ho b (by omega)).trans (hb b hlt), by simpa [World.putObj] using hsz, h3, h4, h5⟩
theorem ckK_ret (S : St) : ckK .ret S = (ckRes S).map .inl := by
  unfold ckK
  cases ckRes S <;> rfl
theorem ckK_normal (S : St) : ckK .normal S = if decide (78 ≤ S.t.length) = true then some (.inr ([lk S.t 1, lk S.t 2, lk S.t 48], S.h)) else none := by
  unfold ckK
  cases decide (78 ≤ S.t.length) <;> rfl
theorem no_loopsOf [Ghost] {ρ : Type} {E : Env ρ} (h0 : E.loops = loopsTab []) {path : List Nat} {fid bid : Nat} {b : Code} : LoopOk E path fid bid b := fun m S K r ν a w e => by
  rw [h0] at e
  cases e
def posAt : Code → String
  | .region _ ops _ => ((ops[0]?).map fun o => o.pos).getD ""
  | _ => ""
def rfA : Code → Code
  | .block _ (.rangeFunc _ _ a _) => a
  | _ => .skip
def rfB : Code → Code
  | .block _ (.rangeFunc _ _ _ (.block _ (.seq a _))) => a
  | _ => .skip
def rfC : Code → Code
  | .block _ (.rangeFunc _ _ _ (.block _ (.seq _ (.cond _ (.seq a _) _)))) => a
  | _ => .skip
theorem ckRF_eq : ckRF = Code.block 0 (Code.rangeFunc (.tmp 48) #[49] (rfAssign (posAt (rfA ckRF))) (rfBody (posAt (rfB ckRF)) (posAt (rfC ckRF)))) := by kernel_rfl
theorem ck_pts : ∀ e ∈ ck_pt, PureOk Tryz.prog e.1 e.2 := allCons c_c_nodes (allCons c_c_shelved (allCons c_c_inside (allCons c_c_checkGauges allNil)))
theorem ckK2_spec {e : Exit} {S : St} {n : Int} (h : ckK2 e S = some n) : e = .ret ∧ lk S.t 2 = .box 1 0 ∧ lkB S.h 1 = .cells [.int .i64 n] := by
  unfold ckK2 at h
  split at h
  · split at h
    · rename_i h2
      split at h
      · rename_i h3
        cases h
        exact ⟨rfl, h2, h3⟩
      · cases h
    · cases h
  · cases h
theorem int_block [Ghost] {ν : Nat → Value} {h : List Blk} {w : World} {n : Int} {id : Nat} (H : HR ν h w) (hl : lkB h id = .cells [.int .i64 n]) : ∃ b e, ν id = .pointer (some ⟨b, 0, none⟩) ∧ w.heap[b]? = some (.cells #[.int .i64 n] e (0, 0)) := by
  have hB := H.blk id
  rw [hl] at hB
  obtain ⟨b, c, e, h1, h2, h3⟩ := hB
  obtain ⟨u, h4, h5⟩ := h3.one
  have h6 : u = .int .i64 n := h5.1
  refine ⟨b, e, h1, ?_⟩
  rw [h2]
  have : c = #[.int .i64 n] := by rw [← Array.toList_inj, h4, h6]
  rw [this]
theorem box_val [Ghost] {ν : Nat → Value} {h : List Blk} {w : World} {id off : Nat} {v : Value} {b : Nat} (hv : VR ν h w (.box id off) v) (hb : ν id = .pointer (some ⟨b, 0, none⟩)) : v = .pointer (some ⟨b, off, none⟩) := by
  obtain ⟨cs, b', h1, h2, h3⟩ := hv
  rw [hb] at h2
  cases h2
  exact h3
theorem ck_tail {G : Nat → Prop} {x : Val tyBook} {s : Val (.map tI tyGauge)} {y : Int} (hS : ckS x = some y) {ν : Nat → Value} {w0 w6 W : World} {a : Act} {D : Nat} (H : @HR ⟨G, [], none⟩ ν (ckH x s 0) w6) (hb : Below w6.heap.size w6 W) (hD : w6.heap.size ≤ D) (hDo : W.heap[D]? = some (.deferred (some []))) (hd : a.defers = [mark D]) (hlen : 78 ≤ a.tmps.size)
    (t1 : @VR ⟨G, [], none⟩ ν (ckH x s 0) w6 (.box 0 0) (a.tmps.getD 1 undef)) (t2 : @VR ⟨G, [], none⟩ ν (ckH x s 0) w6 (.box 1 0) (a.tmps.getD 2 undef))
    (h0 : ∀ b, b < w0.heap.size → w6.heap[b]? = w0.heap[b]? ∧ ¬ Live ν (ckH x s 0) b) (hsz : w0.heap.size ≤ w6.heap.size) (h3 : w6.os = w0.os) (h4 : w6.tape = w0.tape) (h5 : w6.output = w0.output) :
    ckRest.wpIn Fence.wide 2 Tryz.prog (bodyPostM Fence.wide 2 Tryz.prog Tryz.f46 (CkPost G y w0)) a W := by
  have hlive : ∀ b, Live ν (ckH x s 0) b → b < w6.heap.size := fun b hl => @HR.ltA ⟨G, [], none⟩ _ _ _ H b (.inl hl)
  have t1' : ∃ b, ν 0 = .pointer (some ⟨b, 0, none⟩) ∧ a.tmps.getD 1 undef = .pointer (some ⟨b, 0, none⟩) := by
    obtain ⟨cs, b, _, h2, h3⟩ := t1
    exact ⟨b, h2, h3⟩
  have t2' : ∃ b, ν 1 = .pointer (some ⟨b, 0, none⟩) ∧ a.tmps.getD 2 undef = .pointer (some ⟨b, 0, none⟩) := by
    obtain ⟨cs, b, _, h2, h3⟩ := t2
    exact ⟨b, h2, h3⟩
  letI : Ghost := ⟨G, [mark D], none⟩
  have H1 : HR ν (ckH x s 0) w6 := HR_ghost H
  have H2 : HR ν (ckH x s 0) W := (H1.grow (fun b hlt => hb.block b hlt) hb.size hb.os hb.tape hb.output 0).2
  have hlib : LibOk (ckE2 Int) := libOf ck_pts (ckE2 Int) rfl rfl rfl rfl rfl (joins_none rfl)
  have hdraw : ∀ L call, EnvOk (ckE2 Int) L call → DrawOk (ckE2 Int) L call := draw_ok hmix
  have hl0 : (ckE2 Int).loops = loopsTab [] := rfl
  have hcall := callN_sound (.inr fun _ => rfl) hlib hdraw (fun n hn hE path f fn c _ _ _ z _ => no_loopsOf hl0) 10 (Nat.le_refl _)
  have hEnv : EnvOk (ckE2 Int) 2 (callN (ckE2 Int) 10) := ⟨.inr (callN_lib 9), hcall, hlib.plain, hlib.clone, hlib.joins⟩
  have law := ck_suf x s
  rw [hS] at law
  have sim : Sim ν { t := [.any, .box 0 0, .box 1 0] ++ List.replicate 75 .any, h := ckH x s 0 } a W := by
    refine ⟨hd, by simpa using hlen, fun i => ?_, H2⟩
    simp only [lk_pad]
    rcases i with _ | _ | _ | i
    · trivial
    · obtain ⟨b, g1, g2⟩ := t1'
      exact ⟨_, b, rfl, g1, g2⟩
    · obtain ⟨b, g1, g2⟩ := t2'
      exact ⟨_, b, rfl, g1, g2⟩
    · trivial
  refine wpIn_wide.2 (wpIn_wide.1 (wpIn_mono (goC_sound hEnv (hdraw _ _ hEnv) rfl ckRest 0 _ _ ν a W (fun z _ => no_loopsOf hl0) law sim (Nat.zero_le _)) fun e a' w' ha => ?_))
  obtain ⟨ν', S', g1, g2, _, _, g5⟩ := ha
  obtain ⟨rfl, k2, k3⟩ := ckK2_spec g5
  obtain ⟨rb, te, r1, r2⟩ := int_block g1.heap k3
  have r3 := g1.tmps 2
  rw [k2] at r3
  have r4 := box_val r3 r1
  have hDlt := heap_lt hDo
  refine ck_leave (w := w') (a := a') (G := G) (y := y) (w0 := w0) (D := D) (rb := rb) g1.defers ((g2.keep D hDlt fun hl => by have := hlive D hl; omega).1.trans hDo) r4 r2 (fun b hlt => ?_) (by omega) (by have := g2.size; have := hb.size; omega) (g2.os.trans (hb.os.trans h3)) (g2.tape.trans (hb.tape.trans h4)) (g2.output.trans (hb.output.trans h5))
  have h01 := h0 b hlt
  have hlt6 : b < w6.heap.size := by omega
  have hltW : b < W.heap.size := by have := hb.size; omega
  exact (g2.keep b hltW h01.2).1.trans ((hb.block b hlt6).trans h01.1)
set_option maxHeartbeats 2000000 in
theorem check_call (G : Nat → Prop) (x : Val tyBook) (y : Int) (hF' : f_c_Check x = some y) (w : World) (vals : List Value) (hG : ∀ b, G b → b < w.heap.size) (hAL : AL w G [tyBook] x vals) :
    (∃ fn c, Tryz.prog.funcs[46]? = some fn ∧ fn.body = some c) ∧ CallsIn Fence.wide 0 Tryz.prog 46 vals.toArray w (CkPost G y w) := by
  rw [ck_model] at hF'
  letI : Ghost := ⟨G, [], none⟩
  have hpt := ck_pts
  have hlib : LibOk (ckE ckR) := libOf hpt (ckE ckR) rfl rfl rfl rfl rfl (joins_none rfl)
  have hdraw : ∀ L call, EnvOk (ckE ckR) L call → DrawOk (ckE ckR) L call := draw_ok hmix
  have h0 : (ckE ckR).loops = loopsTab [] := rfl
  have hcall := callN_sound (.inl ⟨rfl, rfl⟩) hlib hdraw (fun n hn hE path f fn c _ _ _ z _ => no_loopsOf h0) 10 (Nat.le_refl _)
  have hEnv : EnvOk (ckE ckR) 2 (callN (ckE ckR) 10) := ⟨.inr (callN_lib 9), hcall, hlib.plain, hlib.clone, hlib.joins⟩
  have hD := hdraw _ _ hEnv
  have H : HR (fun _ => undef) [] w := ⟨fun _ => trivial, fun _ _ _ h => (by cases h), hG, fun _ _ h => (by cases h)⟩
  have hav : ∀ b, Av (fun _ => undef) [] b → G b := fun b hb => hb.elim (fun ⟨_, h, _⟩ => by cases h) id
  have hargs : All2 (VR (fun _ => undef) [] w) (encL [tyBook] x) vals := AL.VR (hAL.mono hav)
  refine ⟨⟨Tryz.f46, _, Tryz.func46, ckB_eq⟩, ?_⟩
  have hlen : vals.length = 1 := by
    have := hargs.length
    simpa [encL, encT] using this.symm
  cases hM : ckM x with
  | none => rw [hM] at hF'; cases hF'
  | some r0 =>
  rw [hM] at hF'
  have law := ck_pre x
  rw [hM] at law
  refine callsIn_wide.2 (callsIn_wide.1 (callsIn_of_wp_marks (n := 2) Tryz.func46 ckB_eq trivial ?_ (R := CkPost G y w)))
  have hS : Sim (fun _ => undef) { t := encL [tyBook] x ++ List.replicate 77 .any, h := [] } { tmps := vals.toArray ++ Array.replicate (Tryz.f46.ntmps - vals.toArray.size) undef, defers := [] } w := by
    refine ⟨rfl, ?_, fun i => ?_, H⟩
    · have : Tryz.f46.ntmps = 78 := by kernel_rfl
      have hl2 : (encL [tyBook] x).length = 1 := rfl
      simp [this, hlen, hl2]
    · simp only [lk_pad]
      rcases Nat.lt_or_ge i (encL [tyBook] x).length with hi | hi
      · have := All2.lk (R := VR (fun _ => undef) [] w) (fun _ => trivial) i hargs
        have hv : i < vals.length := by rw [← hargs.length]; exact hi
        have h2 : (vals.toArray ++ Array.replicate (Tryz.f46.ntmps - vals.toArray.size) undef).getD i undef = vals.getD i undef := by
          simp [Array.getD_eq_getD_getElem?, Array.getElem?_append, hv]
        rw [h2]; exact this
      · rw [lk_ge _ _ hi]; trivial
  -- the ways out ahead of the loop
  have out : ∀ ν' S' a' w' e, e ≠ .normal → Sim ν' S' a' w' → Ev 0 (fun _ => undef) [] w ν' S'.h w' → ckK e S' = some r0 → bodyPostM Fence.wide 2 Tryz.prog Tryz.f46 (CkPost G y w) e a' w' := by
    intro ν' S' a' w' e hne hS' hE' hk
    cases e with
    | normal => exact (hne rfl).elim
    | ret =>
      rw [ckK_ret] at hk
      cases hr : ckRes S' with
      | none => rw [hr] at hk; cases hk
      | some n =>
        rw [hr, Option.map_some] at hk
        cases hk
        have hyn : n = y := by simpa using hF'
        subst hyn
        unfold ckRes at hr
        split at hr
        · rename_i v hv
          obtain ⟨u, q1, q2⟩ := results_ok hS' hv
          show LeavesInM _ _ _ _ _ _ a'.defers _ _
          rw [show a'.defers = [] from hS'.defers]
          exact ⟨u, q1, u, rfl, resH_val hS'.heap [tI] q2 hr, fun b hb => (hE'.keep b hb fun ⟨_, h, _⟩ => by cases h).1, hE'.size, hE'.os, hE'.tape, hE'.output⟩
        · cases hr
    | exit id => cases hk
    | goto l => cases hk
    | panic ch => cases hk
    | outgrown => cases hk
  have outT : ∀ {ν₁ : Nat → Value} {h₁ : List Blk} {w₁ : World}, Ev 0 (fun _ => undef) [] w ν₁ h₁ w₁ → ∀ ν' S' a' w' e, e ≠ .normal → Sim ν' S' a' w' → Ev 0 ν₁ h₁ w₁ ν' S'.h w' → ckK e S' = some r0 → bodyPostM Fence.wide 2 Tryz.prog Tryz.f46 (CkPost G y w) e a' w' :=
    fun hE ν' S' a' w' e hne hS' hE' hk => out ν' S' a' w' e hne hS' (hE.trans hE' (Nat.le_refl _)) hk
  refine peel rfl hEnv hD rfl rfl (fun z _ => no_loopsOf h0) law hS (fun ν1 S1 a1 w1 s1 e1 k1 => ?_) out
  refine peel rfl hEnv hD rfl rfl (fun z _ => no_loopsOf h0) k1 s1 (fun ν2 S2 a2 w2 s2 e2 k2 => ?_) (outT e1)
  have t2 := e1.trans e2 (Nat.le_refl _)
  refine peel rfl hEnv hD rfl rfl (fun z _ => no_loopsOf h0) k2 s2 (fun ν3 S3 a3 w3 s3 e3 k3 => ?_) (outT t2)
  have t3 := t2.trans e3 (Nat.le_refl _)
  refine peel rfl hEnv hD rfl rfl (fun z _ => no_loopsOf h0) k3 s3 (fun ν4 S4 a4 w4 s4 e4 k4 => ?_) (outT t3)
  have t4 := t3.trans e4 (Nat.le_refl _)
  refine peel rfl hEnv hD rfl rfl (fun z _ => no_loopsOf h0) k4 s4 (fun ν5 S5 a5 w5 s5 e5 k5 => ?_) (outT t4)
  have t5 := t4.trans e5 (Nat.le_refl _)
  refine wpIn_seq (wpIn_seq (wpIn_wide.2 (wpIn_wide.1 (wpIn_mono (goC_sound hEnv hD rfl ckA5 0 S5 _ ν5 a5 w5 (fun z _ => no_loopsOf h0) k5 s5 (Nat.zero_le _)) fun e' a6 w6 ha => ?_))))
  obtain ⟨ν, S, s6, e6, _, _, k6⟩ := ha
  have t6 := t5.trans e6 (Nat.le_refl _)
  have other : ∀ e, e ≠ .normal → ckK e S = some r0 → Exit.then (Code.wpIn Fence.wide 2 Tryz.prog ckRest (bodyPostM Fence.wide 2 Tryz.prog Tryz.f46 (CkPost G y w))) (bodyPostM Fence.wide 2 Tryz.prog Tryz.f46 (CkPost G y w)) e a6 w6 := by
    intro e hne hk
    have := out ν S a6 w6 e hne s6 t6 hk
    cases e <;> first | exact (hne rfl).elim | exact this
  cases e' with
  | exit id => exact other _ (by simp) k6
  | goto l => exact other _ (by simp) k6
  | ret => exact other _ (by simp) k6
  | panic ch => exact other _ (by simp) k6
  | outgrown => exact other _ (by simp) k6
  | normal =>
  clear other
  rw [ckK_normal] at k6
  split at k6 <;> try (cases k6; done)
  rename_i h78
  have h78' : 78 ≤ S.t.length := by simpa using h78
  cases k6
  obtain ⟨hlens, s, hs, hq⟩ := ckM_inr hM
  simp only [Prod.mk.injEq, List.cons.injEq, and_true] at hq
  obtain ⟨⟨q1, q2, q48⟩, qh⟩ := hq
  have hF2 : rangeK (l_c_parts x s) some (ckS x) = some y := by
    simp only at hF'
    rw [hs] at hF'
    exact hF'
  -- what the errors are
  obtain ⟨L, hL, hLy⟩ : ∃ L, l_c_parts x s = some L ∧ (match L.find? (fun e => e != 0) with | some e => some e | none => ckS x) = some y := by
    unfold rangeK at hF2
    cases hl : l_c_parts x s with
    | none => rw [hl] at hF2; cases hF2
    | some L => rw [hl] at hF2; exact ⟨L, rfl, hF2⟩
  obtain ⟨l1, l2, l3, l4, m1, m2, m3, m4, rfl⟩ : ∃ l1 l2 l3 l4, mapO (fun u => f_c_parts_1 u.1 u.2 s) (x.2.2.1 : List (Int × Int)) = some l1 ∧ mapO (fun i => f_c_checkLoan x s i) (uptoI (x.2.2.2.1 : List (Val tyLoan)).length) = some l2 ∧
      mapO (fun i => f_c_checkCompare x s i) (uptoI (x.2.2.2.2.1 : List (Val tyCompare)).length) = some l3 ∧ mapO (fun u => f_c_parts_1 u.1 u.2 s) (x.2.2.2.2.2 : List (Int × Int)) = some l4 ∧ L = l1 ++ (l2 ++ (l3 ++ l4)) := by
    unfold l_c_parts at hL
    cases m1 : mapO (fun u => f_c_parts_1 u.1 u.2 s) (x.2.2.1 : List (Int × Int)) with
    | none => rw [m1] at hL; cases hL
    | some l1 =>
    rw [m1] at hL
    cases m2 : mapO (fun i => f_c_checkLoan x s i) (uptoI (x.2.2.2.1 : List (Val tyLoan)).length) with
    | none => simp only [bindF, m2] at hL; cases hL
    | some l2 =>
    cases m3 : mapO (fun i => f_c_checkCompare x s i) (uptoI (x.2.2.2.2.1 : List (Val tyCompare)).length) with
    | none => simp only [bindF, m2, m3] at hL; cases hL
    | some l3 =>
    cases m4 : mapO (fun u => f_c_parts_1 u.1 u.2 s) (x.2.2.2.2.2 : List (Int × Int)) with
    | none => simp only [bindF, m2, m3, m4] at hL; cases hL
    | some l4 =>
    simp only [bindF, m2, m3, m4] at hL
    cases hL
    exact ⟨l1, l2, l3, l4, rfl, rfl, rfl, rfl, rfl⟩
  -- the blocks
  obtain ⟨T, Hh⟩ := S
  dsimp only at q1 q2 q48 qh h78'
  subst qh
  have p1 := s6.tmps 1
  have p2 := s6.tmps 2
  have p48 := s6.tmps 48
  dsimp only at p1 p2 p48
  rw [q1] at p1
  rw [q2] at p2
  rw [q48] at p48
  obtain ⟨rb, te1, n1, hrb⟩ := int_block (id := 1) (n := 0) s6.heap rfl
  have hB2 : BR ν (ckH x s 0) w6 2 (.cells (flat tyBook x)) := s6.heap.blk 2
  have hB3 : BR ν (ckH x s 0) w6 3 (.cells [.mp tI tyGauge s]) := s6.heap.blk 3
  have hB4 : BR ν (ckH x s 0) w6 4 (.cells [.fn (.func 164) [] [.box 3 0]]) := s6.heap.blk 4
  obtain ⟨bb, cb, te, n2, hbb, hb2⟩ := hB2
  obtain ⟨sb, cs3, te3, n3, hsb, hb3⟩ := hB3
  obtain ⟨tb, cs4, te2, n4, htb, hb4⟩ := hB4
  obtain ⟨mv, z3, hm3⟩ := hb3.one
  obtain ⟨fv, z4, hm4⟩ := hb4.one
  have hmv : CR w6 noG (.map tI tyGauge) s [mv] := CR.mono (fun _ hf => hf.elim) (show CR w6 (Av ν (ckH x s 0)) (.map tI tyGauge) s [mv] from hm3.1)
  have hc3 : cs3 = #[mv] := by rw [← Array.toList_inj, z3]
  have hfv : fv = .func (.func 164) #[] #[.pointer (some ⟨sb, 0, none⟩)] := by
    obtain ⟨fs, cs, h1, h2, h3⟩ := hm4.1
    have e1 : fs = #[] := by rw [← Array.toList_inj]; exact h2.nil_left
    obtain ⟨u, e2, h4⟩ := h3.one
    have e3 : u = .pointer (some ⟨sb, 0, none⟩) := box_val (w := w6) (id := 3) (off := 0) h4 n3
    have e4 : cs = #[.pointer (some ⟨sb, 0, none⟩)] := by rw [← Array.toList_inj, e2, e3]
    rw [h1, e1, e4]
  have hc4 : cs4 = #[fv] := by rw [← Array.toList_inj, z4]
  rw [hc3] at hsb
  rw [hc4, hfv] at htb
  have hg : a6.tmps.getD 48 undef = .func (.func 165) #[] #[.pointer (some ⟨bb, 0, none⟩), .pointer (some ⟨tb, 0, none⟩), .pointer (some ⟨sb, 0, none⟩)] := by
    obtain ⟨fs, cs, h1, h2, h3⟩ := p48
    have e1 : fs = #[] := by rw [← Array.toList_inj]; exact h2.nil_left
    have hl := h3.length
    obtain ⟨u1, u2, u3, e2⟩ : ∃ u1 u2 u3, cs.toList = [u1, u2, u3] := by
      rcases hcs : cs.toList with _ | ⟨u1, _ | ⟨u2, _ | ⟨u3, _ | ⟨u4, t⟩⟩⟩⟩ <;> rw [hcs] at hl <;> simp at hl
      exact ⟨u1, u2, u3, rfl⟩
    rw [e2] at h3
    have e3 : u1 = .pointer (some ⟨bb, 0, none⟩) := box_val (w := w6) (id := 2) (off := 0) h3.1 n2
    have e4 : u2 = .pointer (some ⟨tb, 0, none⟩) := box_val (w := w6) (id := 4) (off := 0) h3.2.1 n4
    have e5 : u3 = .pointer (some ⟨sb, 0, none⟩) := box_val (w := w6) (id := 3) (off := 0) h3.2.2.1 n3
    rw [h1, e1]
    congr 1
    rw [← Array.toList_inj, e2, e3, e4, e5]
  have hseq := seqParts m1 m2 m3 m4 hlens hbb (book_CR hb2) htb hsb hmv
  have h2 := box_val p2 n1
  have hsz : 78 ≤ a6.tmps.size := Nat.le_trans h78' s6.len
  have hkeep : ∀ b, b < w.heap.size → w6.heap[b]? = w.heap[b]? ∧ ¬ Live ν (ckH x s 0) b := fun b hb => t6.keep b hb fun ⟨_, h, _⟩ => by cases h
  have hdef : a6.defers = [] := s6.defers
  show ckRF.wpIn Fence.wide 2 Tryz.prog (Exit.then (ckRest.wpIn Fence.wide 2 Tryz.prog (bodyPostM Fence.wide 2 Tryz.prog Tryz.f46 (CkPost G y w))) (bodyPostM Fence.wide 2 Tryz.prog Tryz.f46 (CkPost G y w))) a6 w6
  rw [ckRF_eq]
  refine wpIn_block (rf_loop hseq hg h2 hsz hrb (fun D W hall hbel hDl hDo => ?_) (fun D W z hz hput hDl hDo => ?_))
  · have hck : ckS x = some y := by
      have : (l1 ++ (l2 ++ (l3 ++ l4))).find? (fun e => e != 0) = none := List.find?_eq_none.2 fun z hz => by rw [hall z hz]; simp
      rw [this] at hLy
      exact hLy
    exact ck_tail (s := s) hck s6.heap hbel hDl hDo (by show mark D :: a6.defers = _; rw [hdef]) hsz p1 p2 hkeep t6.size t6.os t6.tape t6.output
  · have hzy : z = y := by
      rw [hz] at hLy
      simpa using hLy
    subst hzy
    obtain ⟨te5, hcell⟩ := hput.cell
    have hlb := heap_lt hrb
    have hlive : Live ν (ckH x s 0) rb := ⟨1, rfl, by rw [n1]; rfl⟩
    exact ck_leave (a := { a6 with defers := mark D :: a6.defers }) (w := W) (by show mark D :: a6.defers = _; rw [hdef]) hDo h2 hcell
      (fun b hb => (hput.block b (by have := t6.size; omega) (fun e => (hkeep b hb).2 (e ▸ hlive))).trans (hkeep b hb).1) (by have := t6.size; omega) (by have := t6.size; have := hput.size; omega) (hput.os.trans t6.os) (hput.tape.trans t6.tape) (hput.output.trans t6.output)
theorem c_c_Check : PureOk Tryz.prog 46 p_c_Check := fun G x y hF w vals hG hAL => check_call G x y hF w vals hG hAL
end Go.Proofs.ZzM
end

noncomputable section
set_option maxRecDepth 100000
namespace Go.Proofs.ZzM
open Go Go.Am
theorem c_w5_small : PureOk Tryz.prog 17 p_w5_small := pure_top (m_w5_small_E _) (fun {_} => libN allNil _) hmix (tab := m_w5_small_tab _) rfl (allCons m_w5_small_L0_ok allNil) (pureFun_of fun x => m_w5_small_law x some)
theorem c_w5_brief : PureOk Tryz.prog 18 p_w5_brief := pure_top (m_w5_brief_E _) (fun {_} => libN allNil _) hmix (tab := m_w5_brief_tab _) rfl allNil (pureFun_of fun x => m_w5_brief_law x some)
theorem c_c_With : PureOk Tryz.prog 26 p_c_With := pure_top (m_c_With_E _) (fun {_} => libN (allCons c_c_Check allNil) _) hmix (tab := m_c_With_tab _) rfl (allCons m_c_With_L0_ok allNil) (pureFun_of fun x => m_c_With_law x some)
theorem c_s_Index_api_Node_api_Node : PureOk Tryz.prog 125 p_s_Index_api_Node_api_Node := pure_top (m_s_Index_api_Node_api_Node_E _) (fun {_} => libN allNil _) hmix (tab := m_s_Index_api_Node_api_Node_tab _) rfl (allCons m_s_Index_api_Node_api_Node_L0_ok allNil) (pureFun_of fun x => m_s_Index_api_Node_api_Node_law x some)
theorem c_c_maker_at : PureOk Tryz.prog 77 p_c_maker_at := pure_top (m_c_maker_at_E _) (fun {_} => libN (allCons c_s_Index_api_Node_api_Node allNil) _) hmix (tab := m_c_maker_at_tab _) rfl allNil (pureFun_of fun x => m_c_maker_at_law x some)
theorem c_c_shelf_rateOf : PureOk Tryz.prog 154 p_c_shelf_rateOf := pure_top (m_c_shelf_rateOf_E _) (fun {_} => libN allNil _) hmix (tab := m_c_shelf_rateOf_tab _) rfl allNil (pureFun_of fun x => m_c_shelf_rateOf_law x some)
theorem c_e_valid : PureOk Tryz.prog 176 p_e_valid := pure_top (m_e_valid_E _) (fun {_} => libN (allCons c_e_Valid allNil) _) hmix (tab := m_e_valid_tab _) rfl (allCons m_e_valid_L0_ok allNil) (pureFun_of fun x => m_e_valid_law x some)
theorem c_e_reduced : PureOk Tryz.prog 202 p_e_reduced := pure_top (m_e_reduced_E _) (fun {_} => libN (allCons c_e_size (allCons c_e_gcd allNil)) _) hmix (tab := m_e_reduced_tab _) rfl allNil (pureFun_of fun x => m_e_reduced_law x some)
theorem c_e_Sub : PureOk Tryz.prog 185 p_e_Sub := pure_top (m_e_Sub_E _) (fun {_} => libN (allCons c_e_valid (allCons c_e_reduced allNil)) _) hmix (tab := m_e_Sub_tab _) rfl allNil (pureFun_of fun x => m_e_Sub_law x some)
theorem c_c_rate_less : PureOk Tryz.prog 155 p_c_rate_less := pure_top (m_c_rate_less_E _) (fun {_} => libN (allCons c_e_Sub allNil) _) hmix (tab := m_c_rate_less_tab _) rfl allNil (pureFun_of fun x => m_c_rate_less_law x some)
theorem c_e_cmp : PureOk Tryz.prog 221 p_e_cmp := pure_top (m_e_cmp_E _) (fun {_} => libN allNil _) hmix (tab := m_e_cmp_tab _) rfl allNil (pureFun_of fun x => m_e_cmp_law x some)
theorem c_e_ValidRange : PureOk Tryz.prog 203 p_e_ValidRange := pure_top (m_e_ValidRange_E _) (fun {_} => libN (allCons c_e_valid (allCons c_e_cmp allNil)) _) hmix (tab := m_e_ValidRange_tab _) rfl allNil (pureFun_of fun x => m_e_ValidRange_law x some)
theorem c_e_Mul : PureOk Tryz.prog 206 p_e_Mul := pure_top (m_e_Mul_E _) (fun {_} => libN (allCons c_e_valid (allCons c_e_reduced allNil)) _) hmix (tab := m_e_Mul_tab _) rfl allNil (pureFun_of fun x => m_e_Mul_law x some)
theorem c_e_Scale : PureOk Tryz.prog 186 p_e_Scale := pure_topU (m_e_Scale_E _) (m_e_Scale_E0 _) (fun {_} => libOf (allCons c_e_Valid (allCons c_e_ValidRange (allCons c_e_Mul (allCons c_e_cmp allNil)))) (m_e_Scale_E _) rfl rfl rfl rfl rfl (joins_none rfl)) (fun {_} => libN (allCons c_e_Valid (allCons c_e_ValidRange (allCons c_e_Mul (allCons c_e_cmp allNil)))) _) rfl hmix (tab := m_e_Scale_tab _) rfl allNil (us := m_e_Scale_us) rfl (allCons (by kernel_rfl) allNil) (pureFun_of fun x => m_e_Scale_law x some)
theorem c_c_rate_over : PureOk Tryz.prog 156 p_c_rate_over := pure_top (m_c_rate_over_E _) (fun {_} => libN (allCons c_e_Scale allNil) _) hmix (tab := m_c_rate_over_tab _) rfl allNil (pureFun_of fun x => m_c_rate_over_law x some)
theorem c_c_growth : PureOk Tryz.prog 112 p_c_growth := pure_top (m_c_growth_E _) (fun {_} => libN (allCons c_c_left (allCons c_c_shelved (allCons c_c_shelf_rateOf (allCons c_c_rate_less (allCons c_c_rate_over allNil))))) _) hmix (tab := m_c_growth_tab _) rfl allNil (pureFun_of fun x => m_c_growth_law x some)
theorem c_c_films : PureOk Tryz.prog 113 p_c_films := pure_top (m_c_films_E _) (fun {_} => libN allNil _) hmix (tab := m_c_films_tab _) rfl allNil (pureFun_of fun x => m_c_films_law x some)
theorem c_e_floor : PureOk Tryz.prog 177 p_e_floor := pure_top (m_e_floor_E _) (fun {_} => libN allNil _) hmix (tab := m_e_floor_tab _) rfl allNil (pureFun_of fun x => m_e_floor_law x some)
theorem c_e_Ceil : PureOk Tryz.prog 143 p_e_Ceil := pure_top (m_e_Ceil_E _) (fun {_} => libN (allCons c_e_valid (allCons c_e_floor allNil)) _) hmix (tab := m_e_Ceil_tab _) rfl allNil (pureFun_of fun x => m_e_Ceil_law x some)
theorem c_e_Floor : PureOk Tryz.prog 144 p_e_Floor := pure_top (m_e_Floor_E _) (fun {_} => libN (allCons c_e_valid (allCons c_e_floor allNil)) _) hmix (tab := m_e_Floor_tab _) rfl allNil (pureFun_of fun x => m_e_Floor_law x some)
theorem c_c_says : PureOk Tryz.prog 114 p_c_says := pure_top (m_c_says_E _) (fun {_} => libN (allCons c_c_growth (allCons c_c_films (allCons c_e_Ceil (allCons c_e_Floor allNil)))) _) hmix (tab := m_c_says_tab _) rfl allNil (pureFun_of fun x => m_c_says_law x some)
theorem c_c_loss : PureOk Tryz.prog 129 p_c_loss := pure_top (m_c_loss_E _) (fun {_} => libN (allCons c_c_within allNil) _) hmix (tab := m_c_loss_tab _) rfl (allCons m_c_loss_L0_ok (allCons m_c_loss_L1_ok allNil)) (pureFun_of fun x => m_c_loss_law x some)
theorem c_c_made : PureOk Tryz.prog 76 p_c_made := pure_top (m_c_made_E _) (fun {_} => libN (allCons c_c_maker_at (allCons c_c_left (allCons c_c_nodes (allCons c_c_says (allCons c_c_loss (allCons c_c_days allNil)))))) _) hmix (tab := m_c_made_tab _) rfl (allCons m_c_made_L1_ok (allCons m_c_made_L0_ok (allCons m_c_made_L2_ok allNil))) (pureFun_of fun x => m_c_made_law x some)
theorem c_h_node : PureOk Tryz.prog 172 p_h_node := pure_top (m_h_node_E _) (fun {_} => libN allNil _) hmix (tab := m_h_node_tab _) rfl allNil (pureFun_of fun x => m_h_node_law x some)
theorem c_h_Check : PureOk Tryz.prog 130 p_h_Check := pure_top (m_h_Check_E _) (fun {_} => libN (allCons c_h_node allNil) _) hmix (tab := m_h_Check_tab _) rfl (allCons m_h_Check_L0_ok allNil) (pureFun_of fun x => m_h_Check_law x some)
theorem c_h_solution : PureOk Tryz.prog 131 p_h_solution := pure_top (m_h_solution_E _) (fun {_} => libN allNil _) hmix (tab := m_h_solution_tab _) rfl (allCons m_h_solution_L0_ok (allCons m_h_solution_L1_ok (allCons m_h_solution_L3_ok (allCons m_h_solution_L2_ok (allCons m_h_solution_L4_ok allNil))))) (pureFun_of fun x => m_h_solution_law x some)
theorem c_h_asked : PureOk Tryz.prog 134 p_h_asked := pure_top (m_h_asked_E _) (fun {_} => libN (allCons c_h_Check (allCons c_h_solution (allCons c_h_node allNil))) _) hmix (tab := m_h_asked_tab _) rfl (allCons m_h_asked_L0_ok allNil) (pureFun_of fun x => m_h_asked_law x some)
theorem c_h_bounds : PureOk Tryz.prog 135 p_h_bounds := pure_top (m_h_bounds_E _) (fun {_} => libN allNil _) hmix (tab := m_h_bounds_tab _) rfl (allCons m_h_bounds_L0_ok (allCons m_h_bounds_L1_ok (allCons m_h_bounds_L2_ok (allCons m_h_bounds_L4_ok (allCons m_h_bounds_L3_ok allNil))))) (pureFun_of fun x => m_h_bounds_law x some)
theorem c_h_Bound : PureOk Tryz.prog 79 p_h_Bound := pure_top (m_h_Bound_E _) (fun {_} => libN (allCons c_h_asked (allCons c_h_bounds allNil)) _) hmix (tab := m_h_Bound_tab _) rfl allNil (pureFun_of fun x => m_h_Bound_law x some)
theorem c_c_shown : PureOk Tryz.prog 80 p_c_shown := pure_top (m_c_shown_E _) (fun {_} => libN (allCons c_c_growth (allCons c_c_films (allCons c_e_Ceil (allCons c_e_Floor allNil)))) _) hmix (tab := m_c_shown_tab _) rfl allNil (pureFun_of fun x => m_c_shown_law x some)
theorem c_c_Predict : PureOk Tryz.prog 20 p_c_Predict := pure_top (m_c_Predict_E _) (fun {_} => libN (allCons c_c_With (allCons c_c_made (allCons c_c_maker_at (allCons c_c_left (allCons c_h_Bound (allCons c_c_shown allNil)))))) _) hmix (tab := m_c_Predict_tab _) rfl allNil (pureFun_of fun x => m_c_Predict_law x some)
theorem c_c_maker_lengths : PureOk Tryz.prog 93 p_c_maker_lengths := pure_top (m_c_maker_lengths_E _) (fun {_} => libN (allCons c_c_within allNil) _) hmix (tab := m_c_maker_lengths_tab _) rfl (allCons m_c_maker_lengths_L0_ok allNil) (pureFun_of fun x => m_c_maker_lengths_law x some)
theorem c_h_Fits : PureOk Tryz.prog 65 p_h_Fits := pure_top (m_h_Fits_E _) (fun {_} => libN (allCons c_h_Check allNil) _) hmix (tab := m_h_Fits_tab _) rfl (allCons m_h_Fits_L0_ok (allCons m_h_Fits_L1_ok allNil)) (pureFun_of fun x => m_h_Fits_law x some)
theorem c_c_maker_fits : PureOk Tryz.prog 94 p_c_maker_fits := pure_top (m_c_maker_fits_E _) (fun {_} => libN (allCons c_h_Fits allNil) _) hmix (tab := m_c_maker_fits_tab _) rfl allNil (pureFun_of fun x => m_c_maker_fits_law x some)
theorem c_c_Fits : PureOk Tryz.prog 24 p_c_Fits := pure_top (m_c_Fits_E _) (fun {_} => libN (allCons c_c_Check (allCons c_c_made (allCons c_c_maker_lengths (allCons c_c_maker_fits allNil)))) _) hmix (tab := m_c_Fits_tab _) rfl allNil (pureFun_of fun x => m_c_Fits_law x some)
theorem c_c_Nodes : PureOk Tryz.prog 28 p_c_Nodes := pure_top (m_c_Nodes_E _) (fun {_} => libN (allCons c_c_Check (allCons c_c_nodes allNil)) _) hmix (tab := m_c_Nodes_tab _) rfl allNil (pureFun_of fun x => m_c_Nodes_law x some)
theorem c_c_Can : PureOk Tryz.prog 32 p_c_Can := pure_top (m_c_Can_E _) (fun {_} => libN (allCons c_c_Check (allCons c_c_left (allCons c_c_isPile (allCons c_c_isDay (allCons c_c_shelved (allCons c_s_Concat_int_int (allCons c_c_away (allCons c_c_shelf_made allNil)))))))) _) hmix (tab := m_c_Can_tab _) rfl (allCons m_c_Can_L0_ok allNil) (pureFun_of fun x => m_c_Can_law x some)
theorem c_c_which : PureOk Tryz.prog 111 p_c_which := pure_top (m_c_which_E _) (fun {_} => libN (allCons c_c_Check allNil) _) hmix (tab := m_c_which_tab _) rfl allNil (pureFun_of fun x => m_c_which_law x some)
theorem c_c_Growth : PureOk Tryz.prog 38 p_c_Growth := pure_top (m_c_Growth_E _) (fun {_} => libN (allCons c_c_which (allCons c_c_growth allNil)) _) hmix (tab := m_c_Growth_tab _) rfl allNil (pureFun_of fun x => m_c_Growth_law x some)
theorem c_c_Says : PureOk Tryz.prog 40 p_c_Says := pure_top (m_c_Says_E _) (fun {_} => libN (allCons c_c_which (allCons c_c_says allNil)) _) hmix (tab := m_c_Says_tab _) rfl allNil (pureFun_of fun x => m_c_Says_law x some)
theorem c_c_System : PureOk Tryz.prog 51 p_c_System := pure_top (m_c_System_E _) (fun {_} => libN (allCons c_c_Check (allCons c_c_made allNil)) _) hmix (tab := m_c_System_tab _) rfl allNil (pureFun_of fun x => m_c_System_law x some)
theorem c_c_asked : PureOk Tryz.prog 127 p_c_asked := pure_top (m_c_asked_E _) (fun {_} => libN (allCons c_c_Check (allCons c_c_isDay (allCons c_c_shelved allNil))) _) hmix (tab := m_c_asked_tab _) rfl (allCons m_c_asked_L0_ok allNil) (pureFun_of fun x => m_c_asked_law x some)
theorem c_c_Loss : PureOk Tryz.prog 57 p_c_Loss := pure_top (m_c_Loss_E _) (fun {_} => libN (allCons c_c_shelved (allCons c_c_asked (allCons c_c_loss allNil))) _) hmix (tab := m_c_Loss_tab _) rfl allNil (pureFun_of fun x => m_c_Loss_law x some)
theorem c_w5_example : PureOk Tryz.prog 75 p_w5_example := pure_top (m_w5_example_E _) (fun {_} => libN allNil _) hmix (tab := m_w5_example_tab _) rfl allNil (pureFun_of fun x => m_w5_example_law x some)
theorem c_w5_sanity : PureOk Tryz.prog 19 p_w5_sanity := pure_top (m_w5_sanity_E _) (fun {_} => libN (allCons c_c_Predict (allCons c_c_Fits (allCons c_c_Nodes (allCons c_c_Can (allCons c_c_Growth (allCons c_c_Says (allCons c_c_System (allCons c_c_Loss (allCons c_w5_example allNil))))))))) _) hmix (tab := m_w5_sanity_tab _) rfl allNil (pureFun_of fun x => m_w5_sanity_law x some)
theorem c_r5_In : PureOk Tryz.prog 41 p_r5_In := pure_top (m_r5_In_E _) (fun {_} => libN allNil _) hmix (tab := m_r5_In_tab _) rfl allNil (pureFun_of fun x => m_r5_In_law x some)
theorem c_r5_Day : PureOk Tryz.prog 36 p_r5_Day := pure_top (m_r5_Day_E _) (fun {_} => libN (allCons c_r5_In allNil) _) hmix (tab := m_r5_Day_tab _) rfl allNil (pureFun_of fun x => m_r5_Day_law x some)
theorem c_r5_Has : PureOk Tryz.prog 110 p_r5_Has := pure_top (m_r5_Has_E _) (fun {_} => libN allNil _) hmix (tab := m_r5_Has_tab _) rfl (allCons m_r5_Has_L0_ok allNil) (pureFun_of fun x => m_r5_Has_law x some)
theorem c_r5_Left : PureOk Tryz.prog 35 p_r5_Left := pure_top (m_r5_Left_E _) (fun {_} => libN (allCons c_r5_Has allNil) _) hmix (tab := m_r5_Left_tab _) rfl (allCons m_r5_Left_L0_ok allNil) (pureFun_of fun x => m_r5_Left_law x some)
theorem c_r5_one : PureOk Tryz.prog 91 p_r5_one := pure_top (m_r5_one_E _) (fun {_} => libN (allCons c_r5_Left allNil) _) hmix (tab := m_r5_one_tab _) rfl allNil (pureFun_of fun x => m_r5_one_law x some)
theorem c_r1_Gcd : PureOk Tryz.prog 178 p_r1_Gcd := pure_top (m_r1_Gcd_E _) (fun {_} => libN allNil _) hmix (tab := m_r1_Gcd_tab _) rfl (allCons m_r1_Gcd_L0_ok allNil) (pureFun_of fun x => m_r1_Gcd_law x some)
theorem c_r1_Abs : PureOk Tryz.prog 179 p_r1_Abs := pure_top (m_r1_Abs_E _) (fun {_} => libN allNil _) hmix (tab := m_r1_Abs_tab _) rfl allNil (pureFun_of fun x => m_r1_Abs_law x some)
theorem c_r1_lowest : PureOk Tryz.prog 187 p_r1_lowest := pure_top (m_r1_lowest_E _) (fun {_} => libN (allCons c_r1_Gcd (allCons c_r1_Abs allNil)) _) hmix (tab := m_r1_lowest_tab _) rfl allNil (pureFun_of fun x => m_r1_lowest_law x some)
theorem c_r1_Add : PureOk Tryz.prog 157 p_r1_Add := pure_top (m_r1_Add_E _) (fun {_} => libN (allCons c_r1_lowest allNil) _) hmix (tab := m_r1_Add_tab _) rfl allNil (pureFun_of fun x => m_r1_Add_law x some)
theorem c_r1_Neg : PureOk Tryz.prog 158 p_r1_Neg := pure_top (m_r1_Neg_E _) (fun {_} => libN allNil _) hmix (tab := m_r1_Neg_tab _) rfl allNil (pureFun_of fun x => m_r1_Neg_law x some)
theorem c_r1_Sub : PureOk Tryz.prog 115 p_r1_Sub := pure_top (m_r1_Sub_E _) (fun {_} => libN (allCons c_r1_Add (allCons c_r1_Neg allNil)) _) hmix (tab := m_r1_Sub_tab _) rfl allNil (pureFun_of fun x => m_r1_Sub_law x some)
theorem c_r5_Find : PureOk Tryz.prog 61 p_r5_Find := pure_top (m_r5_Find_E _) (fun {_} => libN allNil _) hmix (tab := m_r5_Find_tab _) rfl (allCons m_r5_Find_L0_ok allNil) (pureFun_of fun x => m_r5_Find_law x some)
theorem c_r5_grows : PureOk Tryz.prog 116 p_r5_grows := pure_top (m_r5_grows_E _) (fun {_} => libN (allCons c_r5_Find allNil) _) hmix (tab := m_r5_grows_tab _) rfl allNil (pureFun_of fun x => m_r5_grows_law x some)
theorem c_r1_both : PureOk Tryz.prog 159 p_r1_both := pure_top (m_r1_both_E _) (fun {_} => libN allNil _) hmix (tab := m_r1_both_tab _) rfl allNil (pureFun_of fun x => m_r1_both_law x some)
theorem c_r1_Mul : PureOk Tryz.prog 160 p_r1_Mul := pure_top (m_r1_Mul_E _) (fun {_} => libN (allCons c_r1_lowest allNil) _) hmix (tab := m_r1_Mul_tab _) rfl allNil (pureFun_of fun x => m_r1_Mul_law x some)
theorem c_r1_Scale : PureOk Tryz.prog 117 p_r1_Scale := pure_top (m_r1_Scale_E _) (fun {_} => libN (allCons c_r1_both (allCons c_r1_Mul allNil)) _) hmix (tab := m_r1_Scale_tab _) rfl allNil (pureFun_of fun x => m_r1_Scale_law x some)
theorem c_r5_Growth : PureOk Tryz.prog 42 p_r5_Growth := pure_top (m_r5_Growth_E _) (fun {_} => libN (allCons c_r5_one (allCons c_r1_Sub (allCons c_r5_grows (allCons c_r1_Scale allNil)))) _) hmix (tab := m_r5_Growth_tab _) rfl allNil (pureFun_of fun x => m_r5_Growth_law x some)
theorem c_r5_Films : PureOk Tryz.prog 43 p_r5_Films := pure_top (m_r5_Films_E _) (fun {_} => libN allNil _) hmix (tab := m_r5_Films_tab _) rfl allNil (pureFun_of fun x => m_r5_Films_law x some)
theorem c_r1_down : PureOk Tryz.prog 161 p_r1_down := pure_top (m_r1_down_E _) (fun {_} => libN allNil _) hmix (tab := m_r1_down_tab _) rfl allNil (pureFun_of fun x => m_r1_down_law x some)
theorem c_r1_Floor : PureOk Tryz.prog 118 p_r1_Floor := pure_top (m_r1_Floor_E _) (fun {_} => libN (allCons c_r1_down allNil) _) hmix (tab := m_r1_Floor_tab _) rfl allNil (pureFun_of fun x => m_r1_Floor_law x some)
theorem c_r1_up : PureOk Tryz.prog 162 p_r1_up := pure_top (m_r1_up_E _) (fun {_} => libN allNil _) hmix (tab := m_r1_up_tab _) rfl allNil (pureFun_of fun x => m_r1_up_law x some)
theorem c_r1_Ceil : PureOk Tryz.prog 119 p_r1_Ceil := pure_top (m_r1_Ceil_E _) (fun {_} => libN (allCons c_r1_up allNil) _) hmix (tab := m_r1_Ceil_tab _) rfl allNil (pureFun_of fun x => m_r1_Ceil_law x some)
theorem c_r5_Says : PureOk Tryz.prog 44 p_r5_Says := pure_top (m_r5_Says_E _) (fun {_} => libN (allCons c_r5_Growth (allCons c_r5_Films (allCons c_r1_Floor (allCons c_r1_Ceil allNil)))) _) hmix (tab := m_r5_Says_tab _) rfl allNil (pureFun_of fun x => m_r5_Says_law x some)
theorem c_r5_asks : PureOk Tryz.prog 126 p_r5_asks := pure_top (m_r5_asks_E _) (fun {_} => libN (allCons c_r5_one allNil) _) hmix (tab := m_r5_asks_tab _) rfl (allCons m_r5_asks_L0_ok (allCons m_r5_asks_L1_ok allNil)) (pureFun_of fun x => m_r5_asks_law x some)
theorem c_r5_Nodes : PureOk Tryz.prog 54 p_r5_Nodes := pure_top (m_r5_Nodes_E _) (fun {_} => libN (allCons c_r5_asks allNil) _) hmix (tab := m_r5_Nodes_tab _) rfl (allCons m_r5_Nodes_L0_ok (allCons m_r5_Nodes_L1_ok (allCons m_r5_Nodes_L2_ok (allCons m_r5_Nodes_L5_ok (allCons m_r5_Nodes_L4_ok (allCons m_r5_Nodes_L3_ok allNil)))))) (pureFun_of fun x => m_r5_Nodes_law x some)
theorem c_r5_Index : PureOk Tryz.prog 52 p_r5_Index := pure_top (m_r5_Index_E _) (fun {_} => libN (allCons c_r5_Nodes allNil) _) hmix (tab := m_r5_Index_tab _) rfl (allCons m_r5_Index_L0_ok allNil) (pureFun_of fun x => m_r5_Index_law x some)
theorem c_r5_Lent : PureOk Tryz.prog 59 p_r5_Lent := pure_top (m_r5_Lent_E _) (fun {_} => libN allNil _) hmix (tab := m_r5_Lent_tab _) rfl (allCons m_r5_Lent_L0_ok allNil) (pureFun_of fun x => m_r5_Lent_law x some)
theorem c_r5_Used : PureOk Tryz.prog 60 p_r5_Used := pure_top (m_r5_Used_E _) (fun {_} => libN allNil _) hmix (tab := m_r5_Used_tab _) rfl (allCons m_r5_Used_L0_ok allNil) (pureFun_of fun x => m_r5_Used_law x some)
theorem c_r5_Loss : PureOk Tryz.prog 62 p_r5_Loss := pure_top (m_r5_Loss_E _) (fun {_} => libN (allCons c_r5_Lent (allCons c_r5_Used (allCons c_r5_Find allNil))) _) hmix (tab := m_r5_Loss_tab _) rfl (allCons m_r5_Loss_L0_ok allNil) (pureFun_of fun x => m_r5_Loss_law x some)
theorem c_r5_Tie : PureOk Tryz.prog 53 p_r5_Tie := pure_top (m_r5_Tie_E _) (fun {_} => libN (allCons c_r5_Says (allCons c_r5_Index (allCons c_r5_Nodes (allCons c_r5_Loss (allCons c_r5_one allNil))))) _) hmix (tab := m_r5_Tie_tab _) rfl (allCons m_r5_Tie_L1_ok (allCons m_r5_Tie_L0_ok (allCons m_r5_Tie_L2_ok allNil))) (pureFun_of fun x => m_r5_Tie_law x some)
theorem c_r5_spanned : PureOk Tryz.prog 81 p_r5_spanned := pure_top (m_r5_spanned_E _) (fun {_} => libN allNil _) hmix (tab := m_r5_spanned_tab _) rfl allNil (pureFun_of fun x => m_r5_spanned_law x some)
theorem c_r1_Valid : PureOk Tryz.prog 145 p_r1_Valid := pure_top (m_r1_Valid_E _) (fun {_} => libN (allCons c_r1_Gcd (allCons c_r1_Abs allNil)) _) hmix (tab := m_r1_Valid_tab _) rfl allNil (pureFun_of fun x => m_r1_Valid_law x some)
theorem c_r5_gauge : PureOk Tryz.prog 82 p_r5_gauge := pure_top (m_r5_gauge_E _) (fun {_} => libN (allCons c_r5_Day (allCons c_r5_In (allCons c_r5_spanned (allCons c_r1_Valid allNil)))) _) hmix (tab := m_r5_gauge_tab _) rfl allNil (pureFun_of fun x => m_r5_gauge_law x some)
theorem c_r5_Since : PureOk Tryz.prog 87 p_r5_Since := pure_top (m_r5_Since_E _) (fun {_} => libN (allCons c_r5_Find allNil) _) hmix (tab := m_r5_Since_tab _) rfl allNil (pureFun_of fun x => m_r5_Since_law x some)
theorem c_r5_uses : PureOk Tryz.prog 83 p_r5_uses := pure_top (m_r5_uses_E _) (fun {_} => libN (allCons c_r5_Day (allCons c_r5_Since allNil)) _) hmix (tab := m_r5_uses_tab _) rfl (allCons m_r5_uses_L0_ok allNil) (pureFun_of fun x => m_r5_uses_law x some)
theorem c_r5_loans : PureOk Tryz.prog 84 p_r5_loans := pure_top (m_r5_loans_E _) (fun {_} => libN (allCons c_r5_In (allCons c_r5_spanned (allCons c_r5_Since allNil))) _) hmix (tab := m_r5_loans_tab _) rfl (allCons m_r5_loans_L1_ok (allCons m_r5_loans_L2_ok (allCons m_r5_loans_L0_ok allNil))) (pureFun_of fun x => m_r5_loans_law x some)
theorem c_r5_Pile : PureOk Tryz.prog 33 p_r5_Pile := pure_top (m_r5_Pile_E _) (fun {_} => libN (allCons c_r5_In allNil) _) hmix (tab := m_r5_Pile_tab _) rfl (allCons m_r5_Pile_L0_ok allNil) (pureFun_of fun x => m_r5_Pile_law x some)
theorem c_r5_plain : PureOk Tryz.prog 85 p_r5_plain := pure_top (m_r5_plain_E _) (fun {_} => libN (allCons c_r5_Pile (allCons c_r5_Day (allCons c_r5_In (allCons c_r5_spanned allNil)))) _) hmix (tab := m_r5_plain_tab _) rfl allNil (pureFun_of fun x => m_r5_plain_law x some)
theorem c_r5_compared : PureOk Tryz.prog 86 p_r5_compared := pure_top (m_r5_compared_E _) (fun {_} => libN (allCons c_r5_Left (allCons c_r5_Lent (allCons c_r5_Find (allCons c_r5_Since allNil)))) _) hmix (tab := m_r5_compared_tab _) rfl (allCons m_r5_compared_L0_ok (allCons m_r5_compared_L1_ok (allCons m_r5_compared_L2_ok allNil))) (pureFun_of fun x => m_r5_compared_law x some)
theorem c_r5_Check : PureOk Tryz.prog 21 p_r5_Check := pure_top (m_r5_Check_E _) (fun {_} => libN (allCons c_r5_Day (allCons c_r5_Tie (allCons c_r5_Nodes (allCons c_r5_spanned (allCons c_r5_gauge (allCons c_r5_uses (allCons c_r5_loans (allCons c_r5_plain (allCons c_r5_compared (allCons c_r5_Since allNil)))))))))) _) hmix (tab := m_r5_Check_tab _) rfl (allCons m_r5_Check_L0_ok (allCons m_r5_Check_L2_ok (allCons m_r5_Check_L1_ok (allCons m_r5_Check_L3_ok allNil)))) (pureFun_of fun x => m_r5_Check_law x some)
theorem c_r5_more : PureOk Tryz.prog 88 p_r5_more := pure_top (m_r5_more_E _) (fun {_} => libN allNil _) hmix (tab := m_r5_more_tab _) rfl allNil (pureFun_of fun x => m_r5_more_law x some)
theorem c_r5_With : PureOk Tryz.prog 22 p_r5_With := pure_top (m_r5_With_E _) (fun {_} => libN (allCons c_r5_Check (allCons c_r5_more allNil)) _) hmix (tab := m_r5_With_tab _) rfl allNil (pureFun_of fun x => m_r5_With_law x some)
theorem c_r5_Shown : PureOk Tryz.prog 73 p_r5_Shown := pure_top (m_r5_Shown_E _) (fun {_} => libN (allCons c_r5_Growth (allCons c_r5_Films (allCons c_r1_Floor (allCons c_r1_Ceil allNil)))) _) hmix (tab := m_r5_Shown_tab _) rfl allNil (pureFun_of fun x => m_r5_Shown_law x some)
theorem c_r5_Open : PureOk Tryz.prog 89 p_r5_Open := pure_top (m_r5_Open_E _) (fun {_} => libN allNil _) hmix (tab := m_r5_Open_tab _) rfl (allCons m_r5_Open_L1_ok (allCons m_r5_Open_L0_ok allNil)) (pureFun_of fun x => m_r5_Open_law x some)
theorem c_r5_System : PureOk Tryz.prog 90 p_r5_System := pure_top (m_r5_System_E _) (fun {_} => libN (allCons c_r5_Tie (allCons c_r5_Nodes allNil)) _) hmix (tab := m_r5_System_tab _) rfl allNil (pureFun_of fun x => m_r5_System_law x some)
theorem c_r5_Bounds : PureOk Tryz.prog 92 p_r5_Bounds := pure_top (m_r5_Bounds_E _) (fun {_} => libN allNil _) hmix (tab := m_r5_Bounds_tab _) rfl (allCons m_r5_Bounds_L0_ok (allCons m_r5_Bounds_L2_ok (allCons m_r5_Bounds_L1_ok allNil))) (pureFun_of fun x => m_r5_Bounds_law x some)
theorem c_r5_Predict : PureOk Tryz.prog 23 p_r5_Predict := pure_top (m_r5_Predict_E _) (fun {_} => libN (allCons c_r5_Index (allCons c_r5_Shown (allCons c_r5_more (allCons c_r5_Open (allCons c_r5_System (allCons c_r5_one (allCons c_r5_Bounds allNil))))))) _) hmix (tab := m_r5_Predict_tab _) rfl allNil (pureFun_of fun x => m_r5_Predict_law x some)
theorem c_w5_ComparePredicts : PureOk Tryz.prog 3 p_w5_ComparePredicts := pure_top (m_w5_ComparePredicts_E _) (fun {_} => libN (allCons c_w5_small (allCons c_w5_brief (allCons c_w5_sanity (allCons c_c_Predict (allCons c_r5_Check (allCons c_r5_With (allCons c_r5_Predict allNil))))))) _) hmix (tab := m_w5_ComparePredicts_tab _) rfl allNil (pureFun_of fun x => m_w5_ComparePredicts_law x some)
end Go.Proofs.ZzM
end
