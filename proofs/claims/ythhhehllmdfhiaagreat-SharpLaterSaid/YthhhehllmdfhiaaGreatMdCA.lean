/- lemmas -/
import Derived.Test.YthhhehllmdfhiaaGreatAmC
import Derived.Test.YthhhehllmdfhiaaGreatAmD
import Derived.Ground.NamesProg
import Derived.Ground.Names2Prog
import Derived.KernelRfl
import Derived.Test.YthhhehllmdfhiaaGreatMdMA
import Derived.Test.YthhhehllmdfhiaaGreatMdKA
import Derived.RangeFuncBox
import Derived.Lib.SliceRun
import Derived.RangeFuncLeaves
import Derived.WalkKit
import Derived.OwnWalkIn
import Derived.TacticsInMore
import Derived.LoopNIn
import Derived.LoopIn
import Derived.Test.YthhhehllmdfhiaaGreatProg
import Derived.RangeFuncFrom
import Derived.RangeFuncRecord
set_option linter.all false
set_option linter.unusedSectionVars false
set_option linter.unusedVariables false
set_option linter.unusedSimpArgs false
noncomputable section
namespace Go.Proofs
open Go.Shelf
def Tryz.laysSort_ren : Go.Shelf.Ren := ⟨fun | 189 => 127 | 125 => 197 | 257 => 196 | 128 => 251 | 129 => 252 | 294 => 242 | 295 => 243 | 296 => 244 | 297 => 245 | 298 => 246 | 299 => 247 | 216 => 248 | 300 => 249 | 301 => 250 | 328 => 269 | 329 => 270 | 330 => 271 | 331 => 272 | 332 => 273 | 215 => 274 | 343 => 286 | n => n, fun | 28 => 43 | 3 => 3 | 46 => 248 | 0 => 0 | 51 => 288 | 53 => 290 | 4 => 4 | 183 => 281 | 182 => 280 | 131 => 57 | 5 => 5 | 9 => 9 | 218 => 312 | 222 => 316 | 228 => 326 | 229 => 327 | n => n, fun | n => n⟩
theorem Tryz.laysSort : Go.Proofs.Lays.n189 Tryz.prog Tryz.laysSort_ren := {
 mixed := by kernel_rfl
 f125 := Tryz.func197.trans (congrArg some (by kernel_rfl))
 f128 := Tryz.func251.trans (congrArg some (by kernel_rfl))
 f129 := Tryz.func252.trans (congrArg some (by kernel_rfl))
 f189 := Tryz.func127.trans (congrArg some (by kernel_rfl))
 f215 := Tryz.func274.trans (congrArg some (by kernel_rfl))
 f216 := Tryz.func248.trans (congrArg some (by kernel_rfl))
 f257 := Tryz.func196.trans (congrArg some (by kernel_rfl))
 f294 := Tryz.func242.trans (congrArg some (by kernel_rfl))
 f295 := Tryz.func243.trans (congrArg some (by kernel_rfl))
 f296 := Tryz.func244.trans (congrArg some (by kernel_rfl))
 f297 := Tryz.func245.trans (congrArg some (by kernel_rfl))
 f298 := Tryz.func246.trans (congrArg some (by kernel_rfl))
 f299 := Tryz.func247.trans (congrArg some (by kernel_rfl))
 f300 := Tryz.func249.trans (congrArg some (by kernel_rfl))
 f301 := Tryz.func250.trans (congrArg some (by kernel_rfl))
 f328 := Tryz.func269.trans (congrArg some (by kernel_rfl))
 f329 := Tryz.func270.trans (congrArg some (by kernel_rfl))
 f330 := Tryz.func271.trans (congrArg some (by kernel_rfl))
 f331 := Tryz.func272.trans (congrArg some (by kernel_rfl))
 f332 := Tryz.func273.trans (congrArg some (by kernel_rfl))
 f343 := Tryz.func286.trans (congrArg some (by kernel_rfl))
 t0 := Tryz.underlying0
 a0 := Tryz.isAgg0
 z0 := Tryz.sizeOf0
 v0 := Tryz.zeroValue0
 t3 := Tryz.underlying3
 a3 := Tryz.isAgg3
 z3 := Tryz.sizeOf3
 v3 := Tryz.zeroValue3
 t4 := Tryz.underlying4
 a4 := Tryz.isAgg4
 z4 := Tryz.sizeOf4
 v4 := Tryz.zeroValue4
 t5 := Tryz.underlying5
 a5 := Tryz.isAgg5
 z5 := Tryz.sizeOf5
 v5 := Tryz.zeroValue5
 t9 := Tryz.underlying9
 a9 := Tryz.isAgg9
 z9 := Tryz.sizeOf9
 v9 := Tryz.zeroValue9
 t28 := Tryz.underlying43
 a28 := Tryz.isAgg43
 z28 := Tryz.sizeOf43
 v28 := Tryz.zeroValue43
 t46 := Tryz.underlying248
 a46 := Tryz.isAgg248
 z46 := Tryz.sizeOf248
 v46 := Tryz.zeroValue248
 t51 := Tryz.underlying288
 a51 := Tryz.isAgg288
 z51 := Tryz.sizeOf288
 v51 := Tryz.zeroValue288
 t53 := Tryz.underlying290
 a53 := Tryz.isAgg290
 z53 := Tryz.sizeOf290
 v53 := Tryz.zeroValue290
 t131 := Tryz.underlying57
 a131 := Tryz.isAgg57
 z131 := Tryz.sizeOf57
 v131 := Tryz.zeroValue57
 t182 := Tryz.underlying280
 a182 := Tryz.isAgg280
 z182 := Tryz.sizeOf280
 v182 := Tryz.zeroValue280
 t183 := Tryz.underlying281
 a183 := Tryz.isAgg281
 z183 := Tryz.sizeOf281
 v183 := Tryz.zeroValue281
 t218 := Tryz.underlying312
 a218 := Tryz.isAgg312
 z218 := Tryz.sizeOf312
 v218 := Tryz.zeroValue312
 t222 := Tryz.underlying316
 a222 := Tryz.isAgg316
 z222 := Tryz.sizeOf316
 v222 := Tryz.zeroValue316
 t228 := Tryz.underlying326
 a228 := Tryz.isAgg326
 z228 := Tryz.sizeOf326
 v228 := Tryz.zeroValue326
 t229 := Tryz.underlying327
 a229 := Tryz.isAgg327
 z229 := Tryz.sizeOf327
 v229 := Tryz.zeroValue327 }
def Tryz.laysCompact_ren : Go.Shelf.Ren := ⟨fun | 20 => 128 | n => n, fun | 22 => 43 | 3 => 3 | 4 => 4 | 0 => 0 | n => n, fun | n => n⟩
theorem Tryz.laysCompact : Go.Proofs.Lays2.n20 Tryz.prog Tryz.laysCompact_ren := {
 mixed := by kernel_rfl
 f20 := Tryz.func128.trans (congrArg some (by kernel_rfl))
 t0 := Tryz.underlying0
 a0 := Tryz.isAgg0
 z0 := Tryz.sizeOf0
 v0 := Tryz.zeroValue0
 t3 := Tryz.underlying3
 a3 := Tryz.isAgg3
 z3 := Tryz.sizeOf3
 v3 := Tryz.zeroValue3
 t4 := Tryz.underlying4
 a4 := Tryz.isAgg4
 z4 := Tryz.sizeOf4
 v4 := Tryz.zeroValue4
 t22 := Tryz.underlying43
 a22 := Tryz.isAgg43
 z22 := Tryz.sizeOf43
 v22 := Tryz.zeroValue43
 i3 := by kernel_rfl }
end Go.Proofs
namespace Go.Proofs.ZzM
open Go Go.Am
theorem hmix : Tryz.prog.follows .mixedOrders = true := by kernel_rfl
theorem plain_ : (Tryz.prog.funcs.toList.all fun fn => !(fn.name == "runtime.NumGoroutine")) = true := by kernel_rfl
theorem plain (f : Nat) (fn : Func) (h : Tryz.prog.funcs[f]? = some fn) : (fn.name == "runtime.NumGoroutine") = false := by
 have := List.all_eq_true.1 plain_ fn (List.mem_of_getElem? (i := f) (by simpa using h))
 simpa using this
theorem aaq : Tryz.laysSort_ren.f 189 = 127 := by kernel_rfl
theorem UC : Tryz.laysCompact_ren.f 20 = 128 := by kernel_rfl
section
variable [bT] {ρ : Type}
theorem sortOk (f : Nat) (hf : Qo f = true) (h : List Blk) (x : AV) (K : AV → List Blk → Option ρ) (q : ρ) (e : Lx h x K = some q) (ν : Nat → Value) (w : World) (u : Value) (H : HR ν h w) (hx : VR ν h w x u) : D2 Tryz.prog f ν h w [u] K q := by
 have h1 : f = 127 := by
  unfold Qo at hf
  split at hf
  ·rfl
  ·cases hf
 subst h1
 have := aaj Tryz.laysSort e H hx ⟨_, rfl⟩
 rwa [aaq] at this
theorem XB (f : Nat) (hf : uj f = true) (h : List Blk) (x : AV) (K : AV → List Blk → Option ρ) (q : ρ) (e : mg h x K = some q) (ν : Nat → Value) (w : World) (u : Value) (H : HR ν h w) (hx : VR ν h w x u) : D2 Tryz.prog f ν h w [u] K q := by
 have h1 : f = 128 := by
  unfold uj at hf
  split at hf
  ·rfl
  ·cases hf
 subst h1
 have := Vd Tryz.laysCompact e H hx ⟨_, rfl⟩
 rwa [UC] at this
theorem aaT : CV Tryz.prog Hv := by
 intro g hg fz S nid x v S' e ν w u H hx hn hd
 unfold Hv at hg
 split at hg
 ·exact rz Tryz.func91 (T := 43) (by kernel_rfl) (by kernel_rfl) e H hx hn hd
 ·exact rz Tryz.func140 (T := 47) (by kernel_rfl) (by kernel_rfl) e H hx hn hd
 ·exact rz Tryz.func229 (T := 24) (by kernel_rfl) (by kernel_rfl) e H hx hn hd
 ·exact rz Tryz.func230 (T := 25) (by kernel_rfl) (by kernel_rfl) e H hx hn hd
 ·exact rz Tryz.func231 (T := 26) (by kernel_rfl) (by kernel_rfl) e H hx hn hd
 ·exact rz Tryz.func232 (T := 28) (by kernel_rfl) (by kernel_rfl) e H hx hn hd
 ·exact rz Tryz.func233 (T := 27) (by kernel_rfl) (by kernel_rfl) e H hx hn hd
 ·cases hg
theorem Hr {pt : List (Nat × bD)} (h : ∀ e ∈ pt, bq Tryz.prog e.1 e.2) (E : Env ρ) (hP : E.P = Tryz.prog) (h1 : E.pure = U4 pt) (h2 : E.sort = Qo) (h3 : E.compact = uj) (h4 : E.clone = Hv) (hj : Uo E) : EJ E := by
 constructor
 ·intro f p hf
  rw [h1] at hf
  rw [hP]
  exact h (f, p) (K9 hf)
 ·intro f hf
  rw [h2] at hf
  rw [hP]
  exact sortOk f hf
 ·intro f hf
  rw [h3] at hf
  rw [hP]
  exact XB f hf
 ·rw [hP]; exact plain
 ·rw [hP, h4]; exact aaT
 ·exact hj
theorem dV {pt : List (Nat × bD)} (h : ∀ e ∈ pt, bq Tryz.prog e.1 e.2) (tab : List (bP ρ)) : EJ (bJ pt tab) := Hr h _ rfl rfl rfl rfl rfl (f0 rfl)
end
end Go.Proofs.ZzM
end
noncomputable section
set_option maxRecDepth 100000
namespace Go.Proofs.ZzM
open Go Go.Am
theorem rC : bq Tryz.prog 53 mI := bh (qQ _) (fun {_} => dV bf _) hmix (tab := tQ _) rfl (aX B9 bf) (bc fun x => G5 x some)
theorem vx : bq Tryz.prog 82 pk := bh (DD _) (fun {_} => dV bf _) hmix (tab := wC _) rfl bf (bc fun x => JL x some)
theorem kE : bq Tryz.prog 126 i7 := bh (Dy _) (fun {_} => dV bf _) hmix (tab := wx _) rfl bf (bc fun x => Jw x some)
theorem A4 : bq Tryz.prog 125 sV := bh (He _) (fun {_} => dV (aX kE bf) _) hmix (tab := Ab _) rfl bf (bc fun x => Nb x some)
theorem T8 : bq Tryz.prog 259 LJ := bh (KH _) (fun {_} => dV bf _) hmix (tab := Dt _) rfl bf (bc fun x => PM x some)
theorem XQ : bq Tryz.prog 260 RB := bh (GQ _) (fun {_} => dV bf _) hmix (tab := GP _) rfl (aX MM bf) (bc fun x => RZ x some)
theorem AZ : bq Tryz.prog 219 yw := bh (GU _) (fun {_} => dV (aX T8 (aX XQ bf)) _) hmix (tab := zL _) rfl bf (bc fun x => MO x some)
theorem SO : bq Tryz.prog 162 FO := bh (Aa _) (fun {_} => dV (aX vx (aX A4 (aX kE (aX AZ bf)))) _) hmix (tab := tX _) rfl bf (bc fun x => Hc x some)
theorem Ij : bq Tryz.prog 83 sW := bh (kq _) (fun {_} => dV (aX SO bf) _) hmix (tab := mY _) rfl (aX tY bf) (bc fun x => xI x some)
theorem CM : bq Tryz.prog 73 pf := bh (iU _) (fun {_} => dV bf _) hmix (tab := kU _) rfl (aX qt bf) (bc fun x => s8 x some)
theorem lU : bq Tryz.prog 65 iy := bh (jX _) (fun {_} => dV (aX CM bf) _) hmix (tab := ja _) rfl bf (bc fun x => po x some)
theorem Ud : bq Tryz.prog 168 LO := bh (vj _) (fun {_} => dV (aX lU bf) _) hmix (tab := DF _) rfl (aX JO (aX JN bf)) (bc fun x => P5 x some)
theorem Ii : bq Tryz.prog 85 yz := bh (qT _) (fun {_} => dV (aX Ud bf) _) hmix (tab := zS _) rfl (aX G7 (aX G8 bf)) (bc fun x => MW x some)
theorem oY : bq Tryz.prog 164 kG := bh (sj _) (fun {_} => dV bf _) hmix (tab := oe _) rfl bf (bc fun x => zQ x some)
theorem SN : bq Tryz.prog 163 RD := bh (zR _) (fun {_} => dV (aX A4 (aX oY bf)) _) hmix (tab := tT _) rfl bf (bc fun x => G6 x some)
theorem NV : bq Tryz.prog 166 LP := bh (jC _) (fun {_} => dV (aX vx (aX kE (aX oY bf))) _) hmix (tab := pP _) rfl (aX xH (aX xG bf)) (bc fun x => Cg x some)
theorem A0 : bq Tryz.prog 88 uX := bh (vi _) (fun {_} => dV (aX lU bf) _) hmix (tab := DC _) rfl (aX JI (aX JH bf)) (bc fun x => P2 x some)
theorem d8 : bq Tryz.prog 94 dX := bh (fT _) (fun {_} => dV bf _) hmix (tab := jY _) rfl (aX pq (aX pp bf)) (bc fun x => sr x some)
theorem Lf : bq Tryz.prog 198 Bn := bh (tW _) (fun {_} => dV (aX kE bf) _) hmix (tab := wB _) rfl (aX EB bf) (bc fun x => JJ x some)
theorem ZC : bq Tryz.prog 223 Tx := bh (Ch _) (fun {_} => dV (aX kE bf) _) hmix (tab := DG _) rfl (aX JP bf) (bc fun x => P6 x some)
theorem EG : bq Tryz.prog 167 D8 := bh (dZ _) (fun {_} => dV (aX vx (aX A0 (aX d8 (aX A4 (aX kE (aX oY (aX Lf (aX ZC bf)))))))) _) hmix (tab := lS _) rfl (aX sF (aX sv (aX sw (aX su bf)))) (bc fun x => vL x some)
theorem Ga : ∀ e ∈ BD, bq Tryz.prog e.1 e.2 := (aX d8 bf)
theorem RP {ρ : Type} : ∀ e ∈ xo ρ, e.Ok (eX ρ) := (aX Mq (aX Mr (aX Mp (aX Mo (aX Mn (aX Mm bf))))))
theorem De {ρ : Type} : ∀ e ∈ nO ρ, e.Ok (cJ ρ) := (aX I9 (aX I8 (aX I7 bf)))
end Go.Proofs.ZzM
end
noncomputable section
namespace Go.Proofs
open Go.RowKit
attribute [local go_sem] Oper.semAt_some
def IF (sel : Nat → Bool) (k : Nat) : List Nat := (List.range k).filter sel
theorem yj (sel : Nat → Bool) (k : Nat) : IF sel (k + 1) = if sel k then IF sel k ++ [k] else IF sel k := by
 unfold IF
 rw [List.range_succ, List.filter_append]
 cases h : sel k <;> simp [h]
theorem Rq (sel : Nat → Bool) (k : Nat) : (IF sel k).length ≤ k := by
 unfold IF
 exact Nat.le_trans (List.length_filter_le _ _) (by simp)
theorem V0 (sel : Nat → Bool) {j k : Nat} (h : j ≤ k) : (IF sel j).length ≤ (IF sel k).length := by
 obtain ⟨d, rfl⟩ : ∃ d, k = j + d := ⟨k - j, by omega⟩
 unfold IF
 rw [List.range_add, List.filter_append, List.length_append]
 omega
theorem aak {sel : Nat → Bool} {k n : Nat} (h : k < n) (hs : sel k = true) : (IF sel k).length < (IF sel n).length := by
 have h1 := V0 sel (j := k + 1) (k := n) h
 rw [yj, hs] at h1
 simp at h1
 omega
set_option maxRecDepth 100000 in
set_option maxHeartbeats 1000000 in
theorem aaG (te : TypeId) (n : Nat) (hn : 1 ≤ n) (l bb tb : Nat) (flo fhi us lo co ko : Value) (gb go len cap : Nat) (gbase : Option Addr) (hgb : 0 < len → gbase = some ⟨gb, go, none⟩)
 (c0 c1 c2 c3 c4 c5 c6 c7 : Nat → Int) (sel : Nat → Bool) (hlen : (len : Int) < 9223372036854775807) (Nd : World → Prop)
 (W : World) (hb0 : W.heap[bb]? = some (.cells #[flo, fhi, .slice gbase len cap, us, lo, co, ko] te (0, 0)))
 (hNc : ∀ W', Nd W' → ∀ j, j < len → W'.cell? ⟨gb, go + j * 8, none⟩ = some (.int .i64 (c0 j)) ∧ W'.cell? ⟨gb, go + j * 8 + 1, none⟩ = some (.int .i64 (c1 j)) ∧ W'.cell? ⟨gb, go + j * 8 + 2, none⟩ = some (.int .i64 (c2 j)) ∧ W'.cell? ⟨gb, go + j * 8 + 3, none⟩ = some (.int .i64 (c3 j)) ∧
  W'.cell? ⟨gb, go + j * 8 + 4, none⟩ = some (.int .i64 (c4 j)) ∧ W'.cell? ⟨gb, go + j * 8 + 5, none⟩ = some (.int .i64 (c5 j)) ∧ W'.cell? ⟨gb, go + j * 8 + 6, none⟩ = some (.int .i64 (c6 j)) ∧ W'.cell? ⟨gb, go + j * 8 + 7, none⟩ = some (.int .i64 (c7 j)))
 (hNm : ∀ W', Nd W' → ∃ mv, ∀ W'', W'.grownBy W'' none → W''.cell? ⟨tb, 0, none⟩ = some mv ∧ ∀ j, j < len → (Instr.lookup 197 mv (.int .i64 (c0 j)) false).run Tryz.prog W'' = .ok (.bool (sel j)) W'')
 (hNs : ∀ W1 W2, Nd W1 → W1.grownBy W2 none → Nd W2) (hN : Nd W)
 (J Jx : List Nat → World → Prop) (hJ : ∀ pre W W', J pre W → W.grownBy W' none → J pre W') (hJx : ∀ pre W W', Jx pre W → W.grownBy W' none → Jx pre W')
 (hY : ∀ pre x W, J pre W → pre.length < (IF sel len).length → YieldAt Fence.wide (n - 1) Tryz.prog l #[.agg #[.int .i64 (c0 x), .int .i64 (c1 x), .int .i64 (c2 x), .int .i64 (c3 x), .int .i64 (c4 x), .int .i64 (c5 x), .int .i64 (c6 x), .int .i64 (c7 x)]] W fun e W' =>
  (e = .returned (.bool true) ∧ J (pre ++ [x]) W' ∧ (Nd W → Nd W')) ∨ (e = .returned (.bool false) ∧ Jx (pre ++ [x]) W'))
 (h0 : J [] W) :
  CallsIn Fence.wide n Tryz.prog 218 #[.func (.yield l) #[] #[], .pointer (some ⟨bb, 0, none⟩), .pointer (some ⟨tb, 0, none⟩)] W fun e W' => (∃ v, e = .returned v) ∧
   ((∃ xs, xs = IF sel len ∧ J xs W') ∨ (∃ pre, True ∧ Jx pre W')) := by
 have hb3 : W.cell? ⟨bb, 2, none⟩ = some (.slice gbase len cap) := by simp [World.cell?, hb0]
 refine callsIn_of_wp Tryz.func218 rfl trivial ?_ rfl
 simp only [Tryz.ntmps218, List.size_toArray, List.length_cons, List.length_nil, Nat.reduceAdd, Nat.reduceSub, Array.replicate_succ, Array.replicate_zero, List.push_toArray, List.append_toArray, List.nil_append, List.cons_append]
 gi_wp2
 gi_loopw [9] (fun i wr => ∃ k : Nat, k ≤ len ∧ i = .int .i64 k ∧ J (IF sel k) wr ∧ Nd wr)
  (fun i _ => len - (intOf i).toNat)
 case atStart => exact ⟨0, Nat.zero_le _, rfl, h0, hN⟩
 case round =>
  obtain ⟨k, hk, rfl, hJs, hNw⟩ := hrel
  by_cases hlt : k < len
  ·have hg := hgb (by omega)
   subst hg
   obtain ⟨q0, q1, q2, q3, q4, q5, q6, q7⟩ := hNc _ hNw k hlt
   obtain ⟨mv, hmv⟩ := hNm _ hNw
   have hta : ∀ o, (wr.alloc o).cell? ⟨tb, 0, none⟩ = some mv := fun o => (hmv _ (World.grownBy_alloc _ o none)).1
   have hlk : ∀ o, (Instr.lookup 197 mv (.int .i64 (c0 k)) false).run Tryz.prog (wr.alloc o) = .ok (.bool (sel k)) (wr.alloc o) := fun o => (hmv _ (World.grownBy_alloc _ o none)).2 k hlt
   have hNa : ∀ o, Nd (wr.alloc o) := fun o => hNs _ _ hNw (World.grownBy_alloc _ o none)
   have hJa : ∀ o, J (IF sel k) (wr.alloc o) := fun o => hJ _ _ _ hJs (World.grownBy_alloc _ o none)
   clear hmv hNm hNc
   cases hsel : sel k with
   | false =>
     rw [hsel] at hlk
     iterate 52 (first | go_values | gi_guarded | gi_step | gi_upon)
     refine ⟨fun f hf => by simp [undef, go_sem] at hf, ?_⟩
     gi_wp2
     go_roundw
     case rel => exact ⟨k + 1, by omega, by simp, by rw [yj, hsel]; exact hJa _, hNa _⟩
     case measure => simp [intOf]; omega
   | true =>
     rw [hsel] at hlk
     gi_wp2
     obtain ⟨fn, tmps, assign, body, hy, hR⟩ := hY (IF sel k) k (wr.alloc (.cells #[.int .i64 (c0 k), .int .i64 (c1 k), .int .i64 (c2 k), .int .i64 (c3 k), .int .i64 (c4 k), .int .i64 (c5 k), .int .i64 (c6 k), .int .i64 (c7 k)] 104)) (hJa _) (aak hlt hsel)
     rw [hy]
     refine ⟨fun h => (by cases h), hR.mono ?_⟩
     rintro e W3 (⟨rfl, hJ3, hk3⟩ | ⟨rfl, hJx3⟩)
     ·gi_wp2
      go_roundw
      case rel => exact ⟨k + 1, by omega, by simp, by rw [yj, hsel]; exact hJ3, hk3 (hNa _)⟩
      case measure => simp [intOf]; omega
     ·gi_wp2
      refine bodyPost_ret (results_none rfl _ _ _) rfl ?_
      exact ⟨⟨_, rfl⟩, .inr ⟨_, trivial, hJx3⟩⟩
  ·obtain rfl : len = k := by omega
   gi_wp2
   go_end0
   exact ⟨⟨_, rfl⟩, .inl ⟨_, rfl, hJs⟩⟩
end Go.Proofs
end
noncomputable section
namespace Go.Proofs
open Go.RowKit
attribute [local go_sem] Oper.semAt_some
def upE (f : Nat → Int) (k : Nat) : List Int := (List.range k).map f
theorem nx (f : Nat → Int) (k : Nat) : upE f (k + 1) = upE f k ++ [f k] := by simp [upE, List.range_succ]
theorem uS (f : Nat → Int) (k : Nat) : (upE f k).length = k := by simp [upE]
theorem EK (f : Nat → Int) {j k : Nat} (h : j ≤ k) : upE f j <+: upE f k := by
 have : k = j + (k - j) := by omega
 rw [this, upE, upE, List.range_add, List.map_append]
 exact List.prefix_append _ _
set_option maxRecDepth 100000 in
set_option maxHeartbeats 1000000 in
theorem YK (te : TypeId) (n : Nat) (hn : 1 ≤ n) (l n₀ bb tb sb : Nat) (flo fhi ga mv : Value) (hbb : bb < n₀) (htb : tb < n₀) (hsb : sb < n₀)
 (ub uo ul uc kb ko kl kc : Nat) (ubase kbase lbase cbase : Option Addr) (ll lc cl cc : Nat) (hub : 0 < ul → ubase = some ⟨ub, uo, none⟩ ∧ ub < n₀) (hkb : 0 < kl → kbase = some ⟨kb, ko, none⟩ ∧ kb < n₀)
 (U K : Nat → Int × Int) (eU eL eC eK : Nat → Int)
 (hul : ul ≤ 1000) (hll : ll ≤ 1000) (hcl : cl ≤ 1000) (hkl : kl ≤ 1000)
 (W : World) (hb0 : W.heap[bb]? = some (.cells #[flo, fhi, ga, .slice ubase ul uc, .slice lbase ll lc, .slice cbase cl cc, .slice kbase kl kc] te (0, 0)))
 (ht : W.cell? ⟨tb, 0, none⟩ = some (.func (.func 163) #[] #[.pointer (some ⟨sb, 0, none⟩)])) (hs : W.cell? ⟨sb, 0, none⟩ = some mv)
 (hU : ∀ j, j < ul → W.cell? ⟨ub, uo + j * 2, none⟩ = some (.int .i64 (U j).1) ∧ W.cell? ⟨ub, uo + j * 2 + 1, none⟩ = some (.int .i64 (U j).2))
 (hK : ∀ j, j < kl → W.cell? ⟨kb, ko + j * 2, none⟩ = some (.int .i64 (K j).1) ∧ W.cell? ⟨kb, ko + j * 2 + 1, none⟩ = some (.int .i64 (K j).2))
 (cU : ∀ j, j < ul → ∀ W', Below n₀ W W' → CallsIn Fence.wide (n - 1) Tryz.prog 163 #[.int .i64 (U j).1, .int .i64 (U j).2, .pointer (some ⟨sb, 0, none⟩)] W' fun e W'' => e = .returned (.int .i64 (eU j)) ∧ W'.grownBy W'' none)
 (cK : ∀ j, j < kl → ∀ W', Below n₀ W W' → CallsIn Fence.wide (n - 1) Tryz.prog 163 #[.int .i64 (K j).1, .int .i64 (K j).2, .pointer (some ⟨sb, 0, none⟩)] W' fun e W'' => e = .returned (.int .i64 (eK j)) ∧ W'.grownBy W'' none)
 (cL : ∀ j, j < ll → ∀ W', Below n₀ W W' → CallsIn Fence.wide (n - 1) Tryz.prog 166 #[.agg #[flo, fhi, ga, .slice ubase ul uc, .slice lbase ll lc, .slice cbase cl cc, .slice kbase kl kc], mv, .int .i64 j] W' fun e W'' => e = .returned (.int .i64 (eL j)) ∧ W'.grownBy W'' none)
 (cC : ∀ j, j < cl → ∀ W', Below n₀ W W' → CallsIn Fence.wide (n - 1) Tryz.prog 167 #[.agg #[flo, fhi, ga, .slice ubase ul uc, .slice lbase ll lc, .slice cbase cl cc, .slice kbase kl kc], mv, .int .i64 j] W' fun e W'' => e = .returned (.int .i64 (eC j)) ∧ W'.grownBy W'' none)
 (J Jx : List Int → World → Prop) (hJ : ∀ pre W W', J pre W → W.grownBy W' none → J pre W') (hJx : ∀ pre W W', Jx pre W → W.grownBy W' none → Jx pre W')
 (hY : ∀ pre x W, J pre W → pre.length < ul + (ll + (cl + kl)) → YieldAt Fence.wide (n - 1) Tryz.prog l #[.int .i64 x] W fun e W' =>
  (e = .returned (.bool true) ∧ J (pre ++ [x]) W' ∧ Below n₀ W W') ∨ (e = .returned (.bool false) ∧ Jx (pre ++ [x]) W'))
 (h0 : J [] W) (hn₀ : n₀ ≤ W.heap.size) :
  CallsIn Fence.wide n Tryz.prog 165 #[.func (.yield l) #[] #[], .pointer (some ⟨bb, 0, none⟩), .pointer (some ⟨tb, 0, none⟩), .pointer (some ⟨sb, 0, none⟩)] W fun e W' => (∃ v, e = .returned v) ∧
   ((∃ xs, xs = upE eU ul ++ (upE eL ll ++ (upE eC cl ++ upE eK kl)) ∧ J xs W') ∨ (∃ pre, (pre <+: upE eU ul ++ (upE eL ll ++ (upE eC cl ++ upE eK kl))) ∧ Jx pre W')) := by
 have grown_alloc : ∀ (X : World) (o : Obj), X.grownBy (X.alloc o) none := fun X o => World.grownBy_alloc X o none
 have bel : ∀ {X Y : World}, Below n₀ W X → X.grownBy Y none → Below n₀ W Y := fun {X Y} h g =>
  ⟨g.os.trans h.os, g.tape.trans h.tape, g.output.trans h.output, Nat.le_trans h.size g.size, fun k hk => (g.block k (Nat.lt_of_lt_of_le (Nat.lt_of_lt_of_le hk hn₀) h.size) (by simp)).trans (h.block k hk)⟩
 have hc : ∀ {X : World}, Below n₀ W X → X.heap[bb]? = some (.cells #[flo, fhi, ga, .slice ubase ul uc, .slice lbase ll lc, .slice cbase cl cc, .slice kbase kl kc] te (0, 0)) := fun h => (h.block bb hbb).trans hb0
 refine callsIn_of_wp Tryz.func165 rfl trivial ?_ rfl
 simp only [Tryz.ntmps165, List.size_toArray, List.length_cons, List.length_nil, Nat.reduceAdd, Nat.reduceSub, Array.replicate_succ, Array.replicate_zero, List.push_toArray, List.append_toArray, List.nil_append, List.cons_append]
 have hb3 : W.cell? ⟨bb, 3, none⟩ = some (.slice ubase ul uc) := by simp [World.cell?, hb0]
 gi_wp2
 gi_loopw [14] (fun i wr => ∃ k : Nat, k ≤ ul ∧ i = .int .i64 k ∧ J (upE eU k) wr ∧ Below n₀ W wr)
  (fun i _ => ul - (intOf i).toNat)
 case atStart => exact ⟨0, Nat.zero_le _, rfl, h0, Below.refl _ _⟩
 case round =>
  obtain ⟨k, hk, rfl, hJs, hnx⟩ := hrel
  by_cases hlt : k < ul
  ·obtain ⟨rfl, hlu⟩ := hub (by omega)
   have hu1 := (hnx.cell (p := ⟨ub, uo + k * 2, none⟩) hlu).trans (hU k hlt).1
   have hu2 := (hnx.cell (p := ⟨ub, uo + k * 2 + 1, none⟩) hlu).trans (hU k hlt).2
   have ht' := (hnx.cell (p := ⟨tb, 0, none⟩) htb).trans ht
   have hta : ∀ o, (wr.alloc o).cell? ⟨tb, 0, none⟩ = some (.func (.func 163) #[] #[.pointer (some ⟨sb, 0, none⟩)]) := fun o => Lib.cell?_alloc_some _ ht'
   gi_wp2
   refine ⟨trivial, (cU k hlt _ (bel hnx (grown_alloc _ _))).mono ?_⟩
   rintro e W2 ⟨rfl, hg2⟩
   obtain ⟨fn, tmps, assign, body, hy, hR⟩ := hY _ (eU k) W2 (hJ _ _ _ (hJ _ _ _ hJs (grown_alloc _ _)) hg2) (by rw [uS]; omega)
   have hb2 := bel (bel hnx (grown_alloc _ _)) hg2
   gi_wp2
   refine hR.mono ?_
   rintro e W3 (⟨rfl, hJ3, hk3⟩ | ⟨rfl, hJx3⟩)
   ·gi_wp2
    go_roundw
    case rel => exact ⟨k + 1, by omega, by simp, by rw [nx]; exact hJ3, hb2.trans hk3⟩
    case measure => simp [intOf]; omega
   ·gi_wp2
    refine bodyPost_ret (results_none rfl _ _ _) rfl ?_
    refine ⟨⟨_, rfl⟩, .inr ⟨_, ?_, hJx3⟩⟩
    rw [← nx]
    exact (EK eU (by omega)).trans (List.prefix_append _ _)
  ·obtain rfl : ul = k := by omega
   have hb4 : wr.cell? ⟨bb, 4, none⟩ = some (.slice lbase ll lc) := by simp [World.cell?, hc hnx]
   gi_wp2
   gi_loopw [31] (fun i wr => ∃ k : Nat, k ≤ ll ∧ i = .int .i64 k ∧ J (upE eU ul ++ upE eL k) wr ∧ Below n₀ W wr)
    (fun i _ => ll - (intOf i).toNat)
   case atStart => exact ⟨0, Nat.zero_le _, rfl, by simpa [upE] using hJs, hnx⟩
   case round =>
    clear hJs hnx
    obtain ⟨k, hk, rfl, hJs, hnx⟩ := hrel
    by_cases hlt : k < ll
    ·have q0 : wr.cell? ⟨bb, 0, none⟩ = some flo := by simp [World.cell?, hc hnx]
     have q1 : wr.cell? ⟨bb, 1, none⟩ = some fhi := by simp [World.cell?, hc hnx]
     have q2 : wr.cell? ⟨bb, 2, none⟩ = some ga := by simp [World.cell?, hc hnx]
     have q3 : wr.cell? ⟨bb, 3, none⟩ = some (.slice ubase ul uc) := by simp [World.cell?, hc hnx]
     have q4 : wr.cell? ⟨bb, 4, none⟩ = some (.slice lbase ll lc) := by simp [World.cell?, hc hnx]
     have q5 : wr.cell? ⟨bb, 5, none⟩ = some (.slice cbase cl cc) := by simp [World.cell?, hc hnx]
     have q6 : wr.cell? ⟨bb, 6, none⟩ = some (.slice kbase kl kc) := by simp [World.cell?, hc hnx]
     have hs' := (hnx.cell (p := ⟨sb, 0, none⟩) hsb).trans hs
     gi_wp2
     refine ⟨trivial, (cL k hlt _ hnx).mono ?_⟩
     rintro e W2 ⟨rfl, hg2⟩
     obtain ⟨fn, tmps, assign, body, hy, hR⟩ := hY _ (eL k) W2 (hJ _ _ _ hJs hg2) (by simp only [List.length_append, uS]; omega)
     have hb2 := bel hnx hg2
     gi_wp2
     refine hR.mono ?_
     rintro e W3 (⟨rfl, hJ3, hk3⟩ | ⟨rfl, hJx3⟩)
     ·gi_wp2
      go_roundw
      case rel => exact ⟨k + 1, by omega, by simp, by rw [nx, ← List.append_assoc]; exact hJ3, hb2.trans hk3⟩
      case measure => simp [intOf]; omega
     ·gi_wp2
      refine bodyPost_ret (results_none rfl _ _ _) rfl ?_
      refine ⟨⟨_, rfl⟩, .inr ⟨_, ?_, hJx3⟩⟩
      rw [List.append_assoc, ← nx]
      exact (List.prefix_append_right_inj _).2 ((EK eL (by omega)).trans (List.prefix_append _ _))
    ·obtain rfl : ll = k := by omega
     have hb5 : wr.cell? ⟨bb, 5, none⟩ = some (.slice cbase cl cc) := by simp [World.cell?, hc hnx]
     gi_wp2
     gi_loopw [45] (fun i wr => ∃ k : Nat, k ≤ cl ∧ i = .int .i64 k ∧ J (upE eU ul ++ upE eL ll ++ upE eC k) wr ∧ Below n₀ W wr)
      (fun i _ => cl - (intOf i).toNat)
     case atStart => exact ⟨0, Nat.zero_le _, rfl, by simpa [upE] using hJs, hnx⟩
     case round =>
      clear hJs hnx
      obtain ⟨k, hk, rfl, hJs, hnx⟩ := hrel
      by_cases hlt : k < cl
      ·have q0 : wr.cell? ⟨bb, 0, none⟩ = some flo := by simp [World.cell?, hc hnx]
       have q1 : wr.cell? ⟨bb, 1, none⟩ = some fhi := by simp [World.cell?, hc hnx]
       have q2 : wr.cell? ⟨bb, 2, none⟩ = some ga := by simp [World.cell?, hc hnx]
       have q3 : wr.cell? ⟨bb, 3, none⟩ = some (.slice ubase ul uc) := by simp [World.cell?, hc hnx]
       have q4 : wr.cell? ⟨bb, 4, none⟩ = some (.slice lbase ll lc) := by simp [World.cell?, hc hnx]
       have q5 : wr.cell? ⟨bb, 5, none⟩ = some (.slice cbase cl cc) := by simp [World.cell?, hc hnx]
       have q6 : wr.cell? ⟨bb, 6, none⟩ = some (.slice kbase kl kc) := by simp [World.cell?, hc hnx]
       have hs' := (hnx.cell (p := ⟨sb, 0, none⟩) hsb).trans hs
       gi_wp2
       refine ⟨trivial, (cC k hlt _ hnx).mono ?_⟩
       rintro e W2 ⟨rfl, hg2⟩
       obtain ⟨fn, tmps, assign, body, hy, hR⟩ := hY _ (eC k) W2 (hJ _ _ _ hJs hg2) (by simp only [List.length_append, uS]; omega)
       have hb2 := bel hnx hg2
       gi_wp2
       refine hR.mono ?_
       rintro e W3 (⟨rfl, hJ3, hk3⟩ | ⟨rfl, hJx3⟩)
       ·gi_wp2
        go_roundw
        case rel => exact ⟨k + 1, by omega, by simp, by rw [nx, ← List.append_assoc]; exact hJ3, hb2.trans hk3⟩
        case measure => simp [intOf]; omega
       ·gi_wp2
        refine bodyPost_ret (results_none rfl _ _ _) rfl ?_
        refine ⟨⟨_, rfl⟩, .inr ⟨_, ?_, hJx3⟩⟩
        rw [List.append_assoc, ← nx]
        exact by rw [List.append_assoc]; exact (List.prefix_append_right_inj _).2 ((List.prefix_append_right_inj _).2 ((EK eC (by omega)).trans (List.prefix_append _ _)))
      ·obtain rfl : cl = k := by omega
       have hb6 : wr.cell? ⟨bb, 6, none⟩ = some (.slice kbase kl kc) := by simp [World.cell?, hc hnx]
       gi_wp2
       gi_loopw [59] (fun i wr => ∃ k : Nat, k ≤ kl ∧ i = .int .i64 k ∧ J ((upE eU ul ++ upE eL ll ++ upE eC cl) ++ upE eK k) wr ∧ Below n₀ W wr)
        (fun i _ => kl - (intOf i).toNat)
       case atStart => exact ⟨0, Nat.zero_le _, rfl, by simpa [upE] using hJs, hnx⟩
       case round =>
        clear hJs hnx
        obtain ⟨k, hk, rfl, hJs, hnx⟩ := hrel
        by_cases hlt : k < kl
        ·obtain ⟨rfl, hlk⟩ := hkb (by omega)
         have hu1 := (hnx.cell (p := ⟨kb, ko + k * 2, none⟩) hlk).trans (hK k hlt).1
         have hu2 := (hnx.cell (p := ⟨kb, ko + k * 2 + 1, none⟩) hlk).trans (hK k hlt).2
         have ht' := (hnx.cell (p := ⟨tb, 0, none⟩) htb).trans ht
         have hta : ∀ o, (wr.alloc o).cell? ⟨tb, 0, none⟩ = some (.func (.func 163) #[] #[.pointer (some ⟨sb, 0, none⟩)]) := fun o => Lib.cell?_alloc_some _ ht'
         gi_wp2
         refine ⟨trivial, (cK k hlt _ (bel hnx (grown_alloc _ _))).mono ?_⟩
         rintro e W2 ⟨rfl, hg2⟩
         obtain ⟨fn, tmps, assign, body, hy, hR⟩ := hY _ (eK k) W2 (hJ _ _ _ (hJ _ _ _ hJs (grown_alloc _ _)) hg2) (by simp only [List.length_append, uS]; omega)
         have hb2 := bel (bel hnx (grown_alloc _ _)) hg2
         gi_wp2
         refine hR.mono ?_
         rintro e W3 (⟨rfl, hJ3, hk3⟩ | ⟨rfl, hJx3⟩)
         ·gi_wp2
          go_roundw
          case rel => exact ⟨k + 1, by omega, by simp, by rw [nx, ← List.append_assoc]; exact hJ3, hb2.trans hk3⟩
          case measure => simp [intOf]; omega
         ·gi_wp2
          refine bodyPost_ret (results_none rfl _ _ _) rfl ?_
          refine ⟨⟨_, rfl⟩, .inr ⟨_, ?_, hJx3⟩⟩
          rw [List.append_assoc, ← nx, List.append_assoc, List.append_assoc]
          exact (List.prefix_append_right_inj _).2 ((List.prefix_append_right_inj _).2 ((List.prefix_append_right_inj _).2 (EK eK (by omega))))
        ·obtain rfl : kl = k := by omega
         gi_wp2
         go_end0
         exact ⟨⟨_, rfl⟩, .inl ⟨_, rfl, by simpa [List.append_assoc] using hJs⟩⟩
end Go.Proofs
end
noncomputable section
set_option maxRecDepth 100000
namespace Go.Proofs.ZzM
open Go Go.Am Go.RowKit
def Tp (p : String) : Code := .region 10 #[{ dst := some 5, op := .assign (.tmp 49), type := 34, pos := p, after := #[], guard := none }] false
def ZV (q r : String) : Code := .block 1 (.seq (.region 11 #[{ dst := some 50, op := .move (.tmp 5), type := 34, pos := q, after := #[], guard := none }, { dst := some 51, op := .binOp .neq 34 (.tmp 50) (.const (.int .i64 0)) 34, type := 4, pos := q, after := #[{ on := 0, ground := .data }], guard := none }] false)
 (.cond (.tmp 51) (.seq (.region 12 #[{ dst := some 52, op := .move (.tmp 5), type := 34, pos := r, after := #[], guard := none }, { dst := none, op := .store 34 (.tmp 2) (.tmp 52), type := 0, pos := r, after := #[{ on := 0, ground := .data }, { on := 0, ground := .phase }], guard := none }] false) .ret) .skip))
section
variable {P : Program} {F : Fence} {n : Nat}
theorem yA {ops : Array Oper} {i d : Nat} {o : Oper} {u : Value} {w w' : World} {a : Act} {next : Act → World → Prop} {Q : Exit → Act → World → Prop} (hF : ∀ f, F.fn f) (ho : ops[i]? = some o) (hg : o.guard = none) (hd : o.dst = some d) (hdf : ∀ c, o.op ≠ .defer c)
 (hrun : (execOp a.eval o).run P w = .ok (.value u) w') (k : next (a.put (some d) u) w') : wpOpIn F n P ops Q i next a w := by
 unfold wpOpIn
 rw [ho]
 have hw : Region.wanted o (yielded ops a.tmps) = true := by simp [Region.wanted, hg]
 simp only [hw, if_true]
 refine ⟨fun _ _ => hF _, ?_⟩
 rw [Oper.semAt_eq _ _ _ hdf, hrun]
 rw [← hd] at k
 exact k
theorem UH {ops : Array Oper} {i : Nat} {o : Oper} {w w' : World} {a : Act} {next : Act → World → Prop} {Q : Exit → Act → World → Prop} (hF : ∀ f, F.fn f) (ho : ops[i]? = some o) (hg : o.guard = none) (hd : o.dst = none) (hdf : ∀ c, o.op ≠ .defer c)
 (hrun : (execOp a.eval o).run P w = .ok .skip w') (k : next a w') : wpOpIn F n P ops Q i next a w := by
 unfold wpOpIn
 rw [ho]
 have hw : Region.wanted o (yielded ops a.tmps) = true := by simp [Region.wanted, hg]
 simp only [hw, if_true]
 refine ⟨fun _ _ => hF _, ?_⟩
 rw [Oper.semAt_eq _ _ _ hdf, hrun]
 show next (a.put o.dst undef) w'
 rw [hd]
 exact k
end
theorem ir (T : Array Value) (i j : Nat) (v : Value) : (T.setIfInBounds i v).getD j undef = if i = j ∧ i < T.size then v else T.getD j undef := by
 simp only [Array.getD_eq_getD_getElem?, Array.getElem?_setIfInBounds]
 by_cases h : i = j
 ·subst h
  by_cases h2 : i < T.size
  ·simp [h2]
  ·simp [h2]
 ·simp [h]
def TF (D : Nat) : Deferred := { target := .collected D, args := #[] }
structure Put1 (n₀ rb : Nat) (x : Int) (w W : World) : Prop where
 os : W.os = w.os
 tape : W.tape = w.tape
 output : W.output = w.output
 size : w.heap.size ≤ W.heap.size
 block : ∀ k, k < n₀ → k ≠ rb → W.heap[k]? = w.heap[k]?
 cell : ∃ e, W.heap[rb]? = some (.cells #[.int .i64 x] e (0, 0))
set_option maxHeartbeats 4000000 in
theorem aao {a : Act} {w : World} {Q : Exit → Act → World → Prop} {lb : Array Value} {L : List Int} {rb : Nat} {e0 : TypeId} {v0 : Value} {p q r : String}
 (hseq : SeqStopsK Fence.wide 1 Tryz.prog 165 lb (fun x : Int => #[.int .i64 x]) (Below w.heap.size) (fun xs => xs = L) (fun pre => pre <+: L) L.length w)
 (hg : a.tmps.getD 48 undef = .func (.func 165) #[] lb) (h2 : a.tmps.getD 2 undef = .pointer (some ⟨rb, 0, none⟩)) (hsz : 78 ≤ a.tmps.size)
 (hrb : w.heap[rb]? = some (.cells #[v0] e0 (0, 0)))
 (hdone : ∀ D W, (∀ x ∈ L, x = 0) → Below w.heap.size w W → w.heap.size ≤ D → W.heap[D]? = some (.deferred (some [])) → Q .normal { a with defers := TF D :: a.defers } W)
 (hstop : ∀ D W x, L.find? (fun e => e != 0) = some x → Put1 w.heap.size rb x w W → w.heap.size ≤ D → W.heap[D]? = some (.deferred (some [])) → Q .ret { a with defers := TF D :: a.defers } W) :
 (Code.rangeFunc (.tmp 48) #[49] (Tp p) (ZV q r)).wpIn Fence.wide 2 Tryz.prog Q a w := by
 have hT : ∀ f, Fence.wide.fn f := fun _ => trivial
 have hrl := dv hrb
 refine wpIn_rangeFunc_ownF (α := Int) (encs := fun x => #[.int .i64 x]) (Kp := Below w.heap.size) (S := fun xs => xs = L) (Sp := fun pre => pre <+: L) (N := L.length) (w0 := w) rfl (by omega) hg trivial (fun args w => ?eg) hseq
  (fun h k => h.trans k) (fun W l o o' hl ho hc hw => belowK_b (Nat.le_refl _) W l o o' hl ho hc hw) (Below.refl _ _) (fun _ => rfl)
  (fun pre W => (∀ x ∈ pre, x = 0) ∧ Below w.heap.size w W)
  (fun c pre W => c = .ret ∧ ∃ pre' x, pre = pre' ++ [x] ∧ (∀ x ∈ pre', x = 0) ∧ x ≠ 0 ∧ Put1 w.heap.size rb x w W)
  ?hI ?hIx ⟨by simp, Below.refl _ _⟩ (fun x => { tmps := (a.tmps.setIfInBounds 49 (.int .i64 x)).setIfInBounds 5 (.int .i64 x), defers := [] }) ?hassign ?hbody ?hdone ?hstop
 case eg => simp [callFunc, Sem.run_bind, run_program, Result.andThen_ok, Tryz.func165, plain 165 _ Tryz.func165, show Tryz.f165.body.isNone = false from rfl]; rfl
 case hI =>
  intro s W W' row ⟨h1, h2⟩ hgr hr
  exact ⟨h1, hgr.os.trans h2.os, hgr.tape.trans h2.tape, hgr.output.trans h2.output, Nat.le_trans h2.size hgr.size, fun k hk => (hgr.block k (Nat.lt_of_lt_of_le hk h2.size) (fun e => by have := (hr k e.symm).1; omega)).trans (h2.block k hk)⟩
 case hIx =>
  intro c s W W' row ⟨h1, pre', x, h3, h4, h5, h6⟩ hgr hr
  have hb : ∀ k, k < w.heap.size → W'.heap[k]? = W.heap[k]? := fun k hk => hgr.block k (Nat.lt_of_lt_of_le hk h6.size) (fun e => by have := (hr k e.symm).1; omega)
  exact ⟨h1, pre', x, h3, h4, h5, hgr.os.trans h6.os, hgr.tape.trans h6.tape, hgr.output.trans h6.output, Nat.le_trans h6.size hgr.size, fun k hk hne => (hb k hk).trans (h6.block k hk hne), by
   obtain ⟨e, he⟩ := h6.cell
   exact ⟨e, (hb rb hrl).trans he⟩⟩
 case hassign =>
  intro l x W K hK
  have hf : ((#[49] : Array Tmp).zip #[Value.int .i64 x]).foldl (fun t (p, v) => t.setIfInBounds p v) a.tmps = a.tmps.setIfInBounds 49 (.int .i64 x) := by simp
  rw [hf]
  refine wpIn_region ?_
  rw [show ∀ o : Oper, List.range (#[o] : Array Oper).size = [0] from fun _ => rfl, wpOpsIn_cons]
  refine yA (d := 5) (u := .int .i64 x) (w' := W) hT rfl rfl rfl (by simp) ?_ hK
  show Result.ok (Next.value ((a.tmps.setIfInBounds 49 (.int .i64 x)).getD 49 undef)) W = _
  rw [ir, if_pos ⟨rfl, by omega⟩]
 case hbody =>
  intro l pre x W ⟨h1, hbel⟩ hpre
  refine wpIn_block (wpIn_seq (wpIn_region ?_))
  rw [show ∀ o p : Oper, List.range (#[o, p] : Array Oper).size = [0, 1] from fun _ _ => rfl, wpOpsIn_cons]
  refine yA (d := 50) (u := .int .i64 x) (w' := W) hT rfl rfl rfl (by simp) (by
   show Result.ok (Next.value (((a.tmps.setIfInBounds 49 (.int .i64 x)).setIfInBounds 5 (.int .i64 x)).getD 5 undef)) W = _
   rw [ir, if_pos ⟨rfl, by simp; omega⟩]) ?_
  rw [wpOpsIn_cons]
  refine yA (d := 51) (u := .bool (x != 0)) (w' := W) hT rfl rfl rfl (by simp) (by
   show ((do let u ← (do eqGuard .neq 34 (.tmp 50) (.const (.int .i64 0)) ((((a.tmps.setIfInBounds 49 (.int .i64 x)).setIfInBounds 5 (.int .i64 x)).setIfInBounds 50 (.int .i64 x)).getD 50 undef) (.int .i64 0); binOp .neq 34 ((((a.tmps.setIfInBounds 49 (.int .i64 x)).setIfInBounds 5 (.int .i64 x)).setIfInBounds 50 (.int .i64 x)).getD 50 undef) (.int .i64 0)); pure (.value u)) : Sem Next).run Tryz.prog W = _
   rw [ir, if_pos ⟨rfl, by simp; omega⟩]
   simp [eqGuard, binOp, Op.intCmp]) ?_
  show Code.wpIn (Fence.wide.inRound l) (2 - 1 - 1) Tryz.prog (Code.cond (.tmp 51) _ .skip) _ { tmps := ((((a.tmps.setIfInBounds 49 (.int .i64 x)).setIfInBounds 5 (.int .i64 x)).setIfInBounds 50 (.int .i64 x)).setIfInBounds 51 (.bool (x != 0))), defers := [] } W
  obtain ⟨T, hTd⟩ : ∃ T, T = ((((a.tmps.setIfInBounds 49 (.int .i64 x)).setIfInBounds 5 (.int .i64 x)).setIfInBounds 50 (.int .i64 x)).setIfInBounds 51 (.bool (x != 0))) := ⟨_, rfl⟩
  rw [← hTd]
  have t51 : T.getD 51 undef = .bool (x != 0) := by rw [hTd, ir, if_pos ⟨rfl, by simp; omega⟩]
  have t5 : T.getD 5 undef = .int .i64 x := by rw [hTd, ir, if_neg (by simp), ir, if_neg (by simp), ir, if_pos ⟨rfl, by simp; omega⟩]
  have t2 : T.getD 2 undef = .pointer (some ⟨rb, 0, none⟩) := by rw [hTd, ir, if_neg (by simp), ir, if_neg (by simp), ir, if_neg (by simp), ir, if_neg (by simp), h2]
  have tsz : 78 ≤ T.size := by rw [hTd]; simpa using hsz
  clear hTd
  by_cases hx : x = 0
  ·have e51 : Act.eval { tmps := T, defers := [] } (.tmp 51) = .bool false := t51.trans (by simp [hx])
   refine wpIn_cond_false e51 (wpIn_skip ?_)
   simp only [Exit.inBlock, ownPostK]
   exact ⟨KeepsOthers.refl _, Below.refl _ _, fun y hy => (List.mem_append.1 hy).elim (h1 y) (fun h => by rw [List.mem_singleton] at h; rw [h, hx]), hbel⟩
  ·have e51 : Act.eval { tmps := T, defers := [] } (.tmp 51) = .bool true := t51.trans (by simp [hx])
   refine wpIn_cond_true e51 (wpIn_seq (wpIn_region ?_))
   rw [show ∀ o p : Oper, List.range (#[o, p] : Array Oper).size = [0, 1] from fun _ _ => rfl, wpOpsIn_cons]
   have e5 : (execOp (Act.eval { tmps := T, defers := [] }) { dst := some 52, op := .move (.tmp 5), type := 34, pos := r, after := #[], guard := none }).run Tryz.prog W = .ok (.value (.int .i64 x)) W := by
    show Result.ok (Next.value (T.getD 5 undef)) W = _
    rw [t5]
   refine yA (d := 52) (u := .int .i64 x) (w' := W) hT rfl rfl rfl (by simp) e5 ?_
   rw [wpOpsIn_cons]
   have hW : W.heap[rb]? = some (.cells #[v0] e0 (0, 0)) := (hbel.block rb hrl).trans hrb
   letI : bT := ⟨fun _ => False, [], none⟩
   have hst := sM (P := Tryz.prog) (w := W) (t := 34) (u := .int .i64 x) (n := 1) (b := rb) (o := 0) (by kernel_rfl) rfl hW (by simp) (by simp [Value.cells, Value.oneCell'])
   have hst' : (storeVar 34 ⟨rb, 0, none⟩ (.int .i64 x)).run Tryz.prog W = .ok () (W.setRow rb #[.int .i64 x]) := by simpa [Value.cells] using hst
   have t52 : (T.setIfInBounds 52 (.int .i64 x)).getD 52 undef = .int .i64 x := by rw [ir, if_pos ⟨rfl, by omega⟩]
   have t2' : (T.setIfInBounds 52 (.int .i64 x)).getD 2 undef = .pointer (some ⟨rb, 0, none⟩) := by rw [ir, if_neg (by simp), t2]
   have e6 : (execOp (Act.eval { tmps := T.setIfInBounds 52 (.int .i64 x), defers := [] }) { dst := none, op := .store 34 (.tmp 2) (.tmp 52), type := 0, pos := r, after := #[{ on := 0, ground := .data }, { on := 0, ground := .phase }], guard := none }).run Tryz.prog W = .ok .skip (W.setRow rb #[.int .i64 x]) := by
    show ((do Instr.storeAt 34 ((T.setIfInBounds 52 (.int .i64 x)).getD 2 undef) ((T.setIfInBounds 52 (.int .i64 x)).getD 52 undef); pure .skip) : Sem Next).run Tryz.prog W = _
    rw [t52, t2']
    simp [Instr.storeAt, Instr.sureAddr, hst']
   refine UH (w' := W.setRow rb #[.int .i64 x]) hT rfl rfl rfl (by simp) e6 ?_
   refine wpIn_ret ?_
   simp only [Exit.inBlock, ownPostK]
   refine ⟨⟨by simp, fun k o hk ho => ?_⟩, trivial, pre, x, rfl, h1, hx, hbel.os, hbel.tape, hbel.output, by simpa using hbel.size, fun k hk hne => (setRow_other _ _ _ _ hne).trans (hbel.block k hk), ⟨_, setRow_heap _ _ _ _ _ _ hW⟩⟩
   by_cases hk2 : k = rb
   ·subst hk2; rw [hW] at hk; cases hk; simp [Obj.isCells] at ho
   ·rw [setRow_other _ _ _ _ hk2]; exact hk
 case hdone =>
  intro D xs W hD hS ⟨h1, hbel⟩ hDo
  subst hS
  exact hdone D W h1 hbel hD hDo
 case hstop =>
  intro D c pre W hD hS ⟨hc, pre', x, h3, h4, h5, h6⟩ hDo
  subst hc
  refine wpIn_ret (hstop D W x ?_ h6 hD hDo)
  obtain ⟨t, rfl⟩ := hS
  rw [h3, List.append_assoc, List.find?_append]
  have : List.find? (fun e => e != 0) pre' = none := List.find?_eq_none.2 fun y hy => by simp [h4 y hy]
  rw [this]
  simp [h5]
end Go.Proofs.ZzM
end
noncomputable section
set_option maxRecDepth 100000
namespace Go.Proofs.ZzM
open Go Go.Am Go.RowKit
def fstC : Code → Code
 | .seq a _ => a
 | c => c
def sndC : Code → Code
 | .seq _ b => b
 | c => c
def Wq : Nat → Code → Code
 | 0, c => fstC c
 | n + 1, c => Wq n (sndC c)
def Zj : Nat → Code → Code
 | 0, c => c
 | n + 1, c => Zj n (sndC c)
def ckB : Code := Tryz.f38.body.getD .skip
def ckA5 : Code := fstC (Zj 5 ckB |> fstC)
def ckRF : Code := sndC (Zj 5 ckB |> fstC)
def Le : Code := sndC (Zj 5 ckB)
def ckPre : Code := .seq (Wq 0 ckB) (.seq (Wq 1 ckB) (.seq (Wq 2 ckB) (.seq (Wq 3 ckB) (.seq (Wq 4 ckB) ckA5))))
theorem aab : Tryz.f38.body = some (.seq (Wq 0 ckB) (.seq (Wq 1 ckB) (.seq (Wq 2 ckB) (.seq (Wq 3 ckB) (.seq (Wq 4 ckB) (.seq (.seq ckA5 ckRF) Le)))))) := by kernel_rfl
def ck_pt : List (Nat × bD) := [(85, yz), (53, mI), (82, pk), (83, sW)]
def ckE (ρ : Type) : Env ρ := bJ ck_pt []
abbrev ckR : Type := Int ⊕ (List AV × List Blk)
def XE (S : St) : Option Int := match mG Tryz.prog Tryz.f38 S with
 | some v => dz [tI] S.h v
 | none => none
def ckK (e : Exit) (S : St) : Option ckR := match e with
 | .ret => match XE S with
   | some n => some (.inl n)
   | none => none
 | .normal => match decide (78 ≤ S.t.length) with
   | true => some (.inr ([lk S.t 1, lk S.t 2, lk S.t 48], S.h))
   | false => none
 | _ => none
def ckH (x : Val ba) (s : Val (.map tI bj)) (n : Int) : List Blk :=
 [.cells (flat ba x), .cells [.int .i64 n], .cells (flat ba x), .cells [.mp tI bj s], .cells [.fn (.func 163) [] [.box 3 0]]]
def ckM (x : Val ba) : Option ckR :=
 aZ (fu x.1 (0 : Int) (1000000 : Int)) fun r1 => ifb (!r1) (some (.inl 1)) (ifb (igt (bE x.2.1) (12 : Int)) (some (.inl 2)) (ifb (igt (bE x.2.2.1) (40 : Int)) (some (.inl 2)) (ifb (igt (bE x.2.2.2.1) (12 : Int)) (some (.inl 2)) (ifb (igt (bE x.2.2.2.2.1) (40 : Int)) (some (.inl 2)) (ifb (igt (bE x.2.2.2.2.2) (10 : Int)) (some (.inl 2))
  (aZ (eZ x) fun r2 => ifb (ine r2 (0 : Int)) (some (.inl r2)) (aZ (df x) fun r3 => some (.inr ([.box 0 0, .box 1 0, .fn (.func 165) [] [.box 2 0, .box 4 0, .box 3 0]], ckH x r3 0)))))))))
theorem ck_pre (x : Val ba) : goC (ckE ckR) (iL (ckE ckR) 10) 38 [] 0 0 ckPre { t := dj [ba] x ++ List.replicate 77 .any, h := [] } ckK = ckM x := by kernel_rfl
def Zu (ρ : Type) : Env ρ := { ckE ρ with inl := fun _ => false }
def ckS (x : Val ba) : Option Int :=
 aZ (nm x) fun r5 => ifb (igt (bE r5) (59 : Int)) (some (2 : Int)) (ck ((2 : Int) * (bE x.2.1)) fun n6 => ck ((bE r5) - (bE x.2.1)) fun n7 => ck ((2 : Int) * n7) fun n8 => ck (n6 + n8) fun n9 => ck ((2 : Int) * (bE x.2.2.2.2.1)) fun n10 => ck (n9 + n10) fun n11 => ifb (igt n11 (300 : Int)) (some (2 : Int)) (some (0 : Int)))
def ckK2 (e : Exit) (S : St) : Option Int := match e with
 | .ret => match lk S.t 2 with
   | .box 1 0 => match lkB S.h 1 with
     | .cells [.int .i64 n] => some n
     | _ => none
   | _ => none
 | _ => none
theorem ck_suf (x : Val ba) (s : Val (.map tI bj)) : goC (Zu Int) (iL (Zu Int) 10) 38 [] 0 0 Le { t := [.any, .box 0 0, .box 1 0] ++ List.replicate 75 .any, h := ckH x s 0 } ckK2 = ckS x := by kernel_rfl
theorem Zt (x : Val ba) : bZ x = match ckM x with
 | none => none
 | some (.inl n) => some n
 | some (.inr _) => aZ (df x) fun s => OH (ln x s) some (ckS x) := by
 unfold bZ Hp ckM ckS
 cases fu x.1 (0 : Int) (1000000 : Int) with
 | none => rfl
 | some r1 =>
 cases r1 with
 | false => rfl
 | true =>
 simp only [aZ, ifb, Bool.not_true]
 cases igt (bE x.2.1) (12 : Int) with
 | true => rfl
 | false =>
 cases igt (bE x.2.2.1) (40 : Int) with
 | true => rfl
 | false =>
 cases igt (bE x.2.2.2.1) (12 : Int) with
 | true => rfl
 | false =>
 cases igt (bE x.2.2.2.2.1) (40 : Int) with
 | true => rfl
 | false =>
 cases igt (bE x.2.2.2.2.2) (10 : Int) with
 | true => rfl
 | false =>
 cases eZ x with
 | none => rfl
 | some r2 =>
 simp only
 cases ine r2 (0 : Int) with
 | true => rfl
 | false =>
 cases df x with
 | none => rfl
 | some r3 => rfl
theorem aaW {x : Val ba} {q : List AV × List Blk} (h : ckM x = some (.inr q)) : ((x.2.2.1 : List (Val aY)).length ≤ 1000 ∧ (x.2.2.2.1 : List (Val dr)).length ≤ 1000 ∧ (x.2.2.2.2.1 : List (Val bm)).length ≤ 1000 ∧ (x.2.2.2.2.2 : List (Val aY)).length ≤ 1000) ∧
 ∃ s, df x = some s ∧ q = ([.box 0 0, .box 1 0, .fn (.func 165) [] [.box 2 0, .box 4 0, .box 3 0]], ckH x s 0) := by
 unfold ckM at h
 cases h0 : fu x.1 (0 : Int) (1000000 : Int) with
 | none => rw [h0] at h; cases h
 | some r1 =>
 rw [h0] at h
 cases r1 with
 | false => cases h
 | true =>
 simp only [aZ, ifb, Bool.not_true] at h
 cases h1 : igt (bE x.2.1) (12 : Int) with
 | true => rw [h1] at h; cases h
 | false =>
 rw [h1] at h
 cases h2 : igt (bE x.2.2.1) (40 : Int) with
 | true => rw [h2] at h; cases h
 | false =>
 rw [h2] at h
 cases h3 : igt (bE x.2.2.2.1) (12 : Int) with
 | true => rw [h3] at h; cases h
 | false =>
 rw [h3] at h
 cases h4 : igt (bE x.2.2.2.2.1) (40 : Int) with
 | true => rw [h4] at h; cases h
 | false =>
 rw [h4] at h
 cases h5 : igt (bE x.2.2.2.2.2) (10 : Int) with
 | true => rw [h5] at h; cases h
 | false =>
 rw [h5] at h
 cases h6 : eZ x with
 | none => rw [h6] at h; cases h
 | some r2 =>
 rw [h6] at h
 simp only at h
 cases h7 : ine r2 (0 : Int) with
 | true => rw [h7] at h; cases h
 | false =>
 rw [h7] at h
 cases h8 : df x with
 | none => rw [h8] at h; cases h
 | some r3 =>
 rw [h8] at h
 have lt : ∀ {α : Type} (l : List α) (n : Nat), igt (bE l) (n : Int) = false → l.length ≤ n := by
  intro α l n h
  unfold bE at h
  rw [FT] at h
  simp only [igt, gt_iff_lt, decide_eq_false_iff_not] at h
  omega
 simp only [Option.some.injEq, Sum.inr.injEq] at h
 exact ⟨⟨by have := lt x.2.2.1 40 h2; omega, by have := lt x.2.2.2.1 12 h3; omega, by have := lt x.2.2.2.2.1 40 h4; omega, by have := lt x.2.2.2.2.2 10 h5; omega⟩, r3, rfl, h.symm⟩
theorem yH {α β : Type} {f : α → Option β} : ∀ {l : List α} {m : List β}, FX f l = some m → m.length = l.length ∧ ∀ (i : Nat) (a : α), l[i]? = some a → ∃ b, m[i]? = some b ∧ f a = some b
 | [], m, h => by cases h; exact ⟨rfl, fun i a ha => by simp at ha⟩
 | a :: l, m, h => by
   unfold FX at h
   cases ha : f a with
   | none => rw [ha] at h; cases h
   | some b =>
     rw [ha] at h
     cases hl : FX f l with
     | none => rw [hl] at h; cases h
     | some m' =>
       rw [hl] at h
       cases h
       obtain ⟨h1, h2⟩ := yH hl
       refine ⟨by simp [h1], fun i c hc => ?_⟩
       cases i with
       | zero => simp at hc; subst hc; exact ⟨b, by simp, ha⟩
       | succ i => simpa using h2 i c (by simpa using hc)
theorem EL (l : List Int) : upE (fun j => l[j]?.getD 0) l.length = l := by
 unfold upE
 refine List.ext_getElem (by simp) fun i h1 h2 => ?_
 simp at h1
 simp [h1]
theorem CR.below {n₀ : Nat} {w W : World} {av : Nat → Prop} (hb : Below n₀ w W) (hn : w.heap.size ≤ n₀) {t : Ty} {x : Val t} {vs : List Value} (h : CR w av t x vs) : CR W av t x vs :=
 h.keep fun b hlt ha => ⟨hb.block b (Nat.lt_of_lt_of_le hlt hn), ha⟩
theorem Ft {w : World} {av : Nat → Prop} {xs : List (Int × Int)} {v : Value} (h : CR w av (.slice aY) xs [v]) : ∃ base cap b off, v = .slice base xs.length cap ∧ (0 < xs.length → base = some ⟨b, off, none⟩ ∧ b < w.heap.size) ∧
 ∀ j, j < xs.length → w.cell? ⟨b, off + j * 2, none⟩ = some (.int .i64 (xs[j]?.getD (0, 0)).1) ∧ w.cell? ⟨b, off + j * 2 + 1, none⟩ = some (.int .i64 (xs[j]?.getD (0, 0)).2) := by
 obtain ⟨base, cap, e, hc, hx⟩ := h
 cases e
 rcases hx with hx | ⟨b, off, hb, hav, hlt, hx⟩
 ·refine ⟨base, cap, 0, 0, rfl, fun h => ?_, fun j hj => ?_⟩
  ·rw [show xs = [] from hx] at h; simp at h
  ·rw [show xs = [] from hx] at hj; simp at hj
 ·refine ⟨base, cap, b, off, rfl, fun _ => ⟨hb, hlt⟩, fun j hj => ?_⟩
  obtain ⟨us, h1, h2⟩ := hx j xs[j] (List.getElem?_eq_getElem hj)
  obtain ⟨u1, u2, e1, h3, h4⟩ := h1
  have e3 : u1 = [.int .i64 xs[j].1] := h3
  have e4 : u2 = [.int .i64 xs[j].2] := h4
  subst e3 e4 e1
  have s : (aY).size = 2 := rfl
  rw [s] at h2
  have c1 := h2 0 _ rfl
  have c2 := h2 1 _ rfl
  rw [List.getElem?_eq_getElem hj]
  exact ⟨by simpa using c1, by simpa [Nat.add_assoc] using c2⟩
end Go.Proofs.ZzM
end
noncomputable section
set_option maxRecDepth 100000
namespace Go.Proofs.ZzM
open Go Go.Am Go.RowKit
section
variable {w W W' : World}
abbrev noG : Nat → Prop := fun _ => False
theorem NC (w : World) (n : Int) : jh w noG tI n (.int .i64 n) := ⟨[.int .i64 n], rfl, rfl⟩
theorem aaF {sb : Nat} {mv : Value} {e : TypeId} {s : Val (.map tI bj)} (h : w.heap[sb]? = some (.cells #[mv] e (0, 0))) (hm : CR w noG (.map tI bj) s [mv]) : jh w noG (.ptr (.map tI bj)) s (.pointer (some ⟨sb, 0, none⟩)) := by
 letI : bT := ⟨fun _ => False, [], none⟩
 exact ⟨[.pointer (some ⟨sb, 0, none⟩)], ⟨sb, 0, [mv], rfl, id, dv h, hm, dH.of_cells h⟩, rfl⟩
theorem aap {y : Int} {u : Value} (h : RR w noG [tI] y u) : u = .int .i64 y := by
 obtain ⟨us, h1, rfl⟩ := h
 have : us = [.int .i64 y] := h1
 rw [this]; rfl
theorem Y9 (h1 : ∀ b, b < W.heap.size → W'.heap[b]? = W.heap[b]?) (h2 : W.heap.size ≤ W'.heap.size) (h3 : W'.os = W.os) (h4 : W'.tape = W.tape) (h5 : W'.output = W.output) : W.grownBy W' none :=
 ⟨h3, h4, h5, h2, fun b hb _ => h1 b hb⟩
theorem NQ {f : Nat} {p : bD} (hp : bq Tryz.prog f p) (hrs : p.rs = [tI]) {x : Val (tyL p.ts)} {y : Int} (hF : p.F x = some (hrs ▸ (show Val (tyL [tI]) from y))) {vals : List Value} (ha : AL W noG p.ts x vals) :
 CallsIn Fence.wide 0 Tryz.prog f vals.toArray W fun e W'' => e = .returned (.int .i64 y) ∧ W.grownBy W'' none := by
 obtain ⟨ts, rs, F⟩ := p
 dsimp only at hrs hF ha x
 subst hrs
 refine (hp noG x y hF W vals (fun _ h => h.elim) ha).2.mono fun e w' ⟨u, h0, h1, h2, h3, h4, h5, h6⟩ => ⟨?_, Y9 h2 h3 h4 h5 h6⟩
 rw [h0, aap h1]
theorem Ob {s : Val (.map tI bj)} {a b y : Int} (hF : dw a b s = some y) {sb : Nat} {mv : Value} {e : TypeId} (h : W.heap[sb]? = some (.cells #[mv] e (0, 0))) (hm : CR W noG (.map tI bj) s [mv]) :
 CallsIn Fence.wide 0 Tryz.prog 163 #[.int .i64 a, .int .i64 b, .pointer (some ⟨sb, 0, none⟩)] W fun e W'' => e = .returned (.int .i64 y) ∧ W.grownBy W'' none :=
 NQ SN rfl (x := (a, b, s)) (y := y) hF (vals := [.int .i64 a, .int .i64 b, .pointer (some ⟨sb, 0, none⟩)]) ⟨_, _, rfl, NC _ _, _, _, rfl, NC _ _, _, rfl, aaF h hm⟩
theorem WD {mv : Value} {s : Val (.map tI bj)} (hm : CR W noG (.map tI bj) s [mv]) : jh W noG (.map tI bj) s mv := ⟨[mv], hm, rfl⟩
theorem Uf {x : Val ba} {cs : Array Value} (hb : CR W noG ba x cs.toList) : jh W noG ba x (.agg cs) := ⟨cs.toList, hb, by show Value.agg cs = Value.agg cs.toList.toArray; rw [Array.toArray_toList]⟩
theorem WQ {x : Val ba} {s : Val (.map tI bj)} {i y : Int} (hF : fB x s i = some y) {mv : Value} {cs : Array Value} (hb : CR W noG ba x cs.toList) (hm : CR W noG (.map tI bj) s [mv]) :
 CallsIn Fence.wide 0 Tryz.prog 166 #[.agg cs, mv, .int .i64 i] W fun e W'' => e = .returned (.int .i64 y) ∧ W.grownBy W'' none :=
 NQ NV rfl (x := (x, s, i)) (y := y) hF (vals := [.agg cs, mv, .int .i64 i]) ⟨_, _, rfl, Uf hb, _, _, rfl, WD hm, _, rfl, NC _ _⟩
theorem QN {x : Val ba} {s : Val (.map tI bj)} {i y : Int} (hF : dC x s i = some y) {mv : Value} {cs : Array Value} (hb : CR W noG ba x cs.toList) (hm : CR W noG (.map tI bj) s [mv]) :
 CallsIn Fence.wide 0 Tryz.prog 167 #[.agg cs, mv, .int .i64 i] W fun e W'' => e = .returned (.int .i64 y) ∧ W.grownBy W'' none :=
 NQ EG rfl (x := (x, s, i)) (y := y) hF (vals := [.agg cs, mv, .int .i64 i]) ⟨_, _, rfl, Uf hb, _, _, rfl, WD hm, _, rfl, NC _ _⟩
end
theorem mF {w : World} {av : Nat → Prop} {t : Ty} {xs : List (Val t)} {vs : List Value} (h : CR w av (.slice t) xs vs) : ∃ base cap, vs = [.slice base xs.length cap] := by
 obtain ⟨base, cap, e, _⟩ := h
 exact ⟨base, cap, e⟩
theorem YE {x : Val ba} {s : Val (.map tI bj)} {l1 l2 l3 l4 : List Int} (h1 : FX (fun u => dw u.1 u.2 s) (x.2.2.1 : List (Int × Int)) = some l1) (h2 : FX (fun i => fB x s i) (sI (x.2.2.2.1 : List (Val dr)).length) = some l2)
 (h3 : FX (fun i => dC x s i) (sI (x.2.2.2.2.1 : List (Val bm)).length) = some l3) (h4 : FX (fun u => dw u.1 u.2 s) (x.2.2.2.2.2 : List (Int × Int)) = some l4)
 (hlen : (x.2.2.1 : List (Val aY)).length ≤ 1000 ∧ (x.2.2.2.1 : List (Val dr)).length ≤ 1000 ∧ (x.2.2.2.2.1 : List (Val bm)).length ≤ 1000 ∧ (x.2.2.2.2.2 : List (Val aY)).length ≤ 1000)
 {w : World} {bb tb sb : Nat} {te te2 te3 : TypeId} {cb : Array Value} {mv : Value} (hbb : w.heap[bb]? = some (.cells cb te (0, 0))) (hbk : CR w noG ba x cb.toList) (htb : w.heap[tb]? = some (.cells #[.func (.func 163) #[] #[.pointer (some ⟨sb, 0, none⟩)]] te2 (0, 0)))
 (hsb : w.heap[sb]? = some (.cells #[mv] te3 (0, 0))) (hmv : CR w noG (.map tI bj) s [mv]) :
 SeqStopsK Fence.wide 1 Tryz.prog 165 #[.pointer (some ⟨bb, 0, none⟩), .pointer (some ⟨tb, 0, none⟩), .pointer (some ⟨sb, 0, none⟩)] (fun x : Int => #[.int .i64 x]) (Below w.heap.size) (fun xs => xs = l1 ++ (l2 ++ (l3 ++ l4))) (fun pre => pre <+: (l1 ++ (l2 ++ (l3 ++ l4)))) (l1 ++ (l2 ++ (l3 ++ l4))).length w := by
 intro l J Jx W hbel hJ hJx hY h0
 obtain ⟨fl, r0, e0, hfl, hr0⟩ := id hbk
 obtain ⟨ga, r1, e1, hga, hr1⟩ := hr0
 obtain ⟨us, r2, e2, hus, hr2⟩ := hr1
 obtain ⟨lo, r3, e3, hlo, hr3⟩ := hr2
 obtain ⟨co, ko, e4, hco, hko⟩ := hr3
 obtain ⟨f1, f2, e5, hf1, hf2⟩ := hfl
 have e6 : f1 = [.int .i64 x.1.1] := hf1
 have e7 : f2 = [.int .i64 x.1.2] := hf2
 obtain ⟨gab, gac, e8⟩ := mF hga
 obtain ⟨lob, loc, e9⟩ := mF hlo
 obtain ⟨cob, coc, e10⟩ := mF hco
 obtain ⟨usb0, usc0, e11⟩ := mF hus
 obtain ⟨kob0, koc0, e12⟩ := mF hko
 rw [e11] at hus
 rw [e12] at hko
 obtain ⟨usb, usc, ub, uo, e13, hub, hU⟩ := Ft hus
 obtain ⟨kob, koc, kb, kof, e14, hkb, hK⟩ := Ft hko
 rw [e13] at e11
 rw [e14] at e12
 have hcb : cb = #[.int .i64 x.1.1, .int .i64 x.1.2, .slice gab (x.2.1 : List (Val bj)).length gac, .slice usb (x.2.2.1 : List (Val aY)).length usc, .slice lob (x.2.2.2.1 : List (Val dr)).length loc, .slice cob (x.2.2.2.2.1 : List (Val bm)).length coc, .slice kob (x.2.2.2.2.2 : List (Val aY)).length koc] := by
  rw [← Array.toList_inj, e0, e1, e2, e3, e4, e5, e6, e7, e8, e9, e10, e11, e12]
  rfl
 obtain ⟨g1, q1⟩ := yH h1
 obtain ⟨g2, q2⟩ := yH h2
 obtain ⟨g3, q3⟩ := yH h3
 obtain ⟨g4, q4⟩ := yH h4
 have gl2 : l2.length = (x.2.2.2.1 : List (Val dr)).length := by rw [g2]; simp [sI]
 have gl3 : l3.length = (x.2.2.2.2.1 : List (Val bm)).length := by rw [g3]; simp [sI]
 have up1 : upE (fun j => l1[j]?.getD 0) (x.2.2.1 : List (Val aY)).length = l1 := by rw [← g1]; exact EL l1
 have up2 : upE (fun j => l2[j]?.getD 0) (x.2.2.2.1 : List (Val dr)).length = l2 := by rw [← gl2]; exact EL l2
 have up3 : upE (fun j => l3[j]?.getD 0) (x.2.2.2.2.1 : List (Val bm)).length = l3 := by rw [← gl3]; exact EL l3
 have up4 : upE (fun j => l4[j]?.getD 0) (x.2.2.2.2.2 : List (Val aY)).length = l4 := by rw [← g4]; exact EL l4
 have at1 : ∀ {xs : List (Int × Int)} {ls : List Int}, (∀ (i : Nat) (a : Int × Int), xs[i]? = some a → ∃ b, ls[i]? = some b ∧ dw a.1 a.2 s = some b) → ∀ j, j < xs.length → dw (xs[j]?.getD (0, 0)).1 (xs[j]?.getD (0, 0)).2 s = some (ls[j]?.getD 0) := by
  intro xs ls hq j hj
  obtain ⟨b, hb, hf⟩ := hq j xs[j] (List.getElem?_eq_getElem hj)
  rw [List.getElem?_eq_getElem hj, hb]
  exact hf
 have at2 : ∀ {n : Nat} {ls : List Int} {f : Int → Option Int}, (∀ (i : Nat) (a : Int), (sI n)[i]? = some a → ∃ b, ls[i]? = some b ∧ f a = some b) → ∀ j, j < n → f (j : Int) = some (ls[j]?.getD 0) := by
  intro n ls f hq j hj
  obtain ⟨b, hb, hf⟩ := hq j j (by simp [sI, hj])
  rw [hb]; exact hf
 have hbel' : ∀ {W' : World}, Below w.heap.size W W' → Below w.heap.size w W' := fun h => hbel.trans h
 have hcell : ∀ {W' : World} {p : Addr} {v : Value}, Below w.heap.size w W' → w.cell? p = some v → p.block < w.heap.size → W'.cell? p = some v := fun {W'} {p} {v} h hc hp => (h.cell (p := p) hp).trans hc
 have lb := dv hbb
 have lt := dv htb
 have ls := dv hsb
 have := YK te 1 (by omega) l w.heap.size bb tb sb (.int .i64 x.1.1) (.int .i64 x.1.2) (.slice gab (x.2.1 : List (Val bj)).length gac) mv lb lt ls
  ub uo (x.2.2.1 : List (Val aY)).length usc kb kof (x.2.2.2.2.2 : List (Val aY)).length koc usb kob lob cob (x.2.2.2.1 : List (Val dr)).length loc (x.2.2.2.2.1 : List (Val bm)).length coc hub hkb
  (fun j => (x.2.2.1 : List (Int × Int))[j]?.getD (0, 0)) (fun j => (x.2.2.2.2.2 : List (Int × Int))[j]?.getD (0, 0)) (fun j => l1[j]?.getD 0) (fun j => l2[j]?.getD 0) (fun j => l3[j]?.getD 0) (fun j => l4[j]?.getD 0)
  hlen.1 hlen.2.1 hlen.2.2.1 hlen.2.2.2 W ((hbel.block bb lb).trans (by rw [hbb, hcb])) (hcell hbel (by simp [World.cell?, htb]) lt) (hcell hbel (by simp [World.cell?, hsb]) ls)
  (fun j hj => ⟨hcell hbel (hU j hj).1 (hub (by omega)).2, hcell hbel (hU j hj).2 (hub (by omega)).2⟩) (fun j hj => ⟨hcell hbel (hK j hj).1 (hkb (by omega)).2, hcell hbel (hK j hj).2 (hkb (by omega)).2⟩)
  (fun j hj W' hW => Ob (at1 q1 j hj) (((hbel' hW).block sb ls).trans hsb) (CR.below (hbel' hW) (Nat.le_refl _) hmv))
  (fun j hj W' hW => Ob (at1 q4 j hj) (((hbel' hW).block sb ls).trans hsb) (CR.below (hbel' hW) (Nat.le_refl _) hmv))
  (fun j hj W' hW => WQ (at2 q2 j hj) (by have := CR.below (hbel' hW) (Nat.le_refl _) hbk; rwa [hcb] at this) (CR.below (hbel' hW) (Nat.le_refl _) hmv))
  (fun j hj W' hW => QN (at2 q3 j hj) (by have := CR.below (hbel' hW) (Nat.le_refl _) hbk; rwa [hcb] at this) (CR.below (hbel' hW) (Nat.le_refl _) hmv))
  J Jx (fun pre W1 W2 hj hg => hJ pre W1 W2 none hj hg (fun r e => by cases e)) (fun pre W1 W2 hj hg => hJx pre W1 W2 none hj hg (fun r e => by cases e))
  (fun pre y W1 hj hl => hY pre y W1 hj (by simp only [List.length_append]; omega)) h0 hbel.size
 rw [up1, up2, up3, up4] at this
 exact this
end Go.Proofs.ZzM
end
noncomputable section
set_option maxRecDepth 100000
namespace Go.Proofs.ZzM
open Go Go.Am Go.RowKit
section
variable [bT] {ρ : Type} {ν : Nat → Value} {w : World}
theorem peel (hq : bT.Q = none) {E : Env ρ} {call : List Nat → Bool → Nat → List AV → List Blk → (AV → List Blk → Option ρ) → Option ρ} {L : Nat} (hE : jO E L call) (hD : j5 E L call) (hj : E.joins = fun _ _ _ _ => none) {fid : Nat} {path : List Nat} (hp : path.length + 2 = L) {x y c : Code} {bid n : Nat} {S : St} {K : Exit → St → Option ρ} {r : ρ} {a : Act} {Q : Exit → Act → World → Prop}
 (hL : ∀ z ∈ bM bid x, lV E path fid z.1 z.2) (e : goC E call fid path 0 bid (.seq x y) S K = some r) (H : Sim ν S a w)
 (hn : ∀ ν' S' a' w', Sim ν' S' a' w' → Ev 0 ν S.h w ν' S'.h w' → goC E call fid path 0 bid y S' K = some r → c.wpIn Fence.wide n E.P Q a' w')
 (hx : ∀ ν' S' a' w' e, e ≠ .normal → Sim ν' S' a' w' → Ev 0 ν S.h w ν' S'.h w' → K e S' = some r → Q e a' w') : (Code.seq x c).wpIn Fence.wide n E.P Q a w := by
 simp only [goC, hj] at e
 have hgo := jF hE hD hp x bid S _ ν a w hL e H (Nat.zero_le _)
 rw [AC hq] at hgo
 refine wpIn_seq (wpIn_wide.2 (wpIn_wide.1 (wpIn_mono hgo fun e' a' w' ha => ?_)))
 obtain ⟨ν', S', h1, h2, h3, h4, h5⟩ := ha
 cases e' with
 | normal => exact hn ν' S' a' w' h1 h2 h5
 | exit id => exact hx ν' S' a' w' _ (by simp) h1 h2 h5
 | goto l => exact hx ν' S' a' w' _ (by simp) h1 h2 h5
 | ret => exact hx ν' S' a' w' _ (by simp) h1 h2 h5
 | panic ch => exact hx ν' S' a' w' _ (by simp) h1 h2 h5
 | outgrown => exact hx ν' S' a' w' _ (by simp) h1 h2 h5
end
theorem V7 {T : Array Value} {rb : Nat} {n : Int} {e : TypeId} {W : World} (h2 : T.getD 2 undef = .pointer (some ⟨rb, 0, none⟩)) (hc : W.heap[rb]? = some (.cells #[.int .i64 n] e (0, 0))) : (results Tryz.f38 T).run Tryz.prog W = .ok (.int .i64 n) W := by
 letI : bT := ⟨fun _ => False, [], none⟩
 have hl : (loadVar 34 ⟨rb, 0, none⟩).run Tryz.prog W = .ok (.int .i64 n) W := by
  have := FA (P := Tryz.prog) (w := W) (t := 34) (agg := false) (n := 1) (by kernel_rfl) (us := [.int .i64 n]) rfl (fun _ => rfl) (a := ⟨rb, 0, none⟩) (fun j v hj => by
   have := dH.of_cells hc j v (by simpa using hj)
   cases j with
   | zero => simpa [Addr.add] using this
   | succ j => simp at hj)
  exact this
 have hr : Tryz.f38.results = #[.cell 2 34] := by kernel_rfl
 unfold results
 rw [hr, Array.mapM_eq_mapM_toList]
 simp only [Sem.run_bind, Sem.run_map, List.mapM_cons, List.mapM_nil, h2, asAddr, Sem.run_pure, Result.andThen_ok, hl]
 rfl
theorem HR_ghost {G : Nat → Prop} {D D' : List Deferred} {Q Q' : Option Nat} {ν : Nat → Value} {h : List Blk} {w : World} (H : @HR ⟨G, D, Q⟩ ν h w) : @HR ⟨G, D', Q'⟩ ν h w :=
 @HR.mk ⟨G, D', Q'⟩ ν h w (@HR.blk ⟨G, D, Q⟩ ν h w H) (@HR.inj ⟨G, D, Q⟩ ν h w H) (@HR.ghlt ⟨G, D, Q⟩ ν h w H) (@HR.ghne ⟨G, D, Q⟩ ν h w H)
theorem aa2 [bT] {ν : Nat → Value} {h : List Blk} {w : World} {x : Val ba} {us : List Value} (hv : cH (VRc ν h w) (flat ba x) us) : CR w noG ba x us := by
 have h1 : bB ba (flat ba x) = some x := rfl
 have h2 : cH (VRs w (Av ν h)) (flat ba x) us := hv.mono fun c u hu => hu.1.data
 exact CR.mono (fun _ hf => hf.elim) (eD h1 h2)
def wP (G : Nat → Prop) (y : Int) (w : World) (e : Ending) (w' : World) : Prop :=
 ∃ u, e = .returned u ∧ RR w' G [tI] y u ∧ (∀ b, b < w.heap.size → w'.heap[b]? = w.heap[b]?) ∧ w.heap.size ≤ w'.heap.size ∧ w'.os = w.os ∧ w'.tape = w.tape ∧ w'.output = w.output
theorem T6 {G : Nat → Prop} {y : Int} {w0 w : World} {a : Act} {D rb : Nat} {e : TypeId} (hd : a.defers = [TF D]) (hD : w.heap[D]? = some (.deferred (some []))) (h2 : a.tmps.getD 2 undef = .pointer (some ⟨rb, 0, none⟩)) (hc : w.heap[rb]? = some (.cells #[.int .i64 y] e (0, 0)))
 (hb : ∀ b, b < w0.heap.size → w.heap[b]? = w0.heap[b]?) (hDl : w0.heap.size ≤ D) (hsz : w0.heap.size ≤ w.heap.size) (h3 : w.os = w0.os) (h4 : w.tape = w0.tape) (h5 : w.output = w0.output) : LeavesInM Fence.wide 2 Tryz.prog Tryz.f38 a.tmps (wP G y w0) a.defers .returning w := by
 rw [hd]
 have hne : rb ≠ D := fun h => by rw [h, hD] at hc; cases hc
 have ho : ∀ b, b ≠ D → (w.putObj D (.deferred none)).heap[b]? = w.heap[b]? := fun b hb => by
  simp only [World.putObj, Array.getElem?_setIfInBounds]
  rw [if_neg (fun h => hb h.symm)]
 refine ⟨by simp, .inl ⟨D, _, rfl, run_takeDeferred hD, ?_⟩⟩
 refine ⟨.int .i64 y, V7 h2 ((ho rb hne).trans hc), .int .i64 y, rfl, ⟨[.int .i64 y], rfl, rfl⟩, fun b hlt => (ho b (by omega)).trans (hb b hlt), by simpa [World.putObj] using hsz, h3, h4, h5⟩
theorem aaX (S : St) : ckK .ret S = (XE S).map .inl := by
 unfold ckK
 cases XE S <;> rfl
theorem Vg (S : St) : ckK .normal S = if decide (78 ≤ S.t.length) = true then some (.inr ([lk S.t 1, lk S.t 2, lk S.t 48], S.h)) else none := by
 unfold ckK
 cases decide (78 ≤ S.t.length) <;> rfl
theorem ij [bT] {ρ : Type} {E : Env ρ} (h0 : E.loops = l7 []) {path : List Nat} {fid bid : Nat} {b : Code} : lV E path fid bid b := fun m S K r ν a w e => by
 rw [h0] at e
 cases e
def aat : Code → String
 | .region _ ops _ => ((ops[0]?).map fun o => o.pos).getD ""
 | _ => ""
def rfA : Code → Code
 | .block _ (.rangeFunc _ _ a _) => a
 | _ => .skip
def rfB : Code → Code
 | .block _ (.rangeFunc _ _ _ (.block _ (.seq a _))) => a
 | _ => .skip
def rfC : Code → Code
 | .block _ (.rangeFunc _ _ _ (.block _ (.seq _ (.cond _ (.seq a _) _)))) => a
 | _ => .skip
theorem aaV : ckRF = Code.block 0 (Code.rangeFunc (.tmp 48) #[49] (Tp (aat (rfA ckRF))) (ZV (aat (rfB ckRF)) (aat (rfC ckRF)))) := by kernel_rfl
theorem aaa : ∀ e ∈ ck_pt, bq Tryz.prog e.1 e.2 := aX Ii (aX rC (aX vx (aX Ij bf)))
theorem XF {e : Exit} {S : St} {n : Int} (h : ckK2 e S = some n) : e = .ret ∧ lk S.t 2 = .box 1 0 ∧ lkB S.h 1 = .cells [.int .i64 n] := by
 unfold ckK2 at h
 split at h
 ·split at h
  ·rename_i h2
   split at h
   ·rename_i h3
    cases h
    exact ⟨rfl, h2, h3⟩
   ·cases h
  ·cases h
 ·cases h
theorem Qr [bT] {ν : Nat → Value} {h : List Blk} {w : World} {n : Int} {id : Nat} (H : HR ν h w) (hl : lkB h id = .cells [.int .i64 n]) : ∃ b e, ν id = .pointer (some ⟨b, 0, none⟩) ∧ w.heap[b]? = some (.cells #[.int .i64 n] e (0, 0)) := by
 have hB := H.blk id
 rw [hl] at hB
 obtain ⟨b, c, e, h1, h2, h3⟩ := hB
 obtain ⟨u, h4, h5⟩ := h3.one
 have h6 : u = .int .i64 n := h5.1
 refine ⟨b, e, h1, ?_⟩
 rw [h2]
 have : c = #[.int .i64 n] := by rw [← Array.toList_inj, h4, h6]
 rw [this]
theorem uM [bT] {ν : Nat → Value} {h : List Blk} {w : World} {id off : Nat} {v : Value} {b : Nat} (hv : VR ν h w (.box id off) v) (hb : ν id = .pointer (some ⟨b, 0, none⟩)) : v = .pointer (some ⟨b, off, none⟩) := by
 obtain ⟨cs, b', h1, h2, h3⟩ := hv
 rw [hb] at h2
 cases h2
 exact h3
theorem aaU {G : Nat → Prop} {x : Val ba} {s : Val (.map tI bj)} {y : Int} (hS : ckS x = some y) {ν : Nat → Value} {w0 w6 W : World} {a : Act} {D : Nat} (H : @HR ⟨G, [], none⟩ ν (ckH x s 0) w6) (hb : Below w6.heap.size w6 W) (hD : w6.heap.size ≤ D) (hDo : W.heap[D]? = some (.deferred (some []))) (hd : a.defers = [TF D]) (hlen : 78 ≤ a.tmps.size)
 (t1 : @VR ⟨G, [], none⟩ ν (ckH x s 0) w6 (.box 0 0) (a.tmps.getD 1 undef)) (t2 : @VR ⟨G, [], none⟩ ν (ckH x s 0) w6 (.box 1 0) (a.tmps.getD 2 undef))
 (h0 : ∀ b, b < w0.heap.size → w6.heap[b]? = w0.heap[b]? ∧ ¬ SY ν (ckH x s 0) b) (hsz : w0.heap.size ≤ w6.heap.size) (h3 : w6.os = w0.os) (h4 : w6.tape = w0.tape) (h5 : w6.output = w0.output) :
 Le.wpIn Fence.wide 2 Tryz.prog (bodyPostM Fence.wide 2 Tryz.prog Tryz.f38 (wP G y w0)) a W := by
 have hlive : ∀ b, SY ν (ckH x s 0) b → b < w6.heap.size := fun b hl => @HR.ltA ⟨G, [], none⟩ _ _ _ H b (.inl hl)
 have t1' : ∃ b, ν 0 = .pointer (some ⟨b, 0, none⟩) ∧ a.tmps.getD 1 undef = .pointer (some ⟨b, 0, none⟩) := by
  obtain ⟨cs, b, _, h2, h3⟩ := t1
  exact ⟨b, h2, h3⟩
 have t2' : ∃ b, ν 1 = .pointer (some ⟨b, 0, none⟩) ∧ a.tmps.getD 2 undef = .pointer (some ⟨b, 0, none⟩) := by
  obtain ⟨cs, b, _, h2, h3⟩ := t2
  exact ⟨b, h2, h3⟩
 letI : bT := ⟨G, [TF D], none⟩
 have H1 : HR ν (ckH x s 0) w6 := HR_ghost H
 have H2 : HR ν (ckH x s 0) W := (H1.grow (fun b hlt => hb.block b hlt) hb.size hb.os hb.tape hb.output 0).2
 have hlib : EJ (Zu Int) := Hr aaa (Zu Int) rfl rfl rfl rfl rfl (f0 rfl)
 have hdraw : ∀ L call, jO (Zu Int) L call → j5 (Zu Int) L call := xX hmix
 have hl0 : (Zu Int).loops = l7 [] := rfl
 have hcall := kz (.inr fun _ => rfl) hlib hdraw (fun n hn hE path f fn c _ _ _ z _ => ij hl0) 10 (Nat.le_refl _)
 have hEnv : jO (Zu Int) 2 (iL (Zu Int) 10) := ⟨.inr (np 9), hcall, hlib.plain, hlib.clone, hlib.joins⟩
 have law := ck_suf x s
 rw [hS] at law
 have sim : Sim ν { t := [.any, .box 0 0, .box 1 0] ++ List.replicate 75 .any, h := ckH x s 0 } a W := by
  refine ⟨hd, by simpa using hlen, fun i => ?_, H2⟩
  simp only [Hq]
  rcases i with _ | _ | _ | i
  ·trivial
  ·obtain ⟨b, g1, g2⟩ := t1'
   exact ⟨_, b, rfl, g1, g2⟩
  ·obtain ⟨b, g1, g2⟩ := t2'
   exact ⟨_, b, rfl, g1, g2⟩
  ·trivial
 refine wpIn_wide.2 (wpIn_wide.1 (wpIn_mono (jF hEnv (hdraw _ _ hEnv) rfl Le 0 _ _ ν a W (fun z _ => ij hl0) law sim (Nat.zero_le _)) fun e a' w' ha => ?_))
 obtain ⟨ν', S', g1, g2, _, _, g5⟩ := ha
 obtain ⟨rfl, k2, k3⟩ := XF g5
 obtain ⟨rb, te, r1, r2⟩ := Qr g1.heap k3
 have r3 := g1.tmps 2
 rw [k2] at r3
 have r4 := uM r3 r1
 have hDlt := dv hDo
 refine T6 (w := w') (a := a') (G := G) (y := y) (w0 := w0) (D := D) (rb := rb) g1.defers ((g2.keep D hDlt fun hl => by have := hlive D hl; omega).1.trans hDo) r4 r2 (fun b hlt => ?_) (by omega) (by have := g2.size; have := hb.size; omega) (g2.os.trans (hb.os.trans h3)) (g2.tape.trans (hb.tape.trans h4)) (g2.output.trans (hb.output.trans h5))
 have h01 := h0 b hlt
 have hlt6 : b < w6.heap.size := by omega
 have hltW : b < W.heap.size := by have := hb.size; omega
 exact (g2.keep b hltW h01.2).1.trans ((hb.block b hlt6).trans h01.1)
set_option maxHeartbeats 2000000 in
theorem Vh (G : Nat → Prop) (x : Val ba) (y : Int) (hF' : bZ x = some y) (w : World) (vals : List Value) (hG : ∀ b, G b → b < w.heap.size) (hAL : AL w G [ba] x vals) :
 (∃ fn c, Tryz.prog.funcs[38]? = some fn ∧ fn.body = some c) ∧ CallsIn Fence.wide 0 Tryz.prog 38 vals.toArray w (wP G y w) := by
 rw [Zt] at hF'
 letI : bT := ⟨G, [], none⟩
 have hpt := aaa
 have hlib : EJ (ckE ckR) := Hr hpt (ckE ckR) rfl rfl rfl rfl rfl (f0 rfl)
 have hdraw : ∀ L call, jO (ckE ckR) L call → j5 (ckE ckR) L call := xX hmix
 have h0 : (ckE ckR).loops = l7 [] := rfl
 have hcall := kz (.inl ⟨rfl, rfl⟩) hlib hdraw (fun n hn hE path f fn c _ _ _ z _ => ij h0) 10 (Nat.le_refl _)
 have hEnv : jO (ckE ckR) 2 (iL (ckE ckR) 10) := ⟨.inr (np 9), hcall, hlib.plain, hlib.clone, hlib.joins⟩
 have hD := hdraw _ _ hEnv
 have H : HR (fun _ => undef) [] w := ⟨fun _ => trivial, fun _ _ _ h => (by cases h), hG, fun _ _ h => (by cases h)⟩
 have hav : ∀ b, Av (fun _ => undef) [] b → G b := fun b hb => hb.elim (fun ⟨_, h, _⟩ => by cases h) id
 have hargs : cH (VR (fun _ => undef) [] w) (dj [ba] x) vals := AL.VR (hAL.mono hav)
 refine ⟨⟨Tryz.f38, _, Tryz.func38, aab⟩, ?_⟩
 have hlen : vals.length = 1 := by
  have := hargs.length
  simpa [dj, Xo] using this.symm
 cases hM : ckM x with
 | none => rw [hM] at hF'; cases hF'
 | some r0 =>
 rw [hM] at hF'
 have law := ck_pre x
 rw [hM] at law
 refine callsIn_wide.2 (callsIn_wide.1 (callsIn_of_wp_marks (n := 2) Tryz.func38 aab trivial ?_ (R := wP G y w)))
 have hS : Sim (fun _ => undef) { t := dj [ba] x ++ List.replicate 77 .any, h := [] } { tmps := vals.toArray ++ Array.replicate (Tryz.f38.ntmps - vals.toArray.size) undef, defers := [] } w := by
  refine ⟨rfl, ?_, fun i => ?_, H⟩
  ·have : Tryz.f38.ntmps = 78 := by kernel_rfl
   have hl2 : (dj [ba] x).length = 1 := rfl
   simp [this, hlen, hl2]
  ·simp only [Hq]
   rcases Nat.lt_or_ge i (dj [ba] x).length with hi | hi
   ·have := cH.lk (R := VR (fun _ => undef) [] w) (fun _ => trivial) i hargs
    have hv : i < vals.length := by rw [← hargs.length]; exact hi
    have h2 : (vals.toArray ++ Array.replicate (Tryz.f38.ntmps - vals.toArray.size) undef).getD i undef = vals.getD i undef := by
     simp [Array.getD_eq_getD_getElem?, Array.getElem?_append, hv]
    rw [h2]; exact this
   ·rw [WT _ _ hi]; trivial
 -- the ways out ahead of the loop
 have out : ∀ ν' S' a' w' e, e ≠ .normal → Sim ν' S' a' w' → Ev 0 (fun _ => undef) [] w ν' S'.h w' → ckK e S' = some r0 → bodyPostM Fence.wide 2 Tryz.prog Tryz.f38 (wP G y w) e a' w' := by
  intro ν' S' a' w' e hne hS' hE' hk
  cases e with
  | normal => exact (hne rfl).elim
  | ret =>
    rw [aaX] at hk
    cases hr : XE S' with
    | none => rw [hr] at hk; cases hk
    | some n =>
      rw [hr, Option.map_some] at hk
      cases hk
      have hyn : n = y := by simpa using hF'
      subst hyn
      unfold XE at hr
      split at hr
      ·rename_i v hv
       obtain ⟨u, q1, q2⟩ := Bh hS' hv
       show LeavesInM _ _ _ _ _ _ a'.defers _ _
       rw [show a'.defers = [] from hS'.defers]
       exact ⟨u, q1, u, rfl, LC hS'.heap [tI] q2 hr, fun b hb => (hE'.keep b hb fun ⟨_, h, _⟩ => by cases h).1, hE'.size, hE'.os, hE'.tape, hE'.output⟩
      ·cases hr
  | exit id => cases hk
  | goto l => cases hk
  | panic ch => cases hk
  | outgrown => cases hk
 have outT : ∀ {ν₁ : Nat → Value} {h₁ : List Blk} {w₁ : World}, Ev 0 (fun _ => undef) [] w ν₁ h₁ w₁ → ∀ ν' S' a' w' e, e ≠ .normal → Sim ν' S' a' w' → Ev 0 ν₁ h₁ w₁ ν' S'.h w' → ckK e S' = some r0 → bodyPostM Fence.wide 2 Tryz.prog Tryz.f38 (wP G y w) e a' w' :=
  fun hE ν' S' a' w' e hne hS' hE' hk => out ν' S' a' w' e hne hS' (hE.trans hE' (Nat.le_refl _)) hk
 refine peel rfl hEnv hD rfl rfl (fun z _ => ij h0) law hS (fun ν1 S1 a1 w1 s1 e1 k1 => ?_) out
 refine peel rfl hEnv hD rfl rfl (fun z _ => ij h0) k1 s1 (fun ν2 S2 a2 w2 s2 e2 k2 => ?_) (outT e1)
 have t2 := e1.trans e2 (Nat.le_refl _)
 refine peel rfl hEnv hD rfl rfl (fun z _ => ij h0) k2 s2 (fun ν3 S3 a3 w3 s3 e3 k3 => ?_) (outT t2)
 have t3 := t2.trans e3 (Nat.le_refl _)
 refine peel rfl hEnv hD rfl rfl (fun z _ => ij h0) k3 s3 (fun ν4 S4 a4 w4 s4 e4 k4 => ?_) (outT t3)
 have t4 := t3.trans e4 (Nat.le_refl _)
 refine peel rfl hEnv hD rfl rfl (fun z _ => ij h0) k4 s4 (fun ν5 S5 a5 w5 s5 e5 k5 => ?_) (outT t4)
 have t5 := t4.trans e5 (Nat.le_refl _)
 refine wpIn_seq (wpIn_seq (wpIn_wide.2 (wpIn_wide.1 (wpIn_mono (jF hEnv hD rfl ckA5 0 S5 _ ν5 a5 w5 (fun z _ => ij h0) k5 s5 (Nat.zero_le _)) fun e' a6 w6 ha => ?_))))
 obtain ⟨ν, S, s6, e6, _, _, k6⟩ := ha
 have t6 := t5.trans e6 (Nat.le_refl _)
 have other : ∀ e, e ≠ .normal → ckK e S = some r0 → Exit.then (Code.wpIn Fence.wide 2 Tryz.prog Le (bodyPostM Fence.wide 2 Tryz.prog Tryz.f38 (wP G y w))) (bodyPostM Fence.wide 2 Tryz.prog Tryz.f38 (wP G y w)) e a6 w6 := by
  intro e hne hk
  have := out ν S a6 w6 e hne s6 t6 hk
  cases e <;> first | exact (hne rfl).elim | exact this
 cases e' with
 | exit id => exact other _ (by simp) k6
 | goto l => exact other _ (by simp) k6
 | ret => exact other _ (by simp) k6
 | panic ch => exact other _ (by simp) k6
 | outgrown => exact other _ (by simp) k6
 | normal =>
 clear other
 rw [Vg] at k6
 split at k6 <;> try (cases k6; done)
 rename_i h78
 have h78' : 78 ≤ S.t.length := by simpa using h78
 cases k6
 obtain ⟨hlens, s, hs, hq⟩ := aaW hM
 simp only [Prod.mk.injEq, List.cons.injEq, and_true] at hq
 obtain ⟨⟨q1, q2, q48⟩, qh⟩ := hq
 have hF2 : OH (ln x s) some (ckS x) = some y := by
  simp only at hF'
  rw [hs] at hF'
  exact hF'
 -- what the errors are
 obtain ⟨L, hL, hLy⟩ : ∃ L, ln x s = some L ∧ (match L.find? (fun e => e != 0) with | some e => some e | none => ckS x) = some y := by
  unfold OH at hF2
  cases hl : ln x s with
  | none => rw [hl] at hF2; cases hF2
  | some L => rw [hl] at hF2; exact ⟨L, rfl, hF2⟩
 obtain ⟨l1, l2, l3, l4, m1, m2, m3, m4, rfl⟩ : ∃ l1 l2 l3 l4, FX (fun u => dw u.1 u.2 s) (x.2.2.1 : List (Int × Int)) = some l1 ∧ FX (fun i => fB x s i) (sI (x.2.2.2.1 : List (Val dr)).length) = some l2 ∧
  FX (fun i => dC x s i) (sI (x.2.2.2.2.1 : List (Val bm)).length) = some l3 ∧ FX (fun u => dw u.1 u.2 s) (x.2.2.2.2.2 : List (Int × Int)) = some l4 ∧ L = l1 ++ (l2 ++ (l3 ++ l4)) := by
  unfold ln at hL
  cases m1 : FX (fun u => dw u.1 u.2 s) (x.2.2.1 : List (Int × Int)) with
  | none => rw [m1] at hL; cases hL
  | some l1 =>
  rw [m1] at hL
  cases m2 : FX (fun i => fB x s i) (sI (x.2.2.2.1 : List (Val dr)).length) with
  | none => simp only [aZ, m2] at hL; cases hL
  | some l2 =>
  cases m3 : FX (fun i => dC x s i) (sI (x.2.2.2.2.1 : List (Val bm)).length) with
  | none => simp only [aZ, m2, m3] at hL; cases hL
  | some l3 =>
  cases m4 : FX (fun u => dw u.1 u.2 s) (x.2.2.2.2.2 : List (Int × Int)) with
  | none => simp only [aZ, m2, m3, m4] at hL; cases hL
  | some l4 =>
  simp only [aZ, m2, m3, m4] at hL
  cases hL
  exact ⟨l1, l2, l3, l4, rfl, rfl, rfl, rfl, rfl⟩
 -- the blocks
 obtain ⟨T, Hh⟩ := S
 dsimp only at q1 q2 q48 qh h78'
 subst qh
 have p1 := s6.tmps 1
 have p2 := s6.tmps 2
 have p48 := s6.tmps 48
 dsimp only at p1 p2 p48
 rw [q1] at p1
 rw [q2] at p2
 rw [q48] at p48
 obtain ⟨rb, te1, n1, hrb⟩ := Qr (id := 1) (n := 0) s6.heap rfl
 have hB2 : BR ν (ckH x s 0) w6 2 (.cells (flat ba x)) := s6.heap.blk 2
 have hB3 : BR ν (ckH x s 0) w6 3 (.cells [.mp tI bj s]) := s6.heap.blk 3
 have hB4 : BR ν (ckH x s 0) w6 4 (.cells [.fn (.func 163) [] [.box 3 0]]) := s6.heap.blk 4
 obtain ⟨bb, cb, te, n2, hbb, hb2⟩ := hB2
 obtain ⟨sb, cs3, te3, n3, hsb, hb3⟩ := hB3
 obtain ⟨tb, cs4, te2, n4, htb, hb4⟩ := hB4
 obtain ⟨mv, z3, hm3⟩ := hb3.one
 obtain ⟨fv, z4, hm4⟩ := hb4.one
 have hmv : CR w6 noG (.map tI bj) s [mv] := CR.mono (fun _ hf => hf.elim) (show CR w6 (Av ν (ckH x s 0)) (.map tI bj) s [mv] from hm3.1)
 have hc3 : cs3 = #[mv] := by rw [← Array.toList_inj, z3]
 have hfv : fv = .func (.func 163) #[] #[.pointer (some ⟨sb, 0, none⟩)] := by
  obtain ⟨fs, cs, h1, h2, h3⟩ := hm4.1
  have e1 : fs = #[] := by rw [← Array.toList_inj]; exact h2.nil_left
  obtain ⟨u, e2, h4⟩ := h3.one
  have e3 : u = .pointer (some ⟨sb, 0, none⟩) := uM (w := w6) (id := 3) (off := 0) h4 n3
  have e4 : cs = #[.pointer (some ⟨sb, 0, none⟩)] := by rw [← Array.toList_inj, e2, e3]
  rw [h1, e1, e4]
 have hc4 : cs4 = #[fv] := by rw [← Array.toList_inj, z4]
 rw [hc3] at hsb
 rw [hc4, hfv] at htb
 have hg : a6.tmps.getD 48 undef = .func (.func 165) #[] #[.pointer (some ⟨bb, 0, none⟩), .pointer (some ⟨tb, 0, none⟩), .pointer (some ⟨sb, 0, none⟩)] := by
  obtain ⟨fs, cs, h1, h2, h3⟩ := p48
  have e1 : fs = #[] := by rw [← Array.toList_inj]; exact h2.nil_left
  have hl := h3.length
  obtain ⟨u1, u2, u3, e2⟩ : ∃ u1 u2 u3, cs.toList = [u1, u2, u3] := by
   rcases hcs : cs.toList with _ | ⟨u1, _ | ⟨u2, _ | ⟨u3, _ | ⟨u4, t⟩⟩⟩⟩ <;> rw [hcs] at hl <;> simp at hl
   exact ⟨u1, u2, u3, rfl⟩
  rw [e2] at h3
  have e3 : u1 = .pointer (some ⟨bb, 0, none⟩) := uM (w := w6) (id := 2) (off := 0) h3.1 n2
  have e4 : u2 = .pointer (some ⟨tb, 0, none⟩) := uM (w := w6) (id := 4) (off := 0) h3.2.1 n4
  have e5 : u3 = .pointer (some ⟨sb, 0, none⟩) := uM (w := w6) (id := 3) (off := 0) h3.2.2.1 n3
  rw [h1, e1]
  congr 1
  rw [← Array.toList_inj, e2, e3, e4, e5]
 have hseq := YE m1 m2 m3 m4 hlens hbb (aa2 hb2) htb hsb hmv
 have h2 := uM p2 n1
 have hsz : 78 ≤ a6.tmps.size := Nat.le_trans h78' s6.len
 have hkeep : ∀ b, b < w.heap.size → w6.heap[b]? = w.heap[b]? ∧ ¬ SY ν (ckH x s 0) b := fun b hb => t6.keep b hb fun ⟨_, h, _⟩ => by cases h
 have hdef : a6.defers = [] := s6.defers
 show ckRF.wpIn Fence.wide 2 Tryz.prog (Exit.then (Le.wpIn Fence.wide 2 Tryz.prog (bodyPostM Fence.wide 2 Tryz.prog Tryz.f38 (wP G y w))) (bodyPostM Fence.wide 2 Tryz.prog Tryz.f38 (wP G y w))) a6 w6
 rw [aaV]
 refine wpIn_block (aao hseq hg h2 hsz hrb (fun D W hall hbel hDl hDo => ?_) (fun D W z hz hput hDl hDo => ?_))
 ·have hck : ckS x = some y := by
   have : (l1 ++ (l2 ++ (l3 ++ l4))).find? (fun e => e != 0) = none := List.find?_eq_none.2 fun z hz => by rw [hall z hz]; simp
   rw [this] at hLy
   exact hLy
  exact aaU (s := s) hck s6.heap hbel hDl hDo (by show TF D :: a6.defers = _; rw [hdef]) hsz p1 p2 hkeep t6.size t6.os t6.tape t6.output
 ·have hzy : z = y := by
   rw [hz] at hLy
   simpa using hLy
  subst hzy
  obtain ⟨te5, hcell⟩ := hput.cell
  have hlb := dv hrb
  have hlive : SY ν (ckH x s 0) rb := ⟨1, rfl, by rw [n1]; rfl⟩
  exact T6 (a := { a6 with defers := TF D :: a6.defers }) (w := W) (by show TF D :: a6.defers = _; rw [hdef]) hDo h2 hcell
   (fun b hb => (hput.block b (by have := t6.size; omega) (fun e => (hkeep b hb).2 (e ▸ hlive))).trans (hkeep b hb).1) (by have := t6.size; omega) (by have := t6.size; have := hput.size; omega) (hput.os.trans t6.os) (hput.tape.trans t6.tape) (hput.output.trans t6.output)
theorem dU : bq Tryz.prog 38 dQ := fun G x y hF w vals hG hAL => Vh G x y hF w vals hG hAL
end Go.Proofs.ZzM
end
noncomputable section
set_option maxRecDepth 100000
namespace Go.Proofs.ZzM
open Go Go.Am Go.RowKit
abbrev cP : Type := Val (tyL gL)
abbrev cV : Type := Val (tyL kp)
abbrev cS (p : cP) (v : cV) : St := gX pv gL kp p v
abbrev cU (p : cP) (v : cV) (x : Val bj) : St := gX Gb gL vc p (xp v x)
theorem Zn (im : List (Int × Bool)) (n : Int) : lK Tryz.prog [.map tI .bool im] 197 (.omp 0) (.int .i64 n) false some = (match (mJ (k := tI) (v := .bool) n im : Option Bool) with | some y => some (.bool y) | none => some (.bool false)) := by kernel_rfl
noncomputable def MapAt (W : World) (mb : Nat) (im : List (Int × Bool)) : Prop := ∃ (entries : Array MapEntry) (clock : Nat), W.heap[mb]? = some (.map entries clock) ∧ entries.size = im.length ∧ ∀ (i : Nat) (e : Int × Bool), im[i]? = some e → ∃ m, entries[i]? = some m ∧ m.key = .int .i64 e.1 ∧ m.val = .bool e.2
noncomputable def D4 (im : List (Int × Bool)) (n : Int) : Bool := ((mJ (k := tI) (v := .bool) n im : Option Bool)).getD false
theorem YY {W : World} {mb : Nat} {im : List (Int × Bool)} (h : MapAt W mb im) (n : Int) : (Instr.lookup 197 (.map (some mb)) (.int .i64 n) false).run Tryz.prog W = .ok (.bool (D4 im n)) W := by
 letI : bT := ⟨fun _ => False, [], none⟩
 obtain ⟨entries, clock, h1, h2, h3⟩ := h
 have H : HR (fun _ => .map (some mb)) [.map tI .bool im] W := by
  refine ⟨fun id => ?_, fun i j b hi hj _ _ => ?_, fun b hb => hb.elim, fun id b _ _ hb => hb.elim⟩
  ·rcases id with _ | id
   ·refine ⟨mb, entries, clock, rfl, h1, h2, fun i e he => ?_⟩
    obtain ⟨m, q1, q2, q3⟩ := h3 i e he
    exact ⟨m, [.bool e.2], q1, by rw [q2]; rfl, rfl, by rw [q3]; rfl⟩
   ·rw [KO _ _ (by simp)]; trivial
  ·have one : ∀ i, (lkB [Blk.map tI .bool im] i).live = true → i = 0 := fun i hi => by
    rcases i with _ | i
    ·rfl
    ·rw [KO _ _ (by simp)] at hi; cases hi
   rw [one i hi, one j hj]
 have hom : VR (fun _ => .map (some mb)) [.map tI .bool im] W (.omp 0) (.map (some mb)) := ⟨rfl, _, _, _, rfl, rfl⟩
 have hk : lK Tryz.prog [.map tI .bool im] 197 (.omp 0) (.int .i64 n) false some = some (.bool (D4 im n)) := by
  rw [Zn]
  unfold D4
  cases (mJ (k := tI) (v := .bool) n im : Option Bool) <;> rfl
 obtain ⟨u, q1, q2⟩ := Qg H hk hom (ui := .int .i64 n) rfl
 rw [q1]
 have : u = .bool (D4 im n) := q2
 rw [this]
noncomputable def gz (l : List (Val bj)) (j : Nat) : Val bj := l[j]?.getD (0, 0, 0, (0, 0), (0, 0), 0)
theorem Sw {w : World} {av : Nat → Prop} {g : Val bj} {us : List Value} (h : CR w av bj g us) :
 us = [.int .i64 g.1, .int .i64 g.2.1, .int .i64 g.2.2.1, .int .i64 g.2.2.2.1.1, .int .i64 g.2.2.2.1.2, .int .i64 g.2.2.2.2.1.1, .int .i64 g.2.2.2.2.1.2, .int .i64 g.2.2.2.2.2] := by
 obtain ⟨a1, r1, rfl, h1, a2, r2, rfl, h2, a3, r3, rfl, h3, a4, r4, rfl, ⟨b1, b2, rfl, h4, h5⟩, ⟨b3, r5, rfl, ⟨b5, b6, rfl, h6, h7⟩, h8⟩⟩ := h
 have e1 : a1 = [.int .i64 g.1] := h1
 have e2 : a2 = [.int .i64 g.2.1] := h2
 have e3 : a3 = [.int .i64 g.2.2.1] := h3
 have e4 : b1 = [.int .i64 g.2.2.2.1.1] := h4
 have e5 : b2 = [.int .i64 g.2.2.2.1.2] := h5
 have e6 : b5 = [.int .i64 g.2.2.2.2.1.1] := h6
 have e7 : b6 = [.int .i64 g.2.2.2.2.1.2] := h7
 have e8 : r5 = [.int .i64 g.2.2.2.2.2] := h8
 subst e1 e2 e3 e4 e5 e6 e7 e8
 rfl
noncomputable def KNd (w1 : World) (R : Nat → Prop) (tb : Nat) (im : List (Int × Bool)) (W : World) : Prop := w1.heap.size ≤ W.heap.size ∧ (∀ b, R b → W.heap[b]? = w1.heap[b]?) ∧ tb < w1.heap.size ∧ ∃ mb, mb < w1.heap.size ∧ W.cell? ⟨tb, 0, none⟩ = some (.map (some mb)) ∧ MapAt W mb im
theorem KNd.below {w1 W W' : World} {R : Nat → Prop} {tb : Nat} {im : List (Int × Bool)} (hR : ∀ b, R b → b < w1.heap.size) (h : KNd w1 R tb im W) (hz : W.heap.size ≤ W'.heap.size) (hb : ∀ b, b < w1.heap.size → W'.heap[b]? = W.heap[b]?) : KNd w1 R tb im W' := by
 obtain ⟨h1, h2, h3, mb, h4, h5, en, cl, h6, h7, h8⟩ := h
 exact ⟨Nat.le_trans h1 hz, fun b hr => (hb b (hR b hr)).trans (h2 b hr), h3, mb, h4, by rw [World.cell?_of_block (w := W) (hb tb h3)]; exact h5, en, cl, (hb mb h4).trans h6, h7, h8⟩
theorem KNd.grown {w1 W W' : World} {R : Nat → Prop} {tb : Nat} {im : List (Int × Bool)} (hR : ∀ b, R b → b < w1.heap.size) (h : KNd w1 R tb im W) (hg : W.grownBy W' none) : KNd w1 R tb im W' :=
 h.below hR hg.size fun b hb => hg.block b (Nat.lt_of_lt_of_le hb h.1) (by simp)
theorem Qi {f : AV → Bool} (h0 : f .any = true) : ∀ (l : List AV), l.all f = true → ∀ i, f (lk l i) = true
 | [], _, i => by cases i <;> exact h0
 | x :: l, h, 0 => by simp only [List.all_cons, Bool.and_eq_true] at h; exact h.1
 | x :: l, h, i + 1 => by simp only [List.all_cons, Bool.and_eq_true] at h; exact Qi h0 l h.2 i
theorem Ny {f : Blk → Bool} (h0 : f .dead = true) : ∀ (l : List Blk), l.all f = true → ∀ i, f (lkB l i) = true
 | [], _, i => by cases i <;> exact h0
 | x :: l, h, 0 => by simp only [List.all_cons, Bool.and_eq_true] at h; exact h.1
 | x :: l, h, i + 1 => by simp only [List.all_cons, Bool.and_eq_true] at h; exact Ny h0 l h.2 i
theorem cS_mf (p : cP) (v : cV) : (cS p v).h.all mfB = true := by kernel_rfl
theorem cU_mf (p : cP) (v : cV) (x : Val bj) : (cU p v x).h.all mfB = true := by kernel_rfl
theorem cU_mft (p : cP) (v : cV) (x : Val bj) : (cU p v x).t.all mfV3 = true := by kernel_rfl
theorem cR_mf (y : Val ba) : (gX mV [] il () (jb y)).h.all mfB = true := by kernel_rfl
theorem cR_mft (y : Val ba) : (gX mV [] il () (jb y)).t.all mfV3 = true := by kernel_rfl
noncomputable def pin0 (m : Nat) : AV → Bool
 | .any => true
 | .box id _ => Nat.blt id m
 | _ => false
noncomputable def pin3 (m : Nat) : AV → Bool
 | .fn _ a b => a.all (pin0 m) && b.all (pin0 m)
 | a => pin0 m a
section
variable [bT] {ν ν' : Nat → Value} {h h' : List Blk} {w w' : World} {m : Nat}
theorem VR0.pin (e : Ev m ν h w ν' h' w') {a : AV} {v : Value} (hp : pin0 m a = true) (hv : VR0 ν h w a v) : VR0 ν' h' w' a v := by
 cases a with
 | any => trivial
 | box id off =>
   obtain ⟨cs, b, hl, h1, h2⟩ := hv
   have hlt : id < m := Nat.le_of_ble_eq_true hp
   have hb := e.blk id hlt
   rw [hl] at hb
   obtain ⟨⟨cs', hl'⟩, he⟩ := hb
   exact ⟨cs', b, hl', by rw [he]; exact h1, h2⟩
 | _ => cases hp
theorem VR.pin (e : Ev m ν h w ν' h' w') {a : AV} {v : Value} (hp : pin3 m a = true) (hv : VR ν h w a v) : VR ν' h' w' a v := by
 cases a with
 | fn f fa fb =>
   obtain ⟨fs, cs, h1, h2, h3⟩ := hv
   simp only [pin3, Bool.and_eq_true, List.all_eq_true] at hp
   exact ⟨fs, cs, h1, h2.mem fun a ha _ => VR0.pin e (hp.1 a ha), h3.mem fun a ha _ => VR0.pin e (hp.2 a ha)⟩
 | any => trivial
 | box id off => exact VR0.pin (a := .box id off) e (show pin0 m (.box id off) = true from hp) hv
 | _ => cases hp
end
theorem aac (p : cP) (v : cV) : (cS p v).t.all (pin3 9) = true := by kernel_rfl
theorem cS_len (p : cP) (v : cV) : (cS p v).h.length = 10 := by kernel_rfl
theorem cU_len (p : cP) (v : cV) (x : Val bj) : (cU p v x).h.length = 11 := by kernel_rfl
theorem cS_t (p : cP) (v : cV) (z : List (Val bj)) : (cS p (cO v z)).t = (cS p v).t := by kernel_rfl
theorem cS_5 (p : cP) (v : cV) : ∃ a b us lo co ko, lkB (cS p v).h 5 = .cells [.int .i64 a, .int .i64 b, .slc bj (bR v), .slc aY us, .slc dr lo, .slc bm co, .slc aY ko] := ⟨_, _, _, _, _, _, rfl⟩
theorem cS_6 (p : cP) (v : cV) : lkB (cS p v).h 6 = .cells [.omp 7] := by kernel_rfl
theorem cS_7 (p : cP) (v : cV) : lkB (cS p v).h 7 = .map tI .bool (dY v) := by kernel_rfl
theorem cS_59 (p : cP) (v : cV) : lk (cS p v).t 59 = .fn (.func 218) [] [.box 5 0, .box 6 0] := by kernel_rfl
noncomputable def Qp : Blk → Bool
 | .map _ _ _ => true
 | _ => false
theorem SQ (p : cP) (v : cV) : (cS p v).h.map Qp = [false, false, false, false, false, false, false, true, true, false] := by kernel_rfl
theorem aaZ (p : cP) (v : cV) (x : Val bj) : (cU p v x).h.map Qp = [false, false, false, false, false, false, false, true, true, false, false] := by kernel_rfl
theorem Co : ∀ (l : List Blk) (i : Nat), Qp (lkB l i) = true → (l.map Qp)[i]? = some true
 | [], i, h => by cases i <;> cases h
 | x :: l, 0, h => by have : Qp x = true := h; simp [this]
 | x :: l, i + 1, h => by simpa using Co l i h
theorem TG {l : List Blk} {t : List Bool} (hl : l.map Qp = [false, false, false, false, false, false, false, true, true] ++ t) (ht : ∀ b ∈ t, b = false) {id : Nat} {k u : Ty} {es : List (Val k × Val u)} (h : lkB l id = .map k u es) : id = 7 ∨ id = 8 := by
 have := Co l id (by rw [h]; rfl)
 rw [hl] at this
 rcases id with _ | _ | _ | _ | _ | _ | _ | _ | _ | id <;> simp at this ⊢
 have := ht _ (List.mem_of_getElem? this)
 cases this
noncomputable def Z6 {ρ : Type} : List (Val bj) → Option ρ → Option ρ
 | [], x => x
 | _ :: _, _ => none
theorem SE {ρ : Type} {l : List (Val bj)} {x : Option ρ} {r : ρ} (h : Z6 l x = some r) : l = [] ∧ x = some r := by
 cases l with
 | nil => exact ⟨rfl, h⟩
 | cons => cases h
noncomputable def cutK (p : cP) (v : cV) : Option (Val ba) := Z6 (qC v) (aZ (vl (bR v) (dY v)) fun z => la p (cO v z) some)
theorem W4 {l : List (Val bj)} {im : List (Int × Bool)} {z : List (Val bj)} (h : vl l im = some z) : bW l.length = true ∧ z = (IF (fun j => D4 im (gz l j).1) l.length).map (gz l) := by
 unfold vl at h
 simp only [ca] at h
 split at h
 ·rename_i ho
  cases h
  refine ⟨ho, ?_⟩
  have key : ∀ (n : Nat), n ≤ l.length → (l.take n).filter (fun g => ((mJ (k := tI) (v := .bool) g.1 im : Option Bool)).getD false) = (IF (fun j => D4 im (gz l j).1) n).map (gz l) := by
   intro n
   induction n with
   | zero => intro _; rfl
   | succ n ih =>
     intro hn
     have hg : l[n]? = some (gz l n) := by simp [gz, List.getElem?_eq_getElem (show n < l.length from hn)]
     rw [List.take_succ, List.filter_append, ih (by omega), yj, hg]
     have : ((mJ (k := tI) (v := .bool) (gz l n).1 im : Option Bool)).getD false = D4 im (gz l n).1 := rfl
     simp only [Option.toList_some, List.filter_cons, List.filter_nil, this]
     split <;> simp
  have := key l.length (Nat.le_refl _)
  rwa [List.take_length] at this
 ·cases h
theorem YN {n m : Nat} (h : bW n = true) (hm : m ≤ n) : bW m = true := by
 unfold bW at h ⊢
 simp only [Bool.and_eq_true, decide_eq_true_eq] at h ⊢
 first | omega | (constructor <;> omega)
theorem Um {G : Nat → Prop} {D D' : List Deferred} {Q Q' : Option Nat} {ν : Nat → Value} {h : List Blk} {w : World} {a : AV} {v : Value} (hv : @VR ⟨G, D, Q⟩ ν h w a v) : @VR ⟨G, D', Q'⟩ ν h w a v := hv
theorem uZ [bT] {ν2 ν' : Nat → Value} {h1 h' : List Blk} {w1 W : World} (H1 : HR ν2 h1 w1) (ev : Ev 9 ν2 h1 w1 ν' h' W) (hl1 : ∀ id, id = 7 ∨ id = 8 → ∃ k u es, lkB h1 id = .map k u es)
 {t : List Bool} (hl : h'.map Qp = [false, false, false, false, false, false, false, true, true] ++ t) (ht : ∀ b ∈ t, b = false) : Yc w1.heap.size ν' h' := by
 intro id k u es b hm hν
 have h9 : id < 9 := by rcases TG hl ht hm with rfl | rfl <;> omega
 obtain ⟨k1, u1, es1, h7⟩ := hl1 id (TG hl ht hm)
 have hb := ev.blk id h9
 rw [h7] at hb
 obtain ⟨_, he⟩ := hb
 have hB := H1.blk id
 rw [h7] at hB
 obtain ⟨b0, _, _, q1, q2, _⟩ := hB
 rw [he, q1] at hν
 cases hν
 exact dv q2
theorem ZF (p : cP) (v : cV) : ∀ id, id = 7 ∨ id = 8 → ∃ k u es, lkB (cS p v).h id = .map k u es := by
 rintro id (rfl | rfl)
 ·exact ⟨_, _, _, rfl⟩
 ·exact ⟨_, _, _, rfl⟩
noncomputable def CI (G : Nat → Prop) (p : cP) (v : cV) (ν2 : Nat → Value) (w1 : World) (pre : List Nat) (W : World) : Prop :=
 ∃ ν', @HR ⟨G, [], none⟩ ν' (cS p (cO v (pre.map (gz (bR v))))).h W ∧ Ev 9 ν2 (cS p v).h w1 ν' (cS p (cO v (pre.map (gz (bR v))))).h W
theorem CI.own {G : Nat → Prop} {p : cP} {v : cV} {ν2 : Nat → Value} {w1 : World} (H1 : @HR ⟨G, [], none⟩ ν2 (cS p v).h w1) : OwnFrom w1.heap.size (CI G p v ν2 w1) := by
 intro pre W W' row hI hg hr
 letI : bT := ⟨G, [], none⟩
 obtain ⟨ν', H, ev⟩ := hI
 have hml := uZ H1 ev (ZF p v) (SQ _ _) (t := [false]) (by simp)
 refine ⟨ν', H.ckeep (H8 hg hr) (fun id k u es b hl hν => ?_) (Ny rfl _ (cS_mf _ _)), ev.own hg fun r e => (hr r e).1⟩
 have hb := hml id k u es b hl hν
 exact hg.block b (Nat.lt_of_lt_of_le hb ev.size) fun e => by have := (hr b e.symm).1; omega
theorem CI.nd {G : Nat → Prop} {p : cP} {v : cV} {ν2 : Nat → Value} {w1 W : World} {pre : List Nat} {R : Nat → Prop} {tb : Nat} (H1 : @HR ⟨G, [], none⟩ ν2 (cS p v).h w1) (hR : ∀ b, R b → b < w1.heap.size ∧ ¬ SY ν2 (cS p v).h b) (htb : ν2 6 = .pointer (some ⟨tb, 0, none⟩)) (hI : CI G p v ν2 w1 pre W) : KNd w1 R tb (dY v) W := by
 letI : bT := ⟨G, [], none⟩
 obtain ⟨ν', H, ev⟩ := hI
 have h6 := H1.blk 6
 rw [cS_6] at h6
 obtain ⟨b6, _, _, q1, q2, _⟩ := h6
 rw [htb] at q1
 cases q1
 have h7 := H1.blk 7
 rw [cS_7] at h7
 obtain ⟨mb, _, _, r1, r2, _⟩ := h7
 have e6 := ev.blk 6 (by omega)
 rw [cS_6] at e6
 have e7 := ev.blk 7 (by omega)
 rw [cS_7] at e7
 have k6 := H.blk 6
 rw [show lkB (cS p (cO v (pre.map (gz (bR v))))).h 6 = .cells [.omp 7] from cS_6 _ _] at k6
 obtain ⟨b, c, e, s1, s2, s3⟩ := k6
 rw [e6.2, htb] at s1
 cases s1
 obtain ⟨mv, s4, s5⟩ := s3.one
 obtain ⟨_, k, u, es, _, s6⟩ := s5.1
 have k7 := H.blk 7
 rw [show lkB (cS p (cO v (pre.map (gz (bR v))))).h 7 = .map tI .bool (dY v) from cS_7 _ _] at k7
 obtain ⟨mb', en, cl, t1, t2, t3, t4⟩ := k7
 have e1 : mv = .map (some mb') := s6.trans t1
 have e2 : mb' = mb := by rw [e7.2, r1] at t1; cases t1; rfl
 subst e2
 refine ⟨ev.size, fun b hb => (ev.keep b (hR b hb).1 (hR b hb).2).1, dv q2, mb', dv r2, ?_, en, cl, t2, t3, fun i x hx => ?_⟩
 ·have hc : c = #[mv] := by rw [← Array.toList_inj, s4]
  rw [hc, e1] at s2
  simp [World.cell?, s2]
 ·obtain ⟨m, us, u1, u2, u3, u4⟩ := t4 i x hx
  have v1 : [m.key] = [.int .i64 x.1] := u2
  have v2 : us = [.bool x.2] := u3
  refine ⟨m, u1, by simpa using v1, ?_⟩
  rw [u4, v2]
  rfl
theorem Vc : drawn (Am.rfA (Am.rfC 7 cQ)) = false := by kernel_rfl
theorem Vb : drawn (Am.rfB (Am.rfC 7 cQ)) = false := by kernel_rfl
theorem Va : bM 4 (Am.rfA (Am.rfC 7 cQ)) = [] := by kernel_rfl
theorem U9 : bM 4 (Am.rfB (Am.rfC 7 cQ)) = [] := by kernel_rfl
theorem NN [bT] (ρ : Type) : jO (cJ ρ) 2 (iL (cJ ρ) 10) := by
 have hlib : EJ (cJ ρ) := Hr Ga (cJ ρ) rfl rfl rfl rfl rfl (f0 rfl)
 have hdraw : ∀ L call, jO (cJ ρ) L call → j5 (cJ ρ) L call := xX hmix
 have hcall := kz (.inr fun _ => rfl) hlib hdraw (fun n hn hE path f fn c hp hf hc => Aq (tab := nO ρ) rfl De hn hE (hdraw _ _ hE) hp hf hc) 10 (Nat.le_refl _)
 exact ⟨.inr (np 9), hcall, hlib.plain, hlib.clone, hlib.joins⟩
theorem XA {G : Nat → Prop} {p : cP} {v : cV} {ν2 : Nat → Value} {a : Act} {w1 : World} (H1 : @Sim ⟨G, [], none⟩ ν2 (cS p v) a w1) (l : Nat) (pre : List Nat) (x : Nat) (W : World) (hl : w1.heap.size ≤ l) (hI : CI G p v ν2 w1 pre W) (hok : bW (pre.length + 1) = true) {u : Value} (hu : ∀ [bT] (ν : Nat → Value) (h : List Blk) (w : World), VR ν h w (.agg (flat bj (gz (bR v) x))) u) :
 (Am.rfA (Am.rfC 7 cQ)).wpIn (Fence.wide.inRound l) 0 Tryz.prog (Exit.then (fun a' Wa => KeepsFrom w1.heap.size W Wa ∧ ∀ r', (∃ r, Wa.heap[l]? = some (.loop r)) →
  (Am.rfB (Am.rfC 7 cQ)).wpIn (Fence.wide.inRound l) 0 Tryz.prog (Exit.then (fun _ W3 => KeepsFrom w1.heap.size (Wa.putObj l (.loop r')) W3 ∧ CI G p v ν2 w1 (pre ++ [x]) W3) (fun _ _ _ => False)) a' (Wa.putObj l (.loop r'))) (fun _ _ _ => False)) { tmps := a.tmps.setIfInBounds 60 u, defers := [] } W := by
 letI : bT := ⟨G, [], some l⟩
 have H1h : HR ν2 (cS p v).h w1 := HR_ghost (@Sim.heap ⟨G, [], none⟩ _ _ _ _ H1)
 obtain ⟨ν', H0, ev⟩ := hI
 have H : HR ν' (cS p (cO v (pre.map (gz (bR v))))).h W := HR_ghost H0
 obtain ⟨v', hv'⟩ : ∃ v', v' = cO v (pre.map (gz (bR v))) := ⟨_, rfl⟩
 rw [← hv'] at H ev
 have ht : (cS p v').t = (cS p v).t := by rw [hv']; exact cS_t _ _ _
 have hml := uZ H1h ev (ZF p v) (SQ _ _) (t := [false]) (by simp)
 have simA : Sim ν' (cS p v') { tmps := a.tmps, defers := [] } W := by
  refine ⟨rfl, ?_, fun i => ?_, H⟩
  ·rw [ht]; show _ ≤ a.tmps.size; exact @Sim.len ⟨G, [], none⟩ _ _ _ _ H1
  ·rw [ht]; exact VR.pin ev (Qi rfl _ (aac p v) i) (Um (@Sim.tmps ⟨G, [], none⟩ _ _ _ _ H1 i))
 have sim0 := simA.put (Ev.refl _ _ _ _) H (some 60) (hu ν' _ W)
 have hEnv := NN (cP × Val (tyL vc))
 have hgo := Cv hEnv (path := []) rfl (Am.rfA (Am.rfC 7 cQ)) 4 _ _ ν' _ W (fun h => by rw [Vc] at h; cases h) (fun z hz => by rw [Va] at hz; cases hz) (UP p v' (gz (bR v) x) fun p u => some (p, u)) sim0 (Nat.le_trans (show 9 ≤ 10 by decide) (Nat.le_of_eq (cS_len p v').symm))
 refine wpIn_mono hgo fun e a' Wa ha => ?_
 obtain ⟨νa, Sa, sA, evA, lenA, ddA, kA⟩ := ha
 obtain ⟨rfl, p', u', hm', hk'⟩ := yF kA
 cases hk'
 obtain ⟨νb, sB, evB, lB, dB⟩ := yC _ _ _ _ _ _ _ νa a' Wa hm' sA
 have evAB : Ev 9 ν' (cS p v').h W νb (cU p v' (gz (bR v) x)).h Wa := evA.trans evB (Nat.le_refl _)
 have evT := ev.trans evAB (Nat.le_refl _)
 have hmu := uZ H1h evT (ZF p v) (aaZ _ _ _) (t := [false, false]) (by simp)
 refine ⟨DP H hml evAB, fun r' ⟨r, hr⟩ => ?_⟩
 have hlt : l < Wa.heap.size := dv hr
 have K : fD Wa (Wa.putObj l (.loop r')) := ⟨by simp [World.putObj], fun b c e q hb => by
  rw [World.putObj_heap_other (fun e' => by subst e'; rw [hr] at hb; cases hb)]; exact hb⟩
 have sC : Sim νb (cU p v' (gz (bR v) x)) a' (Wa.putObj l (.loop r')) := sB.ckeep K (fun id k q es b hb hν => World.putObj_heap_other (by have := hmu id k q es b hb hν; omega)) (Ny rfl _ (cU_mf _ _ _)) (Qi rfl _ (cU_mft _ _ _))
 have evO : Ev 9 ν2 (cS p v).h w1 νb (cU p v' (gz (bR v) x)).h (Wa.putObj l (.loop r')) := evT.own (grownBy_putObj' Wa l _) fun q e => by cases e; exact hl
 have hEnv2 := NN (cP × cV)
 have law := UO p v' (gz (bR v) x) fun p v => some (p, v)
 have hrow : qC v' = pre.map (gz (bR v)) := by rw [hv']; rfl
 rw [hrow] at law
 simp only [List.length_map, List.length_cons, List.length_nil, Nat.zero_add, hok, ca] at law
 have hgo2 := Cv hEnv2 (path := []) rfl (Am.rfB (Am.rfC 7 cQ)) 4 _ _ νb _ _ (fun h => by rw [Vb] at h; cases h) (fun z hz => by rw [U9] at hz; cases hz) law sC (Nat.le_trans (show 9 ≤ 11 by decide) (Nat.le_of_eq (cU_len p v' (gz (bR v) x)).symm))
 refine wpIn_mono hgo2 fun e a3 W3 hb => ?_
 obtain ⟨νc, Sc, sD, evC, lenC, ddC, kC⟩ := hb
 obtain ⟨rfl, p', u', hm', hk'⟩ := yF kC
 cases hk'
 obtain ⟨νd, sE, evD, lD, dD⟩ := yC _ _ _ _ _ _ _ νc a3 W3 hm' sD
 have evCD := evC.trans evD (Nat.le_refl _)
 refine ⟨DP sC.heap hmu evCD, νd, ?_⟩
 have hput : cO v' (pre.map (gz (bR v)) ++ [gz (bR v) x]) = cO v ((pre ++ [x]).map (gz (bR v))) := by
  rw [hv', List.map_append]; rfl
 rw [← hput]
 exact ⟨HR_ghost sE.heap, evO.trans evCD (Nat.le_refl _)⟩
noncomputable def SZ (G : Nat → Prop) (y : Val ba) (w : World) (e : Ending) (w' : World) : Prop :=
 ∃ u, e = .returned u ∧ RR w' G [ba] y u ∧ (∀ b, b < w.heap.size → w'.heap[b]? = w.heap[b]?) ∧ w.heap.size ≤ w'.heap.size ∧ w'.os = w.os ∧ w'.tape = w.tape ∧ w'.output = w.output
noncomputable def SF (u : Val (tyL il)) : Val ba := ((u.1, u.2.1), u.2.2.1, u.2.2.2.1, u.2.2.2.2.1, u.2.2.2.2.2.1, u.2.2.2.2.2.2)
theorem Zp (p : cP) (v : cV) : la p v (fun y => (fun u => some (SF u)) (jb y)) = la p v some := by kernel_rfl
theorem Xz (u : Val (tyL il)) : jb (SF u) = u := by kernel_rfl
theorem aa0 (y : Val ba) : (gX mV [] il () (jb y)).h.map Qp = [false] := by kernel_rfl
theorem Zm {G : Nat → Prop} {p : cP} {v : cV} {y : Val ba} {ν : Nat → Value} {a : Act} {w0 W : World} {D : Nat} (H : @Sim ⟨G, [], none⟩ ν (cS p v) a W) (hB : la p v some = some y) (hD : W.heap[D]? = some (.deferred (some []))) (hnl : ¬ SY ν (cS p v).h D)
 (hev : Ev 0 (fun _ => undef) [] w0 ν (cS p v).h W) (hDl : w0.heap.size ≤ D) :
 (Am.postC 7 cQ).wpIn Fence.wide 2 Tryz.prog (bodyPostM Fence.wide 2 Tryz.prog Tryz.f79 (SZ G y w0)) { a with defers := TF D :: a.defers } W := by
 have hdf : a.defers = [] := @Sim.defers ⟨G, [], none⟩ _ _ _ _ H
 letI : bT := ⟨G, [TF D], none⟩
 have sim : Sim ν (cS p v) { a with defers := TF D :: a.defers } W := ⟨by show TF D :: a.defers = [TF D]; rw [hdf], (show _ ≤ a.tmps.size from @Sim.len ⟨G, [], none⟩ _ _ _ _ H), fun i => Um (@Sim.tmps ⟨G, [], none⟩ _ _ _ _ H i), HR_ghost (@Sim.heap ⟨G, [], none⟩ _ _ _ _ H)⟩
 have hEnv := NN (Val ba)
 have hdraw : ∀ L call, jO (cJ (Val ba)) L call → j5 (cJ (Val ba)) L call := xX hmix
 have law := Pr p v fun u => some (SF u)
 rw [Zp, hB] at law
 have hL : ∀ z ∈ bM 0 (Am.postC 7 cQ), lV (cJ (Val ba)) [] 79 z.1 z.2 := fun z hz =>
  Aq (E := cJ (Val ba)) (tab := nO _) rfl De (n := 10) (Nat.le_refl _) hEnv (hdraw _ _ hEnv) rfl Tryz.func79 nP z (TI 7 cQ 0 zd hz)
 have hgo := jF hEnv (hdraw _ _ hEnv) rfl (Am.postC 7 cQ) 0 _ _ ν _ W hL law sim (Nat.zero_le _)
 rw [AC rfl] at hgo
 refine wpIn_wide.2 (wpIn_wide.1 (wpIn_mono hgo fun e a' W' ha => ?_))
 obtain ⟨νa, Sa, sA, evA, _, _, kA⟩ := ha
 obtain ⟨rfl, u, hm, hk⟩ := WB kA
 cases hk
 obtain ⟨νb, sB, evB, _, _⟩ := yC _ _ _ _ _ _ _ νa a' W' hm sA
 have hu : gX mV [] il () u = gX mV [] il () (jb (SF u)) := by rw [Xz]
 rw [hu] at sB evB
 have evT := (evA.trans evB (Nat.le_refl _))
 have hD' : W'.heap[D]? = some (.deferred (some [])) := (evT.keep D (dv hD) hnl).1.trans hD
 have hd' : a'.defers = [TF D] := sB.defers
 show LeavesInM _ _ _ _ _ _ a'.defers _ _
 rw [hd']
 refine ⟨by simp, .inl ⟨D, _, rfl, run_takeDeferred hD', ?_⟩⟩
 have hlt := dv hD'
 have K : fD W' (W'.putObj D (.deferred none)) := ⟨by simp [World.putObj], fun b c e q hb => by
  rw [World.putObj_heap_other (fun e' => by subst e'; rw [hD'] at hb; cases hb)]; exact hb⟩
 have sC := sB.ckeep K (fun id k q es b hb hν => by
  have := Co _ id (by rw [hb]; rfl)
  rw [aa0] at this
  rcases id with _ | id <;> simp at this) (Ny rfl _ (cR_mf _)) (Qi rfl _ (cR_mft _))
 obtain ⟨uu, q1, q2⟩ := Bh sC (RN (SF u))
 have hall := hev.trans evT (Nat.le_refl _)
 refine ⟨uu, q1, uu, rfl, LC sC.heap [ba] q2 (show dz [ba] _ (enc ba (SF u)) = some (SF u) from rfl), fun b hb => ?_, ?_, hall.os, hall.tape, hall.output⟩
 ·rw [World.putObj_heap_other (by omega)]
  exact (hall.keep b hb fun ⟨_, h, _⟩ => by cases h).1
 ·have := hall.size
  simpa [World.putObj] using this
theorem Zq (x : Val (.pair ba (.pair (.slice aY) (.slice aY)))) : ze x.1 x.2.1 x.2.2 cutK = mH.F x := by kernel_rfl
noncomputable def encG (g : Val bj) : Value := .agg #[.int .i64 g.1, .int .i64 g.2.1, .int .i64 g.2.2.1, .int .i64 g.2.2.2.1.1, .int .i64 g.2.2.2.1.2, .int .i64 g.2.2.2.2.1.1, .int .i64 g.2.2.2.2.1.2, .int .i64 g.2.2.2.2.2]
theorem aaP [bT] (g : Val bj) (ν : Nat → Value) (h : List Blk) (w : World) : VR ν h w (.agg (flat bj g)) (encG g) :=
 ⟨_, rfl, ⟨rfl, rfl⟩, ⟨rfl, rfl⟩, ⟨rfl, rfl⟩, ⟨rfl, rfl⟩, ⟨rfl, rfl⟩, ⟨rfl, rfl⟩, ⟨rfl, rfl⟩, ⟨rfl, rfl⟩, trivial⟩
theorem Zo (G : Nat → Prop) (x : Val (tyL mH.ts)) (y : Val ba) (hF : mH.F x = some y) (w : World) (vals : List Value) (hG : ∀ b, G b → b < w.heap.size) (hAL : AL w G mH.ts x vals) :
 (∃ fn c, Tryz.prog.funcs[79]? = some fn ∧ fn.body = some c) ∧ CallsIn Fence.wide 0 Tryz.prog 79 vals.toArray w (SZ G y w) := by
 letI : bT := ⟨G, [], none⟩
 have hlib : EJ (eX (Val ba)) := Hr Ga _ rfl rfl rfl rfl rfl (f0 rfl)
 have hdraw : ∀ L call, jO (eX (Val ba)) L call → j5 (eX (Val ba)) L call := xX hmix
 have hloops : SX (eX (Val ba)) := fun n hn hE hD path f fn c hp hf hc => Aq (tab := xo _) rfl RP hn hE hD hp hf hc
 have hcall := kz (.inl ⟨rfl, rfl⟩) hlib hdraw (fun n hn hE => hloops n hn hE (hdraw _ _ hE)) 10 (Nat.le_refl _)
 have hEnv : jO (eX (Val ba)) 2 (iL (eX (Val ba)) 10) := ⟨.inr (np 9), hcall, hlib.plain, hlib.clone, hlib.joins⟩
 have H : HR (fun _ => undef) [] w := ⟨fun _ => trivial, fun _ _ _ h => (by cases h), hG, fun _ _ h => (by cases h)⟩
 have hav : ∀ b, Av (fun _ => undef) [] b → G b := fun b hb => hb.elim (fun ⟨_, h, _⟩ => by cases h) id
 have hargs : cH (VR (fun _ => undef) [] w) (dj mH.ts x) vals := AL.VR (hAL.mono hav)
 refine ⟨⟨Tryz.f79, _, Tryz.func79, nP⟩, ?_⟩
 have hlen : vals.length = 3 := hargs.length.symm
 refine callsIn_wide.2 (callsIn_wide.1 (callsIn_of_wp_marks (n := 2) Tryz.func79 nP trivial ?_ (R := SZ G y w)))
 have hS : Sim (fun _ => undef) { t := dj mH.ts x ++ List.replicate 127 .any, h := [] } { tmps := vals.toArray ++ Array.replicate (Tryz.f79.ntmps - vals.toArray.size) undef, defers := [] } w := by
  refine ⟨rfl, ?_, fun i => ?_, H⟩
  ·have : Tryz.f79.ntmps = 130 := by kernel_rfl
   have hl2 : (dj mH.ts x).length = 3 := rfl
   simp [this, hlen, hl2]
  ·simp only [Hq]
   rcases Nat.lt_or_ge i (dj mH.ts x).length with hi | hi
   ·have := cH.lk (R := VR (fun _ => undef) [] w) (fun _ => trivial) i hargs
    have hv : i < vals.length := by rw [← hargs.length]; exact hi
    have h2 : (vals.toArray ++ Array.replicate (Tryz.f79.ntmps - vals.toArray.size) undef).getD i undef = vals.getD i undef := by
     simp [Array.getD_eq_getD_getElem?, Array.getElem?_append, hv]
    rw [h2]; exact this
   ·rw [WT _ _ hi]; trivial
 have law := (RO x cutK).trans ((Zq x).trans hF)
 refine peelN rfl hEnv (hdraw _ _ hEnv) rfl (path := []) rfl (fun e S hne h => hne (yF h).1) 7 cQ _ _ _ _ zd (fun z hz => hloops 10 (Nat.le_refl _) hEnv (hdraw _ _ hEnv) [] 79 Tryz.f79 cQ rfl Tryz.func79 nP z hz) law hS (fun ν1 S1 a1 w1 s1 e1 k1 => ?_)
 obtain ⟨_, p, v, hm, hk⟩ := yF k1
 obtain ⟨hrow, hk⟩ := SE hk
 cases hz : vl (bR v) (dY v) with
 | none => rw [hz] at hk; cases hk
 | some z =>
 rw [hz] at hk
 have hB : la p (cO v z) some = some y := hk
 obtain ⟨hzl, hzs⟩ := W4 hz
 obtain ⟨ν2, s2, e2, _, _⟩ := yC _ _ _ _ _ _ _ ν1 a1 w1 hm s1
 have evw := e1.trans e2 (Nat.le_refl _)
 have hv0 : cO v [] = v := by rw [← hrow]; rfl
 have s2' : Sim ν2 (cS p v) a1 w1 := s2
 -- the blocks
 obtain ⟨fa, fb, us, lo, co, ko, h5⟩ := cS_5 p v
 have hB5 := s2'.heap.blk 5
 rw [h5] at hB5
 obtain ⟨bb, cb, te, n5, hbb, hc5⟩ := hB5
 have hB6 := s2'.heap.blk 6
 rw [cS_6] at hB6
 obtain ⟨tb, ct, tt, n6, htb, hc6⟩ := hB6
 have hl5 := hc5.length
 obtain ⟨u1, u2, u3, u4, u5, u6, u7, hcb⟩ : ∃ u1 u2 u3 u4 u5 u6 u7, cb.toList = [u1, u2, u3, u4, u5, u6, u7] := by
  rcases hcs : cb.toList with _ | ⟨u1, _ | ⟨u2, _ | ⟨u3, _ | ⟨u4, _ | ⟨u5, _ | ⟨u6, _ | ⟨u7, _ | ⟨u8, t⟩⟩⟩⟩⟩⟩⟩⟩ <;> rw [hcs] at hl5 <;> simp at hl5
  exact ⟨u1, u2, u3, u4, u5, u6, u7, rfl⟩
 rw [hcb] at hc5
 obtain ⟨_, _, hc3, _⟩ := hc5
 have hg3 : CR w1 (Av ν2 (cS p v).h) (.slice bj) (bR v) [u3] := hc3.1
 obtain ⟨base, cap, eu3, hcap, hgl⟩ := hg3
 have eu3 : u3 = .slice base (bR v).length cap := by simpa using eu3
 obtain ⟨gb, go, hgb⟩ : ∃ gb go, 0 < (bR v).length → base = some ⟨gb, go, none⟩ ∧ ¬ Av ν2 (cS p v).h gb ∧ gb < w1.heap.size ∧ ∀ (i : Nat) (g : Val bj), (bR v)[i]? = some g → ∃ us, CR w1 (Av ν2 (cS p v).h) bj g us ∧ dH w1 gb (go + i * 8) us := by
  rcases hgl with hgl | ⟨gb, go, q1, q2, q3, q4⟩
  ·exact ⟨0, 0, fun h => by rw [show (bR v) = [] from hgl] at h; simp at h⟩
  ·exact ⟨gb, go, fun _ => ⟨q1, q2, q3, q4⟩⟩
 obtain ⟨gl, hgle⟩ : ∃ gl, gl = bR v := ⟨_, rfl⟩
 rw [← hgle] at hgb eu3
 have hR : ∀ b, (0 < gl.length ∧ b = gb) → b < w1.heap.size ∧ ¬ SY ν2 (cS p v).h b := fun b ⟨h, e⟩ => by subst e; obtain ⟨_, q2, q3, _⟩ := hgb h; exact ⟨q3, fun hl => q2 (.inl hl)⟩
 have hnd : ∀ pre W, CI G p v ν2 w1 pre W → KNd w1 (fun b => 0 < gl.length ∧ b = gb) tb (dY v) W := fun pre W hI => hI.nd s2'.heap hR n6
 have hI0 : CI G p v ν2 w1 [] w1 := by
  refine ⟨ν2, ?_, ?_⟩
  ·rw [show cO v (([] : List Nat).map (gz (bR v))) = v from hv0]; exact s2'.heap
  ·rw [show cO v (([] : List Nat).map (gz (bR v))) = v from hv0]; exact Ev.refl _ _ _ _
 have hp59 := s2'.tmps 59
 rw [cS_59] at hp59
 have hg : a1.tmps.getD 59 undef = .func (.func 218) #[] #[.pointer (some ⟨bb, 0, none⟩), .pointer (some ⟨tb, 0, none⟩)] := by
  obtain ⟨fs, cs, h1, h2, h3⟩ := hp59
  have e1 : fs = #[] := by rw [← Array.toList_inj]; exact h2.nil_left
  have hl := h3.length
  obtain ⟨v1, v2, e2⟩ : ∃ v1 v2, cs.toList = [v1, v2] := by
   rcases hcs : cs.toList with _ | ⟨v1, _ | ⟨v2, _ | ⟨v3, t⟩⟩⟩ <;> rw [hcs] at hl <;> simp at hl
   exact ⟨v1, v2, rfl⟩
  rw [e2] at h3
  have e3 : v1 = .pointer (some ⟨bb, 0, none⟩) := uM (w := w1) (id := 5) (off := 0) h3.1 n5
  have e4 : v2 = .pointer (some ⟨tb, 0, none⟩) := uM (w := w1) (id := 6) (off := 0) h3.2.1 n6
  rw [h1, e1]
  congr 1
  rw [← Array.toList_inj, e2, e3, e4]
 have hcbe : cb = #[u1, u2, .slice base gl.length cap, u4, u5, u6, u7] := by rw [← Array.toList_inj, hcb, eu3]
 have hseq : SeqStopsK Fence.wide 1 Tryz.prog 218 #[.pointer (some ⟨bb, 0, none⟩), .pointer (some ⟨tb, 0, none⟩)] (fun j : Nat => #[encG (gz gl j)]) (fun A B => KNd w1 (fun b => 0 < gl.length ∧ b = gb) tb (dY v) A → KNd w1 (fun b => 0 < gl.length ∧ b = gb) tb (dY v) B)
  (fun xs => xs = IF (fun j => D4 (dY v) (gz gl j).1) gl.length) (fun _ => True) (IF (fun j => D4 (dY v) (gz gl j).1) gl.length).length w1 := by
  intro l J Jx W hbel hJ hJx hY h0
  refine aaG te 1 (by omega) l bb tb u1 u2 u4 u5 u6 u7 gb go gl.length cap base (fun h => (hgb h).1) (fun j => (gz gl j).1) (fun j => (gz gl j).2.1) (fun j => (gz gl j).2.2.1) (fun j => (gz gl j).2.2.2.1.1) (fun j => (gz gl j).2.2.2.1.2) (fun j => (gz gl j).2.2.2.2.1.1) (fun j => (gz gl j).2.2.2.2.1.2) (fun j => (gz gl j).2.2.2.2.2)
   (fun j => D4 (dY v) (gz gl j).1) ?len (KNd w1 (fun b => 0 < gl.length ∧ b = gb) tb (dY v)) W ((hbel.block bb (dv hbb)).trans (by rw [hbb, hcbe])) ?cells ?maps (fun W1 W2 h hg => h.grown (fun b hb => (hR b hb).1) hg) ((hnd [] w1 hI0).below (fun b hb => (hR b hb).1) hbel.size hbel.block)
   J Jx (fun pre W1 W2 hj hg => hJ pre W1 W2 none hj hg (fun r e => by cases e)) (fun pre W1 W2 hj hg => hJx pre W1 W2 none hj hg (fun r e => by cases e)) (fun pre j W1 hj hl => hY pre j W1 hj hl) h0
  case len =>
   have := hzl
   rw [← hgle] at this
   simp only [bW, decide_eq_true_eq] at this
   omega
  case cells =>
   intro W' hW j hj
   obtain ⟨q1, q2, q3, q4⟩ := hgb (by omega)
   obtain ⟨vs, r1, r2⟩ := q4 j (gz gl j) (by simp [gz, List.getElem?_eq_getElem hj])
   have r2 := r2.keep (w' := W') (hW.2.1 gb ⟨by omega, rfl⟩)
   rw [Sw r1] at r2
   refine ⟨?_, ?_, ?_, ?_, ?_, ?_, ?_, ?_⟩
   ·simpa using r2 0 _ rfl
   ·simpa [Nat.add_assoc] using r2 1 _ rfl
   ·simpa [Nat.add_assoc] using r2 2 _ rfl
   ·simpa [Nat.add_assoc] using r2 3 _ rfl
   ·simpa [Nat.add_assoc] using r2 4 _ rfl
   ·simpa [Nat.add_assoc] using r2 5 _ rfl
   ·simpa [Nat.add_assoc] using r2 6 _ rfl
   ·simpa [Nat.add_assoc] using r2 7 _ rfl
  case maps =>
   intro W' hW
   obtain ⟨_, _, h3, mb, h4, h5, h6⟩ := id hW
   refine ⟨.map (some mb), fun W'' hg => ?_⟩
   obtain ⟨k1, _, k3, mb', k4, k5, k6⟩ := hW.grown (fun b hb => (hR b hb).1) hg
   have : mb' = mb := by
    have e := World.cell?_of_block (a := ⟨tb, 0, none⟩) (hg.block tb (Nat.lt_of_lt_of_le h3 hW.1) (by simp))
    rw [e, h5] at k5
    cases k5; rfl
   subst this
   exact ⟨k5, fun j _ => YY k6 _⟩
 rw [UN]
 refine wpIn_block (II (n := 2) rfl (by omega) hg trivial (fun args w => ?eg) hseq (fun h k => fun q => k (h q)) (fun W l o o' hl ho _ _ hW => ?kb) (Below.refl _ _) (fun _ => rfl) (CI G p v ν2 w1) (CI.own s2'.heap) hI0 (fun l pre j W hl _ hI hlt => ?round) (fun D xs W hD hxs hI hDo => ?done))
 case eg => simp [callFunc, Sem.run_bind, run_program, Result.andThen_ok, Tryz.func218, plain 218 _ Tryz.func218, show Tryz.f218.body.isNone = false from rfl]; rfl
 case kb => exact hW.below (fun b hb => (hR b hb).1) (by simp [World.putObj]) fun b hb => World.putObj_heap_other (by omega)
 case round =>
  have hf : ∀ u : Value, ((#[60] : Array Tmp).zip #[u]).foldl (fun t (p, v) => t.setIfInBounds p v) a1.tmps = a1.tmps.setIfInBounds 60 u := fun u => by simp
  show Code.wpIn (Fence.wide.inRound l) 0 Tryz.prog _ _ ⟨((#[60] : Array Tmp).zip #[encG (gz gl j)]).foldl (fun t (p, v) => t.setIfInBounds p v) a1.tmps, []⟩ W
  rw [hf]
  refine wpIn_mono (XA s2' l pre j W hl hI ?_ (u := encG (gz gl j)) (by rw [hgle]; exact fun ν h w => aaP _ ν h w)) fun e a' Wa ha => ?_
  ·refine YN hzl ?_
   have := Rq (fun j => D4 (dY v) (gz gl j).1) gl.length
   rw [← hgle]
   omega
  ·cases e with
   | normal =>
     refine ⟨ha.1, fun r' hr => wpIn_mono (ha.2 r' hr) fun e a3 W3 hb => ?_⟩
     cases e with
     | normal => exact ⟨hb.1, fun _ => hnd _ _ hb.2, hb.2⟩
     | _ => exact hb
   | _ => exact ha
 case done =>
  subst hxs
  obtain ⟨ν', Hd, evd⟩ := hI
  have hzz : (IF (fun j => D4 (dY v) (gz gl j).1) gl.length).map (gz (bR v)) = z := by rw [hzs, hgle]
  rw [hzz] at Hd evd
  have hml := uZ s2'.heap evd (ZF p v) (SQ _ _) (t := [false]) (by simp)
  have ht : (cS p (cO v z)).t = (cS p v).t := cS_t _ _ _
  have simD : Sim ν' (cS p (cO v z)) a1 W := by
   refine ⟨s2'.defers, ?_, fun i => ?_, Hd⟩
   ·rw [ht]; exact s2'.len
   ·rw [ht]; exact VR.pin evd (Qi rfl _ (aac p v) i) (s2'.tmps i)
  exact Zm simD hB hDo (KP Hd hml hD hDo rfl) (evw.trans (evd.mono (Nat.zero_le _)) (Nat.le_refl _)) (Nat.le_trans evw.size hD)
theorem XJ : bq Tryz.prog 79 mH := fun G x y hF w vals hG hAL => Zo G x y hF w vals hG hAL
end Go.Proofs.ZzM
end
noncomputable section
set_option maxRecDepth 100000
namespace Go.Proofs.ZzM
open Go Go.Am
theorem Vm : bq Tryz.prog 29 Kk := bh (C9 _) (fun {_} => dV bf _) hmix (tab := vW _) rfl bf (bc fun x => IP x some)
theorem Zy : bq Tryz.prog 13 Tt := bh (Bs _) (fun {_} => dV (aX Vm bf) _) hmix (tab := C8 _) rfl (aX IO bf) (bc fun x => Pm x some)
theorem Uc : bq Tryz.prog 54 LN := bh (vh _) (fun {_} => dV (aX kE bf) _) hmix (tab := DB _) rfl (aX JG (aX JF bf)) (bc fun x => P1 x some)
theorem hZ : bq Tryz.prog 130 eR := bh (ee _) (fun {_} => dV bf _) hmix (tab := fW _) rfl (aX ju bf) (bc fun x => kd x some)
theorem DZ : bq Tryz.prog 87 sU := bh (wA _) (fun {_} => dV (aX hZ bf) _) hmix (tab := sk _) rfl bf (bc fun x => EA x some)
theorem EF : bq Tryz.prog 224 rN := bh (od _) (fun {_} => dV bf _) hmix (tab := lQ _) rfl bf (bc fun x => vJ x some)
theorem uL : bq Tryz.prog 227 pj := bh (xz _) (fun {_} => dV (aX AZ bf) _) hmix (tab := zI _) rfl (aX GM bf) (bc fun x => MK x some)
theorem Ih : bq Tryz.prog 277 w9 := bh (zJ _) (fun {_} => dV (aX T8 (aX XQ bf)) _) hmix (tab := tP _) rfl bf (bc fun x => GO x some)
theorem aaY : bq Tryz.prog 262 Wb := bh (PR _) (fun {_} => dV (aX uL (aX Ih bf)) _) hmix (tab := GW _) rfl bf (bc fun x => R3 x some)
theorem NU : bq Tryz.prog 225 yy := bh (tS _) (fun {_} => dV (aX aaY bf) _) hmix (tab := pN _) rfl bf (bc fun x => Cc x some)
theorem SM : bq Tryz.prog 287 RC := bh (PP _) (fun {_} => dV bf _) hmix (tab := GT _) rfl bf (bc fun x => R1 x some)
theorem wN : bq Tryz.prog 278 vU := bh (sh _) (fun {_} => dV (aX uL (aX SM bf)) _) hmix (tab := oc _) rfl bf (bc fun x => zM x some)
theorem XS : bq Tryz.prog 281 Wc := bh (PT _) (fun {_} => dV (aX uL (aX Ih bf)) _) hmix (tab := GY _) rfl bf (bc fun x => R5 x some)
theorem XR : bq Tryz.prog 263 O2 := OI (xB _) (PS _) (fun {_} => Hr (aX AZ (aX wN (aX XS (aX SM bf)))) (xB _) rfl rfl rfl rfl rfl (f0 rfl)) (fun {_} => dV (aX AZ (aX wN (aX XS (aX SM bf)))) _) rfl hmix (tab := qP _) rfl bf (us := Dv) rfl (aX (by kernel_rfl) bf) (bc fun x => MP x some)
theorem NT : bq Tryz.prog 226 yx := bh (tR _) (fun {_} => dV (aX XR bf) _) hmix (tab := pM _) rfl bf (bc fun x => Cb x some)
theorem Lg : bq Tryz.prog 171 Bo := bh (DE _) (fun {_} => dV (aX rC (aX A0 (aX EF (aX NU (aX NT bf))))) _) hmix (tab := wD _) rfl bf (bc fun x => JM x some)
theorem QX : bq Tryz.prog 172 FP := bh (Hg _) (fun {_} => dV bf _) hmix (tab := Ac _) rfl bf (bc fun x => Ng x some)
theorem QV : bq Tryz.prog 228 FM := bh (GR _) (fun {_} => dV bf _) hmix (tab := zK _) rfl bf (bc fun x => MN x some)
theorem T9 : bq Tryz.prog 173 LK := bh (KI _) (fun {_} => dV (aX uL (aX QV bf)) _) hmix (tab := Dx _) rfl bf (bc fun x => PV x some)
theorem QW : bq Tryz.prog 174 FN := bh (GZ _) (fun {_} => dV (aX uL (aX QV bf)) _) hmix (tab := zN _) rfl bf (bc fun x => MQ x some)
theorem Ua : bq Tryz.prog 200 LL := bh (KJ _) (fun {_} => dV (aX Lg (aX QX (aX T9 (aX QW bf)))) _) hmix (tab := Dz _) rfl bf (bc fun x => PY x some)
theorem Ub : bq Tryz.prog 62 LM := bh (pO _) (fun {_} => dV (aX Uc (aX Ii (aX DZ (aX A0 (aX Ud (aX Ua bf)))))) _) hmix (tab := DA _) rfl (aX JD (aX JE (aX JC bf))) (bc fun x => P0 x some)
theorem eN : bq Tryz.prog 20 eI := bh (DI _) (fun {_} => dV (aX dU (aX Ub bf)) _) hmix (tab := wF _) rfl bf (bc fun x => JS x some)
theorem iM : bq Tryz.prog 60 iE := bh (Hn _) (fun {_} => dV (aX dU (aX Ii (aX hZ bf))) _) hmix (tab := Ap _) rfl bf (bc fun x => Nu x some)
theorem kD : bq Tryz.prog 55 iS := bh (yR _) (fun {_} => dV (aX iM bf) _) hmix (tab := ti _) rfl bf (bc fun x => F2 x some)
theorem NS : bq Tryz.prog 134 ER := bh (KB _) (fun {_} => dV bf _) hmix (tab := Dl _) rfl bf (bc fun x => PE x some)
theorem uK : bq Tryz.prog 133 ph := bh (xy _) (fun {_} => dV (aX NS bf) _) hmix (tab := zD _) rfl (aX GD bf) (bc fun x => MH x some)
theorem uJ : bq Tryz.prog 135 nz := bh (fF _) (fun {_} => dV bf _) hmix (tab := sc _) rfl (aX zx (aX zw (aX zt (aX zu (aX zr bf))))) (bc fun x => Eo x some)
theorem XN : bq Tryz.prog 63 OZ := bh (xx _) (fun {_} => dV (aX uK (aX NS (aX uJ bf))) _) hmix (tab := zA _) rfl (aX Gv bf) (bc fun x => MF x some)
theorem Vp : bq Tryz.prog 64 Kn := bh (g9 _) (fun {_} => dV bf _) hmix (tab := wi _) rfl (aX Ew (aX Eu (aX Et (aX Er (aX Es bf))))) (bc fun x => Jj x some)
theorem Ig : bq Tryz.prog 89 yv := bh (GJ _) (fun {_} => dV (aX XN (aX Vp bf)) _) hmix (tab := zH _) rfl bf (bc fun x => MJ x some)
theorem kQ : bq Tryz.prog 56 iD := bh (rS _) (fun {_} => dV (aX Ig bf) _) hmix (tab := nJ _) rfl bf (bc fun x => yQ x some)
theorem wM : bq Tryz.prog 121 oy := bh (rR _) (fun {_} => dV (aX kD (aX kQ bf)) _) hmix (tab := nI _) rfl bf (bc fun x => yP x some)
theorem qf : bq Tryz.prog 122 j7 := bh (mR _) (fun {_} => dV (aX kD (aX kQ bf)) _) hmix (tab := kZ _) rfl bf (bc fun x => tg x some)
theorem kB : bq Tryz.prog 51 ii := bh (iX _) (fun {_} => Hr (aX wM (aX qf bf)) (iX _) rfl rfl rfl rfl rfl (f0 rfl)) hmix (tab := kY _) rfl bf (bc fun x => tf x some)
theorem ou : bq Tryz.prog 61 nA := bh (Ck _) (fun {_} => dV (aX dU bf) _) hmix (tab := DL _) rfl (aX JU bf) (bc fun x => Qb x some)
theorem eG : bq Tryz.prog 123 eE := bh (se _) (fun {_} => dV (aX uK (aX uJ bf)) _) hmix (tab := nW _) rfl bf (bc fun x => zB x some)
theorem DY : bq Tryz.prog 15 sT := bh (oG _) (fun {_} => dV (aX eN (aX dU (aX kB (aX iM (aX ou (aX eG bf)))))) _) hmix (tab := rW _) rfl (aX zn bf) (bc fun x => Ei x some)
theorem Ie : bq Tryz.prog 17 w7 := bh (qJ _) (fun {_} => dV (aX eN (aX dU (aX kD (aX kQ (aX iM (aX ou (aX eG bf))))))) _) hmix (tab := tE _) rfl (aX BP bf) (bc fun x => Gl x some)
theorem Lh : bq Tryz.prog 129 Bp := bh (DM _) (fun {_} => dV (aX A0 (aX Lf bf)) _) hmix (tab := wG _) rfl bf (bc fun x => JV x some)
theorem Zz : bq Tryz.prog 57 Tu := bh (KA _) (fun {_} => dV (aX Lh bf) _) hmix (tab := Da _) rfl bf (bc fun x => Pn x some)
theorem XI : bq Tryz.prog 58 OV := bh (F8 _) (fun {_} => dV bf _) hmix (tab := zc _) rfl bf (bc fun x => Mk x some)
theorem XH : bq Tryz.prog 59 OU := bh (xn _) (fun {_} => dV (aX d8 bf) _) hmix (tab := zb _) rfl (aX F3 bf) (bc fun x => Mi x some)
theorem ZB : bq Tryz.prog 18 Tw := bh (ve _) (fun {_} => dV (aX eN (aX dU (aX kB (aX Zz (aX XI (aX XH (aX iM (aX ou (aX eG bf))))))))) _) hmix (tab := Dj _) rfl (aX Jd (aX Jc bf)) (bc fun x => PA x some)
theorem xZ : bq Tryz.prog 69 wY := bh (yO _) (fun {_} => dV bf _) hmix (tab := tc _) rfl bf (bc fun x => F0 x some)
theorem XL : bq Tryz.prog 25 OX := bh (xt _) (fun {_} => dV (aX eN (aX dU (aX kB (aX iM (aX ou (aX xZ (aX eG bf))))))) _) hmix (tab := zm _) rfl (aX Gf bf) (bc fun x => My x some)
theorem Ue : bq Tryz.prog 41 LQ := bh (Ci _) (fun {_} => dV (aX dU bf) _) hmix (tab := DH _) rfl (aX JR bf) (bc fun x => P8 x some)
theorem XU : bq Tryz.prog 90 O4 := bh (G3 _) (fun {_} => dV (aX Lg (aX QX (aX T9 (aX QW bf)))) _) hmix (tab := zP _) rfl bf (bc fun x => MU x some)
theorem SP : bq Tryz.prog 40 FQ := bh (Al _) (fun {_} => dV (aX Ue (aX Ub (aX DZ (aX A0 (aX Ig (aX XU bf)))))) _) hmix (tab := ue _) rfl bf (bc fun x => Hm x some)
theorem XT : bq Tryz.prog 205 O3 := bh (G1 _) (fun {_} => dV (aX dU bf) _) hmix (tab := zO _) rfl bf (bc fun x => MT x some)
theorem ZD : bq Tryz.prog 142 Tz := bh (KK _) (fun {_} => dV (aX Ua (aX XT bf)) _) hmix (tab := DJ _) rfl bf (bc fun x => P9 x some)
theorem QT : bq Tryz.prog 143 C7 := bh (wa _) (fun {_} => dV (aX kD bf) _) hmix (tab := rV _) rfl bf (bc fun x => Ee x some)
theorem QS : bq Tryz.prog 144 C6 := bh (vZ _) (fun {_} => dV (aX kQ bf) _) hmix (tab := rU _) rfl bf (bc fun x => Ed x some)
theorem CN : bq Tryz.prog 71 Bm := bh (nN _) (fun {_} => Hr (aX eN (aX SP (aX Ue (aX kD (aX Lh (aX ZD (aX QT (aX QS bf)))))))) (nN _) rfl rfl rfl rfl rfl (f0 rfl)) hmix (tab := vY _) rfl (aX Ec bf) (bc fun x => I5 x some)
theorem rB : bq Tryz.prog 95 ql := bh (tp _) (fun {_} => dV bf _) hmix (tab := pr _) rfl bf (bc fun x => BA x some)
theorem Vn : bq Tryz.prog 177 Kl := bh (Dc _) (fun {_} => dV bf _) hmix (tab := wc _) rfl bf (bc fun x => I6 x some)
theorem oW : bq Tryz.prog 99 ow := bh (rP _) (fun {_} => dV (aX Vn bf) _) hmix (tab := nF _) rfl bf (bc fun x => yM x some)
theorem oX : bq Tryz.prog 101 ox := bh (iN _) (fun {_} => dV bf _) hmix (tab := nH _) rfl (aX vF (aX vG bf)) (bc fun x => yN x some)
theorem Ic : bq Tryz.prog 72 sS := bh (kg _) (fun {_} => dV (aX d8 (aX rB (aX oW (aX oX bf)))) _) hmix (tab := mN _) rfl (aX ta bf) (bc fun x => xg x some)
theorem XK : bq Tryz.prog 31 OW := bh (xq _) (fun {_} => dV (aX eN (aX dU (aX iM (aX ou (aX CN (aX Ic (aX eG bf))))))) _) hmix (tab := zf _) rfl (aX Gc bf) (bc fun x => Ms x some)
theorem If : bq Tryz.prog 145 w8 := bh (qL _) (fun {_} => dV bf _) hmix (tab := tG _) rfl (aX BX bf) (bc fun x => Gn x some)
theorem T7 : bq Tryz.prog 146 LI := bh (BQ _) (fun {_} => dV bf _) hmix (tab := Dk _) rfl (aX Jh bf) (bc fun x => PD x some)
theorem J2 : bq Tryz.prog 76 vT := bh (sg _) (fun {_} => dV (aX uK (aX NS (aX If (aX T7 bf)))) _) hmix (tab := nZ _) rfl bf (bc fun x => zF x some)
theorem AY : bq Tryz.prog 33 qm := bh (tB _) (fun {_} => dV (aX eN (aX dU (aX iM (aX J2 bf)))) _) hmix (tab := pF _) rfl bf (bc fun x => BL x some)
theorem J1 : bq Tryz.prog 86 vS := bh (sf _) (fun {_} => dV (aX uK (aX If (aX T7 bf))) _) hmix (tab := nY _) rfl bf (bc fun x => zE x some)
theorem J0 : bq Tryz.prog 39 vR := bh (rX _) (fun {_} => dV (aX eN (aX dU (aX J1 bf))) _) hmix (tab := nT _) rfl bf (bc fun x => zp x some)
theorem lO : bq Tryz.prog 254 gH := bh (dK _) (fun {_} => dV bf _) hmix (tab := fA _) rfl (aX iV bf) (bc fun x => jw x some)
theorem jU : bq Tryz.prog 210 fM := bh (fj _) (fun {_} => dV (aX lO bf) _) hmix (tab := eF _) rfl bf (bc fun x => iG x some)
theorem oV : bq Tryz.prog 256 iC := bh (eT _) (fun {_} => dV bf _) hmix (tab := gJ _) rfl (aX ka bf) (bc fun x => lF x some)
theorem mh : bq Tryz.prog 213 gS := bh (gi _) (fun {_} => dV (aX oV bf) _) hmix (tab := fP _) rfl bf (bc fun x => jT x some)
theorem nq : bq Tryz.prog 258 gY := bh (eh _) (fun {_} => dV bf _) hmix (tab := fX _) rfl (aX jv bf) (bc fun x => ke x some)
theorem lv : bq Tryz.prog 216 gd := bh (fQ _) (fun {_} => dV (aX nq bf) _) hmix (tab := fi _) rfl bf (bc fun x => jj x some)
theorem ZA : bq Tryz.prog 77 Tv := bh (fo _) (fun {_} => dV (aX jU (aX mh (aX lv bf))) _) hmix (tab := Db _) rfl (aX I3 (aX I0 (aX IZ (aX I1 (aX I2 (aX IY (aX IX (aX IW (aX IV (aX IU bf)))))))))) (bc fun x => Po x some)
theorem Vo : bq Tryz.prog 35 Km := bh (Di _) (fun {_} => dV (aX AY (aX dU (aX J0 (aX ZA bf)))) _) hmix (tab := we _) rfl bf (bc fun x => Jb x some)
theorem QU : bq Tryz.prog 156 FL := bh (BZ _) (fun {_} => dV bf _) hmix (tab := PF _) rfl (aX RX (aX RV (aX RU (aX RW bf)))) (bc fun x => WF x some)
theorem XO : bq Tryz.prog 78 O0 := bh (iZ _) (fun {_} => dV (aX uK (aX uJ (aX QU bf))) _) hmix (tab := zC _) rfl (aX GB (aX Gx (aX Gy (aX Gz (aX GA bf))))) (bc fun x => MG x some)
theorem Id : bq Tryz.prog 80 wZ := bh (qx _) (fun {_} => dV (aX eN bf) _) hmix (tab := td _) rfl (aX Bw bf) (bc fun x => F1 x some)
theorem XM : bq Tryz.prog 36 OY := bh (Gi _) (fun {_} => dV (aX eN (aX XO (aX XJ (aX Id bf)))) _) hmix (tab := zo _) rfl bf (bc fun x => Mz x some)
theorem AX : bq Tryz.prog 96 yr := bh (tv _) (fun {_} => dV bf _) hmix (tab := pD _) rfl bf (bc fun x => BI x some)
theorem AW : bq Tryz.prog 97 yq := bh (tq _) (fun {_} => dV bf _) hmix (tab := pu _) rfl bf (bc fun x => BB x some)
theorem SK : bq Tryz.prog 42 FJ := OI (qD _) (cu _) (fun {_} => Hr (aX eN (aX dU (aX iM (aX ou (aX xZ (aX CN (aX d8 (aX rB (aX AX (aX AW (aX oW (aX oX (aX eG bf))))))))))))) (qD _) rfl rfl rfl rfl rfl (f0 rfl)) (fun {_} => Hr (aX eN (aX dU (aX iM (aX ou (aX xZ (aX CN (aX d8 (aX rB (aX AX (aX AW (aX oW (aX oX (aX eG bf))))))))))))) (cu _) rfl rfl rfl rfl rfl (f0 rfl)) rfl hmix (tab := mW _) rfl (aX BH (aX BG bf)) (us := oE) rfl (aX (by kernel_rfl) bf) (bc fun x => Ge x some)
theorem QR : bq Tryz.prog 48 C5 := bh (vV _) (fun {_} => dV bf _) hmix (tab := rO _) rfl bf (bc fun x => Ea x some)
theorem XP : bq Tryz.prog 120 O1 := bh (mX _) (fun {_} => dV (aX Ig (aX QU bf)) _) hmix (tab := zG _) rfl (aX GH (aX GF (aX GG bf))) (bc fun x => MI x some)
theorem NR : bq Tryz.prog 119 yu := bh (tD _) (fun {_} => dV (aX kD (aX XP bf)) _) hmix (tab := pG _) rfl bf (bc fun x => BO x some)
theorem SL : bq Tryz.prog 49 FK := bh (jB _) (fun {_} => Hr (aX eN (aX dU (aX iM (aX ou (aX XJ (aX Id (aX NR (aX wM (aX qf (aX eG bf)))))))))) (jB _) rfl rfl rfl rfl rfl (f0 rfl)) hmix (tab := tC _) rfl (aX BN (aX BM bf)) (bc fun x => Gk x some)
theorem SJ : bq Tryz.prog 14 FI := bh (yI _) (fun {_} => dV (aX DY (aX Ie (aX ZB (aX XL (aX XK (aX AY (aX Vo (aX XM (aX SK (aX QR (aX SL bf))))))))))) _) hmix (tab := sZ _) rfl bf (bc fun x => FY x some)
theorem XV : bq Tryz.prog 52 O5 := bh (xK _) (fun {_} => dV (aX dU (aX rC (aX A4 bf))) _) hmix (tab := Aj _) rfl (aX Hk bf) (bc fun x => Nm x some)
theorem ZE : bq Tryz.prog 16 TA := bh (KL _) (fun {_} => dV (aX XV (aX rC (aX Uc bf))) _) hmix (tab := DK _) rfl bf (bc fun x => Qa x some)
theorem c_w6_SharpLater : bq Tryz.prog 3 jp := bh (pn _) (fun {_} => dV (aX Zy (aX SJ (aX DY (aX ZE (aX Ie bf))))) _) hmix (tab := mL _) rfl bf (bc fun x => xf x some)
end Go.Proofs.ZzM
end