/- lemmas -/
import Derived.Test.YthhhehllmdfhiaaGreatAmC
import Derived.Test.YthhhehllmdfhiaaGreatAmD
import Derived.Ground.NamesProg
import Derived.Ground.Names2Prog
import Derived.KernelRfl
import Derived.Test.YthhhehllmdfhiaaGreatMdMA
import Derived.Test.YthhhehllmdfhiaaGreatMdKA
import Derived.RangeFuncBox
import Derived.Lib.SliceRun
import Derived.RangeFuncLeaves
import Derived.WalkKit
import Derived.OwnWalkIn
import Derived.TacticsInMore
import Derived.LoopNIn
import Derived.LoopIn
import Derived.Test.YthhhehllmdfhiaaGreatProg
import Derived.RangeFuncFrom
import Derived.RangeFuncRecord
set_option linter.all false
set_option linter.unusedSectionVars false
set_option linter.unusedVariables false
set_option linter.unusedSimpArgs false
noncomputable section
namespace Go.Proofs
open Go.Shelf
def Tryz.laysSort_ren : Go.Shelf.Ren := ⟨fun | 189 => 127 | 125 => 197 | 257 => 196 | 128 => 251 | 129 => 252 | 294 => 242 | 295 => 243 | 296 => 244 | 297 => 245 | 298 => 246 | 299 => 247 | 216 => 248 | 300 => 249 | 301 => 250 | 328 => 269 | 329 => 270 | 330 => 271 | 331 => 272 | 332 => 273 | 215 => 274 | 343 => 286 | n => n, fun | 28 => 43 | 3 => 3 | 46 => 248 | 0 => 0 | 51 => 288 | 53 => 290 | 4 => 4 | 183 => 281 | 182 => 280 | 131 => 57 | 5 => 5 | 9 => 9 | 218 => 312 | 222 => 316 | 228 => 326 | 229 => 327 | n => n, fun | n => n⟩
theorem Tryz.laysSort : Go.Proofs.Lays.n189 Tryz.prog Tryz.laysSort_ren := {
 mixed := by kernel_rfl
 f125 := Tryz.func197.trans (congrArg some (by kernel_rfl))
 f128 := Tryz.func251.trans (congrArg some (by kernel_rfl))
 f129 := Tryz.func252.trans (congrArg some (by kernel_rfl))
 f189 := Tryz.func127.trans (congrArg some (by kernel_rfl))
 f215 := Tryz.func274.trans (congrArg some (by kernel_rfl))
 f216 := Tryz.func248.trans (congrArg some (by kernel_rfl))
 f257 := Tryz.func196.trans (congrArg some (by kernel_rfl))
 f294 := Tryz.func242.trans (congrArg some (by kernel_rfl))
 f295 := Tryz.func243.trans (congrArg some (by kernel_rfl))
 f296 := Tryz.func244.trans (congrArg some (by kernel_rfl))
 f297 := Tryz.func245.trans (congrArg some (by kernel_rfl))
 f298 := Tryz.func246.trans (congrArg some (by kernel_rfl))
 f299 := Tryz.func247.trans (congrArg some (by kernel_rfl))
 f300 := Tryz.func249.trans (congrArg some (by kernel_rfl))
 f301 := Tryz.func250.trans (congrArg some (by kernel_rfl))
 f328 := Tryz.func269.trans (congrArg some (by kernel_rfl))
 f329 := Tryz.func270.trans (congrArg some (by kernel_rfl))
 f330 := Tryz.func271.trans (congrArg some (by kernel_rfl))
 f331 := Tryz.func272.trans (congrArg some (by kernel_rfl))
 f332 := Tryz.func273.trans (congrArg some (by kernel_rfl))
 f343 := Tryz.func286.trans (congrArg some (by kernel_rfl))
 t0 := Tryz.underlying0
 a0 := Tryz.isAgg0
 z0 := Tryz.sizeOf0
 v0 := Tryz.zeroValue0
 t3 := Tryz.underlying3
 a3 := Tryz.isAgg3
 z3 := Tryz.sizeOf3
 v3 := Tryz.zeroValue3
 t4 := Tryz.underlying4
 a4 := Tryz.isAgg4
 z4 := Tryz.sizeOf4
 v4 := Tryz.zeroValue4
 t5 := Tryz.underlying5
 a5 := Tryz.isAgg5
 z5 := Tryz.sizeOf5
 v5 := Tryz.zeroValue5
 t9 := Tryz.underlying9
 a9 := Tryz.isAgg9
 z9 := Tryz.sizeOf9
 v9 := Tryz.zeroValue9
 t28 := Tryz.underlying43
 a28 := Tryz.isAgg43
 z28 := Tryz.sizeOf43
 v28 := Tryz.zeroValue43
 t46 := Tryz.underlying248
 a46 := Tryz.isAgg248
 z46 := Tryz.sizeOf248
 v46 := Tryz.zeroValue248
 t51 := Tryz.underlying288
 a51 := Tryz.isAgg288
 z51 := Tryz.sizeOf288
 v51 := Tryz.zeroValue288
 t53 := Tryz.underlying290
 a53 := Tryz.isAgg290
 z53 := Tryz.sizeOf290
 v53 := Tryz.zeroValue290
 t131 := Tryz.underlying57
 a131 := Tryz.isAgg57
 z131 := Tryz.sizeOf57
 v131 := Tryz.zeroValue57
 t182 := Tryz.underlying280
 a182 := Tryz.isAgg280
 z182 := Tryz.sizeOf280
 v182 := Tryz.zeroValue280
 t183 := Tryz.underlying281
 a183 := Tryz.isAgg281
 z183 := Tryz.sizeOf281
 v183 := Tryz.zeroValue281
 t218 := Tryz.underlying312
 a218 := Tryz.isAgg312
 z218 := Tryz.sizeOf312
 v218 := Tryz.zeroValue312
 t222 := Tryz.underlying316
 a222 := Tryz.isAgg316
 z222 := Tryz.sizeOf316
 v222 := Tryz.zeroValue316
 t228 := Tryz.underlying326
 a228 := Tryz.isAgg326
 z228 := Tryz.sizeOf326
 v228 := Tryz.zeroValue326
 t229 := Tryz.underlying327
 a229 := Tryz.isAgg327
 z229 := Tryz.sizeOf327
 v229 := Tryz.zeroValue327 }
def Tryz.laysCompact_ren : Go.Shelf.Ren := ⟨fun | 20 => 128 | n => n, fun | 22 => 43 | 3 => 3 | 4 => 4 | 0 => 0 | n => n, fun | n => n⟩
theorem Tryz.laysCompact : Go.Proofs.Lays2.n20 Tryz.prog Tryz.laysCompact_ren := {
 mixed := by kernel_rfl
 f20 := Tryz.func128.trans (congrArg some (by kernel_rfl))
 t0 := Tryz.underlying0
 a0 := Tryz.isAgg0
 z0 := Tryz.sizeOf0
 v0 := Tryz.zeroValue0
 t3 := Tryz.underlying3
 a3 := Tryz.isAgg3
 z3 := Tryz.sizeOf3
 v3 := Tryz.zeroValue3
 t4 := Tryz.underlying4
 a4 := Tryz.isAgg4
 z4 := Tryz.sizeOf4
 v4 := Tryz.zeroValue4
 t22 := Tryz.underlying43
 a22 := Tryz.isAgg43
 z22 := Tryz.sizeOf43
 v22 := Tryz.zeroValue43
 i3 := by kernel_rfl }
end Go.Proofs
namespace Go.Proofs.ZzM
open Go Go.Am
theorem hmix : Tryz.prog.follows .mixedOrders = true := by kernel_rfl
theorem plain_ : (Tryz.prog.funcs.toList.all fun fn => !(fn.name == "runtime.NumGoroutine")) = true := by kernel_rfl
theorem plain (f : Nat) (fn : Func) (h : Tryz.prog.funcs[f]? = some fn) : (fn.name == "runtime.NumGoroutine") = false := by
 have := List.all_eq_true.1 plain_ fn (List.mem_of_getElem? (i := f) (by simpa using h))
 simpa using this
theorem aTc : Tryz.laysSort_ren.f 189 = 127 := by kernel_rfl
theorem aNz : Tryz.laysCompact_ren.f 20 = 128 := by kernel_rfl
section
variable [acM] {ρ : Type}
theorem sortOk (f : Nat) (hf : aJo f = true) (h : List Blk) (x : AV) (K : AV → List Blk → Option ρ) (q : ρ) (e : aEV h x K = some q) (ν : Nat → Value) (w : World) (u : Value) (H : HR ν h w) (hx : VR ν h w x u) : axM Tryz.prog f ν h w [u] K q := by
 have h1 : f = 127 := by
  unfold aJo at hf
  split at hf
  ·rfl
  ·cases hf
 subst h1
 have := aS5 Tryz.laysSort e H hx ⟨_, rfl⟩
 rwa [aTc] at this
theorem aQt (f : Nat) (hf : apq f = true) (h : List Blk) (x : AV) (K : AV → List Blk → Option ρ) (q : ρ) (e : ajz h x K = some q) (ν : Nat → Value) (w : World) (u : Value) (H : HR ν h w) (hx : VR ν h w x u) : axM Tryz.prog f ν h w [u] K q := by
 have h1 : f = 128 := by
  unfold apq at hf
  split at hf
  ·rfl
  ·cases hf
 subst h1
 have := aOe Tryz.laysCompact e H hx ⟨_, rfl⟩
 rwa [aNz] at this
theorem aTI : awK Tryz.prog aA5 := by
 intro g hg fz S nid x v S' e ν w u H hx hn hd
 unfold aA5 at hg
 split at hg
 ·exact anA Tryz.func91 (T := 43) (by kernel_rfl) (by kernel_rfl) e H hx hn hd
 ·exact anA Tryz.func140 (T := 47) (by kernel_rfl) (by kernel_rfl) e H hx hn hd
 ·exact anA Tryz.func229 (T := 24) (by kernel_rfl) (by kernel_rfl) e H hx hn hd
 ·exact anA Tryz.func230 (T := 25) (by kernel_rfl) (by kernel_rfl) e H hx hn hd
 ·exact anA Tryz.func231 (T := 26) (by kernel_rfl) (by kernel_rfl) e H hx hn hd
 ·exact anA Tryz.func232 (T := 28) (by kernel_rfl) (by kernel_rfl) e H hx hn hd
 ·exact anA Tryz.func233 (T := 27) (by kernel_rfl) (by kernel_rfl) e H hx hn hd
 ·cases hg
theorem aA1 {pt : List (Nat × acC)} (h : ∀ e ∈ pt, ack Tryz.prog e.1 e.2) (E : Env ρ) (hP : E.P = Tryz.prog) (h1 : E.pure = aN4 pt) (h2 : E.sort = aJo) (h3 : E.compact = apq) (h4 : E.clone = aA5) (hj : aNl E) : ays E := by
 constructor
 ·intro f p hf
  rw [h1] at hf
  rw [hP]
  exact h (f, p) (aEu hf)
 ·intro f hf
  rw [h2] at hf
  rw [hP]
  exact sortOk f hf
 ·intro f hf
  rw [h3] at hf
  rw [hP]
  exact aQt f hf
 ·rw [hP]; exact plain
 ·rw [hP, h4]; exact aTI
 ·exact hj
theorem ad9 {pt : List (Nat × acC)} (h : ∀ e ∈ pt, ack Tryz.prog e.1 e.2) (tab : List (acJ ρ)) : ays (acE pt tab) := aA1 h _ rfl rfl rfl rfl rfl (afs rfl)
end
end Go.Proofs.ZzM
end
noncomputable section
set_option maxRecDepth 100000
namespace Go.Proofs.ZzM
open Go Go.Am
theorem aBQ : ack Tryz.prog 53 arB := ace (am5 _) (fun {_} => ad9 acb _) hmix (tab := ao7 _) rfl (ab5 av1 acb) (aca fun x => aAK x some)
theorem aqj : ack Tryz.prog 82 alN := ace (axo _) (fun {_} => ad9 acb _) hmix (tab := arc _) rfl acb (aca fun x => aDa x some)
theorem ail : ack Tryz.prog 126 agY := ace (axj _) (fun {_} => ad9 acb _) hmix (tab := aq7 _) rfl acb (aca fun x => aCW x some)
theorem aBS : ack Tryz.prog 125 asU := ace (aAS _) (fun {_} => ad9 (ab5 ail acb) _) hmix (tab := auo _) rfl acb (aca fun x => aGq x some)
theorem aM5 : ack Tryz.prog 259 aE6 := ace (aD7 _) (fun {_} => ad9 acb _) hmix (tab := axe _) rfl acb (aca fun x => aIO x some)
theorem aQH : ack Tryz.prog 260 aKH := ace (aAv _) (fun {_} => ad9 acb _) hmix (tab := aAu _) rfl (ab5 aF4 acb) (aca fun x => aK4 x some)
theorem au1 : ack Tryz.prog 219 asQ := ace (aAz _) (fun {_} => ad9 (ab5 aM5 (ab5 aQH acb)) _) hmix (tab := at6 _) rfl acb (aca fun x => aF6 x some)
theorem aLL : ack Tryz.prog 162 azu := ace (aun _) (fun {_} => ad9 (ab5 aqj (ab5 aBS (ab5 ail (ab5 au1 acb)))) _) hmix (tab := ape _) rfl acb (aca fun x => aAR x some)
theorem aBT : ack Tryz.prog 83 aoz := ace (ah8 _) (fun {_} => ad9 (ab5 aLL acb) _) hmix (tab := aj9 _) rfl (ab5 apf acb) (aca fun x => asd x some)
theorem awD : ack Tryz.prog 73 alK := ace (agO _) (fun {_} => ad9 acb _) hmix (tab := aiB _) rfl (ab5 amI acb) (aca fun x => aoE x some)
theorem aji : ack Tryz.prog 65 agv := ace (ahQ _) (fun {_} => ad9 (ab5 awD acb) _) hmix (tab := ag3 _) rfl acb (aca fun x => alQ x some)
theorem aM9 : ack Tryz.prog 168 aFa := ace (ap6 _) (fun {_} => ad9 (ab5 aji acb) _) hmix (tab := axq _) rfl (ab5 aDd (ab5 aDc acb)) (aca fun x => aI7 x some)
theorem aBR : ack Tryz.prog 85 asT := ace (am8 _) (fun {_} => ad9 (ab5 aM9 acb) _) hmix (tab := auf _) rfl (ab5 aAM (ab5 aAN acb)) (aca fun x => aGe x some)
theorem alF : ack Tryz.prog 164 ain := ace (an6 _) (fun {_} => ad9 acb _) hmix (tab := akW _) rfl acb (aca fun x => aud x some)
theorem aLK : ack Tryz.prog 163 aKJ := ace (aue _) (fun {_} => ad9 (ab5 aBS (ab5 alF acb)) _) hmix (tab := apa _) rfl acb (aca fun x => aAL x some)
theorem aG5 : ack Tryz.prog 166 aFb := ace (aht _) (fun {_} => ad9 (ab5 aqj (ab5 ail (ab5 alF acb))) _) hmix (tab := amd _) rfl (ab5 asc (ab5 asb acb)) (aca fun x => av8 x some)
theorem au2 : ack Tryz.prog 88 apX := ace (ap5 _) (fun {_} => ad9 (ab5 aji acb) _) hmix (tab := axn _) rfl (ab5 aC7 (ab5 aC6 acb)) (aca fun x => aI4 x some)
theorem aef : ack Tryz.prog 94 aeb := ace (afj _) (fun {_} => ad9 acb _) hmix (tab := ahR _) rfl (ab5 alS (ab5 alR acb)) (aca fun x => aod x some)
theorem aEB : ack Tryz.prog 198 avl := ace (apd _) (fun {_} => ad9 (ab5 ail acb) _) hmix (tab := arb _) rfl (ab5 ayk acb) (aca fun x => aC8 x some)
theorem aSr : ack Tryz.prog 223 aMs := ace (av9 _) (fun {_} => ad9 (ab5 ail acb) _) hmix (tab := axr _) rfl (ab5 aDe acb) (aca fun x => aI8 x some)
theorem ayo : ack Tryz.prog 167 axS := ace (aed _) (fun {_} => ad9 (ab5 aqj (ab5 au2 (ab5 aef (ab5 aBS (ab5 ail (ab5 alF (ab5 aEB (ab5 aSr acb)))))))) _) hmix (tab := ajg _) rfl (ab5 aoh (ab5 aof (ab5 aog (ab5 aoe acb)))) (aca fun x => aqy x some)
theorem azR : ∀ e ∈ avB, ack Tryz.prog e.1 e.2 := (ab5 aef acb)
theorem aKV {ρ : Type} : ∀ e ∈ arT ρ, e.Ok (aeI ρ) := (ab5 aFJ (ab5 aFK (ab5 aFI (ab5 aFH (ab5 aFG (ab5 aFF acb))))))
theorem aw0 {ρ : Type} : ∀ e ∈ akG ρ, e.Ok (adm ρ) := (ab5 aCz (ab5 aCy (ab5 aCx acb)))
end Go.Proofs.ZzM
end
noncomputable section
namespace Go.Proofs
open Go.RowKit
attribute [local go_sem] Oper.semAt_some
def aB7 (sel : Nat → Bool) (k : Nat) : List Nat := (List.range k).filter sel
theorem asF (sel : Nat → Bool) (k : Nat) : aB7 sel (k + 1) = if sel k then aB7 sel k ++ [k] else aB7 sel k := by
 unfold aB7
 rw [List.range_succ, List.filter_append]
 cases h : sel k <;> simp [h]
theorem aKw (sel : Nat → Bool) (k : Nat) : (aB7 sel k).length ≤ k := by
 unfold aB7
 exact Nat.le_trans (List.length_filter_le _ _) (by simp)
theorem aOX (sel : Nat → Bool) {j k : Nat} (h : j ≤ k) : (aB7 sel j).length ≤ (aB7 sel k).length := by
 obtain ⟨d, rfl⟩ : ∃ d, k = j + d := ⟨k - j, by omega⟩
 unfold aB7
 rw [List.range_add, List.filter_append, List.length_append]
 omega
theorem aS6 {sel : Nat → Bool} {k n : Nat} (h : k < n) (hs : sel k = true) : (aB7 sel k).length < (aB7 sel n).length := by
 have h1 := aOX sel (j := k + 1) (k := n) h
 rw [asF, hs] at h1
 simp at h1
 omega
set_option maxRecDepth 100000 in
set_option maxHeartbeats 1000000 in
theorem aTt (te : TypeId) (n : Nat) (hn : 1 ≤ n) (l bb tb : Nat) (flo fhi us lo co ko : Value) (gb go len cap : Nat) (gbase : Option Addr) (hgb : 0 < len → gbase = some ⟨gb, go, none⟩)
 (c0 c1 c2 c3 c4 c5 c6 c7 : Nat → Int) (sel : Nat → Bool) (hlen : (len : Int) < 9223372036854775807) (Nd : World → Prop)
 (W : World) (hb0 : W.heap[bb]? = some (.cells #[flo, fhi, .slice gbase len cap, us, lo, co, ko] te (0, 0)))
 (hNc : ∀ W', Nd W' → ∀ j, j < len → W'.cell? ⟨gb, go + j * 8, none⟩ = some (.int .i64 (c0 j)) ∧ W'.cell? ⟨gb, go + j * 8 + 1, none⟩ = some (.int .i64 (c1 j)) ∧ W'.cell? ⟨gb, go + j * 8 + 2, none⟩ = some (.int .i64 (c2 j)) ∧ W'.cell? ⟨gb, go + j * 8 + 3, none⟩ = some (.int .i64 (c3 j)) ∧
  W'.cell? ⟨gb, go + j * 8 + 4, none⟩ = some (.int .i64 (c4 j)) ∧ W'.cell? ⟨gb, go + j * 8 + 5, none⟩ = some (.int .i64 (c5 j)) ∧ W'.cell? ⟨gb, go + j * 8 + 6, none⟩ = some (.int .i64 (c6 j)) ∧ W'.cell? ⟨gb, go + j * 8 + 7, none⟩ = some (.int .i64 (c7 j)))
 (hNm : ∀ W', Nd W' → ∃ mv, ∀ W'', W'.grownBy W'' none → W''.cell? ⟨tb, 0, none⟩ = some mv ∧ ∀ j, j < len → (Instr.lookup 197 mv (.int .i64 (c0 j)) false).run Tryz.prog W'' = .ok (.bool (sel j)) W'')
 (hNs : ∀ W1 W2, Nd W1 → W1.grownBy W2 none → Nd W2) (hN : Nd W)
 (J Jx : List Nat → World → Prop) (hJ : ∀ pre W W', J pre W → W.grownBy W' none → J pre W') (hJx : ∀ pre W W', Jx pre W → W.grownBy W' none → Jx pre W')
 (hY : ∀ pre x W, J pre W → pre.length < (aB7 sel len).length → YieldAt Fence.wide (n - 1) Tryz.prog l #[.agg #[.int .i64 (c0 x), .int .i64 (c1 x), .int .i64 (c2 x), .int .i64 (c3 x), .int .i64 (c4 x), .int .i64 (c5 x), .int .i64 (c6 x), .int .i64 (c7 x)]] W fun e W' =>
  (e = .returned (.bool true) ∧ J (pre ++ [x]) W' ∧ (Nd W → Nd W')) ∨ (e = .returned (.bool false) ∧ Jx (pre ++ [x]) W'))
 (h0 : J [] W) :
  CallsIn Fence.wide n Tryz.prog 218 #[.func (.yield l) #[] #[], .pointer (some ⟨bb, 0, none⟩), .pointer (some ⟨tb, 0, none⟩)] W fun e W' => (∃ v, e = .returned v) ∧
   ((∃ xs, xs = aB7 sel len ∧ J xs W') ∨ (∃ pre, True ∧ Jx pre W')) := by
 have hb3 : W.cell? ⟨bb, 2, none⟩ = some (.slice gbase len cap) := by simp [World.cell?, hb0]
 refine callsIn_of_wp Tryz.func218 rfl trivial ?_ rfl
 simp only [Tryz.ntmps218, List.size_toArray, List.length_cons, List.length_nil, Nat.reduceAdd, Nat.reduceSub, Array.replicate_succ, Array.replicate_zero, List.push_toArray, List.append_toArray, List.nil_append, List.cons_append]
 gi_wp2
 gi_loopw [9] (fun i wr => ∃ k : Nat, k ≤ len ∧ i = .int .i64 k ∧ J (aB7 sel k) wr ∧ Nd wr)
  (fun i _ => len - (intOf i).toNat)
 case atStart => exact ⟨0, Nat.zero_le _, rfl, h0, hN⟩
 case round =>
  obtain ⟨k, hk, rfl, hJs, hNw⟩ := hrel
  by_cases hlt : k < len
  ·have hg := hgb (by omega)
   subst hg
   obtain ⟨q0, q1, q2, q3, q4, q5, q6, q7⟩ := hNc _ hNw k hlt
   obtain ⟨mv, hmv⟩ := hNm _ hNw
   have hta : ∀ o, (wr.alloc o).cell? ⟨tb, 0, none⟩ = some mv := fun o => (hmv _ (World.grownBy_alloc _ o none)).1
   have hlk : ∀ o, (Instr.lookup 197 mv (.int .i64 (c0 k)) false).run Tryz.prog (wr.alloc o) = .ok (.bool (sel k)) (wr.alloc o) := fun o => (hmv _ (World.grownBy_alloc _ o none)).2 k hlt
   have hNa : ∀ o, Nd (wr.alloc o) := fun o => hNs _ _ hNw (World.grownBy_alloc _ o none)
   have hJa : ∀ o, J (aB7 sel k) (wr.alloc o) := fun o => hJ _ _ _ hJs (World.grownBy_alloc _ o none)
   clear hmv hNm hNc
   cases hsel : sel k with
   | false =>
     rw [hsel] at hlk
     iterate 52 (first | go_values | gi_guarded | gi_step | gi_upon)
     refine ⟨fun f hf => by simp [undef, go_sem] at hf, ?_⟩
     gi_wp2
     go_roundw
     case rel => exact ⟨k + 1, by omega, by simp, by rw [asF, hsel]; exact hJa _, hNa _⟩
     case measure => simp [intOf]; omega
   | true =>
     rw [hsel] at hlk
     gi_wp2
     obtain ⟨fn, tmps, assign, body, hy, hR⟩ := hY (aB7 sel k) k (wr.alloc (.cells #[.int .i64 (c0 k), .int .i64 (c1 k), .int .i64 (c2 k), .int .i64 (c3 k), .int .i64 (c4 k), .int .i64 (c5 k), .int .i64 (c6 k), .int .i64 (c7 k)] 104)) (hJa _) (aS6 hlt hsel)
     rw [hy]
     refine ⟨fun h => (by cases h), hR.mono ?_⟩
     rintro e W3 (⟨rfl, hJ3, hk3⟩ | ⟨rfl, hJx3⟩)
     ·gi_wp2
      go_roundw
      case rel => exact ⟨k + 1, by omega, by simp, by rw [asF, hsel]; exact hJ3, hk3 (hNa _)⟩
      case measure => simp [intOf]; omega
     ·gi_wp2
      refine bodyPost_ret (results_none rfl _ _ _) rfl ?_
      exact ⟨⟨_, rfl⟩, .inr ⟨_, trivial, hJx3⟩⟩
  ·obtain rfl : len = k := by omega
   gi_wp2
   go_end0
   exact ⟨⟨_, rfl⟩, .inl ⟨_, rfl, hJs⟩⟩
end Go.Proofs
end
noncomputable section
namespace Go.Proofs
open Go.RowKit
attribute [local go_sem] Oper.semAt_some
def upE (f : Nat → Int) (k : Nat) : List Int := (List.range k).map f
theorem aks (f : Nat → Int) (k : Nat) : upE f (k + 1) = upE f k ++ [f k] := by simp [upE, List.range_succ]
theorem apS (f : Nat → Int) (k : Nat) : (upE f k).length = k := by simp [upE]
theorem ayt (f : Nat → Int) {j k : Nat} (h : j ≤ k) : upE f j <+: upE f k := by
 have : k = j + (k - j) := by omega
 rw [this, upE, upE, List.range_add, List.map_append]
 exact List.prefix_append _ _
set_option maxRecDepth 100000 in
set_option maxHeartbeats 1000000 in
theorem aRy (te : TypeId) (n : Nat) (hn : 1 ≤ n) (l n₀ bb tb sb : Nat) (flo fhi ga mv : Value) (hbb : bb < n₀) (htb : tb < n₀) (hsb : sb < n₀)
 (ub uo ul uc kb ko kl kc : Nat) (ubase kbase lbase cbase : Option Addr) (ll lc cl cc : Nat) (hub : 0 < ul → ubase = some ⟨ub, uo, none⟩ ∧ ub < n₀) (hkb : 0 < kl → kbase = some ⟨kb, ko, none⟩ ∧ kb < n₀)
 (U K : Nat → Int × Int) (eU eL eC eK : Nat → Int)
 (hul : ul ≤ 1000) (hll : ll ≤ 1000) (hcl : cl ≤ 1000) (hkl : kl ≤ 1000)
 (W : World) (hb0 : W.heap[bb]? = some (.cells #[flo, fhi, ga, .slice ubase ul uc, .slice lbase ll lc, .slice cbase cl cc, .slice kbase kl kc] te (0, 0)))
 (ht : W.cell? ⟨tb, 0, none⟩ = some (.func (.func 163) #[] #[.pointer (some ⟨sb, 0, none⟩)])) (hs : W.cell? ⟨sb, 0, none⟩ = some mv)
 (hU : ∀ j, j < ul → W.cell? ⟨ub, uo + j * 2, none⟩ = some (.int .i64 (U j).1) ∧ W.cell? ⟨ub, uo + j * 2 + 1, none⟩ = some (.int .i64 (U j).2))
 (hK : ∀ j, j < kl → W.cell? ⟨kb, ko + j * 2, none⟩ = some (.int .i64 (K j).1) ∧ W.cell? ⟨kb, ko + j * 2 + 1, none⟩ = some (.int .i64 (K j).2))
 (cU : ∀ j, j < ul → ∀ W', Below n₀ W W' → CallsIn Fence.wide (n - 1) Tryz.prog 163 #[.int .i64 (U j).1, .int .i64 (U j).2, .pointer (some ⟨sb, 0, none⟩)] W' fun e W'' => e = .returned (.int .i64 (eU j)) ∧ W'.grownBy W'' none)
 (cK : ∀ j, j < kl → ∀ W', Below n₀ W W' → CallsIn Fence.wide (n - 1) Tryz.prog 163 #[.int .i64 (K j).1, .int .i64 (K j).2, .pointer (some ⟨sb, 0, none⟩)] W' fun e W'' => e = .returned (.int .i64 (eK j)) ∧ W'.grownBy W'' none)
 (cL : ∀ j, j < ll → ∀ W', Below n₀ W W' → CallsIn Fence.wide (n - 1) Tryz.prog 166 #[.agg #[flo, fhi, ga, .slice ubase ul uc, .slice lbase ll lc, .slice cbase cl cc, .slice kbase kl kc], mv, .int .i64 j] W' fun e W'' => e = .returned (.int .i64 (eL j)) ∧ W'.grownBy W'' none)
 (cC : ∀ j, j < cl → ∀ W', Below n₀ W W' → CallsIn Fence.wide (n - 1) Tryz.prog 167 #[.agg #[flo, fhi, ga, .slice ubase ul uc, .slice lbase ll lc, .slice cbase cl cc, .slice kbase kl kc], mv, .int .i64 j] W' fun e W'' => e = .returned (.int .i64 (eC j)) ∧ W'.grownBy W'' none)
 (J Jx : List Int → World → Prop) (hJ : ∀ pre W W', J pre W → W.grownBy W' none → J pre W') (hJx : ∀ pre W W', Jx pre W → W.grownBy W' none → Jx pre W')
 (hY : ∀ pre x W, J pre W → pre.length < ul + (ll + (cl + kl)) → YieldAt Fence.wide (n - 1) Tryz.prog l #[.int .i64 x] W fun e W' =>
  (e = .returned (.bool true) ∧ J (pre ++ [x]) W' ∧ Below n₀ W W') ∨ (e = .returned (.bool false) ∧ Jx (pre ++ [x]) W'))
 (h0 : J [] W) (hn₀ : n₀ ≤ W.heap.size) :
  CallsIn Fence.wide n Tryz.prog 165 #[.func (.yield l) #[] #[], .pointer (some ⟨bb, 0, none⟩), .pointer (some ⟨tb, 0, none⟩), .pointer (some ⟨sb, 0, none⟩)] W fun e W' => (∃ v, e = .returned v) ∧
   ((∃ xs, xs = upE eU ul ++ (upE eL ll ++ (upE eC cl ++ upE eK kl)) ∧ J xs W') ∨ (∃ pre, (pre <+: upE eU ul ++ (upE eL ll ++ (upE eC cl ++ upE eK kl))) ∧ Jx pre W')) := by
 have grown_alloc : ∀ (X : World) (o : Obj), X.grownBy (X.alloc o) none := fun X o => World.grownBy_alloc X o none
 have bel : ∀ {X Y : World}, Below n₀ W X → X.grownBy Y none → Below n₀ W Y := fun {X Y} h g =>
  ⟨g.os.trans h.os, g.tape.trans h.tape, g.output.trans h.output, Nat.le_trans h.size g.size, fun k hk => (g.block k (Nat.lt_of_lt_of_le (Nat.lt_of_lt_of_le hk hn₀) h.size) (by simp)).trans (h.block k hk)⟩
 have hc : ∀ {X : World}, Below n₀ W X → X.heap[bb]? = some (.cells #[flo, fhi, ga, .slice ubase ul uc, .slice lbase ll lc, .slice cbase cl cc, .slice kbase kl kc] te (0, 0)) := fun h => (h.block bb hbb).trans hb0
 refine callsIn_of_wp Tryz.func165 rfl trivial ?_ rfl
 simp only [Tryz.ntmps165, List.size_toArray, List.length_cons, List.length_nil, Nat.reduceAdd, Nat.reduceSub, Array.replicate_succ, Array.replicate_zero, List.push_toArray, List.append_toArray, List.nil_append, List.cons_append]
 have hb3 : W.cell? ⟨bb, 3, none⟩ = some (.slice ubase ul uc) := by simp [World.cell?, hb0]
 gi_wp2
 gi_loopw [14] (fun i wr => ∃ k : Nat, k ≤ ul ∧ i = .int .i64 k ∧ J (upE eU k) wr ∧ Below n₀ W wr)
  (fun i _ => ul - (intOf i).toNat)
 case atStart => exact ⟨0, Nat.zero_le _, rfl, h0, Below.refl _ _⟩
 case round =>
  obtain ⟨k, hk, rfl, hJs, hnx⟩ := hrel
  by_cases hlt : k < ul
  ·obtain ⟨rfl, hlu⟩ := hub (by omega)
   have hu1 := (hnx.cell (p := ⟨ub, uo + k * 2, none⟩) hlu).trans (hU k hlt).1
   have hu2 := (hnx.cell (p := ⟨ub, uo + k * 2 + 1, none⟩) hlu).trans (hU k hlt).2
   have ht' := (hnx.cell (p := ⟨tb, 0, none⟩) htb).trans ht
   have hta : ∀ o, (wr.alloc o).cell? ⟨tb, 0, none⟩ = some (.func (.func 163) #[] #[.pointer (some ⟨sb, 0, none⟩)]) := fun o => Lib.cell?_alloc_some _ ht'
   gi_wp2
   refine ⟨trivial, (cU k hlt _ (bel hnx (grown_alloc _ _))).mono ?_⟩
   rintro e W2 ⟨rfl, hg2⟩
   obtain ⟨fn, tmps, assign, body, hy, hR⟩ := hY _ (eU k) W2 (hJ _ _ _ (hJ _ _ _ hJs (grown_alloc _ _)) hg2) (by rw [apS]; omega)
   have hb2 := bel (bel hnx (grown_alloc _ _)) hg2
   gi_wp2
   refine hR.mono ?_
   rintro e W3 (⟨rfl, hJ3, hk3⟩ | ⟨rfl, hJx3⟩)
   ·gi_wp2
    go_roundw
    case rel => exact ⟨k + 1, by omega, by simp, by rw [aks]; exact hJ3, hb2.trans hk3⟩
    case measure => simp [intOf]; omega
   ·gi_wp2
    refine bodyPost_ret (results_none rfl _ _ _) rfl ?_
    refine ⟨⟨_, rfl⟩, .inr ⟨_, ?_, hJx3⟩⟩
    rw [← aks]
    exact (ayt eU (by omega)).trans (List.prefix_append _ _)
  ·obtain rfl : ul = k := by omega
   have hb4 : wr.cell? ⟨bb, 4, none⟩ = some (.slice lbase ll lc) := by simp [World.cell?, hc hnx]
   gi_wp2
   gi_loopw [31] (fun i wr => ∃ k : Nat, k ≤ ll ∧ i = .int .i64 k ∧ J (upE eU ul ++ upE eL k) wr ∧ Below n₀ W wr)
    (fun i _ => ll - (intOf i).toNat)
   case atStart => exact ⟨0, Nat.zero_le _, rfl, by simpa [upE] using hJs, hnx⟩
   case round =>
    clear hJs hnx
    obtain ⟨k, hk, rfl, hJs, hnx⟩ := hrel
    by_cases hlt : k < ll
    ·have q0 : wr.cell? ⟨bb, 0, none⟩ = some flo := by simp [World.cell?, hc hnx]
     have q1 : wr.cell? ⟨bb, 1, none⟩ = some fhi := by simp [World.cell?, hc hnx]
     have q2 : wr.cell? ⟨bb, 2, none⟩ = some ga := by simp [World.cell?, hc hnx]
     have q3 : wr.cell? ⟨bb, 3, none⟩ = some (.slice ubase ul uc) := by simp [World.cell?, hc hnx]
     have q4 : wr.cell? ⟨bb, 4, none⟩ = some (.slice lbase ll lc) := by simp [World.cell?, hc hnx]
     have q5 : wr.cell? ⟨bb, 5, none⟩ = some (.slice cbase cl cc) := by simp [World.cell?, hc hnx]
     have q6 : wr.cell? ⟨bb, 6, none⟩ = some (.slice kbase kl kc) := by simp [World.cell?, hc hnx]
     have hs' := (hnx.cell (p := ⟨sb, 0, none⟩) hsb).trans hs
     gi_wp2
     refine ⟨trivial, (cL k hlt _ hnx).mono ?_⟩
     rintro e W2 ⟨rfl, hg2⟩
     obtain ⟨fn, tmps, assign, body, hy, hR⟩ := hY _ (eL k) W2 (hJ _ _ _ hJs hg2) (by simp only [List.length_append, apS]; omega)
     have hb2 := bel hnx hg2
     gi_wp2
     refine hR.mono ?_
     rintro e W3 (⟨rfl, hJ3, hk3⟩ | ⟨rfl, hJx3⟩)
     ·gi_wp2
      go_roundw
      case rel => exact ⟨k + 1, by omega, by simp, by rw [aks, ← List.append_assoc]; exact hJ3, hb2.trans hk3⟩
      case measure => simp [intOf]; omega
     ·gi_wp2
      refine bodyPost_ret (results_none rfl _ _ _) rfl ?_
      refine ⟨⟨_, rfl⟩, .inr ⟨_, ?_, hJx3⟩⟩
      rw [List.append_assoc, ← aks]
      exact (List.prefix_append_right_inj _).2 ((ayt eL (by omega)).trans (List.prefix_append _ _))
    ·obtain rfl : ll = k := by omega
     have hb5 : wr.cell? ⟨bb, 5, none⟩ = some (.slice cbase cl cc) := by simp [World.cell?, hc hnx]
     gi_wp2
     gi_loopw [45] (fun i wr => ∃ k : Nat, k ≤ cl ∧ i = .int .i64 k ∧ J (upE eU ul ++ upE eL ll ++ upE eC k) wr ∧ Below n₀ W wr)
      (fun i _ => cl - (intOf i).toNat)
     case atStart => exact ⟨0, Nat.zero_le _, rfl, by simpa [upE] using hJs, hnx⟩
     case round =>
      clear hJs hnx
      obtain ⟨k, hk, rfl, hJs, hnx⟩ := hrel
      by_cases hlt : k < cl
      ·have q0 : wr.cell? ⟨bb, 0, none⟩ = some flo := by simp [World.cell?, hc hnx]
       have q1 : wr.cell? ⟨bb, 1, none⟩ = some fhi := by simp [World.cell?, hc hnx]
       have q2 : wr.cell? ⟨bb, 2, none⟩ = some ga := by simp [World.cell?, hc hnx]
       have q3 : wr.cell? ⟨bb, 3, none⟩ = some (.slice ubase ul uc) := by simp [World.cell?, hc hnx]
       have q4 : wr.cell? ⟨bb, 4, none⟩ = some (.slice lbase ll lc) := by simp [World.cell?, hc hnx]
       have q5 : wr.cell? ⟨bb, 5, none⟩ = some (.slice cbase cl cc) := by simp [World.cell?, hc hnx]
       have q6 : wr.cell? ⟨bb, 6, none⟩ = some (.slice kbase kl kc) := by simp [World.cell?, hc hnx]
       have hs' := (hnx.cell (p := ⟨sb, 0, none⟩) hsb).trans hs
       gi_wp2
       refine ⟨trivial, (cC k hlt _ hnx).mono ?_⟩
       rintro e W2 ⟨rfl, hg2⟩
       obtain ⟨fn, tmps, assign, body, hy, hR⟩ := hY _ (eC k) W2 (hJ _ _ _ hJs hg2) (by simp only [List.length_append, apS]; omega)
       have hb2 := bel hnx hg2
       gi_wp2
       refine hR.mono ?_
       rintro e W3 (⟨rfl, hJ3, hk3⟩ | ⟨rfl, hJx3⟩)
       ·gi_wp2
        go_roundw
        case rel => exact ⟨k + 1, by omega, by simp, by rw [aks, ← List.append_assoc]; exact hJ3, hb2.trans hk3⟩
        case measure => simp [intOf]; omega
       ·gi_wp2
        refine bodyPost_ret (results_none rfl _ _ _) rfl ?_
        refine ⟨⟨_, rfl⟩, .inr ⟨_, ?_, hJx3⟩⟩
        rw [List.append_assoc, ← aks]
        exact by rw [List.append_assoc]; exact (List.prefix_append_right_inj _).2 ((List.prefix_append_right_inj _).2 ((ayt eC (by omega)).trans (List.prefix_append _ _)))
      ·obtain rfl : cl = k := by omega
       have hb6 : wr.cell? ⟨bb, 6, none⟩ = some (.slice kbase kl kc) := by simp [World.cell?, hc hnx]
       gi_wp2
       gi_loopw [59] (fun i wr => ∃ k : Nat, k ≤ kl ∧ i = .int .i64 k ∧ J ((upE eU ul ++ upE eL ll ++ upE eC cl) ++ upE eK k) wr ∧ Below n₀ W wr)
        (fun i _ => kl - (intOf i).toNat)
       case atStart => exact ⟨0, Nat.zero_le _, rfl, by simpa [upE] using hJs, hnx⟩
       case round =>
        clear hJs hnx
        obtain ⟨k, hk, rfl, hJs, hnx⟩ := hrel
        by_cases hlt : k < kl
        ·obtain ⟨rfl, hlk⟩ := hkb (by omega)
         have hu1 := (hnx.cell (p := ⟨kb, ko + k * 2, none⟩) hlk).trans (hK k hlt).1
         have hu2 := (hnx.cell (p := ⟨kb, ko + k * 2 + 1, none⟩) hlk).trans (hK k hlt).2
         have ht' := (hnx.cell (p := ⟨tb, 0, none⟩) htb).trans ht
         have hta : ∀ o, (wr.alloc o).cell? ⟨tb, 0, none⟩ = some (.func (.func 163) #[] #[.pointer (some ⟨sb, 0, none⟩)]) := fun o => Lib.cell?_alloc_some _ ht'
         gi_wp2
         refine ⟨trivial, (cK k hlt _ (bel hnx (grown_alloc _ _))).mono ?_⟩
         rintro e W2 ⟨rfl, hg2⟩
         obtain ⟨fn, tmps, assign, body, hy, hR⟩ := hY _ (eK k) W2 (hJ _ _ _ (hJ _ _ _ hJs (grown_alloc _ _)) hg2) (by simp only [List.length_append, apS]; omega)
         have hb2 := bel (bel hnx (grown_alloc _ _)) hg2
         gi_wp2
         refine hR.mono ?_
         rintro e W3 (⟨rfl, hJ3, hk3⟩ | ⟨rfl, hJx3⟩)
         ·gi_wp2
          go_roundw
          case rel => exact ⟨k + 1, by omega, by simp, by rw [aks, ← List.append_assoc]; exact hJ3, hb2.trans hk3⟩
          case measure => simp [intOf]; omega
         ·gi_wp2
          refine bodyPost_ret (results_none rfl _ _ _) rfl ?_
          refine ⟨⟨_, rfl⟩, .inr ⟨_, ?_, hJx3⟩⟩
          rw [List.append_assoc, ← aks, List.append_assoc, List.append_assoc]
          exact (List.prefix_append_right_inj _).2 ((List.prefix_append_right_inj _).2 ((List.prefix_append_right_inj _).2 (ayt eK (by omega))))
        ·obtain rfl : kl = k := by omega
         gi_wp2
         go_end0
         exact ⟨⟨_, rfl⟩, .inl ⟨_, rfl, by simpa [List.append_assoc] using hJs⟩⟩
end Go.Proofs
end
noncomputable section
set_option maxRecDepth 100000
namespace Go.Proofs.ZzM
open Go Go.Am Go.RowKit
def aMi (p : String) : Code := .region 10 #[{ dst := some 5, op := .assign (.tmp 49), type := 34, pos := p, after := #[], guard := none }] false
def aSF (q r : String) : Code := .block 1 (.seq (.region 11 #[{ dst := some 50, op := .move (.tmp 5), type := 34, pos := q, after := #[], guard := none }, { dst := some 51, op := .binOp .neq 34 (.tmp 50) (.const (.int .i64 0)) 34, type := 4, pos := q, after := #[{ on := 0, ground := .data }], guard := none }] false)
 (.cond (.tmp 51) (.seq (.region 12 #[{ dst := some 52, op := .move (.tmp 5), type := 34, pos := r, after := #[], guard := none }, { dst := none, op := .store 34 (.tmp 2) (.tmp 52), type := 0, pos := r, after := #[{ on := 0, ground := .data }, { on := 0, ground := .phase }], guard := none }] false) .ret) .skip))
section
variable {P : Program} {F : Fence} {n : Nat}
theorem asV {ops : Array Oper} {i d : Nat} {o : Oper} {u : Value} {w w' : World} {a : Act} {next : Act → World → Prop} {Q : Exit → Act → World → Prop} (hF : ∀ f, F.fn f) (ho : ops[i]? = some o) (hg : o.guard = none) (hd : o.dst = some d) (hdf : ∀ c, o.op ≠ .defer c)
 (hrun : (execOp a.eval o).run P w = .ok (.value u) w') (k : next (a.put (some d) u) w') : wpOpIn F n P ops Q i next a w := by
 unfold wpOpIn
 rw [ho]
 have hw : Region.wanted o (yielded ops a.tmps) = true := by simp [Region.wanted, hg]
 simp only [hw, if_true]
 refine ⟨fun _ _ => hF _, ?_⟩
 rw [Oper.semAt_eq _ _ _ hdf, hrun]
 rw [← hd] at k
 exact k
theorem aNF {ops : Array Oper} {i : Nat} {o : Oper} {w w' : World} {a : Act} {next : Act → World → Prop} {Q : Exit → Act → World → Prop} (hF : ∀ f, F.fn f) (ho : ops[i]? = some o) (hg : o.guard = none) (hd : o.dst = none) (hdf : ∀ c, o.op ≠ .defer c)
 (hrun : (execOp a.eval o).run P w = .ok .skip w') (k : next a w') : wpOpIn F n P ops Q i next a w := by
 unfold wpOpIn
 rw [ho]
 have hw : Region.wanted o (yielded ops a.tmps) = true := by simp [Region.wanted, hg]
 simp only [hw, if_true]
 refine ⟨fun _ _ => hF _, ?_⟩
 rw [Oper.semAt_eq _ _ _ hdf, hrun]
 show next (a.put o.dst undef) w'
 rw [hd]
 exact k
end
theorem agp (T : Array Value) (i j : Nat) (v : Value) : (T.setIfInBounds i v).getD j undef = if i = j ∧ i < T.size then v else T.getD j undef := by
 simp only [Array.getD_eq_getD_getElem?, Array.getElem?_setIfInBounds]
 by_cases h : i = j
 ·subst h
  by_cases h2 : i < T.size
  ·simp [h2]
  ·simp [h2]
 ·simp [h]
def aMA (D : Nat) : Deferred := { target := .collected D, args := #[] }
structure Put1 (n₀ rb : Nat) (x : Int) (w W : World) : Prop where
 os : W.os = w.os
 tape : W.tape = w.tape
 output : W.output = w.output
 size : w.heap.size ≤ W.heap.size
 block : ∀ k, k < n₀ → k ≠ rb → W.heap[k]? = w.heap[k]?
 cell : ∃ e, W.heap[rb]? = some (.cells #[.int .i64 x] e (0, 0))
set_option maxHeartbeats 4000000 in
theorem aTa {a : Act} {w : World} {Q : Exit → Act → World → Prop} {lb : Array Value} {L : List Int} {rb : Nat} {e0 : TypeId} {v0 : Value} {p q r : String}
 (hseq : SeqStopsK Fence.wide 1 Tryz.prog 165 lb (fun x : Int => #[.int .i64 x]) (Below w.heap.size) (fun xs => xs = L) (fun pre => pre <+: L) L.length w)
 (hg : a.tmps.getD 48 undef = .func (.func 165) #[] lb) (h2 : a.tmps.getD 2 undef = .pointer (some ⟨rb, 0, none⟩)) (hsz : 78 ≤ a.tmps.size)
 (hrb : w.heap[rb]? = some (.cells #[v0] e0 (0, 0)))
 (hdone : ∀ D W, (∀ x ∈ L, x = 0) → Below w.heap.size w W → w.heap.size ≤ D → W.heap[D]? = some (.deferred (some [])) → Q .normal { a with defers := aMA D :: a.defers } W)
 (hstop : ∀ D W x, L.find? (fun e => e != 0) = some x → Put1 w.heap.size rb x w W → w.heap.size ≤ D → W.heap[D]? = some (.deferred (some [])) → Q .ret { a with defers := aMA D :: a.defers } W) :
 (Code.rangeFunc (.tmp 48) #[49] (aMi p) (aSF q r)).wpIn Fence.wide 2 Tryz.prog Q a w := by
 have hT : ∀ f, Fence.wide.fn f := fun _ => trivial
 have hrl := adN hrb
 refine wpIn_rangeFunc_ownF (α := Int) (encs := fun x => #[.int .i64 x]) (Kp := Below w.heap.size) (S := fun xs => xs = L) (Sp := fun pre => pre <+: L) (N := L.length) (w0 := w) rfl (by omega) hg trivial (fun args w => ?eg) hseq
  (fun h k => h.trans k) (fun W l o o' hl ho hc hw => belowK_b (Nat.le_refl _) W l o o' hl ho hc hw) (Below.refl _ _) (fun _ => rfl)
  (fun pre W => (∀ x ∈ pre, x = 0) ∧ Below w.heap.size w W)
  (fun c pre W => c = .ret ∧ ∃ pre' x, pre = pre' ++ [x] ∧ (∀ x ∈ pre', x = 0) ∧ x ≠ 0 ∧ Put1 w.heap.size rb x w W)
  ?hI ?hIx ⟨by simp, Below.refl _ _⟩ (fun x => { tmps := (a.tmps.setIfInBounds 49 (.int .i64 x)).setIfInBounds 5 (.int .i64 x), defers := [] }) ?hassign ?hbody ?hdone ?hstop
 case eg => simp [callFunc, Sem.run_bind, run_program, Result.andThen_ok, Tryz.func165, plain 165 _ Tryz.func165, show Tryz.f165.body.isNone = false from rfl]; rfl
 case hI =>
  intro s W W' row ⟨h1, h2⟩ hgr hr
  exact ⟨h1, hgr.os.trans h2.os, hgr.tape.trans h2.tape, hgr.output.trans h2.output, Nat.le_trans h2.size hgr.size, fun k hk => (hgr.block k (Nat.lt_of_lt_of_le hk h2.size) (fun e => by have := (hr k e.symm).1; omega)).trans (h2.block k hk)⟩
 case hIx =>
  intro c s W W' row ⟨h1, pre', x, h3, h4, h5, h6⟩ hgr hr
  have hb : ∀ k, k < w.heap.size → W'.heap[k]? = W.heap[k]? := fun k hk => hgr.block k (Nat.lt_of_lt_of_le hk h6.size) (fun e => by have := (hr k e.symm).1; omega)
  exact ⟨h1, pre', x, h3, h4, h5, hgr.os.trans h6.os, hgr.tape.trans h6.tape, hgr.output.trans h6.output, Nat.le_trans h6.size hgr.size, fun k hk hne => (hb k hk).trans (h6.block k hk hne), by
   obtain ⟨e, he⟩ := h6.cell
   exact ⟨e, (hb rb hrl).trans he⟩⟩
 case hassign =>
  intro l x W K hK
  have hf : ((#[49] : Array Tmp).zip #[Value.int .i64 x]).foldl (fun t (p, v) => t.setIfInBounds p v) a.tmps = a.tmps.setIfInBounds 49 (.int .i64 x) := by simp
  rw [hf]
  refine wpIn_region ?_
  rw [show ∀ o : Oper, List.range (#[o] : Array Oper).size = [0] from fun _ => rfl, wpOpsIn_cons]
  refine asV (d := 5) (u := .int .i64 x) (w' := W) hT rfl rfl rfl (by simp) ?_ hK
  show Result.ok (Next.value ((a.tmps.setIfInBounds 49 (.int .i64 x)).getD 49 undef)) W = _
  rw [agp, if_pos ⟨rfl, by omega⟩]
 case hbody =>
  intro l pre x W ⟨h1, hbel⟩ hpre
  refine wpIn_block (wpIn_seq (wpIn_region ?_))
  rw [show ∀ o p : Oper, List.range (#[o, p] : Array Oper).size = [0, 1] from fun _ _ => rfl, wpOpsIn_cons]
  refine asV (d := 50) (u := .int .i64 x) (w' := W) hT rfl rfl rfl (by simp) (by
   show Result.ok (Next.value (((a.tmps.setIfInBounds 49 (.int .i64 x)).setIfInBounds 5 (.int .i64 x)).getD 5 undef)) W = _
   rw [agp, if_pos ⟨rfl, by simp; omega⟩]) ?_
  rw [wpOpsIn_cons]
  refine asV (d := 51) (u := .bool (x != 0)) (w' := W) hT rfl rfl rfl (by simp) (by
   show ((do let u ← (do eqGuard .neq 34 (.tmp 50) (.const (.int .i64 0)) ((((a.tmps.setIfInBounds 49 (.int .i64 x)).setIfInBounds 5 (.int .i64 x)).setIfInBounds 50 (.int .i64 x)).getD 50 undef) (.int .i64 0); binOp .neq 34 ((((a.tmps.setIfInBounds 49 (.int .i64 x)).setIfInBounds 5 (.int .i64 x)).setIfInBounds 50 (.int .i64 x)).getD 50 undef) (.int .i64 0)); pure (.value u)) : Sem Next).run Tryz.prog W = _
   rw [agp, if_pos ⟨rfl, by simp; omega⟩]
   simp [eqGuard, binOp, Op.intCmp]) ?_
  show Code.wpIn (Fence.wide.inRound l) (2 - 1 - 1) Tryz.prog (Code.cond (.tmp 51) _ .skip) _ { tmps := ((((a.tmps.setIfInBounds 49 (.int .i64 x)).setIfInBounds 5 (.int .i64 x)).setIfInBounds 50 (.int .i64 x)).setIfInBounds 51 (.bool (x != 0))), defers := [] } W
  obtain ⟨T, hTd⟩ : ∃ T, T = ((((a.tmps.setIfInBounds 49 (.int .i64 x)).setIfInBounds 5 (.int .i64 x)).setIfInBounds 50 (.int .i64 x)).setIfInBounds 51 (.bool (x != 0))) := ⟨_, rfl⟩
  rw [← hTd]
  have t51 : T.getD 51 undef = .bool (x != 0) := by rw [hTd, agp, if_pos ⟨rfl, by simp; omega⟩]
  have t5 : T.getD 5 undef = .int .i64 x := by rw [hTd, agp, if_neg (by simp), agp, if_neg (by simp), agp, if_pos ⟨rfl, by simp; omega⟩]
  have t2 : T.getD 2 undef = .pointer (some ⟨rb, 0, none⟩) := by rw [hTd, agp, if_neg (by simp), agp, if_neg (by simp), agp, if_neg (by simp), agp, if_neg (by simp), h2]
  have tsz : 78 ≤ T.size := by rw [hTd]; simpa using hsz
  clear hTd
  by_cases hx : x = 0
  ·have e51 : Act.eval { tmps := T, defers := [] } (.tmp 51) = .bool false := t51.trans (by simp [hx])
   refine wpIn_cond_false e51 (wpIn_skip ?_)
   simp only [Exit.inBlock, ownPostK]
   exact ⟨KeepsOthers.refl _, Below.refl _ _, fun y hy => (List.mem_append.1 hy).elim (h1 y) (fun h => by rw [List.mem_singleton] at h; rw [h, hx]), hbel⟩
  ·have e51 : Act.eval { tmps := T, defers := [] } (.tmp 51) = .bool true := t51.trans (by simp [hx])
   refine wpIn_cond_true e51 (wpIn_seq (wpIn_region ?_))
   rw [show ∀ o p : Oper, List.range (#[o, p] : Array Oper).size = [0, 1] from fun _ _ => rfl, wpOpsIn_cons]
   have e5 : (execOp (Act.eval { tmps := T, defers := [] }) { dst := some 52, op := .move (.tmp 5), type := 34, pos := r, after := #[], guard := none }).run Tryz.prog W = .ok (.value (.int .i64 x)) W := by
    show Result.ok (Next.value (T.getD 5 undef)) W = _
    rw [t5]
   refine asV (d := 52) (u := .int .i64 x) (w' := W) hT rfl rfl rfl (by simp) e5 ?_
   rw [wpOpsIn_cons]
   have hW : W.heap[rb]? = some (.cells #[v0] e0 (0, 0)) := (hbel.block rb hrl).trans hrb
   letI : acM := ⟨fun _ => False, [], none⟩
   have hst := aoo (P := Tryz.prog) (w := W) (t := 34) (u := .int .i64 x) (n := 1) (b := rb) (o := 0) (by kernel_rfl) rfl hW (by simp) (by simp [Value.cells, Value.oneCell'])
   have hst' : (storeVar 34 ⟨rb, 0, none⟩ (.int .i64 x)).run Tryz.prog W = .ok () (W.setRow rb #[.int .i64 x]) := by simpa [Value.cells] using hst
   have t52 : (T.setIfInBounds 52 (.int .i64 x)).getD 52 undef = .int .i64 x := by rw [agp, if_pos ⟨rfl, by omega⟩]
   have t2' : (T.setIfInBounds 52 (.int .i64 x)).getD 2 undef = .pointer (some ⟨rb, 0, none⟩) := by rw [agp, if_neg (by simp), t2]
   have e6 : (execOp (Act.eval { tmps := T.setIfInBounds 52 (.int .i64 x), defers := [] }) { dst := none, op := .store 34 (.tmp 2) (.tmp 52), type := 0, pos := r, after := #[{ on := 0, ground := .data }, { on := 0, ground := .phase }], guard := none }).run Tryz.prog W = .ok .skip (W.setRow rb #[.int .i64 x]) := by
    show ((do Instr.storeAt 34 ((T.setIfInBounds 52 (.int .i64 x)).getD 2 undef) ((T.setIfInBounds 52 (.int .i64 x)).getD 52 undef); pure .skip) : Sem Next).run Tryz.prog W = _
    rw [t52, t2']
    simp [Instr.storeAt, Instr.sureAddr, hst']
   refine aNF (w' := W.setRow rb #[.int .i64 x]) hT rfl rfl rfl (by simp) e6 ?_
   refine wpIn_ret ?_
   simp only [Exit.inBlock, ownPostK]
   refine ⟨⟨by simp, fun k o hk ho => ?_⟩, trivial, pre, x, rfl, h1, hx, hbel.os, hbel.tape, hbel.output, by simpa using hbel.size, fun k hk hne => (setRow_other _ _ _ _ hne).trans (hbel.block k hk), ⟨_, setRow_heap _ _ _ _ _ _ hW⟩⟩
   by_cases hk2 : k = rb
   ·subst hk2; rw [hW] at hk; cases hk; simp [Obj.isCells] at ho
   ·rw [setRow_other _ _ _ _ hk2]; exact hk
 case hdone =>
  intro D xs W hD hS ⟨h1, hbel⟩ hDo
  subst hS
  exact hdone D W h1 hbel hD hDo
 case hstop =>
  intro D c pre W hD hS ⟨hc, pre', x, h3, h4, h5, h6⟩ hDo
  subst hc
  refine wpIn_ret (hstop D W x ?_ h6 hD hDo)
  obtain ⟨t, rfl⟩ := hS
  rw [h3, List.append_assoc, List.find?_append]
  have : List.find? (fun e => e != 0) pre' = none := List.find?_eq_none.2 fun y hy => by simp [h4 y hy]
  rw [this]
  simp [h5]
end Go.Proofs.ZzM
end
noncomputable section
set_option maxRecDepth 100000
namespace Go.Proofs.ZzM
open Go Go.Am Go.RowKit
def fstC : Code → Code
 | .seq a _ => a
 | c => c
def sndC : Code → Code
 | .seq _ b => b
 | c => c
def aPn : Nat → Code → Code
 | 0, c => fstC c
 | n + 1, c => aPn n (sndC c)
def aR8 : Nat → Code → Code
 | 0, c => c
 | n + 1, c => aR8 n (sndC c)
def ckB : Code := Tryz.f38.body.getD .skip
def ckA5 : Code := fstC (aR8 5 ckB |> fstC)
def ckRF : Code := sndC (aR8 5 ckB |> fstC)
def aEz : Code := sndC (aR8 5 ckB)
def ckPre : Code := .seq (aPn 0 ckB) (.seq (aPn 1 ckB) (.seq (aPn 2 ckB) (.seq (aPn 3 ckB) (.seq (aPn 4 ckB) ckA5))))
theorem aSV : Tryz.f38.body = some (.seq (aPn 0 ckB) (.seq (aPn 1 ckB) (.seq (aPn 2 ckB) (.seq (aPn 3 ckB) (.seq (aPn 4 ckB) (.seq (.seq ckA5 ckRF) aEz)))))) := by kernel_rfl
def ck_pt : List (Nat × acC) := [(85, asT), (53, arB), (82, alN), (83, aoz)]
def ckE (ρ : Type) : Env ρ := acE ck_pt []
abbrev ckR : Type := Int ⊕ (List AV × List Blk)
def aQw (S : St) : Option Int := match ajS Tryz.prog Tryz.f38 S with
 | some v => adR [tI] S.h v
 | none => none
def ckK (e : Exit) (S : St) : Option ckR := match e with
 | .ret => match aQw S with
   | some n => some (.inl n)
   | none => none
 | .normal => match decide (78 ≤ S.t.length) with
   | true => some (.inr ([lk S.t 1, lk S.t 2, lk S.t 48], S.h))
   | false => none
 | _ => none
def ckH (x : Val ab9) (s : Val (.map tI ach)) (n : Int) : List Blk :=
 [.cells (flat ab9 x), .cells [.int .i64 n], .cells (flat ab9 x), .cells [.mp tI ach s], .cells [.fn (.func 163) [] [.box 3 0]]]
def ckM (x : Val ab9) : Option ckR :=
 ab8 (aeY x.1 (0 : Int) (1000000 : Int)) fun r1 => ifb (!r1) (some (.inl 1)) (ifb (igt (acD x.2.1) (12 : Int)) (some (.inl 2)) (ifb (igt (acD x.2.2.1) (40 : Int)) (some (.inl 2)) (ifb (igt (acD x.2.2.2.1) (12 : Int)) (some (.inl 2)) (ifb (igt (acD x.2.2.2.2.1) (40 : Int)) (some (.inl 2)) (ifb (igt (acD x.2.2.2.2.2) (10 : Int)) (some (.inl 2))
  (ab8 (aeK x) fun r2 => ifb (ine r2 (0 : Int)) (some (.inl r2)) (ab8 (afb x) fun r3 => some (.inr ([.box 0 0, .box 1 0, .fn (.func 165) [] [.box 2 0, .box 4 0, .box 3 0]], ckH x r3 0)))))))))
theorem ck_pre (x : Val ab9) : goC (ckE ckR) (agG (ckE ckR) 10) 38 [] 0 0 ckPre { t := adD [ab9] x ++ List.replicate 77 .any, h := [] } ckK = ckM x := by kernel_rfl
def aSi (ρ : Type) : Env ρ := { ckE ρ with inl := fun _ => false }
def ckS (x : Val ab9) : Option Int :=
 ab8 (akj x) fun r5 => ifb (igt (acD r5) (59 : Int)) (some (2 : Int)) (ck ((2 : Int) * (acD x.2.1)) fun n6 => ck ((acD r5) - (acD x.2.1)) fun n7 => ck ((2 : Int) * n7) fun n8 => ck (n6 + n8) fun n9 => ck ((2 : Int) * (acD x.2.2.2.2.1)) fun n10 => ck (n9 + n10) fun n11 => ifb (igt n11 (300 : Int)) (some (2 : Int)) (some (0 : Int)))
def ckK2 (e : Exit) (S : St) : Option Int := match e with
 | .ret => match lk S.t 2 with
   | .box 1 0 => match lkB S.h 1 with
     | .cells [.int .i64 n] => some n
     | _ => none
   | _ => none
 | _ => none
theorem ck_suf (x : Val ab9) (s : Val (.map tI ach)) : goC (aSi Int) (agG (aSi Int) 10) 38 [] 0 0 aEz { t := [.any, .box 0 0, .box 1 0] ++ List.replicate 75 .any, h := ckH x s 0 } ckK2 = ckS x := by kernel_rfl
theorem aSh (x : Val ab9) : acV x = match ckM x with
 | none => none
 | some (.inl n) => some n
 | some (.inr _) => ab8 (afb x) fun s => aHM (aiP x s) some (ckS x) := by
 unfold acV aAZ ckM ckS
 cases aeY x.1 (0 : Int) (1000000 : Int) with
 | none => rfl
 | some r1 =>
 cases r1 with
 | false => rfl
 | true =>
 simp only [ab8, ifb, Bool.not_true]
 cases igt (acD x.2.1) (12 : Int) with
 | true => rfl
 | false =>
 cases igt (acD x.2.2.1) (40 : Int) with
 | true => rfl
 | false =>
 cases igt (acD x.2.2.2.1) (12 : Int) with
 | true => rfl
 | false =>
 cases igt (acD x.2.2.2.2.1) (40 : Int) with
 | true => rfl
 | false =>
 cases igt (acD x.2.2.2.2.2) (10 : Int) with
 | true => rfl
 | false =>
 cases aeK x with
 | none => rfl
 | some r2 =>
 simp only
 cases ine r2 (0 : Int) with
 | true => rfl
 | false =>
 cases afb x with
 | none => rfl
 | some r3 => rfl
theorem aTL {x : Val ab9} {q : List AV × List Blk} (h : ckM x = some (.inr q)) : ((x.2.2.1 : List (Val ab6)).length ≤ 1000 ∧ (x.2.2.2.1 : List (Val adJ)).length ≤ 1000 ∧ (x.2.2.2.2.1 : List (Val acd)).length ≤ 1000 ∧ (x.2.2.2.2.2 : List (Val ab6)).length ≤ 1000) ∧
 ∃ s, afb x = some s ∧ q = ([.box 0 0, .box 1 0, .fn (.func 165) [] [.box 2 0, .box 4 0, .box 3 0]], ckH x s 0) := by
 unfold ckM at h
 cases h0 : aeY x.1 (0 : Int) (1000000 : Int) with
 | none => rw [h0] at h; cases h
 | some r1 =>
 rw [h0] at h
 cases r1 with
 | false => cases h
 | true =>
 simp only [ab8, ifb, Bool.not_true] at h
 cases h1 : igt (acD x.2.1) (12 : Int) with
 | true => rw [h1] at h; cases h
 | false =>
 rw [h1] at h
 cases h2 : igt (acD x.2.2.1) (40 : Int) with
 | true => rw [h2] at h; cases h
 | false =>
 rw [h2] at h
 cases h3 : igt (acD x.2.2.2.1) (12 : Int) with
 | true => rw [h3] at h; cases h
 | false =>
 rw [h3] at h
 cases h4 : igt (acD x.2.2.2.2.1) (40 : Int) with
 | true => rw [h4] at h; cases h
 | false =>
 rw [h4] at h
 cases h5 : igt (acD x.2.2.2.2.2) (10 : Int) with
 | true => rw [h5] at h; cases h
 | false =>
 rw [h5] at h
 cases h6 : aeK x with
 | none => rw [h6] at h; cases h
 | some r2 =>
 rw [h6] at h
 simp only at h
 cases h7 : ine r2 (0 : Int) with
 | true => rw [h7] at h; cases h
 | false =>
 rw [h7] at h
 cases h8 : afb x with
 | none => rw [h8] at h; cases h
 | some r3 =>
 rw [h8] at h
 have lt : ∀ {α : Type} (l : List α) (n : Nat), igt (acD l) (n : Int) = false → l.length ≤ n := by
  intro α l n h
  unfold acD at h
  rw [azz] at h
  simp only [igt, gt_iff_lt, decide_eq_false_iff_not] at h
  omega
 simp only [Option.some.injEq, Sum.inr.injEq] at h
 exact ⟨⟨by have := lt x.2.2.1 40 h2; omega, by have := lt x.2.2.2.1 12 h3; omega, by have := lt x.2.2.2.2.1 40 h4; omega, by have := lt x.2.2.2.2.2 10 h5; omega⟩, r3, rfl, h.symm⟩
theorem as2 {α β : Type} {f : α → Option β} : ∀ {l : List α} {m : List β}, azD f l = some m → m.length = l.length ∧ ∀ (i : Nat) (a : α), l[i]? = some a → ∃ b, m[i]? = some b ∧ f a = some b
 | [], m, h => by cases h; exact ⟨rfl, fun i a ha => by simp at ha⟩
 | a :: l, m, h => by
   unfold azD at h
   cases ha : f a with
   | none => rw [ha] at h; cases h
   | some b =>
     rw [ha] at h
     cases hl : azD f l with
     | none => rw [hl] at h; cases h
     | some m' =>
       rw [hl] at h
       cases h
       obtain ⟨h1, h2⟩ := as2 hl
       refine ⟨by simp [h1], fun i c hc => ?_⟩
       cases i with
       | zero => simp at hc; subst hc; exact ⟨b, by simp, ha⟩
       | succ i => simpa using h2 i c (by simpa using hc)
theorem ayu (l : List Int) : upE (fun j => l[j]?.getD 0) l.length = l := by
 unfold upE
 refine List.ext_getElem (by simp) fun i h1 h2 => ?_
 simp at h1
 simp [h1]
theorem CR.below {n₀ : Nat} {w W : World} {av : Nat → Prop} (hb : Below n₀ w W) (hn : w.heap.size ≤ n₀) {t : Ty} {x : Val t} {vs : List Value} (h : CR w av t x vs) : CR W av t x vs :=
 h.keep fun b hlt ha => ⟨hb.block b (Nat.lt_of_lt_of_le hlt hn), ha⟩
theorem ay7 {w : World} {av : Nat → Prop} {xs : List (Int × Int)} {v : Value} (h : CR w av (.slice ab6) xs [v]) : ∃ base cap b off, v = .slice base xs.length cap ∧ (0 < xs.length → base = some ⟨b, off, none⟩ ∧ b < w.heap.size) ∧
 ∀ j, j < xs.length → w.cell? ⟨b, off + j * 2, none⟩ = some (.int .i64 (xs[j]?.getD (0, 0)).1) ∧ w.cell? ⟨b, off + j * 2 + 1, none⟩ = some (.int .i64 (xs[j]?.getD (0, 0)).2) := by
 obtain ⟨base, cap, e, hc, hx⟩ := h
 cases e
 rcases hx with hx | ⟨b, off, hb, hav, hlt, hx⟩
 ·refine ⟨base, cap, 0, 0, rfl, fun h => ?_, fun j hj => ?_⟩
  ·rw [show xs = [] from hx] at h; simp at h
  ·rw [show xs = [] from hx] at hj; simp at hj
 ·refine ⟨base, cap, b, off, rfl, fun _ => ⟨hb, hlt⟩, fun j hj => ?_⟩
  obtain ⟨us, h1, h2⟩ := hx j xs[j] (List.getElem?_eq_getElem hj)
  obtain ⟨u1, u2, e1, h3, h4⟩ := h1
  have e3 : u1 = [.int .i64 xs[j].1] := h3
  have e4 : u2 = [.int .i64 xs[j].2] := h4
  subst e3 e4 e1
  have s : (ab6).size = 2 := rfl
  rw [s] at h2
  have c1 := h2 0 _ rfl
  have c2 := h2 1 _ rfl
  rw [List.getElem?_eq_getElem hj]
  exact ⟨by simpa using c1, by simpa [Nat.add_assoc] using c2⟩
end Go.Proofs.ZzM
end
noncomputable section
set_option maxRecDepth 100000
namespace Go.Proofs.ZzM
open Go Go.Am Go.RowKit
section
variable {w W W' : World}
abbrev noG : Nat → Prop := fun _ => False
theorem aGN (w : World) (n : Int) : aha w noG tI n (.int .i64 n) := ⟨[.int .i64 n], rfl, rfl⟩
theorem aTr {sb : Nat} {mv : Value} {e : TypeId} {s : Val (.map tI ach)} (h : w.heap[sb]? = some (.cells #[mv] e (0, 0))) (hm : CR w noG (.map tI ach) s [mv]) : aha w noG (.ptr (.map tI ach)) s (.pointer (some ⟨sb, 0, none⟩)) := by
 letI : acM := ⟨fun _ => False, [], none⟩
 exact ⟨[.pointer (some ⟨sb, 0, none⟩)], ⟨sb, 0, [mv], rfl, id, adN h, hm, adW.of_cells h⟩, rfl⟩
theorem aTb {y : Int} {u : Value} (h : RR w noG [tI] y u) : u = .int .i64 y := by
 obtain ⟨us, h1, rfl⟩ := h
 have : us = [.int .i64 y] := h1
 rw [this]; rfl
theorem aRY (h1 : ∀ b, b < W.heap.size → W'.heap[b]? = W.heap[b]?) (h2 : W.heap.size ≤ W'.heap.size) (h3 : W'.os = W.os) (h4 : W'.tape = W.tape) (h5 : W'.output = W.output) : W.grownBy W' none :=
 ⟨h3, h4, h5, h2, fun b hb _ => h1 b hb⟩
theorem aG0 {f : Nat} {p : acC} (hp : ack Tryz.prog f p) (hrs : p.rs = [tI]) {x : Val (tyL p.ts)} {y : Int} (hF : p.F x = some (hrs ▸ (show Val (tyL [tI]) from y))) {vals : List Value} (ha : AL W noG p.ts x vals) :
 CallsIn Fence.wide 0 Tryz.prog f vals.toArray W fun e W'' => e = .returned (.int .i64 y) ∧ W.grownBy W'' none := by
 obtain ⟨ts, rs, F⟩ := p
 dsimp only at hrs hF ha x
 subst hrs
 refine (hp noG x y hF W vals (fun _ h => h.elim) ha).2.mono fun e w' ⟨u, h0, h1, h2, h3, h4, h5, h6⟩ => ⟨?_, aRY h2 h3 h4 h5 h6⟩
 rw [h0, aTb h1]
theorem aHo {s : Val (.map tI ach)} {a b y : Int} (hF : adO a b s = some y) {sb : Nat} {mv : Value} {e : TypeId} (h : W.heap[sb]? = some (.cells #[mv] e (0, 0))) (hm : CR W noG (.map tI ach) s [mv]) :
 CallsIn Fence.wide 0 Tryz.prog 163 #[.int .i64 a, .int .i64 b, .pointer (some ⟨sb, 0, none⟩)] W fun e W'' => e = .returned (.int .i64 y) ∧ W.grownBy W'' none :=
 aG0 aLK rfl (x := (a, b, s)) (y := y) hF (vals := [.int .i64 a, .int .i64 b, .pointer (some ⟨sb, 0, none⟩)]) ⟨_, _, rfl, aGN _ _, _, _, rfl, aGN _ _, _, rfl, aTr h hm⟩
theorem aPC {mv : Value} {s : Val (.map tI ach)} (hm : CR W noG (.map tI ach) s [mv]) : aha W noG (.map tI ach) s mv := ⟨[mv], hm, rfl⟩
theorem aNa {x : Val ab9} {cs : Array Value} (hb : CR W noG ab9 x cs.toList) : aha W noG ab9 x (.agg cs) := ⟨cs.toList, hb, by show Value.agg cs = Value.agg cs.toList.toArray; rw [Array.toArray_toList]⟩
theorem aPO {x : Val ab9} {s : Val (.map tI ach)} {i y : Int} (hF : ae1 x s i = some y) {mv : Value} {cs : Array Value} (hb : CR W noG ab9 x cs.toList) (hm : CR W noG (.map tI ach) s [mv]) :
 CallsIn Fence.wide 0 Tryz.prog 166 #[.agg cs, mv, .int .i64 i] W fun e W'' => e = .returned (.int .i64 y) ∧ W.grownBy W'' none :=
 aG0 aG5 rfl (x := (x, s, i)) (y := y) hF (vals := [.agg cs, mv, .int .i64 i]) ⟨_, _, rfl, aNa hb, _, _, rfl, aPC hm, _, rfl, aGN _ _⟩
theorem aJP {x : Val ab9} {s : Val (.map tI ach)} {i y : Int} (hF : adQ x s i = some y) {mv : Value} {cs : Array Value} (hb : CR W noG ab9 x cs.toList) (hm : CR W noG (.map tI ach) s [mv]) :
 CallsIn Fence.wide 0 Tryz.prog 167 #[.agg cs, mv, .int .i64 i] W fun e W'' => e = .returned (.int .i64 y) ∧ W.grownBy W'' none :=
 aG0 ayo rfl (x := (x, s, i)) (y := y) hF (vals := [.agg cs, mv, .int .i64 i]) ⟨_, _, rfl, aNa hb, _, _, rfl, aPC hm, _, rfl, aGN _ _⟩
end
theorem ajR {w : World} {av : Nat → Prop} {t : Ty} {xs : List (Val t)} {vs : List Value} (h : CR w av (.slice t) xs vs) : ∃ base cap, vs = [.slice base xs.length cap] := by
 obtain ⟨base, cap, e, _⟩ := h
 exact ⟨base, cap, e⟩
theorem aRs {x : Val ab9} {s : Val (.map tI ach)} {l1 l2 l3 l4 : List Int} (h1 : azD (fun u => adO u.1 u.2 s) (x.2.2.1 : List (Int × Int)) = some l1) (h2 : azD (fun i => ae1 x s i) (aok (x.2.2.2.1 : List (Val adJ)).length) = some l2)
 (h3 : azD (fun i => adQ x s i) (aok (x.2.2.2.2.1 : List (Val acd)).length) = some l3) (h4 : azD (fun u => adO u.1 u.2 s) (x.2.2.2.2.2 : List (Int × Int)) = some l4)
 (hlen : (x.2.2.1 : List (Val ab6)).length ≤ 1000 ∧ (x.2.2.2.1 : List (Val adJ)).length ≤ 1000 ∧ (x.2.2.2.2.1 : List (Val acd)).length ≤ 1000 ∧ (x.2.2.2.2.2 : List (Val ab6)).length ≤ 1000)
 {w : World} {bb tb sb : Nat} {te te2 te3 : TypeId} {cb : Array Value} {mv : Value} (hbb : w.heap[bb]? = some (.cells cb te (0, 0))) (hbk : CR w noG ab9 x cb.toList) (htb : w.heap[tb]? = some (.cells #[.func (.func 163) #[] #[.pointer (some ⟨sb, 0, none⟩)]] te2 (0, 0)))
 (hsb : w.heap[sb]? = some (.cells #[mv] te3 (0, 0))) (hmv : CR w noG (.map tI ach) s [mv]) :
 SeqStopsK Fence.wide 1 Tryz.prog 165 #[.pointer (some ⟨bb, 0, none⟩), .pointer (some ⟨tb, 0, none⟩), .pointer (some ⟨sb, 0, none⟩)] (fun x : Int => #[.int .i64 x]) (Below w.heap.size) (fun xs => xs = l1 ++ (l2 ++ (l3 ++ l4))) (fun pre => pre <+: (l1 ++ (l2 ++ (l3 ++ l4)))) (l1 ++ (l2 ++ (l3 ++ l4))).length w := by
 intro l J Jx W hbel hJ hJx hY h0
 obtain ⟨fl, r0, e0, hfl, hr0⟩ := id hbk
 obtain ⟨ga, r1, e1, hga, hr1⟩ := hr0
 obtain ⟨us, r2, e2, hus, hr2⟩ := hr1
 obtain ⟨lo, r3, e3, hlo, hr3⟩ := hr2
 obtain ⟨co, ko, e4, hco, hko⟩ := hr3
 obtain ⟨f1, f2, e5, hf1, hf2⟩ := hfl
 have e6 : f1 = [.int .i64 x.1.1] := hf1
 have e7 : f2 = [.int .i64 x.1.2] := hf2
 obtain ⟨gab, gac, e8⟩ := ajR hga
 obtain ⟨lob, loc, e9⟩ := ajR hlo
 obtain ⟨cob, coc, e10⟩ := ajR hco
 obtain ⟨usb0, usc0, e11⟩ := ajR hus
 obtain ⟨kob0, koc0, e12⟩ := ajR hko
 rw [e11] at hus
 rw [e12] at hko
 obtain ⟨usb, usc, ub, uo, e13, hub, hU⟩ := ay7 hus
 obtain ⟨kob, koc, kb, kof, e14, hkb, hK⟩ := ay7 hko
 rw [e13] at e11
 rw [e14] at e12
 have hcb : cb = #[.int .i64 x.1.1, .int .i64 x.1.2, .slice gab (x.2.1 : List (Val ach)).length gac, .slice usb (x.2.2.1 : List (Val ab6)).length usc, .slice lob (x.2.2.2.1 : List (Val adJ)).length loc, .slice cob (x.2.2.2.2.1 : List (Val acd)).length coc, .slice kob (x.2.2.2.2.2 : List (Val ab6)).length koc] := by
  rw [← Array.toList_inj, e0, e1, e2, e3, e4, e5, e6, e7, e8, e9, e10, e11, e12]
  rfl
 obtain ⟨g1, q1⟩ := as2 h1
 obtain ⟨g2, q2⟩ := as2 h2
 obtain ⟨g3, q3⟩ := as2 h3
 obtain ⟨g4, q4⟩ := as2 h4
 have gl2 : l2.length = (x.2.2.2.1 : List (Val adJ)).length := by rw [g2]; simp [aok]
 have gl3 : l3.length = (x.2.2.2.2.1 : List (Val acd)).length := by rw [g3]; simp [aok]
 have up1 : upE (fun j => l1[j]?.getD 0) (x.2.2.1 : List (Val ab6)).length = l1 := by rw [← g1]; exact ayu l1
 have up2 : upE (fun j => l2[j]?.getD 0) (x.2.2.2.1 : List (Val adJ)).length = l2 := by rw [← gl2]; exact ayu l2
 have up3 : upE (fun j => l3[j]?.getD 0) (x.2.2.2.2.1 : List (Val acd)).length = l3 := by rw [← gl3]; exact ayu l3
 have up4 : upE (fun j => l4[j]?.getD 0) (x.2.2.2.2.2 : List (Val ab6)).length = l4 := by rw [← g4]; exact ayu l4
 have at1 : ∀ {xs : List (Int × Int)} {ls : List Int}, (∀ (i : Nat) (a : Int × Int), xs[i]? = some a → ∃ b, ls[i]? = some b ∧ adO a.1 a.2 s = some b) → ∀ j, j < xs.length → adO (xs[j]?.getD (0, 0)).1 (xs[j]?.getD (0, 0)).2 s = some (ls[j]?.getD 0) := by
  intro xs ls hq j hj
  obtain ⟨b, hb, hf⟩ := hq j xs[j] (List.getElem?_eq_getElem hj)
  rw [List.getElem?_eq_getElem hj, hb]
  exact hf
 have at2 : ∀ {n : Nat} {ls : List Int} {f : Int → Option Int}, (∀ (i : Nat) (a : Int), (aok n)[i]? = some a → ∃ b, ls[i]? = some b ∧ f a = some b) → ∀ j, j < n → f (j : Int) = some (ls[j]?.getD 0) := by
  intro n ls f hq j hj
  obtain ⟨b, hb, hf⟩ := hq j j (by simp [aok, hj])
  rw [hb]; exact hf
 have hbel' : ∀ {W' : World}, Below w.heap.size W W' → Below w.heap.size w W' := fun h => hbel.trans h
 have hcell : ∀ {W' : World} {p : Addr} {v : Value}, Below w.heap.size w W' → w.cell? p = some v → p.block < w.heap.size → W'.cell? p = some v := fun {W'} {p} {v} h hc hp => (h.cell (p := p) hp).trans hc
 have lb := adN hbb
 have lt := adN htb
 have ls := adN hsb
 have := aRy te 1 (by omega) l w.heap.size bb tb sb (.int .i64 x.1.1) (.int .i64 x.1.2) (.slice gab (x.2.1 : List (Val ach)).length gac) mv lb lt ls
  ub uo (x.2.2.1 : List (Val ab6)).length usc kb kof (x.2.2.2.2.2 : List (Val ab6)).length koc usb kob lob cob (x.2.2.2.1 : List (Val adJ)).length loc (x.2.2.2.2.1 : List (Val acd)).length coc hub hkb
  (fun j => (x.2.2.1 : List (Int × Int))[j]?.getD (0, 0)) (fun j => (x.2.2.2.2.2 : List (Int × Int))[j]?.getD (0, 0)) (fun j => l1[j]?.getD 0) (fun j => l2[j]?.getD 0) (fun j => l3[j]?.getD 0) (fun j => l4[j]?.getD 0)
  hlen.1 hlen.2.1 hlen.2.2.1 hlen.2.2.2 W ((hbel.block bb lb).trans (by rw [hbb, hcb])) (hcell hbel (by simp [World.cell?, htb]) lt) (hcell hbel (by simp [World.cell?, hsb]) ls)
  (fun j hj => ⟨hcell hbel (hU j hj).1 (hub (by omega)).2, hcell hbel (hU j hj).2 (hub (by omega)).2⟩) (fun j hj => ⟨hcell hbel (hK j hj).1 (hkb (by omega)).2, hcell hbel (hK j hj).2 (hkb (by omega)).2⟩)
  (fun j hj W' hW => aHo (at1 q1 j hj) (((hbel' hW).block sb ls).trans hsb) (CR.below (hbel' hW) (Nat.le_refl _) hmv))
  (fun j hj W' hW => aHo (at1 q4 j hj) (((hbel' hW).block sb ls).trans hsb) (CR.below (hbel' hW) (Nat.le_refl _) hmv))
  (fun j hj W' hW => aPO (at2 q2 j hj) (by have := CR.below (hbel' hW) (Nat.le_refl _) hbk; rwa [hcb] at this) (CR.below (hbel' hW) (Nat.le_refl _) hmv))
  (fun j hj W' hW => aJP (at2 q3 j hj) (by have := CR.below (hbel' hW) (Nat.le_refl _) hbk; rwa [hcb] at this) (CR.below (hbel' hW) (Nat.le_refl _) hmv))
  J Jx (fun pre W1 W2 hj hg => hJ pre W1 W2 none hj hg (fun r e => by cases e)) (fun pre W1 W2 hj hg => hJx pre W1 W2 none hj hg (fun r e => by cases e))
  (fun pre y W1 hj hl => hY pre y W1 hj (by simp only [List.length_append]; omega)) h0 hbel.size
 rw [up1, up2, up3, up4] at this
 exact this
end Go.Proofs.ZzM
end
noncomputable section
set_option maxRecDepth 100000
namespace Go.Proofs.ZzM
open Go Go.Am Go.RowKit
section
variable [acM] {ρ : Type} {ν : Nat → Value} {w : World}
theorem peel (hq : acM.Q = none) {E : Env ρ} {call : List Nat → Bool → Nat → List AV → List Blk → (AV → List Blk → Option ρ) → Option ρ} {L : Nat} (hE : ahH E L call) (hD : ahT E L call) (hj : E.joins = fun _ _ _ _ => none) {fid : Nat} {path : List Nat} (hp : path.length + 2 = L) {x y c : Code} {bid n : Nat} {S : St} {K : Exit → St → Option ρ} {r : ρ} {a : Act} {Q : Exit → Act → World → Prop}
 (hL : ∀ z ∈ acH bid x, ajj E path fid z.1 z.2) (e : goC E call fid path 0 bid (.seq x y) S K = some r) (H : Sim ν S a w)
 (hn : ∀ ν' S' a' w', Sim ν' S' a' w' → Ev 0 ν S.h w ν' S'.h w' → goC E call fid path 0 bid y S' K = some r → c.wpIn Fence.wide n E.P Q a' w')
 (hx : ∀ ν' S' a' w' e, e ≠ .normal → Sim ν' S' a' w' → Ev 0 ν S.h w ν' S'.h w' → K e S' = some r → Q e a' w') : (Code.seq x c).wpIn Fence.wide n E.P Q a w := by
 simp only [goC, hj] at e
 have hgo := ahx hE hD hp x bid S _ ν a w hL e H (Nat.zero_le _)
 rw [auN hq] at hgo
 refine wpIn_seq (wpIn_wide.2 (wpIn_wide.1 (wpIn_mono hgo fun e' a' w' ha => ?_)))
 obtain ⟨ν', S', h1, h2, h3, h4, h5⟩ := ha
 cases e' with
 | normal => exact hn ν' S' a' w' h1 h2 h5
 | exit id => exact hx ν' S' a' w' _ (by simp) h1 h2 h5
 | goto l => exact hx ν' S' a' w' _ (by simp) h1 h2 h5
 | ret => exact hx ν' S' a' w' _ (by simp) h1 h2 h5
 | panic ch => exact hx ν' S' a' w' _ (by simp) h1 h2 h5
 | outgrown => exact hx ν' S' a' w' _ (by simp) h1 h2 h5
end
theorem aO5 {T : Array Value} {rb : Nat} {n : Int} {e : TypeId} {W : World} (h2 : T.getD 2 undef = .pointer (some ⟨rb, 0, none⟩)) (hc : W.heap[rb]? = some (.cells #[.int .i64 n] e (0, 0))) : (results Tryz.f38 T).run Tryz.prog W = .ok (.int .i64 n) W := by
 letI : acM := ⟨fun _ => False, [], none⟩
 have hl : (loadVar 34 ⟨rb, 0, none⟩).run Tryz.prog W = .ok (.int .i64 n) W := by
  have := azd (P := Tryz.prog) (w := W) (t := 34) (agg := false) (n := 1) (by kernel_rfl) (us := [.int .i64 n]) rfl (fun _ => rfl) (a := ⟨rb, 0, none⟩) (fun j v hj => by
   have := adW.of_cells hc j v (by simpa using hj)
   cases j with
   | zero => simpa [Addr.add] using this
   | succ j => simp at hj)
  exact this
 have hr : Tryz.f38.results = #[.cell 2 34] := by kernel_rfl
 unfold results
 rw [hr, Array.mapM_eq_mapM_toList]
 simp only [Sem.run_bind, Sem.run_map, List.mapM_cons, List.mapM_nil, h2, asAddr, Sem.run_pure, Result.andThen_ok, hl]
 rfl
theorem HR_ghost {G : Nat → Prop} {D D' : List Deferred} {Q Q' : Option Nat} {ν : Nat → Value} {h : List Blk} {w : World} (H : @HR ⟨G, D, Q⟩ ν h w) : @HR ⟨G, D', Q'⟩ ν h w :=
 @HR.mk ⟨G, D', Q'⟩ ν h w (@HR.blk ⟨G, D, Q⟩ ν h w H) (@HR.inj ⟨G, D, Q⟩ ν h w H) (@HR.ghlt ⟨G, D, Q⟩ ν h w H) (@HR.ghne ⟨G, D, Q⟩ ν h w H)
theorem aTR [acM] {ν : Nat → Value} {h : List Blk} {w : World} {x : Val ab9} {us : List Value} (hv : adk (VRc ν h w) (flat ab9 x) us) : CR w noG ab9 x us := by
 have h1 : acx ab9 (flat ab9 x) = some x := rfl
 have h2 : adk (VRs w (Av ν h)) (flat ab9 x) us := hv.mono fun c u hu => hu.1.data
 exact CR.mono (fun _ hf => hf.elim) (aeq h1 h2)
def arn (G : Nat → Prop) (y : Int) (w : World) (e : Ending) (w' : World) : Prop :=
 ∃ u, e = .returned u ∧ RR w' G [tI] y u ∧ (∀ b, b < w.heap.size → w'.heap[b]? = w.heap[b]?) ∧ w.heap.size ≤ w'.heap.size ∧ w'.os = w.os ∧ w'.tape = w.tape ∧ w'.output = w.output
theorem aM3 {G : Nat → Prop} {y : Int} {w0 w : World} {a : Act} {D rb : Nat} {e : TypeId} (hd : a.defers = [aMA D]) (hD : w.heap[D]? = some (.deferred (some []))) (h2 : a.tmps.getD 2 undef = .pointer (some ⟨rb, 0, none⟩)) (hc : w.heap[rb]? = some (.cells #[.int .i64 y] e (0, 0)))
 (hb : ∀ b, b < w0.heap.size → w.heap[b]? = w0.heap[b]?) (hDl : w0.heap.size ≤ D) (hsz : w0.heap.size ≤ w.heap.size) (h3 : w.os = w0.os) (h4 : w.tape = w0.tape) (h5 : w.output = w0.output) : LeavesInM Fence.wide 2 Tryz.prog Tryz.f38 a.tmps (arn G y w0) a.defers .returning w := by
 rw [hd]
 have hne : rb ≠ D := fun h => by rw [h, hD] at hc; cases hc
 have ho : ∀ b, b ≠ D → (w.putObj D (.deferred none)).heap[b]? = w.heap[b]? := fun b hb => by
  simp only [World.putObj, Array.getElem?_setIfInBounds]
  rw [if_neg (fun h => hb h.symm)]
 refine ⟨by simp, .inl ⟨D, _, rfl, run_takeDeferred hD, ?_⟩⟩
 refine ⟨.int .i64 y, aO5 h2 ((ho rb hne).trans hc), .int .i64 y, rfl, ⟨[.int .i64 y], rfl, rfl⟩, fun b hlt => (ho b (by omega)).trans (hb b hlt), by simpa [World.putObj] using hsz, h3, h4, h5⟩
theorem aTM (S : St) : ckK .ret S = (aQw S).map .inl := by
 unfold ckK
 cases aQw S <;> rfl
theorem aOh (S : St) : ckK .normal S = if decide (78 ≤ S.t.length) = true then some (.inr ([lk S.t 1, lk S.t 2, lk S.t 48], S.h)) else none := by
 unfold ckK
 cases decide (78 ≤ S.t.length) <;> rfl
theorem agm [acM] {ρ : Type} {E : Env ρ} (h0 : E.loops = ajt []) {path : List Nat} {fid bid : Nat} {b : Code} : ajj E path fid bid b := fun m S K r ν a w e => by
 rw [h0] at e
 cases e
def aTe : Code → String
 | .region _ ops _ => ((ops[0]?).map fun o => o.pos).getD ""
 | _ => ""
def rfA : Code → Code
 | .block _ (.rangeFunc _ _ a _) => a
 | _ => .skip
def rfB : Code → Code
 | .block _ (.rangeFunc _ _ _ (.block _ (.seq a _))) => a
 | _ => .skip
def rfC : Code → Code
 | .block _ (.rangeFunc _ _ _ (.block _ (.seq _ (.cond _ (.seq a _) _)))) => a
 | _ => .skip
theorem aTK : ckRF = Code.block 0 (Code.rangeFunc (.tmp 48) #[49] (aMi (aTe (rfA ckRF))) (aSF (aTe (rfB ckRF)) (aTe (rfC ckRF)))) := by kernel_rfl
theorem aSU : ∀ e ∈ ck_pt, ack Tryz.prog e.1 e.2 := ab5 aBR (ab5 aBQ (ab5 aqj (ab5 aBT acb)))
theorem aQx {e : Exit} {S : St} {n : Int} (h : ckK2 e S = some n) : e = .ret ∧ lk S.t 2 = .box 1 0 ∧ lkB S.h 1 = .cells [.int .i64 n] := by
 unfold ckK2 at h
 split at h
 ·split at h
  ·rename_i h2
   split at h
   ·rename_i h3
    cases h
    exact ⟨rfl, h2, h3⟩
   ·cases h
  ·cases h
 ·cases h
theorem aJr [acM] {ν : Nat → Value} {h : List Blk} {w : World} {n : Int} {id : Nat} (H : HR ν h w) (hl : lkB h id = .cells [.int .i64 n]) : ∃ b e, ν id = .pointer (some ⟨b, 0, none⟩) ∧ w.heap[b]? = some (.cells #[.int .i64 n] e (0, 0)) := by
 have hB := H.blk id
 rw [hl] at hB
 obtain ⟨b, c, e, h1, h2, h3⟩ := hB
 obtain ⟨u, h4, h5⟩ := h3.one
 have h6 : u = .int .i64 n := h5.1
 refine ⟨b, e, h1, ?_⟩
 rw [h2]
 have : c = #[.int .i64 n] := by rw [← Array.toList_inj, h4, h6]
 rw [this]
theorem apM [acM] {ν : Nat → Value} {h : List Blk} {w : World} {id off : Nat} {v : Value} {b : Nat} (hv : VR ν h w (.box id off) v) (hb : ν id = .pointer (some ⟨b, 0, none⟩)) : v = .pointer (some ⟨b, off, none⟩) := by
 obtain ⟨cs, b', h1, h2, h3⟩ := hv
 rw [hb] at h2
 cases h2
 exact h3
theorem aTJ {G : Nat → Prop} {x : Val ab9} {s : Val (.map tI ach)} {y : Int} (hS : ckS x = some y) {ν : Nat → Value} {w0 w6 W : World} {a : Act} {D : Nat} (H : @HR ⟨G, [], none⟩ ν (ckH x s 0) w6) (hb : Below w6.heap.size w6 W) (hD : w6.heap.size ≤ D) (hDo : W.heap[D]? = some (.deferred (some []))) (hd : a.defers = [aMA D]) (hlen : 78 ≤ a.tmps.size)
 (t1 : @VR ⟨G, [], none⟩ ν (ckH x s 0) w6 (.box 0 0) (a.tmps.getD 1 undef)) (t2 : @VR ⟨G, [], none⟩ ν (ckH x s 0) w6 (.box 1 0) (a.tmps.getD 2 undef))
 (h0 : ∀ b, b < w0.heap.size → w6.heap[b]? = w0.heap[b]? ∧ ¬ aLW ν (ckH x s 0) b) (hsz : w0.heap.size ≤ w6.heap.size) (h3 : w6.os = w0.os) (h4 : w6.tape = w0.tape) (h5 : w6.output = w0.output) :
 aEz.wpIn Fence.wide 2 Tryz.prog (bodyPostM Fence.wide 2 Tryz.prog Tryz.f38 (arn G y w0)) a W := by
 have hlive : ∀ b, aLW ν (ckH x s 0) b → b < w6.heap.size := fun b hl => @HR.ltA ⟨G, [], none⟩ _ _ _ H b (.inl hl)
 have t1' : ∃ b, ν 0 = .pointer (some ⟨b, 0, none⟩) ∧ a.tmps.getD 1 undef = .pointer (some ⟨b, 0, none⟩) := by
  obtain ⟨cs, b, _, h2, h3⟩ := t1
  exact ⟨b, h2, h3⟩
 have t2' : ∃ b, ν 1 = .pointer (some ⟨b, 0, none⟩) ∧ a.tmps.getD 2 undef = .pointer (some ⟨b, 0, none⟩) := by
  obtain ⟨cs, b, _, h2, h3⟩ := t2
  exact ⟨b, h2, h3⟩
 letI : acM := ⟨G, [aMA D], none⟩
 have H1 : HR ν (ckH x s 0) w6 := HR_ghost H
 have H2 : HR ν (ckH x s 0) W := (H1.grow (fun b hlt => hb.block b hlt) hb.size hb.os hb.tape hb.output 0).2
 have hlib : ays (aSi Int) := aA1 aSU (aSi Int) rfl rfl rfl rfl rfl (afs rfl)
 have hdraw : ∀ L call, ahH (aSi Int) L call → ahT (aSi Int) L call := ast hmix
 have hl0 : (aSi Int).loops = ajt [] := rfl
 have hcall := aii (.inr fun _ => rfl) hlib hdraw (fun n hn hE path f fn c _ _ _ z _ => agm hl0) 10 (Nat.le_refl _)
 have hEnv : ahH (aSi Int) 2 (agG (aSi Int) 10) := ⟨.inr (akm 9), hcall, hlib.plain, hlib.clone, hlib.joins⟩
 have law := ck_suf x s
 rw [hS] at law
 have sim : Sim ν { t := [.any, .box 0 0, .box 1 0] ++ List.replicate 75 .any, h := ckH x s 0 } a W := by
  refine ⟨hd, by simpa using hlen, fun i => ?_, H2⟩
  simp only [aA0]
  rcases i with _ | _ | _ | i
  ·trivial
  ·obtain ⟨b, g1, g2⟩ := t1'
   exact ⟨_, b, rfl, g1, g2⟩
  ·obtain ⟨b, g1, g2⟩ := t2'
   exact ⟨_, b, rfl, g1, g2⟩
  ·trivial
 refine wpIn_wide.2 (wpIn_wide.1 (wpIn_mono (ahx hEnv (hdraw _ _ hEnv) rfl aEz 0 _ _ ν a W (fun z _ => agm hl0) law sim (Nat.zero_le _)) fun e a' w' ha => ?_))
 obtain ⟨ν', S', g1, g2, _, _, g5⟩ := ha
 obtain ⟨rfl, k2, k3⟩ := aQx g5
 obtain ⟨rb, te, r1, r2⟩ := aJr g1.heap k3
 have r3 := g1.tmps 2
 rw [k2] at r3
 have r4 := apM r3 r1
 have hDlt := adN hDo
 refine aM3 (w := w') (a := a') (G := G) (y := y) (w0 := w0) (D := D) (rb := rb) g1.defers ((g2.keep D hDlt fun hl => by have := hlive D hl; omega).1.trans hDo) r4 r2 (fun b hlt => ?_) (by omega) (by have := g2.size; have := hb.size; omega) (g2.os.trans (hb.os.trans h3)) (g2.tape.trans (hb.tape.trans h4)) (g2.output.trans (hb.output.trans h5))
 have h01 := h0 b hlt
 have hlt6 : b < w6.heap.size := by omega
 have hltW : b < W.heap.size := by have := hb.size; omega
 exact (g2.keep b hltW h01.2).1.trans ((hb.block b hlt6).trans h01.1)
set_option maxHeartbeats 2000000 in
theorem aOi (G : Nat → Prop) (x : Val ab9) (y : Int) (hF' : acV x = some y) (w : World) (vals : List Value) (hG : ∀ b, G b → b < w.heap.size) (hAL : AL w G [ab9] x vals) :
 (∃ fn c, Tryz.prog.funcs[38]? = some fn ∧ fn.body = some c) ∧ CallsIn Fence.wide 0 Tryz.prog 38 vals.toArray w (arn G y w) := by
 rw [aSh] at hF'
 letI : acM := ⟨G, [], none⟩
 have hpt := aSU
 have hlib : ays (ckE ckR) := aA1 hpt (ckE ckR) rfl rfl rfl rfl rfl (afs rfl)
 have hdraw : ∀ L call, ahH (ckE ckR) L call → ahT (ckE ckR) L call := ast hmix
 have h0 : (ckE ckR).loops = ajt [] := rfl
 have hcall := aii (.inl ⟨rfl, rfl⟩) hlib hdraw (fun n hn hE path f fn c _ _ _ z _ => agm h0) 10 (Nat.le_refl _)
 have hEnv : ahH (ckE ckR) 2 (agG (ckE ckR) 10) := ⟨.inr (akm 9), hcall, hlib.plain, hlib.clone, hlib.joins⟩
 have hD := hdraw _ _ hEnv
 have H : HR (fun _ => undef) [] w := ⟨fun _ => trivial, fun _ _ _ h => (by cases h), hG, fun _ _ h => (by cases h)⟩
 have hav : ∀ b, Av (fun _ => undef) [] b → G b := fun b hb => hb.elim (fun ⟨_, h, _⟩ => by cases h) id
 have hargs : adk (VR (fun _ => undef) [] w) (adD [ab9] x) vals := AL.VR (hAL.mono hav)
 refine ⟨⟨Tryz.f38, _, Tryz.func38, aSV⟩, ?_⟩
 have hlen : vals.length = 1 := by
  have := hargs.length
  simpa [adD, aQg] using this.symm
 cases hM : ckM x with
 | none => rw [hM] at hF'; cases hF'
 | some r0 =>
 rw [hM] at hF'
 have law := ck_pre x
 rw [hM] at law
 refine callsIn_wide.2 (callsIn_wide.1 (callsIn_of_wp_marks (n := 2) Tryz.func38 aSV trivial ?_ (R := arn G y w)))
 have hS : Sim (fun _ => undef) { t := adD [ab9] x ++ List.replicate 77 .any, h := [] } { tmps := vals.toArray ++ Array.replicate (Tryz.f38.ntmps - vals.toArray.size) undef, defers := [] } w := by
  refine ⟨rfl, ?_, fun i => ?_, H⟩
  ·have : Tryz.f38.ntmps = 78 := by kernel_rfl
   have hl2 : (adD [ab9] x).length = 1 := rfl
   simp [this, hlen, hl2]
  ·simp only [aA0]
   rcases Nat.lt_or_ge i (adD [ab9] x).length with hi | hi
   ·have := adk.lk (R := VR (fun _ => undef) [] w) (fun _ => trivial) i hargs
    have hv : i < vals.length := by rw [← hargs.length]; exact hi
    have h2 : (vals.toArray ++ Array.replicate (Tryz.f38.ntmps - vals.toArray.size) undef).getD i undef = vals.getD i undef := by
     simp [Array.getD_eq_getD_getElem?, Array.getElem?_append, hv]
    rw [h2]; exact this
   ·rw [aPR _ _ hi]; trivial
 -- the ways out ahead of the loop
 have out : ∀ ν' S' a' w' e, e ≠ .normal → Sim ν' S' a' w' → Ev 0 (fun _ => undef) [] w ν' S'.h w' → ckK e S' = some r0 → bodyPostM Fence.wide 2 Tryz.prog Tryz.f38 (arn G y w) e a' w' := by
  intro ν' S' a' w' e hne hS' hE' hk
  cases e with
  | normal => exact (hne rfl).elim
  | ret =>
    rw [aTM] at hk
    cases hr : aQw S' with
    | none => rw [hr] at hk; cases hk
    | some n =>
      rw [hr, Option.map_some] at hk
      cases hk
      have hyn : n = y := by simpa using hF'
      subst hyn
      unfold aQw at hr
      split at hr
      ·rename_i v hv
       obtain ⟨u, q1, q2⟩ := ave hS' hv
       show LeavesInM _ _ _ _ _ _ a'.defers _ _
       rw [show a'.defers = [] from hS'.defers]
       exact ⟨u, q1, u, rfl, aE0 hS'.heap [tI] q2 hr, fun b hb => (hE'.keep b hb fun ⟨_, h, _⟩ => by cases h).1, hE'.size, hE'.os, hE'.tape, hE'.output⟩
      ·cases hr
  | exit id => cases hk
  | goto l => cases hk
  | panic ch => cases hk
  | outgrown => cases hk
 have outT : ∀ {ν₁ : Nat → Value} {h₁ : List Blk} {w₁ : World}, Ev 0 (fun _ => undef) [] w ν₁ h₁ w₁ → ∀ ν' S' a' w' e, e ≠ .normal → Sim ν' S' a' w' → Ev 0 ν₁ h₁ w₁ ν' S'.h w' → ckK e S' = some r0 → bodyPostM Fence.wide 2 Tryz.prog Tryz.f38 (arn G y w) e a' w' :=
  fun hE ν' S' a' w' e hne hS' hE' hk => out ν' S' a' w' e hne hS' (hE.trans hE' (Nat.le_refl _)) hk
 refine peel rfl hEnv hD rfl rfl (fun z _ => agm h0) law hS (fun ν1 S1 a1 w1 s1 e1 k1 => ?_) out
 refine peel rfl hEnv hD rfl rfl (fun z _ => agm h0) k1 s1 (fun ν2 S2 a2 w2 s2 e2 k2 => ?_) (outT e1)
 have t2 := e1.trans e2 (Nat.le_refl _)
 refine peel rfl hEnv hD rfl rfl (fun z _ => agm h0) k2 s2 (fun ν3 S3 a3 w3 s3 e3 k3 => ?_) (outT t2)
 have t3 := t2.trans e3 (Nat.le_refl _)
 refine peel rfl hEnv hD rfl rfl (fun z _ => agm h0) k3 s3 (fun ν4 S4 a4 w4 s4 e4 k4 => ?_) (outT t3)
 have t4 := t3.trans e4 (Nat.le_refl _)
 refine peel rfl hEnv hD rfl rfl (fun z _ => agm h0) k4 s4 (fun ν5 S5 a5 w5 s5 e5 k5 => ?_) (outT t4)
 have t5 := t4.trans e5 (Nat.le_refl _)
 refine wpIn_seq (wpIn_seq (wpIn_wide.2 (wpIn_wide.1 (wpIn_mono (ahx hEnv hD rfl ckA5 0 S5 _ ν5 a5 w5 (fun z _ => agm h0) k5 s5 (Nat.zero_le _)) fun e' a6 w6 ha => ?_))))
 obtain ⟨ν, S, s6, e6, _, _, k6⟩ := ha
 have t6 := t5.trans e6 (Nat.le_refl _)
 have other : ∀ e, e ≠ .normal → ckK e S = some r0 → Exit.then (Code.wpIn Fence.wide 2 Tryz.prog aEz (bodyPostM Fence.wide 2 Tryz.prog Tryz.f38 (arn G y w))) (bodyPostM Fence.wide 2 Tryz.prog Tryz.f38 (arn G y w)) e a6 w6 := by
  intro e hne hk
  have := out ν S a6 w6 e hne s6 t6 hk
  cases e <;> first | exact (hne rfl).elim | exact this
 cases e' with
 | exit id => exact other _ (by simp) k6
 | goto l => exact other _ (by simp) k6
 | ret => exact other _ (by simp) k6
 | panic ch => exact other _ (by simp) k6
 | outgrown => exact other _ (by simp) k6
 | normal =>
 clear other
 rw [aOh] at k6
 split at k6 <;> try (cases k6; done)
 rename_i h78
 have h78' : 78 ≤ S.t.length := by simpa using h78
 cases k6
 obtain ⟨hlens, s, hs, hq⟩ := aTL hM
 simp only [Prod.mk.injEq, List.cons.injEq, and_true] at hq
 obtain ⟨⟨q1, q2, q48⟩, qh⟩ := hq
 have hF2 : aHM (aiP x s) some (ckS x) = some y := by
  simp only at hF'
  rw [hs] at hF'
  exact hF'
 -- what the errors are
 obtain ⟨L, hL, hLy⟩ : ∃ L, aiP x s = some L ∧ (match L.find? (fun e => e != 0) with | some e => some e | none => ckS x) = some y := by
  unfold aHM at hF2
  cases hl : aiP x s with
  | none => rw [hl] at hF2; cases hF2
  | some L => rw [hl] at hF2; exact ⟨L, rfl, hF2⟩
 obtain ⟨l1, l2, l3, l4, m1, m2, m3, m4, rfl⟩ : ∃ l1 l2 l3 l4, azD (fun u => adO u.1 u.2 s) (x.2.2.1 : List (Int × Int)) = some l1 ∧ azD (fun i => ae1 x s i) (aok (x.2.2.2.1 : List (Val adJ)).length) = some l2 ∧
  azD (fun i => adQ x s i) (aok (x.2.2.2.2.1 : List (Val acd)).length) = some l3 ∧ azD (fun u => adO u.1 u.2 s) (x.2.2.2.2.2 : List (Int × Int)) = some l4 ∧ L = l1 ++ (l2 ++ (l3 ++ l4)) := by
  unfold aiP at hL
  cases m1 : azD (fun u => adO u.1 u.2 s) (x.2.2.1 : List (Int × Int)) with
  | none => rw [m1] at hL; cases hL
  | some l1 =>
  rw [m1] at hL
  cases m2 : azD (fun i => ae1 x s i) (aok (x.2.2.2.1 : List (Val adJ)).length) with
  | none => simp only [ab8, m2] at hL; cases hL
  | some l2 =>
  cases m3 : azD (fun i => adQ x s i) (aok (x.2.2.2.2.1 : List (Val acd)).length) with
  | none => simp only [ab8, m2, m3] at hL; cases hL
  | some l3 =>
  cases m4 : azD (fun u => adO u.1 u.2 s) (x.2.2.2.2.2 : List (Int × Int)) with
  | none => simp only [ab8, m2, m3, m4] at hL; cases hL
  | some l4 =>
  simp only [ab8, m2, m3, m4] at hL
  cases hL
  exact ⟨l1, l2, l3, l4, rfl, rfl, rfl, rfl, rfl⟩
 -- the blocks
 obtain ⟨T, Hh⟩ := S
 dsimp only at q1 q2 q48 qh h78'
 subst qh
 have p1 := s6.tmps 1
 have p2 := s6.tmps 2
 have p48 := s6.tmps 48
 dsimp only at p1 p2 p48
 rw [q1] at p1
 rw [q2] at p2
 rw [q48] at p48
 obtain ⟨rb, te1, n1, hrb⟩ := aJr (id := 1) (n := 0) s6.heap rfl
 have hB2 : BR ν (ckH x s 0) w6 2 (.cells (flat ab9 x)) := s6.heap.blk 2
 have hB3 : BR ν (ckH x s 0) w6 3 (.cells [.mp tI ach s]) := s6.heap.blk 3
 have hB4 : BR ν (ckH x s 0) w6 4 (.cells [.fn (.func 163) [] [.box 3 0]]) := s6.heap.blk 4
 obtain ⟨bb, cb, te, n2, hbb, hb2⟩ := hB2
 obtain ⟨sb, cs3, te3, n3, hsb, hb3⟩ := hB3
 obtain ⟨tb, cs4, te2, n4, htb, hb4⟩ := hB4
 obtain ⟨mv, z3, hm3⟩ := hb3.one
 obtain ⟨fv, z4, hm4⟩ := hb4.one
 have hmv : CR w6 noG (.map tI ach) s [mv] := CR.mono (fun _ hf => hf.elim) (show CR w6 (Av ν (ckH x s 0)) (.map tI ach) s [mv] from hm3.1)
 have hc3 : cs3 = #[mv] := by rw [← Array.toList_inj, z3]
 have hfv : fv = .func (.func 163) #[] #[.pointer (some ⟨sb, 0, none⟩)] := by
  obtain ⟨fs, cs, h1, h2, h3⟩ := hm4.1
  have e1 : fs = #[] := by rw [← Array.toList_inj]; exact h2.nil_left
  obtain ⟨u, e2, h4⟩ := h3.one
  have e3 : u = .pointer (some ⟨sb, 0, none⟩) := apM (w := w6) (id := 3) (off := 0) h4 n3
  have e4 : cs = #[.pointer (some ⟨sb, 0, none⟩)] := by rw [← Array.toList_inj, e2, e3]
  rw [h1, e1, e4]
 have hc4 : cs4 = #[fv] := by rw [← Array.toList_inj, z4]
 rw [hc3] at hsb
 rw [hc4, hfv] at htb
 have hg : a6.tmps.getD 48 undef = .func (.func 165) #[] #[.pointer (some ⟨bb, 0, none⟩), .pointer (some ⟨tb, 0, none⟩), .pointer (some ⟨sb, 0, none⟩)] := by
  obtain ⟨fs, cs, h1, h2, h3⟩ := p48
  have e1 : fs = #[] := by rw [← Array.toList_inj]; exact h2.nil_left
  have hl := h3.length
  obtain ⟨u1, u2, u3, e2⟩ : ∃ u1 u2 u3, cs.toList = [u1, u2, u3] := by
   rcases hcs : cs.toList with _ | ⟨u1, _ | ⟨u2, _ | ⟨u3, _ | ⟨u4, t⟩⟩⟩⟩ <;> rw [hcs] at hl <;> simp at hl
   exact ⟨u1, u2, u3, rfl⟩
  rw [e2] at h3
  have e3 : u1 = .pointer (some ⟨bb, 0, none⟩) := apM (w := w6) (id := 2) (off := 0) h3.1 n2
  have e4 : u2 = .pointer (some ⟨tb, 0, none⟩) := apM (w := w6) (id := 4) (off := 0) h3.2.1 n4
  have e5 : u3 = .pointer (some ⟨sb, 0, none⟩) := apM (w := w6) (id := 3) (off := 0) h3.2.2.1 n3
  rw [h1, e1]
  congr 1
  rw [← Array.toList_inj, e2, e3, e4, e5]
 have hseq := aRs m1 m2 m3 m4 hlens hbb (aTR hb2) htb hsb hmv
 have h2 := apM p2 n1
 have hsz : 78 ≤ a6.tmps.size := Nat.le_trans h78' s6.len
 have hkeep : ∀ b, b < w.heap.size → w6.heap[b]? = w.heap[b]? ∧ ¬ aLW ν (ckH x s 0) b := fun b hb => t6.keep b hb fun ⟨_, h, _⟩ => by cases h
 have hdef : a6.defers = [] := s6.defers
 show ckRF.wpIn Fence.wide 2 Tryz.prog (Exit.then (aEz.wpIn Fence.wide 2 Tryz.prog (bodyPostM Fence.wide 2 Tryz.prog Tryz.f38 (arn G y w))) (bodyPostM Fence.wide 2 Tryz.prog Tryz.f38 (arn G y w))) a6 w6
 rw [aTK]
 refine wpIn_block (aTa hseq hg h2 hsz hrb (fun D W hall hbel hDl hDo => ?_) (fun D W z hz hput hDl hDo => ?_))
 ·have hck : ckS x = some y := by
   have : (l1 ++ (l2 ++ (l3 ++ l4))).find? (fun e => e != 0) = none := List.find?_eq_none.2 fun z hz => by rw [hall z hz]; simp
   rw [this] at hLy
   exact hLy
  exact aTJ (s := s) hck s6.heap hbel hDl hDo (by show aMA D :: a6.defers = _; rw [hdef]) hsz p1 p2 hkeep t6.size t6.os t6.tape t6.output
 ·have hzy : z = y := by
   rw [hz] at hLy
   simpa using hLy
  subst hzy
  obtain ⟨te5, hcell⟩ := hput.cell
  have hlb := adN hrb
  have hlive : aLW ν (ckH x s 0) rb := ⟨1, rfl, by rw [n1]; rfl⟩
  exact aM3 (a := { a6 with defers := aMA D :: a6.defers }) (w := W) (by show aMA D :: a6.defers = _; rw [hdef]) hDo h2 hcell
   (fun b hb => (hput.block b (by have := t6.size; omega) (fun e => (hkeep b hb).2 (e ▸ hlive))).trans (hkeep b hb).1) (by have := t6.size; omega) (by have := t6.size; have := hput.size; omega) (hput.os.trans t6.os) (hput.tape.trans t6.tape) (hput.output.trans t6.output)
theorem aem : ack Tryz.prog 38 ael := fun G x y hF w vals hG hAL => aOi G x y hF w vals hG hAL
end Go.Proofs.ZzM
end
noncomputable section
set_option maxRecDepth 100000
namespace Go.Proofs.ZzM
open Go Go.Am Go.RowKit
abbrev cP : Type := Val (tyL afT)
abbrev cV : Type := Val (tyL ah7)
abbrev cS (p : cP) (v : cV) : St := af6 alV afT ah7 p v
abbrev cU (p : cP) (v : cV) (x : Val ach) : St := af6 azS afT apZ p (arU v x)
theorem aSb (im : List (Int × Bool)) (n : Int) : aja Tryz.prog [.map tI .bool im] 197 (.omp 0) (.int .i64 n) false some = (match (alP (k := tI) (v := .bool) n im : Option Bool) with | some y => some (.bool y) | none => some (.bool false)) := by kernel_rfl
noncomputable def MapAt (W : World) (mb : Nat) (im : List (Int × Bool)) : Prop := ∃ (entries : Array MapEntry) (clock : Nat), W.heap[mb]? = some (.map entries clock) ∧ entries.size = im.length ∧ ∀ (i : Nat) (e : Int × Bool), im[i]? = some e → ∃ m, entries[i]? = some m ∧ m.key = .int .i64 e.1 ∧ m.val = .bool e.2
noncomputable def axO (im : List (Int × Bool)) (n : Int) : Bool := ((alP (k := tI) (v := .bool) n im : Option Bool)).getD false
theorem aRN {W : World} {mb : Nat} {im : List (Int × Bool)} (h : MapAt W mb im) (n : Int) : (Instr.lookup 197 (.map (some mb)) (.int .i64 n) false).run Tryz.prog W = .ok (.bool (axO im n)) W := by
 letI : acM := ⟨fun _ => False, [], none⟩
 obtain ⟨entries, clock, h1, h2, h3⟩ := h
 have H : HR (fun _ => .map (some mb)) [.map tI .bool im] W := by
  refine ⟨fun id => ?_, fun i j b hi hj _ _ => ?_, fun b hb => hb.elim, fun id b _ _ hb => hb.elim⟩
  ·rcases id with _ | id
   ·refine ⟨mb, entries, clock, rfl, h1, h2, fun i e he => ?_⟩
    obtain ⟨m, q1, q2, q3⟩ := h3 i e he
    exact ⟨m, [.bool e.2], q1, by rw [q2]; rfl, rfl, by rw [q3]; rfl⟩
   ·rw [aEd _ _ (by simp)]; trivial
  ·have one : ∀ i, (lkB [Blk.map tI .bool im] i).live = true → i = 0 := fun i hi => by
    rcases i with _ | i
    ·rfl
    ·rw [aEd _ _ (by simp)] at hi; cases hi
   rw [one i hi, one j hj]
 have hom : VR (fun _ => .map (some mb)) [.map tI .bool im] W (.omp 0) (.map (some mb)) := ⟨rfl, _, _, _, rfl, rfl⟩
 have hk : aja Tryz.prog [.map tI .bool im] 197 (.omp 0) (.int .i64 n) false some = some (.bool (axO im n)) := by
  rw [aSb]
  unfold axO
  cases (alP (k := tI) (v := .bool) n im : Option Bool) <;> rfl
 obtain ⟨u, q1, q2⟩ := aJg H hk hom (ui := .int .i64 n) rfl
 rw [q1]
 have : u = .bool (axO im n) := q2
 rw [this]
noncomputable def gz (l : List (Val ach)) (j : Nat) : Val ach := l[j]?.getD (0, 0, 0, (0, 0), (0, 0), 0)
theorem aLs {w : World} {av : Nat → Prop} {g : Val ach} {us : List Value} (h : CR w av ach g us) :
 us = [.int .i64 g.1, .int .i64 g.2.1, .int .i64 g.2.2.1, .int .i64 g.2.2.2.1.1, .int .i64 g.2.2.2.1.2, .int .i64 g.2.2.2.2.1.1, .int .i64 g.2.2.2.2.1.2, .int .i64 g.2.2.2.2.2] := by
 obtain ⟨a1, r1, rfl, h1, a2, r2, rfl, h2, a3, r3, rfl, h3, a4, r4, rfl, ⟨b1, b2, rfl, h4, h5⟩, ⟨b3, r5, rfl, ⟨b5, b6, rfl, h6, h7⟩, h8⟩⟩ := h
 have e1 : a1 = [.int .i64 g.1] := h1
 have e2 : a2 = [.int .i64 g.2.1] := h2
 have e3 : a3 = [.int .i64 g.2.2.1] := h3
 have e4 : b1 = [.int .i64 g.2.2.2.1.1] := h4
 have e5 : b2 = [.int .i64 g.2.2.2.1.2] := h5
 have e6 : b5 = [.int .i64 g.2.2.2.2.1.1] := h6
 have e7 : b6 = [.int .i64 g.2.2.2.2.1.2] := h7
 have e8 : r5 = [.int .i64 g.2.2.2.2.2] := h8
 subst e1 e2 e3 e4 e5 e6 e7 e8
 rfl
noncomputable def KNd (w1 : World) (R : Nat → Prop) (tb : Nat) (im : List (Int × Bool)) (W : World) : Prop := w1.heap.size ≤ W.heap.size ∧ (∀ b, R b → W.heap[b]? = w1.heap[b]?) ∧ tb < w1.heap.size ∧ ∃ mb, mb < w1.heap.size ∧ W.cell? ⟨tb, 0, none⟩ = some (.map (some mb)) ∧ MapAt W mb im
theorem KNd.below {w1 W W' : World} {R : Nat → Prop} {tb : Nat} {im : List (Int × Bool)} (hR : ∀ b, R b → b < w1.heap.size) (h : KNd w1 R tb im W) (hz : W.heap.size ≤ W'.heap.size) (hb : ∀ b, b < w1.heap.size → W'.heap[b]? = W.heap[b]?) : KNd w1 R tb im W' := by
 obtain ⟨h1, h2, h3, mb, h4, h5, en, cl, h6, h7, h8⟩ := h
 exact ⟨Nat.le_trans h1 hz, fun b hr => (hb b (hR b hr)).trans (h2 b hr), h3, mb, h4, by rw [World.cell?_of_block (w := W) (hb tb h3)]; exact h5, en, cl, (hb mb h4).trans h6, h7, h8⟩
theorem KNd.grown {w1 W W' : World} {R : Nat → Prop} {tb : Nat} {im : List (Int × Bool)} (hR : ∀ b, R b → b < w1.heap.size) (h : KNd w1 R tb im W) (hg : W.grownBy W' none) : KNd w1 R tb im W' :=
 h.below hR hg.size fun b hb => hg.block b (Nat.lt_of_lt_of_le hb h.1) (by simp)
theorem aJi {f : AV → Bool} (h0 : f .any = true) : ∀ (l : List AV), l.all f = true → ∀ i, f (lk l i) = true
 | [], _, i => by cases i <;> exact h0
 | x :: l, h, 0 => by simp only [List.all_cons, Bool.and_eq_true] at h; exact h.1
 | x :: l, h, i + 1 => by simp only [List.all_cons, Bool.and_eq_true] at h; exact aJi h0 l h.2 i
theorem aGI {f : Blk → Bool} (h0 : f .dead = true) : ∀ (l : List Blk), l.all f = true → ∀ i, f (lkB l i) = true
 | [], _, i => by cases i <;> exact h0
 | x :: l, h, 0 => by simp only [List.all_cons, Bool.and_eq_true] at h; exact h.1
 | x :: l, h, i + 1 => by simp only [List.all_cons, Bool.and_eq_true] at h; exact aGI h0 l h.2 i
theorem cS_mf (p : cP) (v : cV) : (cS p v).h.all mfB = true := by kernel_rfl
theorem cU_mf (p : cP) (v : cV) (x : Val ach) : (cU p v x).h.all mfB = true := by kernel_rfl
theorem cU_mft (p : cP) (v : cV) (x : Val ach) : (cU p v x).t.all mfV3 = true := by kernel_rfl
theorem cR_mf (y : Val ab9) : (af6 aj6 [] ago () (ag4 y)).h.all mfB = true := by kernel_rfl
theorem cR_mft (y : Val ab9) : (af6 aj6 [] ago () (ag4 y)).t.all mfV3 = true := by kernel_rfl
noncomputable def pin0 (m : Nat) : AV → Bool
 | .any => true
 | .box id _ => Nat.blt id m
 | _ => false
noncomputable def pin3 (m : Nat) : AV → Bool
 | .fn _ a b => a.all (pin0 m) && b.all (pin0 m)
 | a => pin0 m a
section
variable [acM] {ν ν' : Nat → Value} {h h' : List Blk} {w w' : World} {m : Nat}
theorem VR0.pin (e : Ev m ν h w ν' h' w') {a : AV} {v : Value} (hp : pin0 m a = true) (hv : VR0 ν h w a v) : VR0 ν' h' w' a v := by
 cases a with
 | any => trivial
 | box id off =>
   obtain ⟨cs, b, hl, h1, h2⟩ := hv
   have hlt : id < m := Nat.le_of_ble_eq_true hp
   have hb := e.blk id hlt
   rw [hl] at hb
   obtain ⟨⟨cs', hl'⟩, he⟩ := hb
   exact ⟨cs', b, hl', by rw [he]; exact h1, h2⟩
 | _ => cases hp
theorem VR.pin (e : Ev m ν h w ν' h' w') {a : AV} {v : Value} (hp : pin3 m a = true) (hv : VR ν h w a v) : VR ν' h' w' a v := by
 cases a with
 | fn f fa fb =>
   obtain ⟨fs, cs, h1, h2, h3⟩ := hv
   simp only [pin3, Bool.and_eq_true, List.all_eq_true] at hp
   exact ⟨fs, cs, h1, h2.mem fun a ha _ => VR0.pin e (hp.1 a ha), h3.mem fun a ha _ => VR0.pin e (hp.2 a ha)⟩
 | any => trivial
 | box id off => exact VR0.pin (a := .box id off) e (show pin0 m (.box id off) = true from hp) hv
 | _ => cases hp
end
theorem aSW (p : cP) (v : cV) : (cS p v).t.all (pin3 9) = true := by kernel_rfl
theorem cS_len (p : cP) (v : cV) : (cS p v).h.length = 10 := by kernel_rfl
theorem cU_len (p : cP) (v : cV) (x : Val ach) : (cU p v x).h.length = 11 := by kernel_rfl
theorem cS_t (p : cP) (v : cV) (z : List (Val ach)) : (cS p (adq v z)).t = (cS p v).t := by kernel_rfl
theorem cS_5 (p : cP) (v : cV) : ∃ a b us lo co ko, lkB (cS p v).h 5 = .cells [.int .i64 a, .int .i64 b, .slc ach (acL v), .slc ab6 us, .slc adJ lo, .slc acd co, .slc ab6 ko] := ⟨_, _, _, _, _, _, rfl⟩
theorem cS_6 (p : cP) (v : cV) : lkB (cS p v).h 6 = .cells [.omp 7] := by kernel_rfl
theorem cS_7 (p : cP) (v : cV) : lkB (cS p v).h 7 = .map tI .bool (aec v) := by kernel_rfl
theorem cS_59 (p : cP) (v : cV) : lk (cS p v).t 59 = .fn (.func 218) [] [.box 5 0, .box 6 0] := by kernel_rfl
noncomputable def aJp : Blk → Bool
 | .map _ _ _ => true
 | _ => false
theorem aLM (p : cP) (v : cV) : (cS p v).h.map aJp = [false, false, false, false, false, false, false, true, true, false] := by kernel_rfl
theorem aTO (p : cP) (v : cV) (x : Val ach) : (cU p v x).h.map aJp = [false, false, false, false, false, false, false, true, true, false, false] := by kernel_rfl
theorem awh : ∀ (l : List Blk) (i : Nat), aJp (lkB l i) = true → (l.map aJp)[i]? = some true
 | [], i, h => by cases i <;> cases h
 | x :: l, 0, h => by have : aJp x = true := h; simp [this]
 | x :: l, i + 1, h => by simpa using awh l i h
theorem aMB {l : List Blk} {t : List Bool} (hl : l.map aJp = [false, false, false, false, false, false, false, true, true] ++ t) (ht : ∀ b ∈ t, b = false) {id : Nat} {k u : Ty} {es : List (Val k × Val u)} (h : lkB l id = .map k u es) : id = 7 ∨ id = 8 := by
 have := awh l id (by rw [h]; rfl)
 rw [hl] at this
 rcases id with _ | _ | _ | _ | _ | _ | _ | _ | _ | id <;> simp at this ⊢
 have := ht _ (List.mem_of_getElem? this)
 cases this
noncomputable def aSQ {ρ : Type} : List (Val ach) → Option ρ → Option ρ
 | [], x => x
 | _ :: _, _ => none
theorem aLB {ρ : Type} {l : List (Val ach)} {x : Option ρ} {r : ρ} (h : aSQ l x = some r) : l = [] ∧ x = some r := by
 cases l with
 | nil => exact ⟨rfl, h⟩
 | cons => cases h
noncomputable def cutK (p : cP) (v : cV) : Option (Val ab9) := aSQ (amR v) (ab8 (ap8 (acL v) (aec v)) fun z => aiH p (adq v z) some)
theorem aPY {l : List (Val ach)} {im : List (Int × Bool)} {z : List (Val ach)} (h : ap8 l im = some z) : acP l.length = true ∧ z = (aB7 (fun j => axO im (gz l j).1) l.length).map (gz l) := by
 unfold ap8 at h
 simp only [acX] at h
 split at h
 ·rename_i ho
  cases h
  refine ⟨ho, ?_⟩
  have key : ∀ (n : Nat), n ≤ l.length → (l.take n).filter (fun g => ((alP (k := tI) (v := .bool) g.1 im : Option Bool)).getD false) = (aB7 (fun j => axO im (gz l j).1) n).map (gz l) := by
   intro n
   induction n with
   | zero => intro _; rfl
   | succ n ih =>
     intro hn
     have hg : l[n]? = some (gz l n) := by simp [gz, List.getElem?_eq_getElem (show n < l.length from hn)]
     rw [List.take_succ, List.filter_append, ih (by omega), asF, hg]
     have : ((alP (k := tI) (v := .bool) (gz l n).1 im : Option Bool)).getD false = axO im (gz l n).1 := rfl
     simp only [Option.toList_some, List.filter_cons, List.filter_nil, this]
     split <;> simp
  have := key l.length (Nat.le_refl _)
  rwa [List.take_length] at this
 ·cases h
theorem aRB {n m : Nat} (h : acP n = true) (hm : m ≤ n) : acP m = true := by
 unfold acP at h ⊢
 simp only [Bool.and_eq_true, decide_eq_true_eq] at h ⊢
 first | omega | (constructor <;> omega)
theorem aNj {G : Nat → Prop} {D D' : List Deferred} {Q Q' : Option Nat} {ν : Nat → Value} {h : List Blk} {w : World} {a : AV} {v : Value} (hv : @VR ⟨G, D, Q⟩ ν h w a v) : @VR ⟨G, D', Q'⟩ ν h w a v := hv
theorem apY [acM] {ν2 ν' : Nat → Value} {h1 h' : List Blk} {w1 W : World} (H1 : HR ν2 h1 w1) (ev : Ev 9 ν2 h1 w1 ν' h' W) (hl1 : ∀ id, id = 7 ∨ id = 8 → ∃ k u es, lkB h1 id = .map k u es)
 {t : List Bool} (hl : h'.map aJp = [false, false, false, false, false, false, false, true, true] ++ t) (ht : ∀ b ∈ t, b = false) : aQY w1.heap.size ν' h' := by
 intro id k u es b hm hν
 have h9 : id < 9 := by rcases aMB hl ht hm with rfl | rfl <;> omega
 obtain ⟨k1, u1, es1, h7⟩ := hl1 id (aMB hl ht hm)
 have hb := ev.blk id h9
 rw [h7] at hb
 obtain ⟨_, he⟩ := hb
 have hB := H1.blk id
 rw [h7] at hB
 obtain ⟨b0, _, _, q1, q2, _⟩ := hB
 rw [he, q1] at hν
 cases hν
 exact adN q2
theorem aSt (p : cP) (v : cV) : ∀ id, id = 7 ∨ id = 8 → ∃ k u es, lkB (cS p v).h id = .map k u es := by
 rintro id (rfl | rfl)
 ·exact ⟨_, _, _, rfl⟩
 ·exact ⟨_, _, _, rfl⟩
noncomputable def CI (G : Nat → Prop) (p : cP) (v : cV) (ν2 : Nat → Value) (w1 : World) (pre : List Nat) (W : World) : Prop :=
 ∃ ν', @HR ⟨G, [], none⟩ ν' (cS p (adq v (pre.map (gz (acL v))))).h W ∧ Ev 9 ν2 (cS p v).h w1 ν' (cS p (adq v (pre.map (gz (acL v))))).h W
theorem CI.own {G : Nat → Prop} {p : cP} {v : cV} {ν2 : Nat → Value} {w1 : World} (H1 : @HR ⟨G, [], none⟩ ν2 (cS p v).h w1) : OwnFrom w1.heap.size (CI G p v ν2 w1) := by
 intro pre W W' row hI hg hr
 letI : acM := ⟨G, [], none⟩
 obtain ⟨ν', H, ev⟩ := hI
 have hml := apY H1 ev (aSt p v) (aLM _ _) (t := [false]) (by simp)
 refine ⟨ν', H.ckeep (aBG hg hr) (fun id k u es b hl hν => ?_) (aGI rfl _ (cS_mf _ _)), ev.own hg fun r e => (hr r e).1⟩
 have hb := hml id k u es b hl hν
 exact hg.block b (Nat.lt_of_lt_of_le hb ev.size) fun e => by have := (hr b e.symm).1; omega
theorem CI.nd {G : Nat → Prop} {p : cP} {v : cV} {ν2 : Nat → Value} {w1 W : World} {pre : List Nat} {R : Nat → Prop} {tb : Nat} (H1 : @HR ⟨G, [], none⟩ ν2 (cS p v).h w1) (hR : ∀ b, R b → b < w1.heap.size ∧ ¬ aLW ν2 (cS p v).h b) (htb : ν2 6 = .pointer (some ⟨tb, 0, none⟩)) (hI : CI G p v ν2 w1 pre W) : KNd w1 R tb (aec v) W := by
 letI : acM := ⟨G, [], none⟩
 obtain ⟨ν', H, ev⟩ := hI
 have h6 := H1.blk 6
 rw [cS_6] at h6
 obtain ⟨b6, _, _, q1, q2, _⟩ := h6
 rw [htb] at q1
 cases q1
 have h7 := H1.blk 7
 rw [cS_7] at h7
 obtain ⟨mb, _, _, r1, r2, _⟩ := h7
 have e6 := ev.blk 6 (by omega)
 rw [cS_6] at e6
 have e7 := ev.blk 7 (by omega)
 rw [cS_7] at e7
 have k6 := H.blk 6
 rw [show lkB (cS p (adq v (pre.map (gz (acL v))))).h 6 = .cells [.omp 7] from cS_6 _ _] at k6
 obtain ⟨b, c, e, s1, s2, s3⟩ := k6
 rw [e6.2, htb] at s1
 cases s1
 obtain ⟨mv, s4, s5⟩ := s3.one
 obtain ⟨_, k, u, es, _, s6⟩ := s5.1
 have k7 := H.blk 7
 rw [show lkB (cS p (adq v (pre.map (gz (acL v))))).h 7 = .map tI .bool (aec v) from cS_7 _ _] at k7
 obtain ⟨mb', en, cl, t1, t2, t3, t4⟩ := k7
 have e1 : mv = .map (some mb') := s6.trans t1
 have e2 : mb' = mb := by rw [e7.2, r1] at t1; cases t1; rfl
 subst e2
 refine ⟨ev.size, fun b hb => (ev.keep b (hR b hb).1 (hR b hb).2).1, adN q2, mb', adN r2, ?_, en, cl, t2, t3, fun i x hx => ?_⟩
 ·have hc : c = #[mv] := by rw [← Array.toList_inj, s4]
  rw [hc, e1] at s2
  simp [World.cell?, s2]
 ·obtain ⟨m, us, u1, u2, u3, u4⟩ := t4 i x hx
  have v1 : [m.key] = [.int .i64 x.1] := u2
  have v2 : us = [.bool x.2] := u3
  refine ⟨m, u1, by simpa using v1, ?_⟩
  rw [u4, v2]
  rfl
theorem aOd : drawn (Am.rfA (Am.rfC 7 adr)) = false := by kernel_rfl
theorem aOc : drawn (Am.rfB (Am.rfC 7 adr)) = false := by kernel_rfl
theorem aOb : acH 4 (Am.rfA (Am.rfC 7 adr)) = [] := by kernel_rfl
theorem aOa : acH 4 (Am.rfB (Am.rfC 7 adr)) = [] := by kernel_rfl
theorem aGY [acM] (ρ : Type) : ahH (adm ρ) 2 (agG (adm ρ) 10) := by
 have hlib : ays (adm ρ) := aA1 azR (adm ρ) rfl rfl rfl rfl rfl (afs rfl)
 have hdraw : ∀ L call, ahH (adm ρ) L call → ahT (adm ρ) L call := ast hmix
 have hcall := aii (.inr fun _ => rfl) hlib hdraw (fun n hn hE path f fn c hp hf hc => auB (tab := akG ρ) rfl aw0 hn hE (hdraw _ _ hE) hp hf hc) 10 (Nat.le_refl _)
 exact ⟨.inr (akm 9), hcall, hlib.plain, hlib.clone, hlib.joins⟩
theorem aQs {G : Nat → Prop} {p : cP} {v : cV} {ν2 : Nat → Value} {a : Act} {w1 : World} (H1 : @Sim ⟨G, [], none⟩ ν2 (cS p v) a w1) (l : Nat) (pre : List Nat) (x : Nat) (W : World) (hl : w1.heap.size ≤ l) (hI : CI G p v ν2 w1 pre W) (hok : acP (pre.length + 1) = true) {u : Value} (hu : ∀ [acM] (ν : Nat → Value) (h : List Blk) (w : World), VR ν h w (.agg (flat ach (gz (acL v) x))) u) :
 (Am.rfA (Am.rfC 7 adr)).wpIn (Fence.wide.inRound l) 0 Tryz.prog (Exit.then (fun a' Wa => KeepsFrom w1.heap.size W Wa ∧ ∀ r', (∃ r, Wa.heap[l]? = some (.loop r)) →
  (Am.rfB (Am.rfC 7 adr)).wpIn (Fence.wide.inRound l) 0 Tryz.prog (Exit.then (fun _ W3 => KeepsFrom w1.heap.size (Wa.putObj l (.loop r')) W3 ∧ CI G p v ν2 w1 (pre ++ [x]) W3) (fun _ _ _ => False)) a' (Wa.putObj l (.loop r'))) (fun _ _ _ => False)) { tmps := a.tmps.setIfInBounds 60 u, defers := [] } W := by
 letI : acM := ⟨G, [], some l⟩
 have H1h : HR ν2 (cS p v).h w1 := HR_ghost (@Sim.heap ⟨G, [], none⟩ _ _ _ _ H1)
 obtain ⟨ν', H0, ev⟩ := hI
 have H : HR ν' (cS p (adq v (pre.map (gz (acL v))))).h W := HR_ghost H0
 obtain ⟨v', hv'⟩ : ∃ v', v' = adq v (pre.map (gz (acL v))) := ⟨_, rfl⟩
 rw [← hv'] at H ev
 have ht : (cS p v').t = (cS p v).t := by rw [hv']; exact cS_t _ _ _
 have hml := apY H1h ev (aSt p v) (aLM _ _) (t := [false]) (by simp)
 have simA : Sim ν' (cS p v') { tmps := a.tmps, defers := [] } W := by
  refine ⟨rfl, ?_, fun i => ?_, H⟩
  ·rw [ht]; show _ ≤ a.tmps.size; exact @Sim.len ⟨G, [], none⟩ _ _ _ _ H1
  ·rw [ht]; exact VR.pin ev (aJi rfl _ (aSW p v) i) (aNj (@Sim.tmps ⟨G, [], none⟩ _ _ _ _ H1 i))
 have sim0 := simA.put (Ev.refl _ _ _ _) H (some 60) (hu ν' _ W)
 have hEnv := aGY (cP × Val (tyL apZ))
 have hgo := awp hEnv (path := []) rfl (Am.rfA (Am.rfC 7 adr)) 4 _ _ ν' _ W (fun h => by rw [aOd] at h; cases h) (fun z hz => by rw [aOb] at hz; cases hz) (aNN p v' (gz (acL v) x) fun p u => some (p, u)) sim0 (Nat.le_trans (show 9 ≤ 10 by decide) (Nat.le_of_eq (cS_len p v').symm))
 refine wpIn_mono hgo fun e a' Wa ha => ?_
 obtain ⟨νa, Sa, sA, evA, lenA, ddA, kA⟩ := ha
 obtain ⟨rfl, p', u', hm', hk'⟩ := as0 kA
 cases hk'
 obtain ⟨νb, sB, evB, lB, dB⟩ := asX _ _ _ _ _ _ _ νa a' Wa hm' sA
 have evAB : Ev 9 ν' (cS p v').h W νb (cU p v' (gz (acL v) x)).h Wa := evA.trans evB (Nat.le_refl _)
 have evT := ev.trans evAB (Nat.le_refl _)
 have hmu := apY H1h evT (aSt p v) (aTO _ _ _) (t := [false, false]) (by simp)
 refine ⟨axy H hml evAB, fun r' ⟨r, hr⟩ => ?_⟩
 have hlt : l < Wa.heap.size := adN hr
 have K : ae4 Wa (Wa.putObj l (.loop r')) := ⟨by simp [World.putObj], fun b c e q hb => by
  rw [World.putObj_heap_other (fun e' => by subst e'; rw [hr] at hb; cases hb)]; exact hb⟩
 have sC : Sim νb (cU p v' (gz (acL v) x)) a' (Wa.putObj l (.loop r')) := sB.ckeep K (fun id k q es b hb hν => World.putObj_heap_other (by have := hmu id k q es b hb hν; omega)) (aGI rfl _ (cU_mf _ _ _)) (aJi rfl _ (cU_mft _ _ _))
 have evO : Ev 9 ν2 (cS p v).h w1 νb (cU p v' (gz (acL v) x)).h (Wa.putObj l (.loop r')) := evT.own (grownBy_putObj' Wa l _) fun q e => by cases e; exact hl
 have hEnv2 := aGY (cP × cV)
 have law := aNM p v' (gz (acL v) x) fun p v => some (p, v)
 have hrow : amR v' = pre.map (gz (acL v)) := by rw [hv']; rfl
 rw [hrow] at law
 simp only [List.length_map, List.length_cons, List.length_nil, Nat.zero_add, hok, acX] at law
 have hgo2 := awp hEnv2 (path := []) rfl (Am.rfB (Am.rfC 7 adr)) 4 _ _ νb _ _ (fun h => by rw [aOc] at h; cases h) (fun z hz => by rw [aOa] at hz; cases hz) law sC (Nat.le_trans (show 9 ≤ 11 by decide) (Nat.le_of_eq (cU_len p v' (gz (acL v) x)).symm))
 refine wpIn_mono hgo2 fun e a3 W3 hb => ?_
 obtain ⟨νc, Sc, sD, evC, lenC, ddC, kC⟩ := hb
 obtain ⟨rfl, p', u', hm', hk'⟩ := as0 kC
 cases hk'
 obtain ⟨νd, sE, evD, lD, dD⟩ := asX _ _ _ _ _ _ _ νc a3 W3 hm' sD
 have evCD := evC.trans evD (Nat.le_refl _)
 refine ⟨axy sC.heap hmu evCD, νd, ?_⟩
 have hput : adq v' (pre.map (gz (acL v)) ++ [gz (acL v) x]) = adq v ((pre ++ [x]).map (gz (acL v))) := by
  rw [hv', List.map_append]; rfl
 rw [← hput]
 exact ⟨HR_ghost sE.heap, evO.trans evCD (Nat.le_refl _)⟩
noncomputable def aLX (G : Nat → Prop) (y : Val ab9) (w : World) (e : Ending) (w' : World) : Prop :=
 ∃ u, e = .returned u ∧ RR w' G [ab9] y u ∧ (∀ b, b < w.heap.size → w'.heap[b]? = w.heap[b]?) ∧ w.heap.size ≤ w'.heap.size ∧ w'.os = w.os ∧ w'.tape = w.tape ∧ w'.output = w.output
noncomputable def aLC (u : Val (tyL ago)) : Val ab9 := ((u.1, u.2.1), u.2.2.1, u.2.2.2.1, u.2.2.2.2.1, u.2.2.2.2.2.1, u.2.2.2.2.2.2)
theorem aSd (p : cP) (v : cV) : aiH p v (fun y => (fun u => some (aLC u)) (ag4 y)) = aiH p v some := by kernel_rfl
theorem aQr (u : Val (tyL ago)) : ag4 (aLC u) = u := by kernel_rfl
theorem aTP (y : Val ab9) : (af6 aj6 [] ago () (ag4 y)).h.map aJp = [false] := by kernel_rfl
theorem aSa {G : Nat → Prop} {p : cP} {v : cV} {y : Val ab9} {ν : Nat → Value} {a : Act} {w0 W : World} {D : Nat} (H : @Sim ⟨G, [], none⟩ ν (cS p v) a W) (hB : aiH p v some = some y) (hD : W.heap[D]? = some (.deferred (some []))) (hnl : ¬ aLW ν (cS p v).h D)
 (hev : Ev 0 (fun _ => undef) [] w0 ν (cS p v).h W) (hDl : w0.heap.size ≤ D) :
 (Am.postC 7 adr).wpIn Fence.wide 2 Tryz.prog (bodyPostM Fence.wide 2 Tryz.prog Tryz.f79 (aLX G y w0)) { a with defers := aMA D :: a.defers } W := by
 have hdf : a.defers = [] := @Sim.defers ⟨G, [], none⟩ _ _ _ _ H
 letI : acM := ⟨G, [aMA D], none⟩
 have sim : Sim ν (cS p v) { a with defers := aMA D :: a.defers } W := ⟨by show aMA D :: a.defers = [aMA D]; rw [hdf], (show _ ≤ a.tmps.size from @Sim.len ⟨G, [], none⟩ _ _ _ _ H), fun i => aNj (@Sim.tmps ⟨G, [], none⟩ _ _ _ _ H i), HR_ghost (@Sim.heap ⟨G, [], none⟩ _ _ _ _ H)⟩
 have hEnv := aGY (Val ab9)
 have hdraw : ∀ L call, ahH (adm (Val ab9)) L call → ahT (adm (Val ab9)) L call := ast hmix
 have law := aIu p v fun u => some (aLC u)
 rw [aSd, hB] at law
 have hL : ∀ z ∈ acH 0 (Am.postC 7 adr), ajj (adm (Val ab9)) [] 79 z.1 z.2 := fun z hz =>
  auB (E := adm (Val ab9)) (tab := akG _) rfl aw0 (n := 10) (Nat.le_refl _) hEnv (hdraw _ _ hEnv) rfl Tryz.func79 akH z (aMD 7 adr 0 atr hz)
 have hgo := ahx hEnv (hdraw _ _ hEnv) rfl (Am.postC 7 adr) 0 _ _ ν _ W hL law sim (Nat.zero_le _)
 rw [auN rfl] at hgo
 refine wpIn_wide.2 (wpIn_wide.1 (wpIn_mono hgo fun e a' W' ha => ?_))
 obtain ⟨νa, Sa, sA, evA, _, _, kA⟩ := ha
 obtain ⟨rfl, u, hm, hk⟩ := aPA kA
 cases hk
 obtain ⟨νb, sB, evB, _, _⟩ := asX _ _ _ _ _ _ _ νa a' W' hm sA
 have hu : af6 aj6 [] ago () u = af6 aj6 [] ago () (ag4 (aLC u)) := by rw [aQr]
 rw [hu] at sB evB
 have evT := (evA.trans evB (Nat.le_refl _))
 have hD' : W'.heap[D]? = some (.deferred (some [])) := (evT.keep D (adN hD) hnl).1.trans hD
 have hd' : a'.defers = [aMA D] := sB.defers
 show LeavesInM _ _ _ _ _ _ a'.defers _ _
 rw [hd']
 refine ⟨by simp, .inl ⟨D, _, rfl, run_takeDeferred hD', ?_⟩⟩
 have hlt := adN hD'
 have K : ae4 W' (W'.putObj D (.deferred none)) := ⟨by simp [World.putObj], fun b c e q hb => by
  rw [World.putObj_heap_other (fun e' => by subst e'; rw [hD'] at hb; cases hb)]; exact hb⟩
 have sC := sB.ckeep K (fun id k q es b hb hν => by
  have := awh _ id (by rw [hb]; rfl)
  rw [aTP] at this
  rcases id with _ | id <;> simp at this) (aGI rfl _ (cR_mf _)) (aJi rfl _ (cR_mft _))
 obtain ⟨uu, q1, q2⟩ := ave sC (aKT (aLC u))
 have hall := hev.trans evT (Nat.le_refl _)
 refine ⟨uu, q1, uu, rfl, aE0 sC.heap [ab9] q2 (show adR [ab9] _ (enc ab9 (aLC u)) = some (aLC u) from rfl), fun b hb => ?_, ?_, hall.os, hall.tape, hall.output⟩
 ·rw [World.putObj_heap_other (by omega)]
  exact (hall.keep b hb fun ⟨_, h, _⟩ => by cases h).1
 ·have := hall.size
  simpa [World.putObj] using this
theorem aSe (x : Val (.pair ab9 (.pair (.slice ab6) (.slice ab6)))) : ats x.1 x.2.1 x.2.2 cutK = ajT.F x := by kernel_rfl
noncomputable def encG (g : Val ach) : Value := .agg #[.int .i64 g.1, .int .i64 g.2.1, .int .i64 g.2.2.1, .int .i64 g.2.2.2.1.1, .int .i64 g.2.2.2.1.2, .int .i64 g.2.2.2.2.1.1, .int .i64 g.2.2.2.2.1.2, .int .i64 g.2.2.2.2.2]
theorem aTD [acM] (g : Val ach) (ν : Nat → Value) (h : List Blk) (w : World) : VR ν h w (.agg (flat ach g)) (encG g) :=
 ⟨_, rfl, ⟨rfl, rfl⟩, ⟨rfl, rfl⟩, ⟨rfl, rfl⟩, ⟨rfl, rfl⟩, ⟨rfl, rfl⟩, ⟨rfl, rfl⟩, ⟨rfl, rfl⟩, ⟨rfl, rfl⟩, trivial⟩
theorem aSc (G : Nat → Prop) (x : Val (tyL ajT.ts)) (y : Val ab9) (hF : ajT.F x = some y) (w : World) (vals : List Value) (hG : ∀ b, G b → b < w.heap.size) (hAL : AL w G ajT.ts x vals) :
 (∃ fn c, Tryz.prog.funcs[79]? = some fn ∧ fn.body = some c) ∧ CallsIn Fence.wide 0 Tryz.prog 79 vals.toArray w (aLX G y w) := by
 letI : acM := ⟨G, [], none⟩
 have hlib : ays (aeI (Val ab9)) := aA1 azR _ rfl rfl rfl rfl rfl (afs rfl)
 have hdraw : ∀ L call, ahH (aeI (Val ab9)) L call → ahT (aeI (Val ab9)) L call := ast hmix
 have hloops : aLU (aeI (Val ab9)) := fun n hn hE hD path f fn c hp hf hc => auB (tab := arT _) rfl aKV hn hE hD hp hf hc
 have hcall := aii (.inl ⟨rfl, rfl⟩) hlib hdraw (fun n hn hE => hloops n hn hE (hdraw _ _ hE)) 10 (Nat.le_refl _)
 have hEnv : ahH (aeI (Val ab9)) 2 (agG (aeI (Val ab9)) 10) := ⟨.inr (akm 9), hcall, hlib.plain, hlib.clone, hlib.joins⟩
 have H : HR (fun _ => undef) [] w := ⟨fun _ => trivial, fun _ _ _ h => (by cases h), hG, fun _ _ h => (by cases h)⟩
 have hav : ∀ b, Av (fun _ => undef) [] b → G b := fun b hb => hb.elim (fun ⟨_, h, _⟩ => by cases h) id
 have hargs : adk (VR (fun _ => undef) [] w) (adD ajT.ts x) vals := AL.VR (hAL.mono hav)
 refine ⟨⟨Tryz.f79, _, Tryz.func79, akH⟩, ?_⟩
 have hlen : vals.length = 3 := hargs.length.symm
 refine callsIn_wide.2 (callsIn_wide.1 (callsIn_of_wp_marks (n := 2) Tryz.func79 akH trivial ?_ (R := aLX G y w)))
 have hS : Sim (fun _ => undef) { t := adD ajT.ts x ++ List.replicate 127 .any, h := [] } { tmps := vals.toArray ++ Array.replicate (Tryz.f79.ntmps - vals.toArray.size) undef, defers := [] } w := by
  refine ⟨rfl, ?_, fun i => ?_, H⟩
  ·have : Tryz.f79.ntmps = 130 := by kernel_rfl
   have hl2 : (adD ajT.ts x).length = 3 := rfl
   simp [this, hlen, hl2]
  ·simp only [aA0]
   rcases Nat.lt_or_ge i (adD ajT.ts x).length with hi | hi
   ·have := adk.lk (R := VR (fun _ => undef) [] w) (fun _ => trivial) i hargs
    have hv : i < vals.length := by rw [← hargs.length]; exact hi
    have h2 : (vals.toArray ++ Array.replicate (Tryz.f79.ntmps - vals.toArray.size) undef).getD i undef = vals.getD i undef := by
     simp [Array.getD_eq_getD_getElem?, Array.getElem?_append, hv]
    rw [h2]; exact this
   ·rw [aPR _ _ hi]; trivial
 have law := (aKU x cutK).trans ((aSe x).trans hF)
 refine peelN rfl hEnv (hdraw _ _ hEnv) rfl (path := []) rfl (fun e S hne h => hne (as0 h).1) 7 adr _ _ _ _ atr (fun z hz => hloops 10 (Nat.le_refl _) hEnv (hdraw _ _ hEnv) [] 79 Tryz.f79 adr rfl Tryz.func79 akH z hz) law hS (fun ν1 S1 a1 w1 s1 e1 k1 => ?_)
 obtain ⟨_, p, v, hm, hk⟩ := as0 k1
 obtain ⟨hrow, hk⟩ := aLB hk
 cases hz : ap8 (acL v) (aec v) with
 | none => rw [hz] at hk; cases hk
 | some z =>
 rw [hz] at hk
 have hB : aiH p (adq v z) some = some y := hk
 obtain ⟨hzl, hzs⟩ := aPY hz
 obtain ⟨ν2, s2, e2, _, _⟩ := asX _ _ _ _ _ _ _ ν1 a1 w1 hm s1
 have evw := e1.trans e2 (Nat.le_refl _)
 have hv0 : adq v [] = v := by rw [← hrow]; rfl
 have s2' : Sim ν2 (cS p v) a1 w1 := s2
 -- the blocks
 obtain ⟨fa, fb, us, lo, co, ko, h5⟩ := cS_5 p v
 have hB5 := s2'.heap.blk 5
 rw [h5] at hB5
 obtain ⟨bb, cb, te, n5, hbb, hc5⟩ := hB5
 have hB6 := s2'.heap.blk 6
 rw [cS_6] at hB6
 obtain ⟨tb, ct, tt, n6, htb, hc6⟩ := hB6
 have hl5 := hc5.length
 obtain ⟨u1, u2, u3, u4, u5, u6, u7, hcb⟩ : ∃ u1 u2 u3 u4 u5 u6 u7, cb.toList = [u1, u2, u3, u4, u5, u6, u7] := by
  rcases hcs : cb.toList with _ | ⟨u1, _ | ⟨u2, _ | ⟨u3, _ | ⟨u4, _ | ⟨u5, _ | ⟨u6, _ | ⟨u7, _ | ⟨u8, t⟩⟩⟩⟩⟩⟩⟩⟩ <;> rw [hcs] at hl5 <;> simp at hl5
  exact ⟨u1, u2, u3, u4, u5, u6, u7, rfl⟩
 rw [hcb] at hc5
 obtain ⟨_, _, hc3, _⟩ := hc5
 have hg3 : CR w1 (Av ν2 (cS p v).h) (.slice ach) (acL v) [u3] := hc3.1
 obtain ⟨base, cap, eu3, hcap, hgl⟩ := hg3
 have eu3 : u3 = .slice base (acL v).length cap := by simpa using eu3
 obtain ⟨gb, go, hgb⟩ : ∃ gb go, 0 < (acL v).length → base = some ⟨gb, go, none⟩ ∧ ¬ Av ν2 (cS p v).h gb ∧ gb < w1.heap.size ∧ ∀ (i : Nat) (g : Val ach), (acL v)[i]? = some g → ∃ us, CR w1 (Av ν2 (cS p v).h) ach g us ∧ adW w1 gb (go + i * 8) us := by
  rcases hgl with hgl | ⟨gb, go, q1, q2, q3, q4⟩
  ·exact ⟨0, 0, fun h => by rw [show (acL v) = [] from hgl] at h; simp at h⟩
  ·exact ⟨gb, go, fun _ => ⟨q1, q2, q3, q4⟩⟩
 obtain ⟨gl, hgle⟩ : ∃ gl, gl = acL v := ⟨_, rfl⟩
 rw [← hgle] at hgb eu3
 have hR : ∀ b, (0 < gl.length ∧ b = gb) → b < w1.heap.size ∧ ¬ aLW ν2 (cS p v).h b := fun b ⟨h, e⟩ => by subst e; obtain ⟨_, q2, q3, _⟩ := hgb h; exact ⟨q3, fun hl => q2 (.inl hl)⟩
 have hnd : ∀ pre W, CI G p v ν2 w1 pre W → KNd w1 (fun b => 0 < gl.length ∧ b = gb) tb (aec v) W := fun pre W hI => hI.nd s2'.heap hR n6
 have hI0 : CI G p v ν2 w1 [] w1 := by
  refine ⟨ν2, ?_, ?_⟩
  ·rw [show adq v (([] : List Nat).map (gz (acL v))) = v from hv0]; exact s2'.heap
  ·rw [show adq v (([] : List Nat).map (gz (acL v))) = v from hv0]; exact Ev.refl _ _ _ _
 have hp59 := s2'.tmps 59
 rw [cS_59] at hp59
 have hg : a1.tmps.getD 59 undef = .func (.func 218) #[] #[.pointer (some ⟨bb, 0, none⟩), .pointer (some ⟨tb, 0, none⟩)] := by
  obtain ⟨fs, cs, h1, h2, h3⟩ := hp59
  have e1 : fs = #[] := by rw [← Array.toList_inj]; exact h2.nil_left
  have hl := h3.length
  obtain ⟨v1, v2, e2⟩ : ∃ v1 v2, cs.toList = [v1, v2] := by
   rcases hcs : cs.toList with _ | ⟨v1, _ | ⟨v2, _ | ⟨v3, t⟩⟩⟩ <;> rw [hcs] at hl <;> simp at hl
   exact ⟨v1, v2, rfl⟩
  rw [e2] at h3
  have e3 : v1 = .pointer (some ⟨bb, 0, none⟩) := apM (w := w1) (id := 5) (off := 0) h3.1 n5
  have e4 : v2 = .pointer (some ⟨tb, 0, none⟩) := apM (w := w1) (id := 6) (off := 0) h3.2.1 n6
  rw [h1, e1]
  congr 1
  rw [← Array.toList_inj, e2, e3, e4]
 have hcbe : cb = #[u1, u2, .slice base gl.length cap, u4, u5, u6, u7] := by rw [← Array.toList_inj, hcb, eu3]
 have hseq : SeqStopsK Fence.wide 1 Tryz.prog 218 #[.pointer (some ⟨bb, 0, none⟩), .pointer (some ⟨tb, 0, none⟩)] (fun j : Nat => #[encG (gz gl j)]) (fun A B => KNd w1 (fun b => 0 < gl.length ∧ b = gb) tb (aec v) A → KNd w1 (fun b => 0 < gl.length ∧ b = gb) tb (aec v) B)
  (fun xs => xs = aB7 (fun j => axO (aec v) (gz gl j).1) gl.length) (fun _ => True) (aB7 (fun j => axO (aec v) (gz gl j).1) gl.length).length w1 := by
  intro l J Jx W hbel hJ hJx hY h0
  refine aTt te 1 (by omega) l bb tb u1 u2 u4 u5 u6 u7 gb go gl.length cap base (fun h => (hgb h).1) (fun j => (gz gl j).1) (fun j => (gz gl j).2.1) (fun j => (gz gl j).2.2.1) (fun j => (gz gl j).2.2.2.1.1) (fun j => (gz gl j).2.2.2.1.2) (fun j => (gz gl j).2.2.2.2.1.1) (fun j => (gz gl j).2.2.2.2.1.2) (fun j => (gz gl j).2.2.2.2.2)
   (fun j => axO (aec v) (gz gl j).1) ?len (KNd w1 (fun b => 0 < gl.length ∧ b = gb) tb (aec v)) W ((hbel.block bb (adN hbb)).trans (by rw [hbb, hcbe])) ?cells ?maps (fun W1 W2 h hg => h.grown (fun b hb => (hR b hb).1) hg) ((hnd [] w1 hI0).below (fun b hb => (hR b hb).1) hbel.size hbel.block)
   J Jx (fun pre W1 W2 hj hg => hJ pre W1 W2 none hj hg (fun r e => by cases e)) (fun pre W1 W2 hj hg => hJx pre W1 W2 none hj hg (fun r e => by cases e)) (fun pre j W1 hj hl => hY pre j W1 hj hl) h0
  case len =>
   have := hzl
   rw [← hgle] at this
   simp only [acP, decide_eq_true_eq] at this
   omega
  case cells =>
   intro W' hW j hj
   obtain ⟨q1, q2, q3, q4⟩ := hgb (by omega)
   obtain ⟨vs, r1, r2⟩ := q4 j (gz gl j) (by simp [gz, List.getElem?_eq_getElem hj])
   have r2 := r2.keep (w' := W') (hW.2.1 gb ⟨by omega, rfl⟩)
   rw [aLs r1] at r2
   refine ⟨?_, ?_, ?_, ?_, ?_, ?_, ?_, ?_⟩
   ·simpa using r2 0 _ rfl
   ·simpa [Nat.add_assoc] using r2 1 _ rfl
   ·simpa [Nat.add_assoc] using r2 2 _ rfl
   ·simpa [Nat.add_assoc] using r2 3 _ rfl
   ·simpa [Nat.add_assoc] using r2 4 _ rfl
   ·simpa [Nat.add_assoc] using r2 5 _ rfl
   ·simpa [Nat.add_assoc] using r2 6 _ rfl
   ·simpa [Nat.add_assoc] using r2 7 _ rfl
  case maps =>
   intro W' hW
   obtain ⟨_, _, h3, mb, h4, h5, h6⟩ := id hW
   refine ⟨.map (some mb), fun W'' hg => ?_⟩
   obtain ⟨k1, _, k3, mb', k4, k5, k6⟩ := hW.grown (fun b hb => (hR b hb).1) hg
   have : mb' = mb := by
    have e := World.cell?_of_block (a := ⟨tb, 0, none⟩) (hg.block tb (Nat.lt_of_lt_of_le h3 hW.1) (by simp))
    rw [e, h5] at k5
    cases k5; rfl
   subst this
   exact ⟨k5, fun j _ => aRN k6 _⟩
 rw [aNL]
 refine wpIn_block (aCb (n := 2) rfl (by omega) hg trivial (fun args w => ?eg) hseq (fun h k => fun q => k (h q)) (fun W l o o' hl ho _ _ hW => ?kb) (Below.refl _ _) (fun _ => rfl) (CI G p v ν2 w1) (CI.own s2'.heap) hI0 (fun l pre j W hl _ hI hlt => ?round) (fun D xs W hD hxs hI hDo => ?done))
 case eg => simp [callFunc, Sem.run_bind, run_program, Result.andThen_ok, Tryz.func218, plain 218 _ Tryz.func218, show Tryz.f218.body.isNone = false from rfl]; rfl
 case kb => exact hW.below (fun b hb => (hR b hb).1) (by simp [World.putObj]) fun b hb => World.putObj_heap_other (by omega)
 case round =>
  have hf : ∀ u : Value, ((#[60] : Array Tmp).zip #[u]).foldl (fun t (p, v) => t.setIfInBounds p v) a1.tmps = a1.tmps.setIfInBounds 60 u := fun u => by simp
  show Code.wpIn (Fence.wide.inRound l) 0 Tryz.prog _ _ ⟨((#[60] : Array Tmp).zip #[encG (gz gl j)]).foldl (fun t (p, v) => t.setIfInBounds p v) a1.tmps, []⟩ W
  rw [hf]
  refine wpIn_mono (aQs s2' l pre j W hl hI ?_ (u := encG (gz gl j)) (by rw [hgle]; exact fun ν h w => aTD _ ν h w)) fun e a' Wa ha => ?_
  ·refine aRB hzl ?_
   have := aKw (fun j => axO (aec v) (gz gl j).1) gl.length
   rw [← hgle]
   omega
  ·cases e with
   | normal =>
     refine ⟨ha.1, fun r' hr => wpIn_mono (ha.2 r' hr) fun e a3 W3 hb => ?_⟩
     cases e with
     | normal => exact ⟨hb.1, fun _ => hnd _ _ hb.2, hb.2⟩
     | _ => exact hb
   | _ => exact ha
 case done =>
  subst hxs
  obtain ⟨ν', Hd, evd⟩ := hI
  have hzz : (aB7 (fun j => axO (aec v) (gz gl j).1) gl.length).map (gz (acL v)) = z := by rw [hzs, hgle]
  rw [hzz] at Hd evd
  have hml := apY s2'.heap evd (aSt p v) (aLM _ _) (t := [false]) (by simp)
  have ht : (cS p (adq v z)).t = (cS p v).t := cS_t _ _ _
  have simD : Sim ν' (cS p (adq v z)) a1 W := by
   refine ⟨s2'.defers, ?_, fun i => ?_, Hd⟩
   ·rw [ht]; exact s2'.len
   ·rw [ht]; exact VR.pin evd (aJi rfl _ (aSW p v) i) (s2'.tmps i)
  exact aSa simD hB hDo (aEe Hd hml hD hDo rfl) (evw.trans (evd.mono (Nat.zero_le _)) (Nat.le_refl _)) (Nat.le_trans evw.size hD)
theorem aQC : ack Tryz.prog 79 ajT := fun G x y hF w vals hG hAL => aSc G x y hF w vals hG hAL
end Go.Proofs.ZzM
end
noncomputable section
set_option maxRecDepth 100000
namespace Go.Proofs.ZzM
open Go Go.Am
theorem aEA : ack Tryz.prog 29 avj := ace (awW _) (fun {_} => ad9 acb _) hmix (tab := aqL _) rfl acb (aca fun x => aCg x some)
theorem aSm : ack Tryz.prog 13 aMn := ace (avp _) (fun {_} => ad9 (ab5 aEA acb) _) hmix (tab := awV _) rfl (ab5 aCf acb) (aca fun x => aIp x some)
theorem aSq : ack Tryz.prog 54 aMr := ace (ap4 _) (fun {_} => ad9 (ab5 ail acb) _) hmix (tab := axm _) rfl (ab5 aC5 (ab5 aC4 acb)) (aca fun x => aI3 x some)
theorem agf : ack Tryz.prog 130 aeC := ace (aeg _) (fun {_} => ad9 acb _) hmix (tab := afo _) rfl (ab5 ahl acb) (aca fun x => ahZ x some)
theorem axH : ack Tryz.prog 87 aoy := ace (ara _) (fun {_} => ad9 (ab5 agf acb) _) hmix (tab := an7 _) rfl acb (aca fun x => ayj x some)
theorem ayn : ack Tryz.prog 224 anM := ace (akV _) (fun {_} => ad9 acb _) hmix (tab := aje _) rfl acb (aca fun x => aqw x some)
theorem apL : ack Tryz.prog 227 alM := ace (ar4 _) (fun {_} => ad9 (ab5 au1 acb) _) hmix (tab := atY _) rfl (ab5 aAr acb) (aca fun x => aF2 x some)
theorem aBP : ack Tryz.prog 277 arA := ace (atZ _) (fun {_} => ad9 (ab5 aM5 (ab5 aQH acb)) _) hmix (tab := ao6 _) rfl acb (aca fun x => aAt x some)
theorem aTN : ack Tryz.prog 262 aPa := ace (aIT _) (fun {_} => ad9 (ab5 apL (ab5 aBP acb)) _) hmix (tab := aAB _) rfl acb (aca fun x => aK8 x some)
theorem aG4 : ack Tryz.prog 225 asS := ace (ao9 _) (fun {_} => ad9 (ab5 aTN acb) _) hmix (tab := amb _) rfl acb (aca fun x => av4 x some)
theorem aLJ : ack Tryz.prog 287 aKI := ace (aIR _) (fun {_} => ad9 acb _) hmix (tab := aAy _) rfl acb (aca fun x => aK6 x some)
theorem arm : ack Tryz.prog 278 aqI := ace (an4 _) (fun {_} => ad9 (ab5 apL (ab5 aLJ acb)) _) hmix (tab := akU _) rfl acb (aca fun x => at7 x some)
theorem aQJ : ack Tryz.prog 281 aPb := ace (aIV _) (fun {_} => ad9 (ab5 apL (ab5 aBP acb)) _) hmix (tab := aAD _) rfl acb (aca fun x => aLa x some)
theorem aQI : ack Tryz.prog 263 aH3 := aHN (ar6 _) (aIU _) (fun {_} => aA1 (ab5 au1 (ab5 arm (ab5 aQJ (ab5 aLJ acb)))) (ar6 _) rfl rfl rfl rfl rfl (afs rfl)) (fun {_} => ad9 (ab5 au1 (ab5 arm (ab5 aQJ (ab5 aLJ acb)))) _) rfl hmix (tab := am4 _) rfl acb (us := axg) rfl (ab5 (by kernel_rfl) acb) (aca fun x => aF7 x some)
theorem aG3 : ack Tryz.prog 226 asR := ace (ao8 _) (fun {_} => ad9 (ab5 aQI acb) _) hmix (tab := ama _) rfl acb (aca fun x => av3 x some)
theorem aEC : ack Tryz.prog 171 avm := ace (axp _) (fun {_} => ad9 (ab5 aBQ (ab5 au2 (ab5 ayn (ab5 aG4 (ab5 aG3 acb))))) _) hmix (tab := ard _) rfl acb (aca fun x => aDb x some)
theorem aJ1 : ack Tryz.prog 172 azv := ace (aAU _) (fun {_} => ad9 acb _) hmix (tab := aup _) rfl acb (aca fun x => aGt x some)
theorem aJZ : ack Tryz.prog 228 azs := ace (aAw _) (fun {_} => ad9 acb _) hmix (tab := at0 _) rfl acb (aca fun x => aF5 x some)
theorem aM6 : ack Tryz.prog 173 aE7 := ace (aD8 _) (fun {_} => ad9 (ab5 apL (ab5 aJZ acb)) _) hmix (tab := axi _) rfl acb (aca fun x => aIX x some)
theorem aJ0 : ack Tryz.prog 174 azt := ace (aAE _) (fun {_} => ad9 (ab5 apL (ab5 aJZ acb)) _) hmix (tab := aua _) rfl acb (aca fun x => aF8 x some)
theorem aM7 : ack Tryz.prog 200 aE8 := ace (aD9 _) (fun {_} => ad9 (ab5 aEC (ab5 aJ1 (ab5 aM6 (ab5 aJ0 acb)))) _) hmix (tab := axk _) rfl acb (aca fun x => aI0 x some)
theorem aM8 : ack Tryz.prog 62 aE9 := ace (amc _) (fun {_} => ad9 (ab5 aSq (ab5 aBR (ab5 axH (ab5 au2 (ab5 aM9 (ab5 aM7 acb)))))) _) hmix (tab := axl _) rfl (ab5 aC2 (ab5 aC3 (ab5 aC1 acb))) (aca fun x => aI2 x some)
theorem aex : ack Tryz.prog 20 aeu := ace (axt _) (fun {_} => ad9 (ab5 aem (ab5 aM8 acb)) _) hmix (tab := arf _) rfl acb (aca fun x => aDg x some)
theorem agh : ack Tryz.prog 60 af9 := ace (aAX _) (fun {_} => ad9 (ab5 aem (ab5 aBR (ab5 agf acb))) _) hmix (tab := auA _) rfl acb (aca fun x => aGF x some)
theorem aik : ack Tryz.prog 55 agM := ace (ate _) (fun {_} => ad9 (ab5 agh acb) _) hmix (tab := aoL _) rfl acb (aca fun x => azJ x some)
theorem aG2 : ack Tryz.prog 134 ayC := ace (aD2 _) (fun {_} => ad9 acb _) hmix (tab := aw7 _) rfl acb (aca fun x => aIG x some)
theorem apK : ack Tryz.prog 133 alL := ace (ar2 _) (fun {_} => ad9 (ab5 aG2 acb) _) hmix (tab := atT _) rfl (ab5 aAj acb) (aca fun x => aFZ x some)
theorem apJ : ack Tryz.prog 135 akv := ace (ae6 _) (fun {_} => ad9 acb _) hmix (tab := anZ _) rfl (ab5 atL (ab5 atK (ab5 atI (ab5 atJ (ab5 atH acb))))) (aca fun x => ax9 x some)
theorem aQE : ack Tryz.prog 63 aH0 := ace (ar1 _) (fun {_} => ad9 (ab5 apK (ab5 aG2 (ab5 apJ acb))) _) hmix (tab := atO _) rfl (ab5 aAb acb) (aca fun x => aFX x some)
theorem aOp : ack Tryz.prog 64 aDO := ace (agc _) (fun {_} => ad9 acb _) hmix (tab := aqV _) rfl (ab5 ayf (ab5 aye (ab5 ayd (ab5 ayb (ab5 ayc acb))))) (aca fun x => aCJ x some)
theorem aBO : ack Tryz.prog 89 asP := ace (aAp _) (fun {_} => ad9 (ab5 aQE (ab5 aOp acb)) _) hmix (tab := atX _) rfl acb (aca fun x => aF1 x some)
theorem aiw : ack Tryz.prog 56 agz := ace (anR _) (fun {_} => ad9 (ab5 aBO acb) _) hmix (tab := akD _) rfl acb (aca fun x => atd x some)
theorem arl : ack Tryz.prog 121 alb := ace (anQ _) (fun {_} => ad9 (ab5 aik (ab5 aiw acb)) _) hmix (tab := akC _) rfl acb (aca fun x => atc x some)
theorem amu : ack Tryz.prog 122 ahV := ace (aj0 _) (fun {_} => ad9 (ab5 aik (ab5 aiw acb)) _) hmix (tab := aiG _) rfl acb (aca fun x => aoK x some)
theorem aij : ack Tryz.prog 51 agl := ace (agR _) (fun {_} => aA1 (ab5 arl (ab5 amu acb)) (agR _) rfl rfl rfl rfl rfl (afs rfl)) hmix (tab := aiF _) rfl acb (aca fun x => aoJ x some)
theorem ajB : ack Tryz.prog 61 ajo := ace (awc _) (fun {_} => ad9 (ab5 aem acb) _) hmix (tab := axv _) rfl (ab5 aDi acb) (aca fun x => aJb x some)
theorem aet : ack Tryz.prog 123 aer := ace (an1 _) (fun {_} => ad9 (ab5 apK (ab5 apJ acb)) _) hmix (tab := akN _) rfl acb (aca fun x => atQ x some)
theorem axG : ack Tryz.prog 15 aox := ace (alm _) (fun {_} => ad9 (ab5 aex (ab5 aem (ab5 aij (ab5 agh (ab5 ajB (ab5 aet acb)))))) _) hmix (tab := anU _) rfl (ab5 atC acb) (aca fun x => ax3 x some)
theorem aLI : ack Tryz.prog 17 azq := ace (amY _) (fun {_} => ad9 (ab5 aex (ab5 aem (ab5 aik (ab5 aiw (ab5 agh (ab5 ajB (ab5 aet acb))))))) _) hmix (tab := aoY _) rfl (ab5 avM acb) (aca fun x => az2 x some)
theorem aED : ack Tryz.prog 129 avn := ace (axw _) (fun {_} => ad9 (ab5 au2 (ab5 aEB acb)) _) hmix (tab := arh _) rfl acb (aca fun x => aDj x some)
theorem aSn : ack Tryz.prog 57 aMo := ace (aD1 _) (fun {_} => ad9 (ab5 aED acb) _) hmix (tab := awX _) rfl acb (aca fun x => aIq x some)
theorem aQB : ack Tryz.prog 58 aHY := ace (azP _) (fun {_} => ad9 acb _) hmix (tab := atq _) rfl acb (aca fun x => aFD x some)
theorem aQA : ack Tryz.prog 59 aHX := ace (arS _) (fun {_} => ad9 (ab5 aef acb) _) hmix (tab := atp _) rfl (ab5 azK acb) (aca fun x => aFB x some)
theorem aSp : ack Tryz.prog 18 aMq := ace (ap1 _) (fun {_} => ad9 (ab5 aex (ab5 aem (ab5 aij (ab5 aSn (ab5 aQB (ab5 aQA (ab5 agh (ab5 ajB (ab5 aet acb))))))))) _) hmix (tab := aw5 _) rfl (ab5 aCD (ab5 aCC acb)) (aca fun x => aIC x some)
theorem asv : ack Tryz.prog 69 arw := ace (atb _) (fun {_} => ad9 acb _) hmix (tab := aoH _) rfl acb (aca fun x => azH x some)
theorem aJX : ack Tryz.prog 25 azo := ace (arX _) (fun {_} => ad9 (ab5 aex (ab5 aem (ab5 aij (ab5 agh (ab5 ajB (ab5 asv (ab5 aet acb))))))) _) hmix (tab := atB _) rfl (ab5 azW acb) (aca fun x => aFQ x some)
theorem aG6 : ack Tryz.prog 41 ayD := ace (awa _) (fun {_} => ad9 (ab5 aem acb) _) hmix (tab := axs _) rfl (ab5 aDf acb) (aca fun x => aI9 x some)
theorem aQL : ack Tryz.prog 90 aH5 := ace (aAI _) (fun {_} => ad9 (ab5 aEC (ab5 aJ1 (ab5 aM6 (ab5 aJ0 acb)))) _) hmix (tab := auc _) rfl acb (aca fun x => aGc x some)
theorem aBU : ack Tryz.prog 40 arC := ace (auy _) (fun {_} => ad9 (ab5 aG6 (ab5 aM8 (ab5 axH (ab5 au2 (ab5 aBO (ab5 aQL acb)))))) _) hmix (tab := apl _) rfl acb (aca fun x => aAW x some)
theorem aQK : ack Tryz.prog 205 aH4 := ace (aAG _) (fun {_} => ad9 (ab5 aem acb) _) hmix (tab := aub _) rfl acb (aca fun x => aGb x some)
theorem aSs : ack Tryz.prog 142 aMt := ace (aEa _) (fun {_} => ad9 (ab5 aM7 (ab5 aQK acb)) _) hmix (tab := axu _) rfl acb (aca fun x => aJa x some)
theorem aJV : ack Tryz.prog 143 awU := ace (aqP _) (fun {_} => ad9 (ab5 aik acb) _) hmix (tab := anT _) rfl acb (aca fun x => axZ x some)
theorem aJU : ack Tryz.prog 144 awT := ace (aqO _) (fun {_} => ad9 (ab5 aiw acb) _) hmix (tab := anS _) rfl acb (aca fun x => axY x some)
theorem awE : ack Tryz.prog 71 avk := ace (akF _) (fun {_} => aA1 (ab5 aex (ab5 aBU (ab5 aG6 (ab5 aik (ab5 aED (ab5 aSs (ab5 aJV (ab5 aJU acb)))))))) (akF _) rfl rfl rfl rfl rfl (afs rfl)) hmix (tab := aqN _) rfl (ab5 axX acb) (aca fun x => aCv x some)
theorem anC : ack Tryz.prog 95 amB := ace (aoP _) (fun {_} => ad9 acb _) hmix (tab := alT _) rfl acb (aca fun x => avy x some)
theorem aOn : ack Tryz.prog 177 aDM := ace (awZ _) (fun {_} => ad9 acb _) hmix (tab := aqQ _) rfl acb (aca fun x => aCw x some)
theorem alD : ack Tryz.prog 99 ak9 := ace (anO _) (fun {_} => ad9 (ab5 aOn acb) _) hmix (tab := akA _) rfl acb (aca fun x => as9 x some)
theorem alE : ack Tryz.prog 101 ala := ace (agH _) (fun {_} => ad9 acb _) hmix (tab := akB _) rfl (ab5 aqs (ab5 aqt acb)) (aca fun x => ata x some)
theorem aBK : ack Tryz.prog 72 aow := ace (ah2 _) (fun {_} => ad9 (ab5 aef (ab5 anC (ab5 alD (ab5 alE acb)))) _) hmix (tab := ajW _) rfl (ab5 aoG acb) (aca fun x => arM x some)
theorem aJW : ack Tryz.prog 31 azn := ace (arV _) (fun {_} => ad9 (ab5 aex (ab5 aem (ab5 agh (ab5 ajB (ab5 awE (ab5 aBK (ab5 aet acb))))))) _) hmix (tab := atu _) rfl (ab5 azT acb) (aca fun x => aFL x some)
theorem aBN : ack Tryz.prog 145 arz := ace (am0 _) (fun {_} => ad9 acb _) hmix (tab := ao0 _) rfl (ab5 avT acb) (aca fun x => az4 x some)
theorem aM4 : ack Tryz.prog 146 aE5 := ace (avN _) (fun {_} => ad9 acb _) hmix (tab := aw6 _) rfl (ab5 aCH acb) (aca fun x => aIF x some)
theorem aDr : ack Tryz.prog 76 aqH := ace (an3 _) (fun {_} => ad9 (ab5 apK (ab5 aG2 (ab5 aBN (ab5 aM4 acb)))) _) hmix (tab := akQ _) rfl acb (aca fun x => atV x some)
theorem au0 : ack Tryz.prog 33 amC := ace (aoV _) (fun {_} => ad9 (ab5 aex (ab5 aem (ab5 agh (ab5 aDr acb)))) _) hmix (tab := al3 _) rfl acb (aca fun x => avI x some)
theorem aDq : ack Tryz.prog 86 aqG := ace (an2 _) (fun {_} => ad9 (ab5 apK (ab5 aBN (ab5 aM4 acb))) _) hmix (tab := akP _) rfl acb (aca fun x => atU x some)
theorem aDp : ack Tryz.prog 39 aqF := ace (anV _) (fun {_} => ad9 (ab5 aex (ab5 aem (ab5 aDq acb))) _) hmix (tab := akL _) rfl acb (aca fun x => atF x some)
theorem ajc : ack Tryz.prog 254 afP := ace (adZ _) (fun {_} => ad9 acb _) hmix (tab := ae0 _) rfl (ab5 agP acb) (aca fun x => ahn x some)
theorem ahN : ack Tryz.prog 210 afd := ace (aeR _) (fun {_} => ad9 (ab5 ajc acb) _) hmix (tab := aes _) rfl acb (aca fun x => agC x some)
theorem alC : ack Tryz.prog 256 agy := ace (aeF _) (fun {_} => ad9 acb _) hmix (tab := afQ _) rfl (ab5 ahY acb) (aca fun x => ai5 x some)
theorem ajA : ack Tryz.prog 213 af0 := ace (afB _) (fun {_} => ad9 (ab5 alC acb) _) hmix (tab := afg _) rfl acb (aca fun x => ahM x some)
theorem akn : ack Tryz.prog 258 af8 := ace (aeh _) (fun {_} => ad9 acb _) hmix (tab := afp _) rfl (ab5 ahm acb) (aca fun x => ah0 x some)
theorem aiX : ack Tryz.prog 216 afy := ace (afh _) (fun {_} => ad9 (ab5 akn acb) _) hmix (tab := aeQ _) rfl acb (aca fun x => ahc x some)
theorem aSo : ack Tryz.prog 77 aMp := ace (aeU _) (fun {_} => ad9 (ab5 ahN (ab5 ajA (ab5 aiX acb))) _) hmix (tab := awY _) rfl (ab5 aCt (ab5 aCq (ab5 aCp (ab5 aCr (ab5 aCs (ab5 aCo (ab5 aCn (ab5 aCm (ab5 aCl (ab5 aCk acb)))))))))) (aca fun x => aIr x some)
theorem aOo : ack Tryz.prog 35 aDN := ace (aw4 _) (fun {_} => ad9 (ab5 au0 (ab5 aem (ab5 aDp (ab5 aSo acb)))) _) hmix (tab := aqS _) rfl acb (aca fun x => aCB x some)
theorem aJY : ack Tryz.prog 156 azr := ace (avU _) (fun {_} => ad9 acb _) hmix (tab := aIH _) rfl (ab5 aK2 (ab5 aK0 (ab5 aKZ (ab5 aK1 acb)))) (aca fun x => aPE x some)
theorem aQF : ack Tryz.prog 78 aH1 := ace (agT _) (fun {_} => ad9 (ab5 apK (ab5 apJ (ab5 aJY acb))) _) hmix (tab := atS _) rfl (ab5 aAh (ab5 aAd (ab5 aAe (ab5 aAf (ab5 aAg acb))))) (aca fun x => aFY x some)
theorem aBL : ack Tryz.prog 80 arx := ace (amM _) (fun {_} => ad9 (ab5 aex acb) _) hmix (tab := aoI _) rfl (ab5 avu acb) (aca fun x => azI x some)
theorem aQD : ack Tryz.prog 36 aHZ := ace (azZ _) (fun {_} => ad9 (ab5 aex (ab5 aQF (ab5 aQC (ab5 aBL acb)))) _) hmix (tab := atD _) rfl acb (aca fun x => aFR x some)
theorem auZ : ack Tryz.prog 96 asN := ace (aoS _) (fun {_} => ad9 acb _) hmix (tab := al1 _) rfl acb (aca fun x => avF x some)
theorem auY : ack Tryz.prog 97 asM := ace (aoQ _) (fun {_} => ad9 acb _) hmix (tab := alU _) rfl acb (aca fun x => avz x some)
theorem aBM : ack Tryz.prog 42 ary := aHN (amS _) (ada _) (fun {_} => aA1 (ab5 aex (ab5 aem (ab5 agh (ab5 ajB (ab5 asv (ab5 awE (ab5 aef (ab5 anC (ab5 auZ (ab5 auY (ab5 alD (ab5 alE (ab5 aet acb))))))))))))) (amS _) rfl rfl rfl rfl rfl (afs rfl)) (fun {_} => aA1 (ab5 aex (ab5 aem (ab5 agh (ab5 ajB (ab5 asv (ab5 awE (ab5 aef (ab5 anC (ab5 auZ (ab5 auY (ab5 alD (ab5 alE (ab5 aet acb))))))))))))) (ada _) rfl rfl rfl rfl rfl (afs rfl)) rfl hmix (tab := aj7 _) rfl (ab5 avE (ab5 avD acb)) (us := alj) rfl (ab5 (by kernel_rfl) acb) (aca fun x => azV x some)
theorem aJT : ack Tryz.prog 48 awS := ace (aqK _) (fun {_} => ad9 acb _) hmix (tab := anN _) rfl acb (aca fun x => axV x some)
theorem aQG : ack Tryz.prog 120 aH2 := ace (aj8 _) (fun {_} => ad9 (ab5 aBO (ab5 aJY acb)) _) hmix (tab := atW _) rfl (ab5 aAn (ab5 aAl (ab5 aAm acb))) (aca fun x => aF0 x some)
theorem aG1 : ack Tryz.prog 119 asO := ace (aoX _) (fun {_} => ad9 (ab5 aik (ab5 aQG acb)) _) hmix (tab := al4 _) rfl acb (aca fun x => avL x some)
theorem aLH : ack Tryz.prog 49 azp := ace (ahs _) (fun {_} => aA1 (ab5 aex (ab5 aem (ab5 agh (ab5 ajB (ab5 aQC (ab5 aBL (ab5 aG1 (ab5 arl (ab5 amu (ab5 aet acb)))))))))) (ahs _) rfl rfl rfl rfl rfl (afs rfl)) hmix (tab := aoW _) rfl (ab5 avK (ab5 avJ acb)) (aca fun x => az1 x some)
theorem aLG : ack Tryz.prog 14 azm := ace (as5 _) (fun {_} => ad9 (ab5 axG (ab5 aLI (ab5 aSp (ab5 aJX (ab5 aJW (ab5 au0 (ab5 aOo (ab5 aQD (ab5 aBM (ab5 aJT (ab5 aLH acb))))))))))) _) hmix (tab := aoC _) rfl acb (aca fun x => azF x some)
theorem aQz : ack Tryz.prog 19 aHW := ace (arH _) (fun {_} => ad9 (ab5 agh (ab5 ajB acb)) _) hmix (tab := as3 _) rfl (ab5 azE acb) (aca fun x => aFl x some)
theorem c_w6_SharpMost : ack Tryz.prog 11 aim := ace (ai4 _) (fun {_} => ad9 (ab5 aSm (ab5 aLG (ab5 axG (ab5 aQz (ab5 aJX (ab5 aEA (ab5 aJW (ab5 aBU (ab5 aG6 (ab5 aBM acb)))))))))) _) hmix (tab := akz _) rfl (ab5 aqp acb) (aca fun x => as7 x some)
end Go.Proofs.ZzM
end