/- lemmas -/
import Derived.Lib.SliceRun
import Derived.WalkKit
import Derived.OwnWalkIn
import Derived.TacticsInMore
import Derived.LoopNIn
import Derived.LoopIn
import Derived.KernelRfl
import Derived.RangeFuncBox
import Derived.Laws.Rows
import Derived.Test.YtbfmlbheofblcaaGreatProg
set_option linter.all false
noncomputable section
namespace Go.Proofs
open Go.RowKit
structure iX (s : Nat) (W W' : World) : Prop where
  os : W'.os = W.os
  tape : W'.tape = W.tape
  output : W'.output = W.output
  size : W'.heap.size = W.heap.size
  low : ∀ b, b < s -> W'.heap[b]? = W.heap[b]?
  int : ∀ a z, W.cell? a = some (.int .i64 z) -> ∃ z', W'.cell? a = some (.int .i64 z')
  oth : ∀ a v, W.cell? a = some v -> (∀ z, v ≠ .int .i64 z) -> W'.cell? a = some v
  frz : ∀ a, W'.frozen? a = W.frozen? a
def iX.refl (s : Nat) (W : World) : iX s W W := ⟨rfl, rfl, rfl, rfl, fun _ _ => rfl, fun _ z h => ⟨z, h⟩, fun _ _ h _ => h, fun _ => rfl⟩
def iX.set {s : Nat} {W W' : World} (h : iX s W W') {a : Addr} {z y : Int} (hc : W'.cell? a = some (.int .i64 z)) (hs : s <= a.block) : iX s W (W'.setCell a (.int .i64 y)) := by
  refine ⟨h.os, h.tape, h.output, by rw [World.size_setCell]; exact h.size, fun b hb => (heap_setCell_other _ _ _ _ (by omega)).trans (h.low b hb), fun a0 z0 h0 => ?_, fun a0 v h0 hv => ?_, fun a0 => by rw [World.frozen?_setCell]; exact h.frz a0⟩
  · obtain ⟨z1, h1⟩ := h.int a0 z0 h0
    by_cases e : a = a0
    · subst e; exact ⟨y, World.cell?_setCell_same W' a _ h1⟩
    · exact ⟨z1, (World.cell?_setCell_other W' a a0 _ e).trans h1⟩
  · have h1 := h.oth a0 v h0 hv
    refine (World.cell?_setCell_other W' a a0 _ fun e => ?_).trans h1
    subst e
    rw [hc] at h1
    cases h1
    exact hv z rfl
def iX.below {s n : Nat} {w W W' : World} (hb : Below n w W) (h : iX s W W') (hn : n <= s) : Below n w W' :=
  ⟨h.os.trans hb.os, h.tape.trans hb.tape, h.output.trans hb.output, by rw [h.size]; exact hb.size, fun b hlt => (h.low b (by omega)).trans (hb.block b hlt)⟩
def la (s : Nat) (W : World) (v : Value) (m o : Nat) : Prop :=
  ∃ base len cap, v = .slice base len cap /\ len <= 1000000 /\ (0 < len -> ∃ b off, base = some ⟨b, off, none⟩ /\ s <= b /\ ∀ j, j < len -> ∃ z, W.cell? ⟨b, off + j * m + o, none⟩ = some (.int .i64 z) /\ W.frozen? ⟨b, off + j * m + o, none⟩ = false)
def zx (s : Nat) (W : World) (v : Value) (m o : Nat) : Prop :=
  ∃ base len cap, v = .slice base len cap /\ len <= 1000000 /\ (0 < len -> ∃ b off, base = some ⟨b, off, none⟩ /\ s <= b /\ ∀ j, j < len -> ∃ u, W.cell? ⟨b, off + j * m + o, none⟩ = some u /\ la s W u 1 0)
def la.step {s m o : Nat} {W W' : World} {v : Value} (h : la s W v m o) (k : iX s W W') : la s W' v m o := by
  obtain ⟨base, len, cap, e, hl, h⟩ := h
  refine ⟨base, len, cap, e, hl, fun h0 => ?_⟩
  obtain ⟨b, off, h1, h2, h3⟩ := h h0
  refine ⟨b, off, h1, h2, fun j hj => ?_⟩
  obtain ⟨z, h4, h5⟩ := h3 j hj
  obtain ⟨z', h6⟩ := k.int _ _ h4
  exact ⟨z', h6, (k.frz _).trans h5⟩
def zx.step {s m o : Nat} {W W' : World} {v : Value} (h : zx s W v m o) (k : iX s W W') : zx s W' v m o := by
  obtain ⟨base, len, cap, e, hl, h⟩ := h
  refine ⟨base, len, cap, e, hl, fun h0 => ?_⟩
  obtain ⟨b, off, h1, h2, h3⟩ := h h0
  refine ⟨b, off, h1, h2, fun j hj => ?_⟩
  obtain ⟨u, h4, h5⟩ := h3 j hj
  refine ⟨u, k.oth _ _ h4 fun z hz => ?_, h5.step k⟩
  obtain ⟨_, _, _, e', _⟩ := h5
  rw [hz] at e'
  cases e'
def Kr {w w' : World} {a : Addr} (h : w'.heap[a.block]? = w.heap[a.block]?) : w'.frozen? a = w.frozen? a := by unfold World.frozen?; rw [h]
def aef {w : World} {a : Addr} {v : Value} (h : w.cell? a = some v) : a.block < w.heap.size := by
  unfold World.cell? at h
  split at h
  · rename_i hb
    rcases Nat.lt_or_ge a.block w.heap.size with q | q
    · exact q
    · rw [Array.getElem?_eq_none q] at hb; cases hb
  · cases h
def Zg {w w' : World} {a : Addr} {v : Value} (hb : ∀ k, k < w.heap.size -> w'.heap[k]? = w.heap[k]?) (h : w.cell? a = some v) : w'.cell? a = some v := by
  have := hb _ (aef h)
  unfold World.cell? at h ⊢
  rw [this]; exact h
def la.grow {s m o : Nat} {W W' : World} {v : Value} (hb : ∀ k, k < W.heap.size -> W'.heap[k]? = W.heap[k]?) (h : la s W v m o) : la s W' v m o := by
  obtain ⟨base, len, cap, e, hl, h⟩ := h
  refine ⟨base, len, cap, e, hl, fun h0 => ?_⟩
  obtain ⟨b, off, h1, h2, h3⟩ := h h0
  refine ⟨b, off, h1, h2, fun j hj => ?_⟩
  obtain ⟨z, h4, h5⟩ := h3 j hj
  exact ⟨z, Zg hb h4, (Kr (hb _ (aef h4))).trans h5⟩
def zx.grow {s m o : Nat} {W W' : World} {v : Value} (hb : ∀ k, k < W.heap.size -> W'.heap[k]? = W.heap[k]?) (h : zx s W v m o) : zx s W' v m o := by
  obtain ⟨base, len, cap, e, hl, h⟩ := h
  refine ⟨base, len, cap, e, hl, fun h0 => ?_⟩
  obtain ⟨b, off, h1, h2, h3⟩ := h h0
  refine ⟨b, off, h1, h2, fun j hj => ?_⟩
  obtain ⟨u, h4, h5⟩ := h3 j hj
  exact ⟨u, Zg hb h4, h5.grow hb⟩
end Go.Proofs
end

noncomputable section
namespace Go.Proofs
open Go.RowKit
attribute [local go_sem] Oper.semAt_some
set_option maxRecDepth 100000 in
set_option maxHeartbeats 4000000 in
def acE (v0 v1 v2 v3 v4 v5 v6 : Value) (g d : Int) (w : World) (few : Bool) (ec er : Int) (text : ByteArray)
  (hFew : ∀ W', Below w.heap.size w W' -> CallsIn Fence.wide 0 Tryz.prog 4 #[.agg #[v0, v1, v2, v3, v4, v5, v6]] W' fun e W'' => e = .returned (.bool few) /\ W'.grownBy W'' none)
  (hSan : ∀ W', Below w.heap.size w W' -> CallsIn Fence.wide 0 Tryz.prog 6 #[] W' fun e W'' => e = .returned (.bool true) /\ W'.grownBy W'' none)
  (hChk : few = true -> ∀ W', Below w.heap.size w W' -> CallsIn Fence.wide 0 Tryz.prog 5 #[.agg #[v0, v1, v2, v3, v4, v5, v6]] W' fun e W'' => e = .returned (.int .i64 ec) /\ W'.grownBy W'' none)
  (hPr : few = true -> ec = 0 -> ∀ W', Below w.heap.size w W' -> CallsIn Fence.wide 0 Tryz.prog 7 #[.agg #[v0, v1, v2, v3, v4, v5, v6]] W' fun e W'' => e = .returned (.string text) /\ W'.grownBy W'' none)
  (hCert : few = true -> ec = 0 -> ∀ W', Below w.heap.size w W' -> CallsIn Fence.wide 0 Tryz.prog 8 #[.agg #[v0, v1, v2, v3, v4, v5, v6], .agg #[.int .i64 g, .int .i64 d], .bool true] W' fun e W'' => ∃ (k0 k1 : Int) (b2 : Option Addr) (l2 c2 : Nat) (b3 : Option Addr) (l3 c3 : Nat) (b4 : Option Addr) (l4 c4 : Nat) (b5 : Option Addr) (l5 c5 : Nat) (b6 : Option Addr) (l6 c6 : Nat) (k7 k8 : Int) (k9 : Bool) (k10 : Int) (b11 : Option Addr) (l11 c11 : Nat),
      e = .returned (.tuple #[.agg #[.int .i64 k0, .int .i64 k1, .slice b2 l2 c2, .slice b3 l3 c3, .slice b4 l4 c4, .slice b5 l5 c5, .slice b6 l6 c6, .int .i64 k7, .int .i64 k8, .bool k9, .int .i64 k10, .slice b11 l11 c11], .int .i64 er]) /\ W'.grownBy W'' none /\ la W'.heap.size W'' (.slice b2 l2 c2) 8 7 /\ zx W'.heap.size W'' (.slice b5 l5 c5) 8 2 /\ la W'.heap.size W'' (.slice b11 l11 c11) 1 0 /\
      (er = 0 -> ∀ W3, Below W''.heap.size W'' W3 -> CallsIn Fence.wide 0 Tryz.prog 10 #[.agg #[.int .i64 k0, .int .i64 k1, .slice b2 l2 c2, .slice b3 l3 c3, .slice b4 l4 c4, .slice b5 l5 c5, .slice b6 l6 c6, .int .i64 k7, .int .i64 k8, .bool k9, .int .i64 k10, .slice b11 l11 c11]] W3 fun e W4 => e = .returned (.int .i64 0) /\ W3.grownBy W4 none))
  (hHis : few = true -> ec = 0 -> ∀ W', Below w.heap.size w W' -> CallsIn Fence.wide 0 Tryz.prog 9 #[.agg #[v0, v1, v2, v3, v4, v5, v6], .agg #[.int .i64 g, .int .i64 d], .bool false] W' fun e W'' => ∃ (bl : Option Addr) (ll cl : Nat),
      e = .returned (.tuple #[.slice bl ll cl, .int .i64 er]) /\ W'.grownBy W'' none /\ la W'.heap.size W'' (.slice bl ll cl) 1 0) :
  CallsIn Fence.wide 0 Tryz.prog 3 #[.agg #[v0, v1, v2, v3, v4, v5, v6], .agg #[.int .i64 g, .int .i64 d]] w fun e W' => e = .returned (.bool true) /\ Below w.heap.size w W' := by
  refine callsIn_of_wp Tryz.func3 rfl trivial ?_ rfl
  simp only [Tryz.ntmps3, List.size_toArray, List.length_cons, List.length_nil, Nat.reduceAdd, Nat.reduceSub, Array.replicate_succ, Array.replicate_zero, List.push_toArray, List.append_toArray, List.nil_append, List.cons_append]
  gi_wp2
  obtain ⟨W1, hW1⟩ : ∃ W1, W1 = (w.alloc (Obj.cells #[v0, v1, v2, v3, v4, v5, v6] 30)).alloc (Obj.cells #[Value.int IntKind.i64 g, Value.int IntKind.i64 d] 32) := ⟨_, rfl⟩
  rw [<- hW1]
  have b1 : Below w.heap.size w W1 := by
    rw [hW1]
    refine ⟨rfl, rfl, rfl, by simp only [World.alloc, Array.size_push]; omega, fun k hk => ?_⟩
    simp only [World.alloc]
    rw [Array.getElem?_push_lt (by simp; omega), Array.getElem_push_lt hk, Array.getElem?_eq_getElem hk]
  have z1 : W1.heap.size = w.heap.size + 2 := by rw [hW1]; simp only [World.alloc, Array.size_push]
  have c1 : W1.heap[w.heap.size]? = some (Obj.cells #[v0, v1, v2, v3, v4, v5, v6] 30 (0, 0)) := by
    rw [hW1]; simp only [World.alloc]
    rw [Array.getElem?_push_lt (by rw [Array.size_push]; omega), Array.getElem_push_eq]
  have c2 : W1.heap[w.heap.size + 1]? = some (Obj.cells #[Value.int IntKind.i64 g, Value.int IntKind.i64 d] 32 (0, 0)) := by
    rw [hW1]; simp only [World.alloc]
    rw [show w.heap.size + 1 = (w.heap.push (Obj.cells #[v0, v1, v2, v3, v4, v5, v6] 30)).size from (Array.size_push _).symm]
    exact Array.getElem?_push_size
  clear hW1
  have bk : ∀ W, Below (w.heap.size + 2) W1 W -> W.cell? ⟨w.heap.size, 0, none⟩ = some v0 /\ W.cell? ⟨w.heap.size, 1, none⟩ = some v1 /\ W.cell? ⟨w.heap.size, 2, none⟩ = some v2 /\ W.cell? ⟨w.heap.size, 3, none⟩ = some v3 /\ W.cell? ⟨w.heap.size, 4, none⟩ = some v4 /\ W.cell? ⟨w.heap.size, 5, none⟩ = some v5 /\ W.cell? ⟨w.heap.size, 6, none⟩ = some v6 /\
      W.cell? ⟨w.heap.size + 1, 0, none⟩ = some (.int .i64 g) /\ W.cell? ⟨w.heap.size + 1, 1, none⟩ = some (.int .i64 d) := fun W hb => by
    have e1 := (hb.block w.heap.size (by omega)).trans c1
    have e2 := (hb.block (w.heap.size + 1) (by omega)).trans c2
    refine ⟨?_, ?_, ?_, ?_, ?_, ?_, ?_, ?_, ?_⟩ <;> simp only [World.cell?, e1, e2] <;> rfl
  have bb : ∀ {W}, Below (w.heap.size + 2) W1 W -> Below w.heap.size w W := fun {W} hb => ⟨hb.os.trans b1.os, hb.tape.trans b1.tape, hb.output.trans b1.output, Nat.le_trans b1.size hb.size, fun k hk => (hb.block k (by omega)).trans (b1.block k hk)⟩
  have gr : ∀ {X Y : World}, Below (w.heap.size + 2) W1 X -> X.grownBy Y none -> Below (w.heap.size + 2) W1 Y := fun {X Y} h g =>
    ⟨g.os.trans h.os, g.tape.trans h.tape, g.output.trans h.output, Nat.le_trans h.size g.size, fun k hk => (g.block k (Nat.lt_of_lt_of_le (Nat.lt_of_lt_of_le hk (by omega)) h.size) (by simp)).trans (h.block k hk)⟩
  refine ⟨trivial, rfl, (hFew _ b1).mono ?_⟩
  rintro e W2 ⟨rfl, hg2⟩
  have h2 := gr (Below.refl _ _) hg2
  clear c1 c2
  obtain ⟨q0, q1, q2, q3, q4, q5, q6, q7, q8⟩ := bk W2 h2
  cases few with
  | false =>
    clear hChk hPr hCert hHis
    gi_wp2
    refine ⟨trivial, ?_⟩
    gi_wp2
    refine ⟨trivial, rfl, (hSan _ (bb h2)).mono ?_⟩
    rintro e W3 ⟨rfl, hg3⟩
    have h3 := gr h2 hg3
    gi_wp2
    exact bodyPost_ret (results_tmp rfl _ _ _) rfl ⟨rfl, bb h3⟩
  | true =>
  replace hChk := hChk rfl
  replace hPr := hPr rfl
  replace hCert := hCert rfl
  replace hHis := hHis rfl
  gi_wp2
  refine ⟨trivial, rfl, (hChk _ (bb h2)).mono ?_⟩
  rintro e W3 ⟨rfl, hg3⟩
  have h3 := gr h2 hg3
  clear q0 q1 q2 q3 q4 q5 q6 q7 q8
  by_cases he : ec = 0
  case neg =>
    clear hChk hPr hCert hHis
    have he' : (ec != 0) = true := by simpa using he
    gi_wp2
    refine ⟨trivial, rfl, (hSan _ (bb h3)).mono ?_⟩
    rintro e W4 ⟨rfl, hg4⟩
    have h4 := gr h3 hg4
    gi_wp2
    exact bodyPost_ret (results_tmp rfl _ _ _) rfl ⟨rfl, bb h4⟩
  subst he
  replace hPr := hPr rfl
  replace hCert := hCert rfl
  replace hHis := hHis rfl
  obtain ⟨q0, q1, q2, q3, q4, q5, q6, q7, q8⟩ := bk W3 h3
  gi_wp2
  refine ⟨trivial, rfl, (hPr _ (bb h3)).mono ?_⟩
  rintro e W4 ⟨rfl, hg4⟩
  have h4 := gr h3 hg4
  clear q0 q1 q2 q3 q4 q5 q6 q7 q8
  obtain ⟨q0, q1, q2, q3, q4, q5, q6, q7, q8⟩ := bk W4 h4
  gi_wp2
  refine ⟨trivial, rfl, (hCert _ (bb h4)).mono ?_⟩
  rintro e W5 ⟨k0, k1, b2, l2, c2, b3, l3, c3, b4, l4, c4, b5, l5, c5, b6, l6, c6, k7, k8, k9, k10, b11, l11, c11, rfl, hg5, f1, f2, f3, -⟩
  have h5 := gr h4 hg5
  clear q0 q1 q2 q3 q4 q5 q6 q7 q8
  gi_wp2
  obtain ⟨W6, hW6⟩ : ∃ W6, W6 = W5.alloc (Obj.cells #[.int .i64 k0, .int .i64 k1, .slice b2 l2 c2, .slice b3 l3 c3, .slice b4 l4 c4, .slice b5 l5 c5, .slice b6 l6 c6, .int .i64 k7, .int .i64 k8, .bool k9, .int .i64 k10, .slice b11 l11 c11] 40) := ⟨_, rfl⟩
  rw [<- hW6]
  have o6 : ∀ k, k < W5.heap.size -> W6.heap[k]? = W5.heap[k]? := fun k hk => by
    rw [hW6]; simp only [World.alloc]
    rw [Array.getElem?_push_lt (by omega), Array.getElem?_eq_getElem hk]
  have y6 : W6.heap[W5.heap.size]? = some (Obj.cells #[.int .i64 k0, .int .i64 k1, .slice b2 l2 c2, .slice b3 l3 c3, .slice b4 l4 c4, .slice b5 l5 c5, .slice b6 l6 c6, .int .i64 k7, .int .i64 k8, .bool k9, .int .i64 k10, .slice b11 l11 c11] 40 (0, 0)) := by
    rw [hW6]; exact Array.getElem?_push_size
  have g6 : W5.grownBy W6 none := by rw [hW6]; exact World.grownBy_alloc _ _ none
  clear hW6
  have h6 := gr h5 g6
  replace f1 := f1.grow o6
  replace f2 := f2.grow o6
  replace f3 := f3.grow o6
  have x2 : W6.cell? ⟨W5.heap.size, 2, none⟩ = some (.slice b2 l2 c2) := by simp only [World.cell?, y6]; rfl
  have x5 : W6.cell? ⟨W5.heap.size, 5, none⟩ = some (.slice b5 l5 c5) := by simp only [World.cell?, y6]; rfl
  have x11 : W6.cell? ⟨W5.heap.size, 11, none⟩ = some (.slice b11 l11 c11) := by simp only [World.cell?, y6]; rfl
  have hs4 : w.heap.size + 2 <= W4.heap.size := by have := h4.size; omega
  obtain ⟨m4, hm4⟩ : ∃ m4, m4 = W4.heap.size := ⟨_, rfl⟩
  rw [<- hm4] at f1 f2 f3 hs4
  clear y6 o6 g6 hg5 hm4
  -- the chain
  gi_loopw [8] (fun i wr => ∃ k : Nat, k <= l11 /\ i = .int .i64 k /\ iX m4 W6 wr)
    (fun i _ => l11 - (intOf i).toNat)
  case atStart => exact ⟨0, Nat.zero_le _, rfl, iX.refl _ _⟩
  case round =>
    obtain ⟨k, hk, rfl, hst⟩ := hrel
    have hx := hst.oth _ _ x11 (fun _ h => by cases h)
    obtain ⟨_, _, _, e3, hl3, hr3⟩ := f3.step hst
    cases e3
    by_cases hlt : k < l11
    · obtain ⟨b, off, rfl, hb, hc⟩ := hr3 (by omega)
      obtain ⟨z, hc1, hc2⟩ := hc k hlt
      clear hc hr3
      simp only [Nat.mul_one, Nat.add_zero] at hc1 hc2
      gi_wp2
      exact ⟨⟨k + 1, by omega, by simp, hst.set hc1 hb⟩, by simp [intOf]; omega⟩
    · obtain rfl : l11 = k := by omega
      clear hr3
      gi_wp2
      clear hl3 hx f3
      -- the piles
      gi_loopw [9] (fun i wr => ∃ k : Nat, k <= l5 /\ i = .int .i64 k /\ iX m4 W6 wr)
        (fun i _ => l5 - (intOf i).toNat)
      case atStart => exact ⟨0, Nat.zero_le _, rfl, hst⟩
      case round =>
        clear hst
        obtain ⟨k, hk, rfl, hst⟩ := hrel
        have hx := hst.oth _ _ x5 (fun _ h => by cases h)
        obtain ⟨_, _, _, e3, hl3, hr3⟩ := f2.step hst
        cases e3
        by_cases hlt : k < l5
        · obtain ⟨b, off, rfl, hb, hc⟩ := hr3 (by omega)
          obtain ⟨u, hc1, hu⟩ := hc k hlt
          obtain ⟨ab, al, ac, rfl, hal, -⟩ := id hu
          clear hc hr3
          gi_wp2
          gi_loopw [10] (fun i wr => ∃ j : Nat, j <= al /\ i = .int .i64 j /\ iX m4 W6 wr /\ wr.cell? ⟨b, off + k * 8 + 2, none⟩ = some (.slice ab al ac) /\ la m4 wr (.slice ab al ac) 1 0)
            (fun i _ => al - (intOf i).toNat)
          case atStart => exact ⟨0, Nat.zero_le _, rfl, hst, hc1, hu⟩
          case round =>
            clear hst hc1 hu hx
            obtain ⟨j, hj, rfl, hst, hc1, hu⟩ := hrel
            have hx := hst.oth _ _ x5 (fun _ h => by cases h)
            by_cases hjl : j < al
            · obtain ⟨_, _, _, e4, _, hr4⟩ := id hu
              cases e4
              obtain ⟨b', off', rfl, hb', hc⟩ := hr4 (by omega)
              obtain ⟨z, hc2, hc3⟩ := hc j hjl
              clear hc hr4
              simp only [Nat.mul_one, Nat.add_zero] at hc2 hc3
              gi_wp2
              have st1 := (iX.refl m4 wr).set (y := -1) hc2 hb'
              exact ⟨⟨j + 1, by omega, by simp, hst.set hc2 hb', st1.oth _ _ hc1 (fun _ h => by cases h), hu.step st1⟩, by simp [intOf]; omega⟩
            · obtain rfl : al = j := by omega
              gi_wp2
              exact ⟨⟨k + 1, by omega, by simp, hst⟩, by simp [intOf]; omega⟩
        · obtain rfl : l5 = k := by omega
          clear hr3
          gi_wp2
          clear hl3 hx f2 x11
          -- the gauges
          gi_loopw [11] (fun i wr => ∃ k : Nat, k <= l2 /\ i = .int .i64 k /\ iX m4 W6 wr)
            (fun i _ => l2 - (intOf i).toNat)
          case atStart => exact ⟨0, Nat.zero_le _, rfl, hst⟩
          case round =>
            clear hst
            obtain ⟨k, hk, rfl, hst⟩ := hrel
            have hx := hst.oth _ _ x2 (fun _ h => by cases h)
            obtain ⟨_, _, _, e3, hl3, hr3⟩ := f1.step hst
            cases e3
            by_cases hlt : k < l2
            · obtain ⟨b, off, rfl, hb, hc⟩ := hr3 (by omega)
              obtain ⟨z, hc1, hc2⟩ := hc k hlt
              clear hc hr3
              gi_wp2
              exact ⟨⟨k + 1, by omega, by simp, hst.set hc1 hb⟩, by simp [intOf]; omega⟩
            · obtain rfl : l2 = k := by omega
              clear hr3
              have h7 := hst.below h6 hs4
              obtain ⟨q0, q1, q2, q3, q4, q5, q6, q7, q8⟩ := bk wr h7
              gi_wp2
              refine ⟨trivial, rfl, (hHis _ (bb h7)).mono ?_⟩
              rintro e W8 ⟨bl, ll, cl, rfl, hg8, f8⟩
              have h8 := gr h7 hg8
              clear q0 q1 q2 q3 q4 q5 q6 q7 q8 hst hx f1 hl3 x2 x5
              have hs8 : w.heap.size + 2 <= wr.heap.size := by have := h7.size; omega
              obtain ⟨m8, hm8⟩ : ∃ m8, m8 = wr.heap.size := ⟨_, rfl⟩
              rw [<- hm8] at f8 hs8
              clear hm8
              gi_wp2
              -- the history
              gi_loopw [14] (fun i wr => ∃ k : Nat, k <= ll /\ i = .int .i64 k /\ iX m8 W8 wr)
                (fun i _ => ll - (intOf i).toNat)
              case atStart => exact ⟨0, Nat.zero_le _, rfl, iX.refl _ _⟩
              case round =>
                obtain ⟨k, hk, rfl, hst⟩ := hrel
                obtain ⟨_, _, _, e3, hl3, hr3⟩ := f8.step hst
                cases e3
                by_cases hlt : k < ll
                · obtain ⟨b, off, rfl, hb, hc⟩ := hr3 (by omega)
                  obtain ⟨z, hc1, hc2⟩ := hc k hlt
                  clear hc hr3
                  simp only [Nat.mul_one, Nat.add_zero] at hc1 hc2
                  gi_wp2
                  exact ⟨⟨k + 1, by omega, by simp, hst.set hc1 hb⟩, by simp [intOf]; omega⟩
                · obtain rfl : ll = k := by omega
                  clear hr3
                  have h9 := hst.below h8 hs8
                  obtain ⟨q0, q1, q2, q3, q4, q5, q6, q7, q8⟩ := bk _ h9
                  gi_wp2
                  refine ⟨trivial, rfl, (hCert _ (bb h9)).mono ?_⟩
                  rintro e W10 ⟨j0, j1, d2, m2, e2, d3, m3, e3, d4, n4, e4, d5, m5, e5, d6, m6, e6, j7, j8, j9, j10, d11, m11, e11, rfl, hg10, -, -, -, hcc⟩
                  have h10 := gr h9 hg10
                  clear q0 q1 q2 q3 q4 q5 q6 q7 q8 hst f8 hl3
                  gi_wp2
                  obtain ⟨W11, hW11⟩ : ∃ W11, W11 = W10.alloc (Obj.cells #[.int .i64 j0, .int .i64 j1, .slice d2 m2 e2, .slice d3 m3 e3, .slice d4 n4 e4, .slice d5 m5 e5, .slice d6 m6 e6, .int .i64 j7, .int .i64 j8, .bool j9, .int .i64 j10, .slice d11 m11 e11] 40) := ⟨_, rfl⟩
                  rw [<- hW11]
                  have y11 : W11.heap[W10.heap.size]? = some (Obj.cells #[.int .i64 j0, .int .i64 j1, .slice d2 m2 e2, .slice d3 m3 e3, .slice d4 n4 e4, .slice d5 m5 e5, .slice d6 m6 e6, .int .i64 j7, .int .i64 j8, .bool j9, .int .i64 j10, .slice d11 m11 e11] 40 (0, 0)) := by
                    rw [hW11]; exact Array.getElem?_push_size
                  have z11 : W11.heap.size = W10.heap.size + 1 := by rw [hW11]; simp only [World.alloc, Array.size_push]
                  have g11 : W10.grownBy W11 none := by rw [hW11]; exact World.grownBy_alloc _ _ none
                  clear hW11
                  have h11 := gr h10 g11
                  refine ⟨trivial, rfl, (hSan _ (bb h11)).mono ?_⟩
                  rintro e W12 ⟨rfl, hg12⟩
                  have h12 := gr h11 hg12
                  obtain ⟨q0, q1, q2, q3, q4, q5, q6, q7, q8⟩ := bk _ h12
                  gi_wp2
                  refine ⟨trivial, rfl, (hPr _ (bb h12)).mono ?_⟩
                  rintro e W13 ⟨rfl, hg13⟩
                  have h13 := gr h12 hg13
                  have y13 : W13.heap[W10.heap.size]? = some (Obj.cells #[.int .i64 j0, .int .i64 j1, .slice d2 m2 e2, .slice d3 m3 e3, .slice d4 n4 e4, .slice d5 m5 e5, .slice d6 m6 e6, .int .i64 j7, .int .i64 j8, .bool j9, .int .i64 j10, .slice d11 m11 e11] 40 (0, 0)) :=
                    (hg13.block _ (by have := hg12.size; omega) (by simp)).trans ((hg12.block _ (by omega) (by simp)).trans y11)
                  clear q0 q1 q2 q3 q4 q5 q6 q7 q8 y11
                  have r0 : W13.cell? ⟨W10.heap.size, 0, none⟩ = some (.int .i64 j0) := by simp only [World.cell?, y13]; rfl
                  have r1 : W13.cell? ⟨W10.heap.size, 1, none⟩ = some (.int .i64 j1) := by simp only [World.cell?, y13]; rfl
                  have r2 : W13.cell? ⟨W10.heap.size, 2, none⟩ = some (.slice d2 m2 e2) := by simp only [World.cell?, y13]; rfl
                  have r3 : W13.cell? ⟨W10.heap.size, 3, none⟩ = some (.slice d3 m3 e3) := by simp only [World.cell?, y13]; rfl
                  have r4 : W13.cell? ⟨W10.heap.size, 4, none⟩ = some (.slice d4 n4 e4) := by simp only [World.cell?, y13]; rfl
                  have r5 : W13.cell? ⟨W10.heap.size, 5, none⟩ = some (.slice d5 m5 e5) := by simp only [World.cell?, y13]; rfl
                  have r6 : W13.cell? ⟨W10.heap.size, 6, none⟩ = some (.slice d6 m6 e6) := by simp only [World.cell?, y13]; rfl
                  have r7 : W13.cell? ⟨W10.heap.size, 7, none⟩ = some (.int .i64 j7) := by simp only [World.cell?, y13]; rfl
                  have r8 : W13.cell? ⟨W10.heap.size, 8, none⟩ = some (.int .i64 j8) := by simp only [World.cell?, y13]; rfl
                  have r9 : W13.cell? ⟨W10.heap.size, 9, none⟩ = some (.bool j9) := by simp only [World.cell?, y13]; rfl
                  have r10 : W13.cell? ⟨W10.heap.size, 10, none⟩ = some (.int .i64 j10) := by simp only [World.cell?, y13]; rfl
                  have r11 : W13.cell? ⟨W10.heap.size, 11, none⟩ = some (.slice d11 m11 e11) := by simp only [World.cell?, y13]; rfl
                  have k13 : Below W10.heap.size W10 W13 := ⟨hg13.os.trans (hg12.os.trans g11.os), hg13.tape.trans (hg12.tape.trans g11.tape), hg13.output.trans (hg12.output.trans g11.output), by have := hg12.size; have := hg13.size; omega,
                    fun k hk => (hg13.block k (by have := hg12.size; omega) (by simp)).trans ((hg12.block k (by omega) (by simp)).trans (g11.block k hk (by simp)))⟩
                  clear y13
                  by_cases her : er = 0
                  · subst her
                    replace hcc := hcc rfl
                    gi_wp2
                    refine ⟨trivial, rfl, (hcc _ k13).mono ?_⟩
                    rintro e W14 ⟨rfl, hg14⟩
                    have h14 := gr h13 hg14
                    gi_wp2
                    exact bodyPost_ret (results_tmp rfl _ _ _) rfl ⟨rfl, bb h14⟩
                  · clear hcc
                    gi_wp2
                    refine ⟨trivial, ?_⟩
                    gi_wp2
                    exact bodyPost_ret (results_tmp rfl _ _ _) rfl ⟨rfl, bb h13⟩
end Go.Proofs
end
