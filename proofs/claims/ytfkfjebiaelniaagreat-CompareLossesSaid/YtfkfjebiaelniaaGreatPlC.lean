/- lemmas: PlL0 PlK0 PlP6 PlDay PlUsed PlWears PlLosses -/
import Derived.Test.YtfkfjebiaelniaaGreatPlB
import Derived.Test.YtfkfjebiaelniaaGreatMdT
set_option linter.all false
set_option linter.unusedSectionVars false
set_option linter.unusedVariables false
set_option linter.unusedSimpArgs false
section
set_option linter.unusedVariables false
set_option linter.unusedSimpArgs false
namespace Go.Proofs.ZzM
open Go Go.Am
def smallP (b : Book) : Bool :=
  !((b.2.2.2.2.1.take 60).any fun c => decide (9 < c.2.2.1.length) || decide (9 < c.2.2.2.1.length)) && (decide (b.2.1.length ≤ 14) && (decide (b.2.2.1.length ≤ 42) && (decide (b.2.2.2.1.length ≤ 14) && (decide (b.2.2.2.2.1.length ≤ 42) && decide (b.2.2.2.2.2.length ≤ 12)))))
theorem small_ok (b : Book) : f_w5_small b = some (smallP b) := by
  unfold f_w5_small m_w5_small
  have last : (ifb (ile (ilen b.2.1) (14 : Int)) (ifb (ile (ilen b.2.2.1) (42 : Int)) (ifb (ile (ilen b.2.2.2.1) (14 : Int)) (ifb (ile (ilen b.2.2.2.2.1) (42 : Int)) (some (ile (ilen b.2.2.2.2.2) (12 : Int))) (some false)) (some false)) (some false)) (some false)) =
      some (decide (b.2.1.length ≤ 14) && (decide (b.2.2.1.length ≤ 42) && (decide (b.2.2.2.1.length ≤ 14) && (decide (b.2.2.2.2.1.length ≤ 42) && decide (b.2.2.2.2.2.length ≤ 12))))) := by
    have e : ∀ (n m : Nat), ile (n : Int) (m : Int) = decide (n ≤ m) := fun n m => by simp [ile]
    rw [ilen_eq, ilen_eq, ilen_eq, ilen_eq, ilen_eq, show (14 : Int) = ((14 : Nat) : Int) from rfl, show (42 : Int) = ((42 : Nat) : Int) from rfl, show (12 : Int) = ((12 : Nat) : Int) from rfl, e, e, e, e, e]
    generalize decide (b.2.1.length ≤ 14) = x1
    generalize decide (b.2.2.1.length ≤ 42) = x2
    generalize decide (b.2.2.2.1.length ≤ 14) = x3
    generalize decide (b.2.2.2.2.1.length ≤ 42) = x4
    cases x1 <;> cases x2 <;> cases x3 <;> cases x4 <;> rfl
  refine Eq.trans (loop_any (b.2.2.2.2.1.take 60) (fun c => decide (9 < c.2.2.1.length) || decide (9 < c.2.2.2.1.length)) (fun _ => some false) (some false) (some (decide (b.2.1.length ≤ 14) && (decide (b.2.2.1.length ≤ 42) && (decide (b.2.2.2.1.length ≤ 14) && (decide (b.2.2.2.2.1.length ≤ 42) && decide (b.2.2.2.2.2.length ≤ 12)))))) (fun _ => rfl) (fun i c hi hc kn => ?_) (fun kn => ?_)) ?_
  · try dsimp only
    unfold m_w5_small_L0
    rw [List.length_take] at hi
    have hc' : b.2.2.2.2.1[i]? = some c := by rw [List.getElem?_take] at hc; split at hc <;> simp_all
    rw [ifb_lt' (show i < b.2.2.2.2.1.length by omega), ifb_t (by simp [ilt]; omega), iget_nat hc', iget_nat hc', ck_ok (by omega) (by omega), ifb_eq, ilen_eq, ilen_eq]
    by_cases h1 : 9 < c.2.2.1.length
    · rw [if_pos (by simp [igt]; omega), if_pos (by simp [h1])]
    · rw [if_neg (by simp [igt]; omega), ifb_eq]
      by_cases h2 : 9 < c.2.2.2.1.length
      · rw [if_pos (by simp [igt]; omega), if_pos (by simp [h2])]
      · rw [if_neg (by simp [igt]; omega), if_neg (by simp [h1, h2])]
  · try dsimp only
    unfold m_w5_small_L0
    rw [last, List.length_take, ifb_eq]
    split
    · rename_i h
      have h' : 60 < b.2.2.2.2.1.length := by rw [ilen_eq] at h; simp [ilt] at h; omega
      rw [ifb_f (by simp [ilt]; omega)]
    · rfl
  · unfold smallP
    cases List.any (List.take 60 b.2.2.2.2.1) (fun c => decide (9 < c.2.2.1.length) || decide (9 < c.2.2.2.1.length)) <;> rfl
theorem small_size {b : Book} (h : smallP b = true) : SizeOk b ∧ b.2.2.2.2.1.length ≤ 42 ∧ ∀ c ∈ b.2.2.2.2.1, c.2.2.1.length ≤ 9 ∧ c.2.2.2.1.length ≤ 9 := by
  simp only [smallP, Bool.and_eq_true, Bool.not_eq_true', decide_eq_true_eq] at h
  obtain ⟨h0, h1, h2, h3, h4, h5⟩ := h
  have hp : ∀ c ∈ b.2.2.2.2.1, c.2.2.1.length ≤ 9 ∧ c.2.2.2.1.length ≤ 9 := by
    intro c hc
    rw [List.take_of_length_le (by omega)] at h0
    have := List.any_eq_false.1 h0 c hc
    simp at this
    omega
  exact ⟨⟨by omega, by omega, by omega, by omega, by omega, fun c hc => by have := hp c hc; omega⟩, h4, hp⟩
theorem FitsP_iff {b : Book} {x : List Int} : FitsP b x = (true, 0) ↔ Good b ∧ lengthsP b x = true ∧ fitsP b x = true := by
  unfold FitsP
  constructor
  · intro h
    split at h
    · cases h
    · rename_i hc
      have hc0 : checkP b = 0 := by simpa using hc
      split at h
      · rename_i hl
        simp only [Prod.mk.injEq, and_true] at h
        exact ⟨(checkP_iff b).1 hc0, hl, h⟩
      · cases h
  · rintro ⟨h1, h2, h3⟩
    rw [if_neg (by simp [(checkP_iff b).2 h1]), if_pos h2, h3]
theorem lengthsP_iff {b : Book} {x : List Int} : lengthsP b x = true ↔ x.length = (nodesP b).length ∧ ∀ n ∈ x, -4503599627370496 ≤ n ∧ n ≤ 4503599627370496 := by
  simp [lengthsP, inP]
theorem fitsL_iff {L : List Lk} {x : List Int} : fitsL L x = true ↔ Pot L (gv x) := by
  simp only [fitsL, List.all_eq_true, decide_eq_true_eq, Pot]
  exact ⟨fun h u v m hl => h (u, v, m) hl, fun h l hl => h l.1 l.2.1 l.2.2 hl⟩
theorem gv_cons (a : Int) (x : List Int) {v : Int} (hv : 0 ≤ v) : gv (a :: x) v = if v = 0 then a else gv x (v - 1) := by
  unfold gv
  by_cases h : v = 0
  · subst h; rfl
  · obtain ⟨n, rfl⟩ := Int.eq_ofNat_of_zero_le hv
    cases n with
    | zero => simp at h
    | succ n =>
      have e : (((n + 1 : Nat) : Int) - 1).toNat = n := by omega
      rw [if_neg h, e]
      simp
theorem gv_zip {f : Int → Int → Int} {x y : List Int} (hl : x.length = y.length) {v : Int} (h0 : 0 ≤ v) (h1 : v < x.length) : gv (List.zipWith f x y) v = f (gv x v) (gv y v) := by
  obtain ⟨n, rfl⟩ := Int.eq_ofNat_of_zero_le h0
  have hx : n < x.length := by omega
  have hy : n < y.length := by omega
  unfold gv
  rw [Int.toNat_natCast, List.getElem?_eq_getElem (show n < (List.zipWith f x y).length by simp; omega), List.getElem?_eq_getElem hx, List.getElem?_eq_getElem hy, List.getElem_zipWith]
  rfl
theorem zip_fits {b : Book} (h : Good b) {f : Int → Int → Int} (hf0 : f 0 0 = 0) (hfb : ∀ a c, -4503599627370496 ≤ a ∧ a ≤ 4503599627370496 → -4503599627370496 ≤ c ∧ c ≤ 4503599627370496 → -4503599627370496 ≤ f a c ∧ f a c ≤ 4503599627370496) (hfp : ∀ a a' c c' m : Int, a' ≤ a + m → c' ≤ c + m → f a' c' ≤ f a c + m)
    {x y : List Int} (hx : lengthsP b x = true) (hy : lengthsP b y = true) (fx : fitsP b x = true) (fy : fitsP b y = true) : FitsP b (List.zipWith f x y) = (true, 0) := by
  rw [FitsP_iff]
  obtain ⟨lx, bx⟩ := lengthsP_iff.1 hx
  obtain ⟨ly, by'⟩ := lengthsP_iff.1 hy
  refine ⟨h, lengthsP_iff.2 ⟨by simp; omega, fun n hn => ?_⟩, ?_⟩
  · obtain ⟨i, hi, rfl⟩ := List.mem_iff_getElem.1 hn
    simp only [List.length_zipWith] at hi
    rw [List.getElem_zipWith]
    exact hfb _ _ (bx _ (List.getElem_mem _)) (by' _ (List.getElem_mem _))
  · have px := fitsL_iff.1 (show fitsL (linksP b) (0 :: x) = true from fx)
    have py := fitsL_iff.1 (show fitsL (linksP b) (0 :: y) = true from fy)
    refine fitsL_iff.2 fun u v m hl => ?_
    have hr := h.sys.inr _ hl
    have key : ∀ v : Int, 0 ≤ v → v < ((nodesP b).length + 1 : Nat) → gv (0 :: List.zipWith f x y) v = f (gv (0 :: x) v) (gv (0 :: y) v) := by
      intro v h0 h1
      rw [gv_cons _ _ h0, gv_cons _ _ h0, gv_cons _ _ h0]
      by_cases hv : v = 0
      · simp [hv, hf0]
      · simp only [hv, if_false]
        exact gv_zip (by omega) (by omega) (by omega)
    rw [key v hr.2.1 hr.2.2, key u hr.1.1 hr.1.2]
    exact hfp _ _ _ _ _ (px u v m hl) (py u v m hl)
def nearF (a c : Int) : Int := a + (if c < a then -1 else if a < c then 1 else 0)
theorem zip_take {f : Int → Int → Int} {x y : List Int} {i : Nat} {a c : Int} (ha : x[i]? = some a) (hc : y[i]? = some c) : List.zipWith f (x.take (i + 1)) (y.take (i + 1)) = List.zipWith f (x.take i) (y.take i) ++ [f a c] := by
  obtain ⟨h1, _⟩ := List.getElem?_eq_some_iff.1 ha
  obtain ⟨h2, _⟩ := List.getElem?_eq_some_iff.1 hc
  rw [take_succ ha, take_succ hc, List.zipWith_append (by rw [List.length_take, List.length_take]; omega)]
  rfl
end Go.Proofs.ZzM
end

section
set_option linter.unusedVariables false
set_option linter.unusedSimpArgs false
namespace Go.Proofs.ZzM
open Go Go.Am
section
variable {b : Book}
theorem off_all : off b b.2.1.length = (nodesP b).length := by unfold off nodesP; rw [List.take_length]
theorem off_find : ∀ n, n ≤ b.2.1.length → ∀ j, j < off b n → ∃ (i : Nat) (g : Gauge) (k : Nat), b.2.1[i]? = some g ∧ k < (daysP b g).length ∧ j = off b i + k := by
  intro n
  induction n with
  | zero => intro _ j hj; simp [off] at hj
  | succ n ih =>
    intro hn j hj
    have hg : b.2.1[n]? = some b.2.1[n] := List.getElem?_eq_getElem (by omega)
    rw [off_succ hg] at hj
    by_cases h : j < off b n
    · exact ih (by omega) j h
    · exact ⟨n, _, j - off b n, hg, by omega, by omega⟩
theorem node_split {v : Int} (h0 : 1 ≤ v) (h1 : v < ((nodesP b).length + 1 : Nat)) : ∃ (i : Nat) (g : Gauge) (k : Nat), b.2.1[i]? = some g ∧ k < (daysP b g).length ∧ v = (off b i : Int) + k + 1 := by
  obtain ⟨i, g, k, h2, h3, h4⟩ := off_find (b := b) b.2.1.length (Nat.le_refl _) (v - 1).toNat (by rw [off_all]; omega)
  exact ⟨i, g, k, h2, h3, by omega⟩
def GL (b : Book) (L : List Lk) : Prop := ∀ (i : Nat) (g : Gauge), b.2.1[i]? = some g → ∀ l ∈ gaugeLinks b g, l ∈ L
theorem gl_links : GL b (linksP b) := fun i g hg l hl => linksP_mem.2 (.inl ⟨i, g, hg, hl⟩)
theorem tied_to {L : List Lk} (h : Good b) (hL : GL b L) {v : Int} (h0 : 0 ≤ v) (h1 : v < ((nodesP b).length + 1 : Nat)) : ∃ vs d, Wl L (fun u => u = 0) vs v d ∧ d ≤ 4503599627370496 := by
  by_cases hv : v = 0
  · exact ⟨[], 0, .nil hv, by omega⟩
  obtain ⟨i, g, k, hg, hk, rfl⟩ := node_split (by omega) h1
  have hr := h.gaugeR (List.mem_of_getElem? hg)
  have r1 := hr.2.2.2.2.2.1
  have r2 := hr.2.2.2.2.2.2.1
  have key : ∀ k : Nat, k < (daysP b g).length → ∃ vs, Wl L (fun u => u = 0) vs ((off b i : Int) + k + 1) (g.2.2.1 + g.2.2.2.1.2) := by
    intro k
    induction k with
    | zero =>
      intro _
      have hw : Wl L (fun u => u = 0) [0] ((off b i : Int) + 1) (0 + (g.2.2.1 + g.2.2.2.1.2)) := Wl.step (.nil rfl) (hL i g hg _ ((gaugeLinks_mem h hg).2 (.inl rfl)))
      rw [Int.zero_add] at hw
      exact ⟨[0], by simpa using hw⟩
    | succ k ih =>
      intro hk
      obtain ⟨vs, hw⟩ := ih (by omega)
      have hw' := Wl.step hw (hL i g hg _ ((gaugeLinks_mem h hg).2 (.inr (.inr ⟨k, _, _, List.getElem?_eq_getElem (show k < _ by omega), List.getElem?_eq_getElem hk, .inl rfl⟩))))
      rw [Int.add_zero] at hw'
      have e : (off b i : Int) + ((k + 1 : Nat) : Int) + 1 = (off b i : Int) + k + 2 := by push_cast; omega
      exact ⟨_, by rw [e]; exact hw'⟩
  obtain ⟨vs, hw⟩ := key k hk
  exact ⟨vs, _, hw, by omega⟩
theorem tied_from {L : List Lk} (h : Good b) (hL : GL b L) {v : Int} (h0 : 0 ≤ v) (h1 : v < ((nodesP b).length + 1 : Nat)) : ∃ vs d, Wl L (fun u => u = v) vs 0 d ∧ d ≤ 4503599627370496 := by
  by_cases hv : v = 0
  · exact ⟨[], 0, .nil hv.symm, by omega⟩
  obtain ⟨i, g, k, hg, hk, rfl⟩ := node_split (by omega) h1
  have hgm := List.mem_of_getElem? hg
  have hr := h.gaugeR hgm
  have r1 := hr.2.2.2.2.2.1
  have r2 := hr.2.2.2.2.2.2.1
  have hd := days_len h hgm
  have key : ∀ m : Nat, m ≤ k → ∃ vs d, Wl L (fun u => u = (off b i : Int) + k + 1) vs ((off b i : Int) + (k - m : Nat) + 1) d ∧ d ≤ m * (12 * (20001 * 1048576) + 40 * 1048576) := by
    intro m
    induction m with
    | zero => intro _; exact ⟨[], 0, .nil (by simp), by simp⟩
    | succ m ih =>
      intro hm
      obtain ⟨vs, d, hw, hd⟩ := ih (by omega)
      have e1 : ((k - m : Nat) : Int) = ((k - (m + 1) : Nat) : Int) + 1 := by omega
      have hl : (((off b i : Int) + (k - (m + 1) : Nat) + 2, (off b i : Int) + (k - (m + 1) : Nat) + 1, lossP b g ((daysP b g)[k - (m + 1)]'(by omega)) ((daysP b g)[k - (m + 1) + 1]'(by omega))) : Lk) ∈ L :=
        hL i g hg _ ((gaugeLinks_mem h hg).2 (.inr (.inr ⟨k - (m + 1), _, _, List.getElem?_eq_getElem (by omega), List.getElem?_eq_getElem (by omega), .inr rfl⟩)))
      have hb := lossP_bound h hgm (f := (daysP b g)[k - (m + 1)]'(by omega)) (t := (daysP b g)[k - (m + 1) + 1]'(by omega)) (h.day hgm (List.getElem_mem _)).2.1
      have e2 : (off b i : Int) + (k - m : Nat) + 1 = (off b i : Int) + (k - (m + 1) : Nat) + 2 := by omega
      rw [e2] at hw
      exact ⟨_, _, .step hw hl, by push_cast; omega⟩
  obtain ⟨vs, d, hw, hdb⟩ := key k (Nat.le_refl _)
  have e : (off b i : Int) + (k - k : Nat) + 1 = (off b i : Int) + 1 := by omega
  rw [e] at hw
  have hw' := Wl.step hw (hL i g hg _ ((gaugeLinks_mem h hg).2 (.inr (.inl rfl))))
  exact ⟨_, _, hw', by omega⟩
theorem pot_near (h : Good b) {p : Int → Int} (hp : Pot (linksP b) p) {v : Int} (h0 : 0 ≤ v) (h1 : v < ((nodesP b).length + 1 : Nat)) : -4503599627370496 ≤ p v - p 0 ∧ p v - p 0 ≤ 4503599627370496 := by
  obtain ⟨vs, d, hw, hd⟩ := tied_to h gl_links h0 h1
  obtain ⟨ws, e, hx, he⟩ := tied_from h gl_links h0 h1
  obtain ⟨s, rfl, hs⟩ := hw.pot hp
  obtain ⟨t, rfl, ht⟩ := hx.pot hp
  omega
end
structure TiedL (L : List Lk) (N : Nat) : Prop where
  to : ∀ v : Int, 0 ≤ v → v < N → ∃ vs d, Wl L (fun u => u = 0) vs v d ∧ d ≤ 4503599627370496
  from' : ∀ v : Int, 0 ≤ v → v < N → ∃ vs d, Wl L (fun u => u = v) vs 0 d ∧ d ≤ 4503599627370496
theorem Good.tied {b : Book} (h : Good b) : TiedL (linksP b) ((nodesP b).length + 1) := ⟨fun v h0 h1 => tied_to h gl_links h0 h1, fun v h0 h1 => tied_from h gl_links h0 h1⟩
theorem Good.tiedL {b : Book} {L : List Lk} (h : Good b) (hL : GL b L) : TiedL L ((nodesP b).length + 1) := ⟨fun v h0 h1 => tied_to h hL h0 h1, fun v h0 h1 => tied_from h hL h0 h1⟩
section
variable {L : List Lk} {N : Nat}
theorem one_wl {L : List Lk} {s : Int} {vs : List Int} {v d : Int} : Wl L (fun v => oneS s v = true) vs v d ↔ Wl L (fun u => u = s) vs v d :=
  ⟨fun h => h.mono fun u hu => by simpa [oneS] using hu, fun h => h.mono fun u hu => by simpa [oneS] using hu⟩
def leastP (L : List Lk) (N : Nat) : List Int := (List.range N).map fun (n : Nat) => -(gv (boundsP L N n) 0)
theorem boundsP_len (s : Int) : (boundsP L N s).length = N := by unfold boundsP; rw [passes_length, start_length]
theorem leastP_len : (leastP L N).length = N := by simp [leastP]
theorem leastP_gv {v : Int} (h0 : 0 ≤ v) (h1 : v < N) : gv (leastP L N) v = -(gv (boundsP L N v) 0) := by
  unfold gv leastP
  rw [List.getElem?_map, List.getElem?_range (by omega)]
  simp only [Option.map_some, Option.getD_some, Int.toNat_of_nonneg h0]
  rfl
theorem bounds0_ne (h : SysOk L N) (ht : TiedL L N) (ho : openP L N = true) {v : Int} (h0 : 0 ≤ v) (h1 : v < N) : gv (boundsP L N 0) v ≤ 4503599627370496 := by
  have h2 := h.n60
  have h3 := h.n1
  obtain ⟨p, hp⟩ := (openP_iff h.links (by omega)).1 ho
  obtain ⟨vs, d, hw, hd⟩ := ht.to v h0 h1
  have := (bounds_dist h.links (by omega) hp (s := 0) ⟨by omega, by omega⟩).low v vs d (one_wl.2 hw)
  omega
theorem boundsV_ne (h : SysOk L N) (ht : TiedL L N) (ho : openP L N = true) {v : Int} (h0 : 0 ≤ v) (h1 : v < N) : gv (boundsP L N v) 0 ≤ 4503599627370496 := by
  have h2 := h.n60
  have h3 := h.n1
  obtain ⟨p, hp⟩ := (openP_iff h.links (by omega)).1 ho
  obtain ⟨vs, d, hw, hd⟩ := ht.from' v h0 h1
  have := (bounds_dist h.links (by omega) hp (s := v) ⟨h0, h1⟩).low 0 vs d (one_wl.2 hw)
  omega
theorem bounds_self (h : SysOk L N) (ho : openP L N = true) {v : Int} (h0 : 0 ≤ v) (h1 : v < N) : gv (boundsP L N v) v = 0 := by
  have h2 := h.n60
  obtain ⟨p, hp⟩ := (openP_iff h.links (by omega)).1 ho
  have hd := bounds_dist h.links (by omega) hp (s := v) ⟨h0, h1⟩
  have h3 := hd.low v [] 0 (.nil (by simp [oneS]))
  obtain ⟨vs, hw⟩ := hd.att v h0 h1 (by unfold Free; omega)
  obtain ⟨s, hs, hx⟩ := (one_wl.1 hw).pot hp
  subst hs
  omega
theorem bounds0_pot (h : SysOk L N) (ht : TiedL L N) (ho : openP L N = true) : Pot L (gv (boundsP L N 0)) := by
  have h2 := h.n60
  have h3 := h.n1
  obtain ⟨p, hp⟩ := (openP_iff h.links (by omega)).1 ho
  intro u v m hl
  have hr := h.inr _ hl
  have := bounds0_ne h ht ho hr.1.1 hr.1.2
  exact (bounds_dist h.links (by omega) hp (s := 0) ⟨by omega, by omega⟩).pot h.inr hl (by simp only at this; unfold Free; omega)
theorem Wl.cons {u v m : Int} (hl : (u, v, m) ∈ L) {vs : List Int} {w d : Int} (hw : Wl L (fun x => x = v) vs w d) : ∃ vs', Wl L (fun x => x = u) vs' w (m + d) := by
  induction hw with
  | nil h =>
    subst h
    have := Wl.step (S := fun x => x = u) (.nil rfl) hl
    rw [Int.zero_add] at this
    exact ⟨_, by rw [Int.add_zero]; exact this⟩
  | @step vs x y n d hw hx ih =>
    obtain ⟨vs', h'⟩ := ih
    have := Wl.step h' hx
    rw [Int.add_assoc] at this
    exact ⟨_, this⟩
theorem least_pot (h : SysOk L N) (ht : TiedL L N) (ho : openP L N = true) : Pot L (gv (leastP L N)) := by
  have h2 := h.n60
  obtain ⟨p, hp⟩ := (openP_iff h.links (by omega)).1 ho
  intro u v m hl
  have hr := h.inr _ hl
  rw [leastP_gv hr.2.1 hr.2.2, leastP_gv hr.1.1 hr.1.2]
  have hf := boundsV_ne h ht ho hr.2.1 hr.2.2
  have h3 := h.n1
  obtain ⟨vs, hw⟩ := (bounds_dist h.links (by omega) hp (s := v) ⟨hr.2.1, hr.2.2⟩).att 0 (by omega) (by omega) (by simp only at hf; unfold Free; omega)
  obtain ⟨vs', hw'⟩ := Wl.cons hl (one_wl.1 hw)
  have := (bounds_dist h.links (by omega) hp (s := u) ⟨hr.1.1, hr.1.2⟩).low 0 vs' _ (one_wl.2 hw')
  simp only
  omega
theorem least_zero (h : SysOk L N) (ho : openP L N = true) : gv (leastP L N) 0 = 0 := by
  have h3 := h.n1
  rw [leastP_gv (by omega) (by omega), bounds_self h ho (by omega) (by omega)]
  rfl
end
end Go.Proofs.ZzM
end

section
set_option linter.unusedVariables false
set_option linter.unusedSimpArgs false
namespace Go.Proofs.ZzM
open Go Go.Am
def usedP (b : Book) (id day : Int) : Bool := b.2.2.1.any fun u => u.1 == id && u.2 == day
def dayLoss (b : Book) (g : Gauge) (d : Int) : Int := match awayP b g.1 d with | some l => l.2.2 | none => if usedP b g.1 d then g.2.2.2.2.2 else 0
theorem loan_term (l : Loan) (id : Int) {f t : Int} (hft : f ≤ t) : (if l.1 = id ∧ 0 < loanDays l f (t + 1) then loanDays l f (t + 1) * l.2.2 else 0) = (if l.1 = id ∧ 0 < loanDays l f t then loanDays l f t * l.2.2 else 0) + (if l.1 = id ∧ l.2.1.1 ≤ t ∧ t ≤ l.2.1.2 then l.2.2 else 0) := by
  by_cases hid : l.1 = id
  · by_cases h1 : l.2.1.1 ≤ t ∧ t ≤ l.2.1.2
    · have e : loanDays l f (t + 1) = loanDays l f t + 1 := by unfold loanDays; omega
      have p : 0 ≤ loanDays l f t := by unfold loanDays; omega
      rw [e, if_pos ⟨hid, by omega⟩, if_pos (show l.1 = id ∧ l.2.1.1 ≤ t ∧ t ≤ l.2.1.2 from ⟨hid, h1⟩), Int.add_mul, Int.one_mul]
      by_cases hp : 0 < loanDays l f t
      · rw [if_pos ⟨hid, hp⟩]
      · rw [if_neg (fun h => hp h.2)]
        have : loanDays l f t = 0 := by omega
        rw [this]
        omega
    · rw [if_neg (show ¬ (l.1 = id ∧ l.2.1.1 ≤ t ∧ t ≤ l.2.1.2) from fun h => h1 h.2), Int.add_zero]
      by_cases hlo : l.2.1.1 ≤ t
      · have e : loanDays l f (t + 1) = loanDays l f t := by unfold loanDays; omega
        rw [e]
      · have p1 : ¬ 0 < loanDays l f (t + 1) := by unfold loanDays; omega
        have p2 : ¬ 0 < loanDays l f t := by unfold loanDays; omega
        rw [if_neg (fun h => p1 h.2), if_neg (fun h => p2 h.2)]
  · rw [if_neg (fun h => hid h.1), if_neg (fun h => hid h.1), if_neg (fun h => hid h.1)]
    rfl
theorem loans_step (id : Int) {f t : Int} (hft : f ≤ t) : ∀ {x : List Loan}, x.Pairwise (fun a c => ¬ (a.1 = c.1 ∧ a.2.1.1 ≤ c.2.1.2 ∧ c.2.1.1 ≤ a.2.1.2)) →
    loanLoss id f (t + 1) x = loanLoss id f t x + (match x.find? (fun l => l.1 == id && inP t l.2.1.1 l.2.1.2) with | some l => l.2.2 | none => 0)
  | [], _ => rfl
  | l :: r, hp => by
    rw [List.pairwise_cons] at hp
    have ih := loans_step id hft hp.2
    simp only [loanLoss]
    rw [ih, loan_term l id hft, List.find?_cons]
    by_cases hm : l.1 = id ∧ l.2.1.1 ≤ t ∧ t ≤ l.2.1.2
    · have e : (l.1 == id && inP t l.2.1.1 l.2.1.2) = true := by simp [inP, hm.1, hm.2.1, hm.2.2]
      have hn : r.find? (fun l => l.1 == id && inP t l.2.1.1 l.2.1.2) = none := by
        rw [List.find?_eq_none]
        intro c hc hcm
        simp only [inP, Bool.and_eq_true, beq_iff_eq, decide_eq_true_eq] at hcm
        exact hp.1 c hc ⟨by rw [hm.1, hcm.1], by omega, by omega⟩
      rw [if_pos hm, e, hn]
      simp only
      omega
    · have e : (l.1 == id && inP t l.2.1.1 l.2.1.2) = false := by
        rw [Bool.eq_false_iff]
        intro h
        simp only [inP, Bool.and_eq_true, beq_iff_eq, decide_eq_true_eq] at h
        exact hm h
      rw [if_neg hm, e]
      simp only
      omega
section
variable {b : Book}
theorem Good.apart (h : Good b) : b.2.2.2.1.Pairwise (fun a c => ¬ (a.1 = c.1 ∧ a.2.1.1 ≤ c.2.1.2 ∧ c.2.1.1 ≤ a.2.1.2)) := by
  rw [List.pairwise_iff_getElem]
  intro i j hi hj hij ⟨h1, h2, h3⟩
  have hz := h.loans j _ (List.getElem?_eq_getElem hj)
  unfold loanE at hz
  have hany : (b.2.2.2.1.take j).any (fun x => x.1 == b.2.2.2.1[j].1 && (decide (x.2.1.1 ≤ b.2.2.2.1[j].2.1.2) && decide (b.2.2.2.1[j].2.1.1 ≤ x.2.1.2))) = true := by
    rw [List.any_eq_true]
    exact ⟨b.2.2.2.1[i], List.mem_iff_getElem.2 ⟨i, by rw [List.length_take]; omega, by rw [List.getElem_take]⟩, by simp [h1, h2, h3]⟩
  rw [hany] at hz
  (repeat' split at hz) <;> first | omega | simp_all
theorem Good.notUsed (h : Good b) {id d : Int} {l : Loan} (hl : awayP b id d = some l) : usedP b id d = false := by
  have hm := List.mem_of_find?_eq_some hl
  have hp := List.find?_some hl
  simp only [inP, Bool.and_eq_true, beq_iff_eq, decide_eq_true_eq] at hp
  obtain ⟨j, hj, rfl⟩ := List.mem_iff_getElem.1 hm
  have hz := h.loans j _ (List.getElem?_eq_getElem hj)
  rw [Bool.eq_false_iff]
  intro hu
  obtain ⟨u, hu, hue⟩ := List.any_eq_true.1 hu
  simp only [Bool.and_eq_true, beq_iff_eq] at hue
  have hany : b.2.2.1.any (fun u => u.1 == b.2.2.2.1[j].1 && inP u.2 b.2.2.2.1[j].2.1.1 b.2.2.2.1[j].2.1.2) = true := by
    rw [List.any_eq_true]
    exact ⟨u, hu, by simp only [inP, Bool.and_eq_true, beq_iff_eq, decide_eq_true_eq]; exact ⟨by rw [hue.1, hp.1], by omega, by omega⟩⟩
  unfold loanE at hz
  rw [hany] at hz
  (repeat' split at hz) <;> first | omega | simp_all
theorem useDays_step {id f t : Int} (hft : f ≤ t) : setI (useDays b id f (t + 1)) = setI (useDays b id f t) ++ if usedP b id t then [t] else [] := by
  have hm : ∀ t x, x ∈ useDays b id f t ↔ usedP b id x = true ∧ f ≤ x ∧ x < t := by
    intro t x
    unfold useDays usedP
    simp only [List.mem_map, List.mem_filter, List.any_eq_true, inP, Bool.and_eq_true, beq_iff_eq, decide_eq_true_eq]
    constructor
    · rintro ⟨u, ⟨h1, h2, h3, h4⟩, rfl⟩
      exact ⟨⟨u, h1, h2, rfl⟩, h3, by omega⟩
    · rintro ⟨⟨u, h1, h2, rfl⟩, h3, h4⟩
      exact ⟨u, ⟨h1, h2, h3, by omega⟩, rfl⟩
  refine asc_ext (setI_lt _) ?_ fun x => ?_
  · rw [List.pairwise_append]
    refine ⟨setI_lt _, by split <;> simp, fun a ha c hc => ?_⟩
    rw [setI_mem, hm] at ha
    split at hc
    · rw [List.mem_singleton] at hc; omega
    · cases hc
  · rw [setI_mem, hm, List.mem_append, setI_mem, hm]
    by_cases hu : usedP b id t = true
    · rw [if_pos hu, List.mem_singleton]
      constructor
      · rintro ⟨h1, h2, h3⟩
        by_cases he : x = t
        · exact .inr he
        · exact .inl ⟨h1, h2, by omega⟩
      · rintro (⟨h1, h2, h3⟩ | rfl)
        · exact ⟨h1, h2, by omega⟩
        · exact ⟨hu, hft, by omega⟩
    · rw [if_neg hu]
      constructor
      · rintro ⟨h1, h2, h3⟩
        refine .inl ⟨h1, h2, ?_⟩
        by_cases he : x = t
        · rw [he] at h1; exact absurd h1 hu
        · omega
      · rintro (⟨h1, h2, h3⟩ | h)
        · exact ⟨h1, h2, by omega⟩
        · cases h
theorem loss_step (h : Good b) (g : Gauge) {f t : Int} (hft : f ≤ t) : lossP b g f (t + 1) = lossP b g f t + dayLoss b g t := by
  unfold lossP dayLoss
  rw [loans_step g.1 hft h.apart, useDays_step hft]
  show loanLoss g.1 f t b.2.2.2.1 + (match awayP b g.1 t with | some l => l.2.2 | none => 0) + _ = _
  cases ha : awayP b g.1 t with
  | some l =>
    rw [h.notUsed ha]
    simp only [Bool.false_eq_true, if_false, List.append_nil]
    omega
  | none =>
    simp only
    cases usedP b g.1 t with
    | true => simp only [if_true, List.length_append, List.length_singleton, Int.natCast_add, Int.add_mul]; omega
    | false => simp only [Bool.false_eq_true, if_false, List.append_nil]; omega
theorem loss_none (g : Gauge) {f t : Int} (hft : t ≤ f) : lossP b g f t = 0 := by
  unfold lossP
  have h1 : ∀ x : List Loan, loanLoss g.1 f t x = 0 := by
    intro x
    induction x with
    | nil => rfl
    | cons l r ih =>
      simp only [loanLoss]
      rw [ih, if_neg (by unfold loanDays; omega)]
      rfl
  have h2 : useDays b g.1 f t = [] := by
    unfold useDays
    rw [List.filter_eq_nil_iff.2 fun u hu hc => by
      simp only [inP, Bool.and_eq_true, beq_iff_eq, decide_eq_true_eq] at hc
      omega]
    rfl
  rw [h1, h2]
  have h3 : setI ([] : List Int) = [] := rfl
  rw [h3]
  simp
theorem dayLoss_bound (h : Good b) {g : Gauge} (hg : g ∈ b.2.1) (d : Int) : 0 ≤ dayLoss b g d ∧ dayLoss b g d ≤ 1048576 := by
  have hr := (h.gaugeR hg).2.2.2.2.2.2.2
  unfold dayLoss
  cases ha : awayP b g.1 d with
  | some l => exact (loanE_zero h (List.mem_of_find?_eq_some ha)).2
  | none => simp only; split <;> omega
end
end Go.Proofs.ZzM
end

section
set_option linter.unusedVariables false
set_option linter.unusedSimpArgs false
namespace Go.Proofs.ZzM
open Go Go.Am
section
variable {b : Book}
theorem loss_add (h : Good b) (g : Gauge) {f t u : Int} (h1 : f ≤ t) (h2 : t ≤ u) : lossP b g f u = lossP b g f t + lossP b g t u := by
  obtain ⟨n, rfl⟩ : ∃ n : Nat, u = t + n := ⟨(u - t).toNat, by omega⟩
  clear h2
  induction n with
  | zero => simp [loss_none]
  | succ n ih =>
    have e : t + ((n + 1 : Nat) : Int) = (t + n) + 1 := by omega
    rw [e, loss_step h g (show f ≤ t + (n : Int) by omega), loss_step h g (show t ≤ t + (n : Int) by omega), ih]
    omega
theorem loss_nonneg (h : Good b) {g : Gauge} (hg : g ∈ b.2.1) {f t : Int} (hf : 0 ≤ f) : 0 ≤ lossP b g f t := (lossP_bound h hg hf).1
def nodeP (b : Book) (id d : Int) : Int := match nodeIdx (nodesP b) id d with | some j => (j : Int) + 1 | none => 0
theorem nodeP_at (h : Good b) {i : Nat} {g : Gauge} (hg : b.2.1[i]? = some g) {k : Nat} {d : Int} (hk : (daysP b g)[k]? = some d) : nodeP b g.1 d = (off b i : Int) + k + 1 := by
  unfold nodeP
  rw [node_at h hg hk]
  simp only
  omega
structure GaugeFits (b : Book) (p : Int → Int) (g : Gauge) : Prop where
  hi : p (nodeP b g.1 g.2.1) ≤ p 0 + (g.2.2.1 + g.2.2.2.1.2)
  lo : p 0 + (g.2.2.1 + g.2.2.2.1.1) ≤ p (nodeP b g.1 g.2.1)
  down : ∀ d e, d ∈ daysP b g → e ∈ daysP b g → d ≤ e → p (nodeP b g.1 e) ≤ p (nodeP b g.1 d)
  loss : ∀ d e, d ∈ daysP b g → e ∈ daysP b g → d ≤ e → p (nodeP b g.1 d) ≤ p (nodeP b g.1 e) + lossP b g d e
theorem gaugeFits_iff (h : Good b) {i : Nat} {g : Gauge} (hg : b.2.1[i]? = some g) {p : Int → Int} : (∀ l ∈ gaugeLinks b g, p l.2.1 ≤ p l.1 + l.2.2) ↔ GaugeFits b p g := by
  have hgm := List.mem_of_getElem? hg
  obtain ⟨tl, htl⟩ := days_head h hgm
  have h0 : nodeP b g.1 g.2.1 = (off b i : Int) + 1 := by
    have := nodeP_at h hg (k := 0) (d := g.2.1) (by rw [htl]; rfl)
    rw [this]
    omega
  constructor
  · intro hl
    have e1 := hl _ ((gaugeLinks_mem h hg).2 (.inl rfl))
    have e2 := hl _ ((gaugeLinks_mem h hg).2 (.inr (.inl rfl)))
    simp only at e1 e2
    have step : ∀ (k : Nat) (d e : Int), (daysP b g)[k]? = some d → (daysP b g)[k + 1]? = some e → p (nodeP b g.1 e) ≤ p (nodeP b g.1 d) ∧ p (nodeP b g.1 d) ≤ p (nodeP b g.1 e) + lossP b g d e := by
      intro k d e hd he
      have a1 := hl _ ((gaugeLinks_mem h hg).2 (.inr (.inr ⟨k, d, e, hd, he, .inl rfl⟩)))
      have a2 := hl _ ((gaugeLinks_mem h hg).2 (.inr (.inr ⟨k, d, e, hd, he, .inr rfl⟩)))
      simp only at a1 a2
      rw [nodeP_at h hg hd, nodeP_at h hg he]
      have e3 : (off b i : Int) + ((k + 1 : Nat) : Int) + 1 = (off b i : Int) + k + 2 := by omega
      rw [e3]
      exact ⟨by omega, a2⟩
    have pair : ∀ (n k : Nat) (d e : Int), (daysP b g)[k]? = some d → (daysP b g)[k + n]? = some e → p (nodeP b g.1 e) ≤ p (nodeP b g.1 d) ∧ p (nodeP b g.1 d) ≤ p (nodeP b g.1 e) + lossP b g d e := by
      intro n
      induction n with
      | zero =>
        intro k d e hd he
        rw [Nat.add_zero, hd] at he
        cases he
        rw [loss_none g (Int.le_refl _)]
        omega
      | succ n ih =>
        intro k d e hd he
        have hlt := (List.getElem?_eq_some_iff.1 he).1
        have hm : (daysP b g)[k + n]? = some ((daysP b g)[k + n]'(by omega)) := List.getElem?_eq_getElem (by omega)
        obtain ⟨a1, a2⟩ := ih k d _ hd hm
        obtain ⟨a3, a4⟩ := step (k + n) _ e hm he
        have o1 : d ≤ (daysP b g)[k + n]'(by omega) := by
          obtain ⟨hkl, hkd⟩ := List.getElem?_eq_some_iff.1 hd
          rcases Nat.eq_zero_or_pos n with rfl | hn
          · rw [← hkd]; exact Int.le_of_eq (by congr 1)
          · have := (List.pairwise_iff_getElem.1 (days_lt b g)) k (k + n) hkl (by omega) (by omega)
            rw [hkd] at this; omega
        have o2 : (daysP b g)[k + n]'(by omega) ≤ e := by
          obtain ⟨hel, hee⟩ := List.getElem?_eq_some_iff.1 he
          have := (List.pairwise_iff_getElem.1 (days_lt b g)) (k + n) (k + (n + 1)) (by omega) hel (by omega)
          rw [hee] at this; omega
        have := loss_add h g o1 o2
        omega
    have any : ∀ d e, d ∈ daysP b g → e ∈ daysP b g → d ≤ e → p (nodeP b g.1 e) ≤ p (nodeP b g.1 d) ∧ p (nodeP b g.1 d) ≤ p (nodeP b g.1 e) + lossP b g d e := by
      intro d e hd he hde
      obtain ⟨k, hk, rfl⟩ := List.mem_iff_getElem.1 hd
      obtain ⟨m, hm, rfl⟩ := List.mem_iff_getElem.1 he
      have hkm : k ≤ m := by
        rcases Nat.lt_or_ge m k with hlt | hge
        · have := (List.pairwise_iff_getElem.1 (days_lt b g)) m k hm hk hlt; omega
        · exact hge
      exact pair (m - k) k _ _ (List.getElem?_eq_getElem hk) (by rw [show k + (m - k) = m by omega]; exact List.getElem?_eq_getElem hm)
    exact ⟨by rw [h0]; omega, by rw [h0]; omega, fun d e hd he hde => (any d e hd he hde).1, fun d e hd he hde => (any d e hd he hde).2⟩
  · intro hf l hl
    rcases (gaugeLinks_mem h hg).1 hl with rfl | rfl | ⟨k, d, e, hd, he, rfl | rfl⟩
    · have := hf.hi; rw [h0] at this; simp only; omega
    · have := hf.lo; rw [h0] at this; simp only; omega
    · have hde : d ≤ e := by
        obtain ⟨a1, a2⟩ := List.getElem?_eq_some_iff.1 hd
        obtain ⟨a3, a4⟩ := List.getElem?_eq_some_iff.1 he
        have := (List.pairwise_iff_getElem.1 (days_lt b g)) k (k + 1) a1 a3 (by omega)
        rw [a2, a4] at this; omega
      have := hf.down d e (List.mem_of_getElem? hd) (List.mem_of_getElem? he) hde
      rw [nodeP_at h hg hd, nodeP_at h hg he] at this
      have e3 : (off b i : Int) + ((k + 1 : Nat) : Int) + 1 = (off b i : Int) + k + 2 := by omega
      rw [e3] at this
      simp only
      omega
    · have hde : d ≤ e := by
        obtain ⟨a1, a2⟩ := List.getElem?_eq_some_iff.1 hd
        obtain ⟨a3, a4⟩ := List.getElem?_eq_some_iff.1 he
        have := (List.pairwise_iff_getElem.1 (days_lt b g)) k (k + 1) a1 a3 (by omega)
        rw [a2, a4] at this; omega
      have := hf.loss d e (List.mem_of_getElem? hd) (List.mem_of_getElem? he) hde
      rw [nodeP_at h hg hd, nodeP_at h hg he] at this
      have e3 : (off b i : Int) + ((k + 1 : Nat) : Int) + 1 = (off b i : Int) + k + 2 := by omega
      rw [e3] at this
      simp only
      exact this
theorem pot_iff (h : Good b) {p : Int → Int} : Pot (linksP b) p ↔ (∀ g ∈ b.2.1, GaugeFits b p g) ∧ ∀ c ∈ b.2.2.2.2.1, p (cx b c) ≤ p (cy b c) + (saysP b c).2 ∧ p (cy b c) + (saysP b c).1 ≤ p (cx b c) := by
  constructor
  · intro hp
    refine ⟨fun g hg => ?_, fun c hc => ?_⟩
    · obtain ⟨i, hi, rfl⟩ := List.mem_iff_getElem.1 hg
      exact (gaugeFits_iff h (List.getElem?_eq_getElem hi)).1 fun l hl => hp l.1 l.2.1 l.2.2 (linksP_mem.2 (.inl ⟨i, _, List.getElem?_eq_getElem hi, hl⟩))
    · have a1 := hp _ _ _ (linksP_mem.2 (.inr ⟨c, hc, .inl rfl⟩))
      have a2 := hp _ _ _ (linksP_mem.2 (.inr ⟨c, hc, .inr rfl⟩))
      omega
  · rintro ⟨hg, hc⟩ u v m hl
    rcases linksP_mem.1 hl with ⟨i, g, hig, hl⟩ | ⟨c, hcm, hl⟩
    · exact (gaugeFits_iff h hig).2 (hg g (List.mem_of_getElem? hig)) (u, v, m) hl
    · obtain ⟨a1, a2⟩ := hc c hcm
      rcases hl with hl | hl
      · obtain ⟨rfl, rfl, rfl⟩ : u = cy b c ∧ v = cx b c ∧ m = (saysP b c).2 := by simpa using hl
        exact a1
      · obtain ⟨rfl, rfl, rfl⟩ : u = cx b c ∧ v = cy b c ∧ m = -(saysP b c).1 := by simpa using hl
        omega
end
end Go.Proofs.ZzM
end

section
set_option linter.unusedVariables false
set_option linter.unusedSimpArgs false
namespace Go.Proofs.ZzM
open Go Go.Am
theorem used_ok {b : Book} (hn : b.2.2.1.length ≤ 1000000) (id day : Int) : f_compare_used b id day = some (usedP b id day) := by
  unfold f_compare_used m_compare_used f_slices_Contains_api_Use_api_Use m_slices_Contains_api_Use_api_Use f_slices_Index_api_Use_api_Use m_slices_Index_api_Use_api_Use
  have e : loopT (fun (v5 : Int) kk7 => m_slices_Index_api_Use_api_Use_L0 b.2.2.1 (ilen b.2.2.1) id day v5 (fun u6 => kk7 u6) (fun z3 => some z3) (fun _ => some (-1 : Int))) (0 : Int) = match b.2.2.1.findIdx? (fun u => u.1 == id && u.2 == day) with | some j => some (j : Int) | none => some (-1) := by
    refine loop_find b.2.2.1 (fun u => u.1 == id && u.2 == day) (fun z => some z) (some (-1)) (fun i a hi ha kn => ?_) (fun kn => ?_)
    · try dsimp only
      unfold m_slices_Index_api_Use_api_Use_L0
      rw [ifb_lt' hi, iget_nat ha, ck_succ hi (by omega), ifb_eq, Bool.and_true]
      have e : (dieq id a.1 && dieq day a.2) = (a.1 == id && a.2 == day) := by
        rw [Bool.eq_iff_iff]
        simp only [dieq, Bool.and_eq_true, decide_eq_true_eq, beq_iff_eq]
        exact and_congr eq_comm eq_comm
      rw [e]
    · try dsimp only
      unfold m_slices_Index_api_Use_api_Use_L0
      rw [ifb_ge]
  rw [e]
  unfold usedP
  cases h : b.2.2.1.findIdx? (fun u => u.1 == id && u.2 == day) with
  | none =>
    have : b.2.2.1.any (fun u => u.1 == id && u.2 == day) = false := by
      rw [List.any_eq_false]
      intro x hx
      have := List.findIdx?_eq_none_iff.1 h x hx
      simp [this]
    rw [this]
    rfl
  | some j =>
    obtain ⟨hj, hp, _⟩ := List.findIdx?_eq_some_iff_getElem.1 h
    have : b.2.2.1.any (fun u => u.1 == id && u.2 == day) = true := List.any_eq_true.2 ⟨_, List.getElem_mem hj, hp⟩
    rw [this]
    simp [ige]
end Go.Proofs.ZzM
end

section
set_option linter.unusedVariables false
set_option linter.unusedSimpArgs false
namespace Go.Proofs.ZzM
open Go Go.Am
section
variable {b : Book}
theorem lossOf_ok (hs : SizeOk b) (g : Gauge) (d : Int) : f_compare_lossOf b g d = some (dayLoss b g d) := by
  have h1 := hs.loans; have h2 := hs.uses
  unfold f_compare_lossOf m_compare_lossOf dayLoss
  rw [away_ok (by omega), bindF_some]
  cases awayP b g.1 d with
  | some l => rfl
  | none =>
    simp only
    rw [ifb_f (by rfl), used_ok (by omega), bindF_some]
    cases usedP b g.1 d <;> rfl
def spreadP (b : Book) (g : Gauge) : Nat → Int → Int → List Int
  | 0, _, _ => []
  | n + 1, d, r => min r (dayLoss b g d) :: spreadP b g n (d + 1) (r - min r (dayLoss b g d))
theorem spread_len (g : Gauge) : ∀ (n : Nat) (d r : Int), (spreadP b g n d r).length = n
  | 0, _, _ => rfl
  | n + 1, d, r => by simp [spreadP, spread_len g n]
def restP (b : Book) (g : Gauge) : Nat → Int → Int → Int
  | 0, _, r => r
  | n + 1, d, r => restP b g n (d + 1) (r - min r (dayLoss b g d))
theorem spread_snoc (g : Gauge) : ∀ (n : Nat) (d r : Int), spreadP b g (n + 1) d r = spreadP b g n d r ++ [min (restP b g n d r) (dayLoss b g (d + n))] ∧ restP b g (n + 1) d r = restP b g n d r - min (restP b g n d r) (dayLoss b g (d + n))
  | 0, d, r => by simp [spreadP, restP]
  | n + 1, d, r => by
    obtain ⟨h1, h2⟩ := spread_snoc g n (d + 1) (r - min r (dayLoss b g d))
    have e : d + 1 + (n : Int) = d + ((n + 1 : Nat) : Int) := by omega
    rw [e] at h1 h2
    constructor
    · show min r (dayLoss b g d) :: spreadP b g (n + 1) (d + 1) (r - min r (dayLoss b g d)) = _
      rw [h1]
      rfl
    · exact h2
theorem rest_bd (h : Good b) {g : Gauge} (hg : g ∈ b.2.1) : ∀ (n : Nat) (d r : Int), 0 ≤ r → 0 ≤ restP b g n d r ∧ restP b g n d r ≤ r ∧ restP b g n d r = r - (spreadP b g n d r).sum ∧ (0 ≤ d → r ≤ lossP b g d (d + n) → restP b g n d r = 0)
  | 0, d, r, hr => by
    refine ⟨hr, Int.le_refl _, by simp [restP, spreadP], fun _ h1 => ?_⟩
    rw [loss_none g (by omega)] at h1
    simp only [restP]
    omega
  | n + 1, d, r, hr => by
    have db := dayLoss_bound h hg d
    obtain ⟨a1, a2, a3, a4⟩ := rest_bd h hg n (d + 1) (r - min r (dayLoss b g d)) (by omega)
    simp only [restP, spreadP, List.sum_cons]
    refine ⟨a1, by omega, by omega, fun h0 h1 => ?_⟩
    refine a4 (by omega) ?_
    have e1 : d + ((n + 1 : Nat) : Int) = d + 1 + n := by omega
    have e2 := loss_add h g (f := d) (t := d + 1) (u := d + 1 + n) (by omega) (by omega)
    have e3 := loss_step h g (Int.le_refl d)
    rw [loss_none g (Int.le_refl d)] at e3
    have e4 := loss_nonneg h hg (f := d + 1) (t := d + 1 + n) (by omega)
    rw [e1] at h1
    omega
theorem spread_bd (h : Good b) {g : Gauge} (hg : g ∈ b.2.1) : ∀ (n : Nat) (d r : Int), 0 ≤ r → ∀ (j : Nat) (a : Int), (spreadP b g n d r)[j]? = some a → 0 ≤ a ∧ a ≤ dayLoss b g (d + j)
  | 0, _, _, _, j, a, ha => by simp [spreadP] at ha
  | n + 1, d, r, hr, j, a, ha => by
    have db := dayLoss_bound h hg d
    cases j with
    | zero =>
      simp only [spreadP, List.getElem?_cons_zero, Option.some.injEq] at ha
      subst ha
      have e : d + ((0 : Nat) : Int) = d := by omega
      rw [e]
      omega
    | succ j =>
      simp only [spreadP, List.getElem?_cons_succ] at ha
      have := spread_bd h hg n (d + 1) (r - min r (dayLoss b g d)) (by omega) j a ha
      have e : d + 1 + (j : Int) = d + ((j + 1 : Nat) : Int) := by omega
      rw [e] at this
      exact this
def dayAt (b : Book) (g : Gauge) (k : Nat) : Int := (daysP b g)[k]?.getD 0
def wearsK (b : Book) (g : Gauge) (o : Nat) (x : List Int) (k : Nat) : List Int :=
  (List.range k).flatMap fun (k : Nat) => spreadP b g (dayAt b g (k + 1) - dayAt b g k).toNat (dayAt b g k) (gv x ((o : Int) + k) - gv x ((o : Int) + k + 1))
def offP (b : Book) (g : Gauge) : Nat := (nodeP b g.1 g.2.1 - 1).toNat
theorem offP_eq (h : Good b) {i : Nat} {g : Gauge} (hg : b.2.1[i]? = some g) : offP b g = off b i := by
  obtain ⟨tl, htl⟩ := days_head h (List.mem_of_getElem? hg)
  have := nodeP_at h hg (k := 0) (d := g.2.1) (by rw [htl]; rfl)
  unfold offP
  rw [this]
  omega
def wearsG (b : Book) (g : Gauge) (x : List Int) : List Int := wearsK b g (offP b g) x ((daysP b g).length - 1)
def WearsP (b : Book) (id : Int) (x : List Int) : List Int × Int :=
  if askedP b id [] ≠ 0 then ([], askedP b id []) else if !lengthsP b x then ([], 1) else if !fitsP b x then ([], 8) else
  match gaugeOf b id with
  | some g => if 2000 < dayAt b g ((daysP b g).length - 1) - g.2.1 then ([], 2) else (wearsG b g x, 0)
  | none => ([], 0)
theorem dayAt_get {g : Gauge} {k : Nat} (hk : k < (daysP b g).length) : (daysP b g)[k]? = some (dayAt b g k) := by
  unfold dayAt
  rw [List.getElem?_eq_getElem hk]
  rfl
theorem dayAt_zero (h : Good b) {g : Gauge} (hg : g ∈ b.2.1) : dayAt b g 0 = g.2.1 := by
  obtain ⟨tl, htl⟩ := days_head h hg
  unfold dayAt
  rw [htl]
  rfl
theorem dayAt_lt {g : Gauge} {j k : Nat} (hjk : j < k) (hk : k < (daysP b g).length) : dayAt b g j < dayAt b g k := by
  have hj : j < (daysP b g).length := by omega
  have := (List.pairwise_iff_getElem.1 (days_lt b g)) j k hj hk hjk
  unfold dayAt
  rw [List.getElem?_eq_getElem hj, List.getElem?_eq_getElem hk]
  exact this
theorem wearsK_succ (g : Gauge) (o : Nat) (x : List Int) (k : Nat) : wearsK b g o x (k + 1) = wearsK b g o x k ++ spreadP b g (dayAt b g (k + 1) - dayAt b g k).toNat (dayAt b g k) (gv x ((o : Int) + k) - gv x ((o : Int) + k + 1)) := by
  unfold wearsK
  rw [range_flat]
theorem wearsK_len (h : Good b) {g : Gauge} (hg : g ∈ b.2.1) (o : Nat) (x : List Int) : ∀ k, k < (daysP b g).length → ((wearsK b g o x k).length : Int) = dayAt b g k - g.2.1
  | 0, _ => by rw [dayAt_zero h hg]; simp [wearsK]
  | k + 1, hk => by
    have ih := wearsK_len h hg o x k (by omega)
    have := dayAt_lt (b := b) (g := g) (show k < k + 1 by omega) hk
    rw [wearsK_succ, List.length_append, spread_len]
    omega
theorem fit_step (h : Good b) {i : Nat} {g : Gauge} (hg : b.2.1[i]? = some g) {x : List Int} (hx : lengthsP b x = true) (hf : fitsP b x = true) {k : Nat} (hk : k + 1 < (daysP b g).length) :
    0 ≤ gv x ((off b i : Int) + k) - gv x ((off b i : Int) + k + 1) ∧ gv x ((off b i : Int) + k) - gv x ((off b i : Int) + k + 1) ≤ lossP b g (dayAt b g k) (dayAt b g (k + 1)) := by
  have hp := fitsL_iff.1 (show fitsL (linksP b) (0 :: x) = true from hf)
  have hgm := List.mem_of_getElem? hg
  have gf := ((pot_iff h).1 hp).1 g hgm
  have d1 := dayAt_get (b := b) (g := g) (show k < _ by omega)
  have d2 := dayAt_get (b := b) (g := g) hk
  have a1 := gf.down _ _ (List.mem_of_getElem? d1) (List.mem_of_getElem? d2) (by have := dayAt_lt (b := b) (g := g) (show k < k + 1 by omega) hk; omega)
  have a2 := gf.loss _ _ (List.mem_of_getElem? d1) (List.mem_of_getElem? d2) (by have := dayAt_lt (b := b) (g := g) (show k < k + 1 by omega) hk; omega)
  rw [nodeP_at h hg d1, nodeP_at h hg d2, gv_cons _ _ (by omega), gv_cons _ _ (by omega), if_neg (by omega), if_neg (by omega)] at a1 a2
  have e1 : (off b i : Int) + k + 1 - 1 = (off b i : Int) + k := by omega
  have e2 : (off b i : Int) + ((k + 1 : Nat) : Int) + 1 - 1 = (off b i : Int) + k + 1 := by omega
  rw [e1, e2] at a1 a2
  omega
theorem wears_inner (h : Good b) {g : Gauge} (hg : g ∈ b.2.1) {k : Nat} (hk : k + 1 < (daysP b g).length) {r : Int} (hr0 : 0 ≤ r) (hr1 : r ≤ 9007199254740992) {out : List Int} (ho : out.length ≤ 20001) (K : List Int → Option (List Int × Int)) :
    loopT (fun (v27 : Int × Int × List Int) kk31 => m_compare_Wears_L1 (daysP b g) ((k + 1 : Nat) : Int) b.1.1 b.1.2 b.2.1 b.2.2.1 b.2.2.2.1 b.2.2.2.2.1 b.2.2.2.2.2 g.1 g.2.1 g.2.2.1 g.2.2.2.1.1 g.2.2.2.1.2 g.2.2.2.2.1.1 g.2.2.2.2.1.2 g.2.2.2.2.2 v27.1 v27.2.1 v27.2.2 (fun u28 u29 u30 => kk31 (u28, u29, u30)) K) (r, dayAt b g k, out) = K (out ++ spreadP b g (dayAt b g (k + 1) - dayAt b g k).toNat (dayAt b g k) r) := by
  have hd2 := dayAt_get hk
  have hlt := dayAt_lt (b := b) (g := g) (show k < k + 1 by omega) hk
  have b1 := h.day hg (List.mem_of_getElem? (dayAt_get (b := b) (g := g) (show k < _ by omega)))
  have b2 := h.day hg (List.mem_of_getElem? hd2)
  obtain ⟨n, hn⟩ := Int.eq_ofNat_of_zero_le (show 0 ≤ dayAt b g (k + 1) - dayAt b g k by omega)
  rw [hn, Int.toNat_natCast]
  refine loop_inv (fun s : Int × Int × List Int => ∃ j : Nat, j ≤ n ∧ s = (restP b g j (dayAt b g k) r, dayAt b g k + j, out ++ spreadP b g j (dayAt b g k) r)) (fun s => (dayAt b g (k + 1) - s.2.1).toNat) ?_ ⟨0, by omega, by simp [restP, spreadP]⟩
  rintro s ⟨j, hj, rfl⟩
  have rb := rest_bd h hg j (dayAt b g k) r hr0
  have db := dayLoss_bound h hg (dayAt b g k + j)
  rcases Nat.lt_or_ge j n with hlt | hge
  · refine .inr ⟨(restP b g (j + 1) (dayAt b g k) r, dayAt b g k + ((j + 1 : Nat) : Int), out ++ spreadP b g (j + 1) (dayAt b g k) r), ⟨j + 1, hlt, rfl⟩, by simp only; omega, fun kn => ?_⟩
    obtain ⟨s1, s2⟩ := spread_snoc (b := b) g j (dayAt b g k) r
    have hsl := spread_len (b := b) g j (dayAt b g k) r
    try dsimp only
    unfold m_compare_Wears_L1
    rw [iget_nat hd2, ifb_t (by simp [ilt]; omega)]
    rw [show f_compare_lossOf ((b.1.1, b.1.2), b.2.1, b.2.2.1, b.2.2.2.1, b.2.2.2.2.1, b.2.2.2.2.2) (g.1, g.2.1, g.2.2.1, (g.2.2.2.1.1, g.2.2.2.1.2), (g.2.2.2.2.1.1, g.2.2.2.2.1.2), g.2.2.2.2.2) (dayAt b g k + j) = f_compare_lossOf b g (dayAt b g k + j) from rfl, lossOf_ok h.size, bindF_some, imin_eq, ck_ok (by omega) (by omega), okLen_of (by simp only [List.length_append, List.length_singleton]; omega), Am.iff_true, ck_ok (by omega) (by omega), s1, s2, List.append_assoc]
    have e : dayAt b g k + (j : Int) + 1 = dayAt b g k + ((j + 1 : Nat) : Int) := by omega
    rw [e]
  · have : j = n := by omega
    subst this
    refine .inl fun kn => ?_
    try dsimp only
    unfold m_compare_Wears_L1
    rw [iget_nat hd2, ifb_f (by simp [ilt]; omega)]
set_option maxHeartbeats 1000000 in
theorem Wears_ok (hI : In b) (id : Int) (x : List Int) : f_compare_Wears b id x = some (WearsP b id x) := by
  unfold f_compare_Wears m_compare_Wears WearsP
  rw [askedC_ok hI id (by simp), bindF_some]
  by_cases ha : askedP b id [] = 0
  · obtain ⟨h, _, g, hg, hm⟩ := askedP_zero ha
    have hN := h.nodes
    rw [ifb_f (by simp [ine, ha]), if_neg (show ¬ (askedP b id [] ≠ 0) from fun h => h ha), made_ok' h, bindF_some, lengths_ok (by dsimp only; omega), bindF_some]
    rw [show (decide (x.length = (b, nodesP b, (((nodesP b).length : Int) + 1, linksP b), sourcesP b).2.1.length) && x.all fun n => inP n (-4503599627370496) 4503599627370496) = lengthsP b x from rfl]
    cases hl : lengthsP b x with
    | false => rfl
    | true =>
      rw [if_pos rfl, ifb_f (by rfl), makerFits_ok h hl, bindF_some]
      cases hf : fitsP b x with
      | false => rfl
      | true =>
        obtain ⟨hgm, hid⟩ := gaugeOf_some hg
        obtain ⟨i, hi, hgi⟩ := List.mem_iff_getElem.1 hgm
        have hgi' : b.2.1[i]? = some g := by rw [List.getElem?_eq_getElem hi, hgi]
        have hdl := days_len h hgm
        have hp := List.length_pos_of_mem (daysP_ne (b := b) g)
        have hlast := dayAt_get (b := b) (g := g) (k := (daysP b g).length - 1) (by omega)
        have bl := h.day hgm (List.mem_of_getElem? hlast)
        have hr := h.gaugeR hgm
        rw [ifb_f (by rfl), shelved_ok h.size.gauges, bindF_some]
        simp only [lget, hm, hg]
        rw [days_ok h.size, bindF_some, ilen_eq, ck_ok (by omega) (by omega), show ((daysP b g).length : Int) - 1 = (((daysP b g).length - 1 : Nat) : Int) by omega, iget_nat hlast, ck_ok (by omega) (by omega), ifb_eq]
        by_cases h2 : 2000 < dayAt b g ((daysP b g).length - 1) - g.2.1
        · rw [if_pos (by simpa [igt] using h2), if_pos h2]
          rfl
        · rw [if_neg (by simpa [igt] using h2), if_neg h2, at_ok _ _ _ (by dsimp only; omega), bindF_some]
          dsimp only
          rw [← hid, at_gauge h hgi']
          have ho := off_len h hgi'
          rw [ck_ok (by omega) (by omega), show (off b i : Int) + 1 - 1 = (off b i : Int) by omega]
          obtain ⟨lx, bx⟩ := lengthsP_iff.1 hl
          have hxb : ∀ v, -4503599627370496 ≤ gv x v ∧ gv x v ≤ 4503599627370496 := fun v => by
            unfold gv
            cases hv : x[v.toNat]? with
            | none => simp only [Option.getD_none]; omega
            | some a => simp only [Option.getD_some]; exact bx a (List.mem_of_getElem? hv)
          unfold wearsG
          rw [offP_eq h hgi']
          refine loop_inv (fun s : Int × List Int => ∃ k : Nat, k < (daysP b g).length ∧ s = (((k + 1 : Nat) : Int), wearsK b g (off b i) x k)) (fun s => (daysP b g).length - s.1.toNat) ?_ ⟨0, hp, rfl⟩
          rintro s ⟨k, hk, rfl⟩
          rcases Nat.lt_or_ge (k + 1) (daysP b g).length with hlt | hge
          · refine .inr ⟨(((k + 2 : Nat) : Int), wearsK b g (off b i) x (k + 1)), ⟨k + 1, hlt, rfl⟩, by simp only [Int.toNat_natCast]; omega, fun kn => ?_⟩
            have fs := fit_step h hgi' hl hf hlt
            have x1 := hxb ((off b i : Int) + k)
            have x2 := hxb ((off b i : Int) + k + 1)
            have wl := wearsK_len h hgm (off b i) x k (by omega)
            have bk := h.day hgm (List.mem_of_getElem? (dayAt_get (b := b) (g := g) (k := k) (by omega)))
            try dsimp only
            unfold m_compare_Wears_L0
            rw [ifb_lt' hlt, ck_ok (by omega) (by omega), ck_ok (by omega) (by omega), show (off b i : Int) + ((k + 1 : Nat) : Int) - 1 = (off b i : Int) + k by omega, iget_gv (by omega) (by omega), ck_ok (by omega) (by omega), show (off b i : Int) + ((k + 1 : Nat) : Int) = (off b i : Int) + k + 1 by omega, iget_gv (by omega) (by omega), ck_ok (by omega) (by omega), ck_ok (by omega) (by omega), show ((k + 1 : Nat) : Int) - 1 = (k : Int) by omega, iget_nat (dayAt_get (b := b) (g := g) (k := k) (by omega))]
            refine Eq.trans (wears_inner h hgm hlt fs.1 (by omega) (by omega) _) ?_
            rw [ck_ok (by omega) (by omega), wearsK_succ, show ((k + 1 : Nat) : Int) + 1 = ((k + 2 : Nat) : Int) by omega]
          · have e : (daysP b g).length - 1 = k := by omega
            refine .inl fun kn => ?_
            try dsimp only
            unfold m_compare_Wears_L0
            rw [show (k + 1) = (daysP b g).length by omega, ifb_ge, e]
            simp
  · rw [ifb_t (by simp [ine, ha]), if_pos ha]
end
end Go.Proofs.ZzM
end

section
set_option linter.unusedVariables false
set_option linter.unusedSimpArgs false
namespace Go.Proofs.ZzM
open Go Go.Am
section
variable {b : Book}
theorem LossP_zero {g f t : Int} (h : (LossP b g f t).2 = 0) : Good b ∧ ∃ x, gaugeOf b g = some x ∧ 0 ≤ f ∧ f ≤ t ∧ t ≤ 20000 ∧ x.2.1 ≤ f ∧ LossP b g f t = (lossP b x f t, 0) := by
  unfold LossP at h ⊢
  by_cases ha : askedP b g [f, t] = 0
  · obtain ⟨hg, hd, x, hx, hm⟩ := askedP_zero ha
    have d1 := hd f (by simp)
    have d2 := hd t (by simp)
    rw [if_neg (by simpa using ha), hm] at h ⊢
    simp only at h ⊢
    by_cases h1 : t < f
    · rw [if_pos h1] at h; simp at h
    · rw [if_neg h1] at h ⊢
      by_cases h2 : f < x.2.1
      · rw [if_pos h2] at h; simp at h
      · rw [if_neg h2]
        exact ⟨hg, x, hx, by omega, by omega, by omega, by omega, rfl⟩
  · rw [if_pos ha] at h; exact absurd h ha
theorem LossP_of (h : Good b) {g : Int} {x : Gauge} (hx : gaugeOf b g = some x) {f t : Int} (h0 : 0 ≤ f) (h1 : f ≤ t) (h2 : t ≤ 20000) (h3 : x.2.1 ≤ f) : LossP b g f t = (lossP b x f t, 0) := by
  have ha : askedP b g [f, t] = 0 := by
    unfold askedP
    rw [if_neg (by simp [(checkP_iff b).2 h]), if_neg, if_neg]
    · rw [mget_shelf h.ids, hx]; simp
    · simp [dayP, inP]; omega
  unfold LossP
  rw [if_neg (by simp [ha]), mget_shelf h.ids, hx]
  simp only
  rw [if_neg (by omega), if_neg (by omega)]
theorem WearsP_zero {id : Int} {x : List Int} (h : (WearsP b id x).2 = 0) : Good b ∧ lengthsP b x = true ∧ fitsP b x = true ∧ ∃ g, gaugeOf b id = some g ∧ WearsP b id x = (wearsG b g x, 0) := by
  unfold WearsP at h ⊢
  by_cases ha : askedP b id [] = 0
  · obtain ⟨hg, _, g, hx, _⟩ := askedP_zero ha
    rw [if_neg (by simpa using ha)] at h ⊢
    cases hl : lengthsP b x with
    | false => rw [hl] at h; simp at h
    | true =>
      rw [hl] at h
      rw [if_neg (by simp)] at h ⊢
      cases hf : fitsP b x with
      | false => rw [hf] at h; simp at h
      | true =>
        rw [hf] at h
        rw [if_neg (by simp), hx] at h ⊢
        simp only at h ⊢
        split at h
        · simp at h
        · rename_i h2
          rw [if_neg h2]
          exact ⟨hg, by simp, by simp, g, rfl, rfl⟩
  · rw [if_pos ha] at h; exact absurd h ha
theorem node_pos {k : Nat} (hk : k < (nodesP b).length) : ∃ (i : Nat) (g : Gauge) (j : Nat) (d : Int), b.2.1[i]? = some g ∧ (daysP b g)[j]? = some d ∧ k = off b i + j ∧ (nodesP b)[k]? = some (g.1, d) := by
  obtain ⟨i, g, j, h1, h2, h3⟩ := off_find (b := b) b.2.1.length (Nat.le_refl _) k (by rw [off_all]; exact hk)
  have hd : (daysP b g)[j]? = some (daysP b g)[j] := List.getElem?_eq_getElem h2
  exact ⟨i, g, j, _, h1, hd, h3, by rw [h3]; exact node_get h1 hd⟩
theorem gauge_idx (h : Good b) {i j : Nat} {g g' : Gauge} (hi : b.2.1[i]? = some g) (hj : b.2.1[j]? = some g') (he : g.1 = g'.1) : i = j := by
  obtain ⟨h1, rfl⟩ := List.getElem?_eq_some_iff.1 hi
  obtain ⟨h2, rfl⟩ := List.getElem?_eq_some_iff.1 hj
  have hp := List.pairwise_iff_getElem.1 h.ids
  rcases Nat.lt_trichotomy i j with hlt | rfl | hlt
  · have := hp i j h1 h2 hlt; omega
  · rfl
  · have := hp j i h2 h1 hlt; omega
theorem lossDay (h : Good b) (g : Gauge) (d : Int) : lossP b g d (d + 1) = dayLoss b g d := by
  rw [loss_step h g (Int.le_refl d), loss_none g (Int.le_refl d)]
  omega
theorem wears_bd (h : Good b) {i : Nat} {g : Gauge} (hg : b.2.1[i]? = some g) {x : List Int} (hx : lengthsP b x = true) (hf : fitsP b x = true) : ∀ k, k < (daysP b g).length → ∀ (j : Nat) (a : Int), (wearsK b g (off b i) x k)[j]? = some a → 0 ≤ a ∧ a ≤ dayLoss b g (g.2.1 + j)
  | 0, _, j, a, ha => by simp [wearsK] at ha
  | k + 1, hk, j, a, ha => by
    have hgm := List.mem_of_getElem? hg
    have wl := wearsK_len h hgm (off b i) x k (by omega)
    have fs := fit_step h hg hx hf hk
    rw [wearsK_succ] at ha
    rcases Nat.lt_or_ge j (wearsK b g (off b i) x k).length with hlt | hge
    · rw [List.getElem?_append_left hlt] at ha
      exact wears_bd h hg hx hf k (by omega) j a ha
    · rw [List.getElem?_append_right hge] at ha
      have := spread_bd h hgm _ (dayAt b g k) _ fs.1 _ a ha
      have e : dayAt b g k + ((j - (wearsK b g (off b i) x k).length : Nat) : Int) = g.2.1 + j := by omega
      rw [e] at this
      exact this
theorem wears_get (g : Gauge) (o : Nat) (x : List Int) (k t : Nat) (ht : t < (dayAt b g (k + 1) - dayAt b g k).toNat) : ∀ m, k + 1 ≤ m → (wearsK b g o x m)[(wearsK b g o x k).length + t]? = (spreadP b g (dayAt b g (k + 1) - dayAt b g k).toNat (dayAt b g k) (gv x ((o : Int) + k) - gv x ((o : Int) + k + 1)))[t]? := by
  intro m hm
  induction m with
  | zero => omega
  | succ m ih =>
    by_cases e : m = k
    · subst e
      rw [wearsK_succ, List.getElem?_append_right (by omega)]
      congr 1
      omega
    · have ih := ih (by omega)
      have hlen : (wearsK b g o x k).length + t < (wearsK b g o x m).length := by
        have : (spreadP b g (dayAt b g (k + 1) - dayAt b g k).toNat (dayAt b g k) (gv x ((o : Int) + k) - gv x ((o : Int) + k + 1)))[t]?.isSome := by
          rw [List.getElem?_eq_getElem (by rw [spread_len]; exact ht)]; rfl
        rw [← ih] at this
        obtain ⟨a, ha⟩ := Option.isSome_iff_exists.1 this
        exact (List.getElem?_eq_some_iff.1 ha).1
      rw [wearsK_succ, List.getElem?_append_left hlen]
      exact ih
noncomputable def lossR (b : Book) (id : Int) (x : List Int) : Option Bool :=
  bindF (f_compare_Wears b id x) fun r8 => bindF (f_compare_Nodes b) fun r9 => ifb (ine r8.2 (0 : Int)) (some true) (ifb (ine r9.2 (0 : Int)) (some true) (loopT (fun (v59 : Val tySpan) kk62 => m_w5_CompareLosses_L0 id b.2.1 v59.1 v59.2 (fun u60 u61 => kk62 (u60, u61)) (fun z16 => loopT (fun (v56 : Int) kk58 => m_w5_CompareLosses_L1 id r8.1 z16 b.1.1 b.1.2 b.2.1 b.2.2.1 b.2.2.2.1 b.2.2.2.2.1 b.2.2.2.2.2 v56 (fun u57 => kk58 u57) (fun z24 => some z24) (fun _ => loopT (fun (v53 : Int) kk55 => m_w5_CompareLosses_L2 id x r8.1 r9.1 z16 v53 (fun u54 => kk55 u54) (fun z50 => some z50) (fun _ => some true)) (1 : Int))) (0 : Int))) ((0 : Int), (0 : Int))))
theorem sum_take (l : List Int) {t : Nat} {a : Int} (h : l[t]? = some a) : (l.take (t + 1)).sum = (l.take t).sum + a := by
  rw [take_succ h, List.sum_append]
  simp
set_option maxHeartbeats 4000000 in
theorem lossR_ok (hI : In b) (id : Int) (x : List Int) : lossR b id x = some true := by
  unfold lossR
  rw [Wears_ok hI, bindF_some, Nodes_ok hI, bindF_some]
  by_cases hw : (WearsP b id x).2 = 0
  · obtain ⟨h, hx, hf, g, hg, e⟩ := WearsP_zero hw
    have hN := h.nodes
    have hG := h.nG
    have hnod : NodesP b = (nodesP b, 0) := by unfold NodesP; rw [if_neg (by simp [(checkP_iff b).2 h])]
    obtain ⟨hgm, hid⟩ := gaugeOf_some hg
    obtain ⟨ig, hig, hgi⟩ := List.mem_iff_getElem.1 hgm
    have hgi' : b.2.1[ig]? = some g := by rw [List.getElem?_eq_getElem hig, hgi]
    have hp := List.length_pos_of_mem (daysP_ne (b := b) g)
    have hm := (h.gaugeR hgm).2.2.2.2.1
    have hW : wearsG b g x = wearsK b g (off b ig) x ((daysP b g).length - 1) := by unfold wearsG; rw [offP_eq h hgi']
    have hWl := wearsK_len h hgm (off b ig) x ((daysP b g).length - 1) (by omega)
    have hlast := dayAt_get (b := b) (g := g) (k := (daysP b g).length - 1) (by omega)
    have bl := h.day hgm (List.mem_of_getElem? hlast)
    have hWb := wears_bd h hgi' hx hf ((daysP b g).length - 1) (by omega)
    obtain ⟨lx, bx⟩ := lengthsP_iff.1 hx
    rw [e, hnod, hW]
    dsimp only
    rw [ifb_f (by rfl), ifb_f (by rfl)]
    generalize hWW : wearsK b g (off b ig) x ((daysP b g).length - 1) = W at hWl hWb ⊢
    -- the day on which the gauge was made
    refine loop_inv (fun s : Int × Int => ∃ i : Nat, i ≤ b.2.1.length ∧ s.2 = i ∧ (ig < i → s.1 = g.2.1)) (fun s => b.2.1.length - s.2.toNat) ?_ ⟨0, by omega, rfl, fun h => by omega⟩
    rintro ⟨m, v⟩ ⟨i, hi, e1, e2⟩
    simp only at e1 e2
    subst e1
    rcases Nat.lt_or_ge i b.2.1.length with hlt | hge
    · have ha : b.2.1[i]? = some b.2.1[i] := List.getElem?_eq_getElem hlt
      by_cases hs : b.2.1[i].1 = id
      · have : b.2.1[i] = g := by
          have h1 := gaugeOf_mem h.ids (List.getElem_mem hlt)
          rw [hs, hg] at h1
          exact (Option.some.inj h1).symm
        refine .inr ⟨(g.2.1, ((i + 1 : Nat) : Int)), ⟨i + 1, hlt, rfl, fun _ => rfl⟩, by simp only [Int.toNat_natCast]; omega, fun kn => ?_⟩
        try dsimp only
        unfold m_w5_CompareLosses_L0
        rw [ifb_lt' hlt, iget_nat ha, ifb_t (by simp [ieq, hs]), iget_nat ha, ck_succ hlt (by omega), this]
        rfl
      · refine .inr ⟨(m, ((i + 1 : Nat) : Int)), ⟨i + 1, hlt, rfl, fun hj => ?_⟩, by simp only [Int.toNat_natCast]; omega, fun kn => ?_⟩
        · refine e2 ?_
          by_cases hj2 : ig = i
          · subst hj2
            rw [hgi] at hs
            exact absurd hid hs
          · omega
        · try dsimp only
          unfold m_w5_CompareLosses_L0
          rw [ifb_lt' hlt, iget_nat ha, ifb_f (by simp [ieq, hs]), ck_succ hlt (by omega)]
          rfl
    · have hin : i = b.2.1.length := by omega
      have hmade : m = g.2.1 := e2 (by omega)
      subst hmade
      refine .inl fun kn => ?_
      try dsimp only
      unfold m_w5_CompareLosses_L0
      rw [hin, ifb_ge]
      try dsimp only
      -- each day
      refine Eq.trans (loop_find W (fun _ => false) (fun _ => some false) (some true) (fun i a hi ha kn => ?_) (fun kn => ?_)) ?_
      · try dsimp only
        unfold m_w5_CompareLosses_L1
        have ab := hWb i a ha
        rw [ifb_lt' hi, ck_ok (by omega) (by omega), ck_ok (by omega) (by omega), ck_ok (by omega) (by omega)]
        rw [show f_compare_Loss ((b.1.1, b.1.2), b.2.1, b.2.2.1, b.2.2.2.1, b.2.2.2.2.1, b.2.2.2.2.2) id (g.2.1 + (i : Int)) (g.2.1 + (i : Int) + 1) = f_compare_Loss b id (g.2.1 + (i : Int)) (g.2.1 + (i : Int) + 1) from rfl, Loss_ok hI, bindF_some, LossP_of h hg (by omega) (by omega) (by omega) (by omega), lossDay h]
        dsimp only
        rw [ifb_f (by rfl), iget_nat ha, ifb_f (by simp [ilt]; omega), iget_nat ha, ifb_f (by simp [igt]; omega), ck_succ hi (by omega)]
        rfl
      · try dsimp only
        unfold m_w5_CompareLosses_L1
        rw [ifb_ge]
        try dsimp only
        -- each node
        have hn1 : 1 ≤ (nodesP b).length := by
          have := off_len h hgi'
          omega
        refine loop_inv (fun v : Int => ∃ i : Nat, 1 ≤ i ∧ i ≤ (nodesP b).length ∧ v = i) (fun v => (nodesP b).length - v.toNat) ?_ ⟨1, by omega, hn1, rfl⟩
        rintro v ⟨i, hi1, hi, rfl⟩
        rcases Nat.lt_or_ge i (nodesP b).length with hlt | hge
        · refine .inr ⟨((i + 1 : Nat) : Int), ⟨i + 1, by omega, hlt, rfl⟩, by simp only [Int.toNat_natCast]; omega, fun kn => ?_⟩
          obtain ⟨i0, g0, j0, d0, q1, q2, q3, q4⟩ := node_pos hlt
          obtain ⟨i1, g1, j1, d1, r1, r2, r3, r4⟩ := node_pos (b := b) (k := i - 1) (by omega)
          try dsimp only
          unfold m_w5_CompareLosses_L2
          rw [ifb_lt' hlt, iget_nat q4, ifb_eq]
          by_cases s0 : g0.1 = id
          · rw [if_neg (by simp [ine, s0]), ck_ok (by omega) (by omega), show (i : Int) - 1 = ((i - 1 : Nat) : Int) by omega, iget_nat r4, ifb_eq]
            by_cases s1 : g1.1 = id
            · have z0 := gauge_idx h q1 hgi' (by rw [s0, hid])
              have z1 := gauge_idx h r1 hgi' (by rw [s1, hid])
              subst z0 z1
              have y0 : g0 = g := by rw [hgi'] at q1; exact (Option.some.inj q1).symm
              have y1 : g1 = g := by rw [hgi'] at r1; exact (Option.some.inj r1).symm
              subst y0
              subst y1
              have hj : j0 = j1 + 1 := by omega
              subst hj
              have hjl := (List.getElem?_eq_some_iff.1 q2).1
              have w0 : d0 = dayAt b g1 (j1 + 1) := by rw [dayAt_get hjl] at q2; exact (Option.some.inj q2).symm
              have w1 : d1 = dayAt b g1 j1 := by rw [dayAt_get (by omega)] at r2; exact (Option.some.inj r2).symm
              subst w0 w1
              have hlt' := dayAt_lt (b := b) (g := g1) (show j1 < j1 + 1 by omega) hjl
              have fs := fit_step h hgi' hx hf hjl
              have b0 := h.day hgm (List.mem_of_getElem? q2)
              have b1 := h.day hgm (List.mem_of_getElem? r2)
              have wl := wearsK_len h hgm (off b i1) x j1 (by omega)
              have wl2 : dayAt b g1 (j1 + 1) ≤ dayAt b g1 ((daysP b g1).length - 1) := by
                rcases Nat.lt_or_ge (j1 + 1) ((daysP b g1).length - 1) with hh | hh
                · have := dayAt_lt (b := b) (g := g1) hh (by omega); omega
                · have : j1 + 1 = (daysP b g1).length - 1 := by omega
                  rw [this]; exact Int.le_refl _
              have wg := fun t ht => wears_get (b := b) g1 (off b i1) x j1 t ht ((daysP b g1).length - 1) (by omega)
              rw [hWW] at wg
              generalize hS : spreadP b g1 (dayAt b g1 (j1 + 1) - dayAt b g1 j1).toNat (dayAt b g1 j1) (gv x ((off b i1 : Int) + j1) - gv x ((off b i1 : Int) + j1 + 1)) = S at wg
              have hSl : S.length = (dayAt b g1 (j1 + 1) - dayAt b g1 j1).toNat := by rw [← hS, spread_len]
              have rb := rest_bd h hgm (dayAt b g1 (j1 + 1) - dayAt b g1 j1).toNat (dayAt b g1 j1) (gv x ((off b i1 : Int) + j1) - gv x ((off b i1 : Int) + j1 + 1)) fs.1
              have hsum : S.sum = gv x ((off b i1 : Int) + j1) - gv x ((off b i1 : Int) + j1 + 1) := by
                have e5 : dayAt b g1 j1 + ((dayAt b g1 (j1 + 1) - dayAt b g1 j1).toNat : Int) = dayAt b g1 (j1 + 1) := by omega
                have := rb.2.2.2 b1.2.1 (by rw [e5]; exact fs.2)
                rw [hS] at rb
                have := rb.2.2.1
                omega
              have hSb := spread_bd h hgm (dayAt b g1 (j1 + 1) - dayAt b g1 j1).toNat (dayAt b g1 j1) (gv x ((off b i1 : Int) + j1) - gv x ((off b i1 : Int) + j1 + 1)) fs.1
              rw [hS] at hSb
              have gx : ∀ k : Nat, k < x.length → iget x (k : Int) = fun (f : Int → Option Bool) => f (gv x (k : Int)) := fun k hk => by
                funext f
                exact iget_gv (by omega) (by omega) f
              have x0 := bx (gv x ((off b i1 : Int) + j1)) (by
                unfold gv
                rw [List.getElem?_eq_getElem (by omega)]
                exact List.getElem_mem _)
              have x1 := bx (gv x ((off b i1 : Int) + j1 + 1)) (by
                unfold gv
                rw [List.getElem?_eq_getElem (by omega)]
                exact List.getElem_mem _)
              have hSbd : ∀ t, t ≤ S.length → 0 ≤ (S.take t).sum ∧ (S.take t).sum ≤ t * 1048576 := by
                intro t
                induction t with
                | zero => intro _; simp
                | succ t ih =>
                  intro ht
                  have ih := ih (by omega)
                  have ha : S[t]? = some S[t] := List.getElem?_eq_getElem (by omega)
                  rw [sum_take S ha]
                  have := hSb t _ ha
                  have := dayLoss_bound h hgm (dayAt b g1 j1 + t)
                  push_cast
                  omega
              rw [if_neg (by simp [ine, s1]), ck_ok (by omega) (by omega), iget_nat r4]
              try dsimp only
              refine loop_inv (fun s : Int × Int => ∃ t : Nat, t ≤ S.length ∧ s = ((S.take t).sum, dayAt b g1 j1 + t)) (fun s => (dayAt b g1 (j1 + 1) - s.2).toNat) ?_ ⟨0, by omega, by simp⟩
              rintro s ⟨t, ht, rfl⟩
              have sb := hSbd t ht
              rcases Nat.lt_or_ge t S.length with htl | htg
              · refine .inr ⟨((S.take (t + 1)).sum, dayAt b g1 j1 + ((t + 1 : Nat) : Int)), ⟨t + 1, htl, rfl⟩, by simp only; omega, fun kn' => ?_⟩
                have ha : S[t]? = some S[t] := List.getElem?_eq_getElem htl
                have hw := wg t (by omega)
                rw [ha] at hw
                have ab := hSb t _ ha
                have db := dayLoss_bound h hgm (dayAt b g1 j1 + t)
                have e6 : dayAt b g1 j1 + (t : Int) - g1.2.1 = (((wearsK b g1 (off b i1) x j1).length + t : Nat) : Int) := by omega
                try dsimp only
                unfold m_w5_CompareLosses_L3
                rw [iget_nat q4, ifb_t (by simp [ilt]; omega), ck_ok (by omega) (by omega), ilen_eq, ifb_f (by simp [ige]; omega), ck_ok (by omega) (by omega), e6, iget_nat hw, ck_ok (by omega) (by omega), ck_ok (by omega) (by omega), sum_take S ha]
                rw [show dayAt b g1 j1 + (t : Int) + 1 = dayAt b g1 j1 + ((t + 1 : Nat) : Int) by omega]
              · have htt : t = S.length := by omega
                refine .inl fun kn' => ?_
                try dsimp only
                unfold m_w5_CompareLosses_L3
                rw [iget_nat q4, ifb_f (by simp [ilt]; omega)]
                try dsimp only
                have e7 : ((i - 1 : Nat) : Int) = (off b i1 : Int) + j1 := by omega
                have e8 : (i : Int) = (off b i1 : Int) + j1 + 1 := by omega
                rw [ck_ok (by omega) (by omega), e7, iget_gv (by omega) (by omega), htt, List.take_length, hsum, ck_ok (by omega) (by omega), e8, iget_gv (by omega) (by omega), ifb_f (by simp [ine]; omega), ck_ok (by omega) (by omega)]
                rw [← e8]
                rfl
            · rw [if_pos (by simp [ine, s1]), ck_ok (by omega) (by omega)]
              rfl
          · rw [if_pos (by simp [ine, s0]), ck_ok (by omega) (by omega)]
            rfl
        · have : i = (nodesP b).length := by omega
          subst this
          refine .inl fun kn => ?_
          try dsimp only
          unfold m_w5_CompareLosses_L2
          rw [ifb_ge]
      · rw [List.findIdx?_eq_none_iff.2 (by simp)]
  · rw [ifb_t (by simp [ine, hw])]
set_option maxHeartbeats 2000000 in
theorem losses_law {b : Book} (hn : ∀ g ∈ b.2.1, I64 g.2.2.2.2.1.1) (g x y z : Int) (l : List Int) : f_w5_CompareLosses b g x y z l = some true := by
  unfold f_w5_CompareLosses m_w5_CompareLosses
  rw [small_ok, bindF_some, sanity_ok]
  by_cases hs : smallP b = true
  · obtain ⟨hsz, hC, _⟩ := small_size hs
    have hI : In b := ⟨hsz, hn⟩
    have R := lossR_ok hI g l
    rw [ifb_f (by simp [hs]), ilen_eq l]
    by_cases h70 : 70 < l.length
    · rw [ifb_t (by simp [igt]; omega), bindF_some]
    rw [ifb_f (by simp [igt]; omega), Loss_ok hI, bindF_some, Loss_ok hI, bindF_some, Loss_ok hI, bindF_some]
    simp only [bindF_some]
    by_cases h1 : (LossP b g x y).2 = 0
    · rw [ifb_t (by simp [ieq, h1])]
      by_cases h2 : (LossP b g y z).2 = 0
      · rw [ifb_t (by simp [ieq, h2])]
        obtain ⟨h, u, hu, a1, a2, a3, a4, e1⟩ := LossP_zero h1
        obtain ⟨_, u', hu', c1, c2, c3, c4, e2⟩ := LossP_zero h2
        have : u' = u := by rw [hu] at hu'; exact (Option.some.inj hu').symm
        subst this
        have e3 := LossP_of h hu (f := x) (t := z) a1 (by omega) c3 a4
        have ad := loss_add h u' a2 c2
        have hum := (gaugeOf_some hu).1
        have b1 := lossP_bound h hum (f := x) (t := y) a1
        have b2 := lossP_bound h hum (f := y) (t := z) c1
        rw [e1, e2, e3]
        dsimp only
        rw [ifb_f (by rfl), ck_ok (by omega) (by omega), ifb_f (by simp [ine]; omega), ifb_f (by simp [ilt]; omega)]
        exact R
      · rw [ifb_f (by simp [ieq, h2])]
        exact R
    · rw [ifb_f (by simp [ieq, h1])]
      exact R
  · rw [ifb_t (by simp [hs]), bindF_some]
end
end Go.Proofs.ZzM
end
